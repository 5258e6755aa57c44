/- Part 2 of the proof: the walk over values, the plain model, contracts of the functions of the program. -/
import Derived.Test.YtpnekhiejecipaaGreatDoorT01
import Derived.IntWalk
import Derived.Laws.AppendOwn
set_option linter.all false
namespace Go.Proofs.YtpnekhiejecipaaGreatDoor.VL
open Go Go.RowKit
section
variable {P:Program} {G:Glob}
theorem CallS.local_ {f:FuncId} {vs:List V} {h h':Nat→Hs} {post:V→List (Nat×Hs)→Prop} {tc wr:List Nat} (c:CallS P G f vs h post tc wr) (hh:∀x,x∈tc→h' x=h x):CallS P G f vs h' post tc wr :=
 ⟨c.en,c.ne,c.wri,c.sub,λh2 h3=>c.run h2 λx hx=>(h3 x hx).trans (hh x hx)⟩
def qrw (o:IOper) (st:St):Option (V×List (Nat×Hs)×List Nat) :=
 match gd o.g st.t with
 | some true=>q2s o.op o.d st.t st.h
 | some false=>some (.tup [],[],[])
 | none=>none
def callee (t:Nat→V):IOp→Option (FuncId×List V)
 | .call f xs=>some (f,xs.map (ev t))
 | .cal x xs=>match ev t x with
   | .fn f caps=>some (f,xs.map (ev t)++caps)
   | _=>none
 | _=>none
def q3r (o:IOper) (t:Nat→V):Bool:=o.isCall&&(match gd o.g t with|some true=>true|_=>false)
theorem q2o {o:IOper} {st:St} {K:St→List Nat→List Nat→Prop} (hc:q3r o st.t=false) :
 q3d P G o st K↔qc0 (qrw o st) λr=>K (st.app o.d r.1 r.2.1) r.2.2 (r.2.1.map Prod.fst):=by
 unfold q3d qrw
 cases hg:gd o.g st.t with
 | none=>exact Iff.rfl
 | some b =>
   cases b with
   | false=>exact Iff.rfl
   | true =>
     simp only[q65]
     have:o.isCall=false:=by simpa[q3r,hg] using hc
     unfold doV
     cases ho:o.op<;>first|exact Iff.rfl|(simp[IOper.isCall,ho] at this)
theorem q4g {o:IOper} {st:St} {K:St→List Nat→List Nat→Prop} (hc:q3r o st.t=true) :
 q3d P G o st K↔∃f vs,callee st.t o.op=some (f,vs)∧CallV P G f vs o.d st K:=by
 simp only[q3r,Bool.and_eq_true] at hc
 obtain⟨h1,h2⟩:=hc
 cases hg:gd o.g st.t with
 | none=>simp[hg] at h2
 | some b =>
   cases b with
   | false=>simp[hg] at h2
   | true =>
     unfold q3d doV
     rw[hg]
     simp only[q65]
     cases ho:o.op<;>simp only[IOper.isCall,ho,Bool.false_eq_true] at h1
     case call f xs=>exact⟨λh=>⟨f,_,rfl,h⟩,λ⟨_,_,h1,h2⟩=>by cases h1;exact h2⟩
     case cal x xs =>
      simp only[callee]
      cases ev st.t x<;>simp only[reduceCtorEq,false_and,exists_false]
      rename_i f caps
      exact⟨λh=>⟨f,_,rfl,h⟩,λ⟨_,_,h1,h2⟩=>by cases h1;exact h2⟩
def Agree (l:List Nat) (t t':Nat→V):Prop:=∀x,x∈l→t' x=t x
theorem q06 {t t':Nat→V} {x:Opd} (h:Agree (qe9 x) t t'):ev t' x=ev t x:=by
 cases x with
 | t n=>exact h n (by simp[qe9])
 | c v=>rfl
theorem q8p {t t':Nat→V} {xs:List Opd} (h:Agree (xs.flatMap qe9) t t'):xs.map (ev t')=xs.map (ev t) :=
 List.map_congr_left λx hx=>q06 λn hn=>h n (List.mem_flatMap.2 ⟨x,hx,hn⟩)
theorem Agree.left {a b:List Nat} {t t':Nat→V} (h:Agree (a++b) t t'):Agree a t t':=λx hx=>h x (List.mem_append_left _ hx)
theorem Agree.right {a b:List Nat} {t t':Nat→V} (h:Agree (a++b) t t'):Agree b t t':=λx hx=>h x (List.mem_append_right _ hx)
theorem q6o {t t':Nat→V} {x:Option Opd} (h:Agree (optU x) t t'):x.map (ev t')=x.map (ev t):=by
 cases x with
 | none=>rfl
 | some x=>simp only[Option.map_some];rw[q06 h]
theorem q8q {α:Type} {l:List α} {p q:α→Bool} (h:∀x,x∈l→p x=q x):l.all p=l.all q:=by
 induction l with
 | nil=>rfl
 | cons a l ih=>simp only[List.all_cons];rw[h a (by simp),ih λx hx=>h x (by simp[hx])]
theorem qeo {op:IOp} {t t':Nat→V} (h:Agree op.uses t t'):q0k op t'=q0k op t:=by
 cases op with
 | mv x=>simp only[q0k];rw[q06 h]
 | pick c a b=>simp only[q0k];rw[q06 h.left.left,q06 h.left.right,q06 h.right]
 | build z ps =>
   simp only[q0k]
   have:(ps.map λp=>(p.1,p.2.1,ev t' p.2.2))=ps.map λp=>(p.1,p.2.1,ev t p.2.2) :=
    List.map_congr_left λp hp=>by rw[q06 (x:=p.2.2) λn hn=>h n (List.mem_flatMap.2 ⟨p,hp,hn⟩)]
   have h2:(ps.all λp=>(q05 (ev t' p.2.2)).all V.one)=ps.all λp=>(q05 (ev t p.2.2)).all V.one :=
    q8q λp hp=>by rw[q06 (x:=p.2.2) λn hn=>h n (List.mem_flatMap.2 ⟨p,hp,hn⟩)]
   rw[this,h2]
 | nilc x=>simp only[q0k];rw[q06 h]
 | bin op x y=>simp only[q0k];rw[q06 h.left,q06 h.right]
 | beq ng x y=>simp only[q0k];rw[q06 h.left,q06 h.right]
 | eqs ng ks x y=>simp only[q0k];rw[q06 h.left,q06 h.right]
 | isn ng x=>simp only[q0k];rw[q06 h]
 | un op x=>cases op<;>simp only[q0k]<;>rw[q06 h]
 | cvi k x=>simp only[q0k];rw[q06 h]
 | cvs x=>simp only[q0k];rw[q06 h]
 | mkf f xs =>
   simp only[q0k]
   have h2:(xs.all λx=>(ev t' x).one&&!(ev t' x).isFn)=xs.all λx=>(ev t x).one&&!(ev t x).isFn :=
    q8q λx hx=>by rw[q06 (x:=x) λn hn=>h n (List.mem_flatMap.2 ⟨x,hx,hn⟩)]
   rw[q8p h,h2]
 | sls x l u=>simp only[q0k];rw[q06 h.left.left,q6o h.left.right,q6o h.right]
 | fad off x=>simp only[q0k];rw[q06 h]
 | idx x i=>simp only[q0k];rw[q06 h.left,q06 h.right]
 | ext x k=>simp only[q0k];rw[q06 h]
 | len x=>simp only[q0k];rw[q06 h]
 | lens x=>simp only[q0k];rw[q06 h]
 | mn x y=>simp only[q0k];rw[q06 h.left,q06 h.right]
 | mx x y=>simp only[q0k];rw[q06 h.left,q06 h.right]
 | _=>rfl
theorem q67 {h h':Nat→Hs} {sz:Nat} {v:V} {rows:List (List V)} {tc:List Nat} (he:q4a h sz v=some (rows,tc)) (hh:∀c,c∈tc→h' c=h c):q4a h' sz v=some (rows,tc):=by
 cases v<;>simp only[q4a,reduceCtorEq] at he ⊢
 case nils=>exact he
 case sl=>exact he
 case own c k =>
  cases hc:h c<;>rw[hc] at he<;>simp only[reduceCtorEq] at he
  split at he
  ·rename_i h1
   obtain⟨h2,h3⟩:=q04 he
   simp only[zS,Prod.mk.injEq] at h3
   obtain⟨rfl,rfl⟩:=h3
   rw[hh c (by simp),hc]
   simp[h1,guardP,h2]
  ·cases he
 case view c o k =>
  cases hc:h c<;>rw[hc] at he<;>simp only[reduceCtorEq] at he
  split at he
  ·rename_i h1
   obtain⟨h2,h3⟩:=q04 he
   simp only[zS,Prod.mk.injEq] at h3
   obtain⟨rfl,rfl⟩:=h3
   rw[hh c (by simp),hc]
   simp[h1,guardP,h2]
  ·cases he
theorem qe4 {h h':Nat→Hs} {sz:Nat} {agg:Bool} {p v:V} {tc:List Nat} (he:q3t h sz agg p=some (v,tc)) (hh:∀c,c∈tc→h' c=h c):q3t h' sz agg p=some (v,tc):=by
 cases p<;>simp only[q3t,reduceCtorEq] at he ⊢
 case pv c o =>
  cases hc:h c<;>rw[hc] at he<;>simp only[reduceCtorEq] at he
  have:tc=[c]:=by cases agg<;>simp at he<;>(obtain⟨_,_,_,rfl⟩:=he;rfl)
  subst this
  rw[hh c (by simp),hc]
  exact he
 case pa c i o =>
  cases hc:h c<;>rw[hc] at he<;>simp only[reduceCtorEq] at he
  have:tc=[c]:=by cases agg<;>simp at he<;>(obtain⟨_,_,_,rfl⟩:=he;rfl)
  subst this
  rw[hh c (by simp),hc]
  exact he
 case iptr=>exact he
theorem qd3 {h h':Nat→Hs} {sz:Nat} {p x:V} {up:List (Nat×Hs)} {tc:List Nat} (he:q4c h sz p x=some (up,tc)) (hh:∀c,c∈tc→h' c=h c) :
 q4c h' sz p x=some (up,tc)∧∀y,y∈up→y.1∈tc:=by
 unfold q4c at he ⊢
 split at he
 case isFalse=>cases he
 rename_i h1
 rw[if_pos h1]
 cases p<;>simp only[reduceCtorEq] at he ⊢
 case pv c o =>
  cases hc:h c<;>rw[hc] at he<;>simp only[reduceCtorEq] at he
  split at he
  case isFalse=>cases he
  rename_i h2
  simp only[zS,Prod.mk.injEq] at he
  obtain⟨rfl,rfl⟩:=he
  rw[hh c (by simp),hc]
  simp only
  rw[if_pos h2]
  exact⟨rfl,by simp⟩
 case pa c i o =>
  cases hc:h c<;>rw[hc] at he<;>simp only[reduceCtorEq] at he
  split at he
  case isFalse=>cases he
  rename_i h2
  simp only[zS,Prod.mk.injEq] at he
  obtain⟨rfl,rfl⟩:=he
  rw[hh c (by simp),hc]
  simp only
  rw[if_pos h2]
  exact⟨rfl,by simp⟩
theorem qa3 {h h':Nat→Hs} {ty sz d:Nat} {x y v:V} {up:List (Nat×Hs)} {tc:List Nat} (he:qit h ty sz d x y=some (v,up,tc)) (hh:∀c,c∈tc→h' c=h c) :
 qit h' ty sz d x y=some (v,up,tc)∧∀y,y∈up→y.1∈tc:=by
 unfold qit at he ⊢
 cases hr:q4a h sz y with
 | none=>rw[hr] at he;cases he
 | some r =>
   obtain⟨ys,tcy⟩:=r
   rw[hr] at he
   simp only at he
   obtain⟨hf,he⟩:=q0t he
   cases x<;>simp only[reduceCtorEq] at he
   case nils =>
    obtain⟨h2,h3⟩:=q04 he
    simp only[zS,Prod.mk.injEq] at h3
    obtain⟨rfl,rfl,rfl⟩:=h3
    rw[q67 hr λc hc=>hh c (by simp[hc])]
    simp only
    rw[hh (nm d) (by simp),hf]
    simp[q24,guardP,h2]
   case own c k _ =>
    cases hc:h c<;>rw[hc] at he<;>simp only[reduceCtorEq] at he
    split at he
    case isFalse=>cases he
    rename_i h1
    obtain⟨h2,h3⟩:=q04 he
    simp only[zS,Prod.mk.injEq] at h3
    obtain⟨rfl,rfl,rfl⟩:=h3
    rw[q67 hr λc hc=>hh c (by simp[hc])]
    simp only
    rw[hh (nm d) (by simp),hf,hh c (by simp),hc]
    simp[q24,guardP,h2,h1]
theorem qhe {h h':Nat→Hs} {ty d:Nat} {x y v:V} {up:List (Nat×Hs)} {tc:List Nat} (he:qqr h ty d x y=some (v,up,tc)) (hh:∀c,c∈tc→h' c=h c) :
 qqr h' ty d x y=some (v,up,tc)∧∀y,y∈up→y.1∈tc:=by
 cases y<;>simp only[qqr,reduceCtorEq] at he ⊢
 exact qa3 he hh
theorem qh8 {h h':Nat→Hs} {sz:Nat} {x y v:V} {up:List (Nat×Hs)} {tc:List Nat} (he:qub h sz x y=some (v,up,tc)) (hh:∀c,c∈tc→h' c=h c) :
 qub h' sz x y=some (v,up,tc)∧∀y,y∈up→y.1∈tc:=by
 cases x<;>simp only[qub,reduceCtorEq] at he ⊢
 rename_i c o k
 cases y<;>simp only[reduceCtorEq] at he ⊢
 rename_i c' o' m
 cases hc:h c<;>cases hc':h c'<;>rw[hc,hc'] at he<;>simp only[reduceCtorEq] at he
 rename_i ty row ty' row'
 split at he
 case isFalse=>cases he
 rename_i h1
 obtain⟨h2,h3⟩:=q04 he
 simp only[zS,Prod.mk.injEq] at h3
 obtain⟨rfl,rfl,rfl⟩:=h3
 rw[hh c (by simp),hc,hh c' (by simp),hc']
 exact⟨by simp only[if_pos h1];exact he,by simp⟩
theorem qig {h h':Nat→Hs} {v:V} (hh:∀c,c∈z0N v→h' c=h c):z0V h' v=z0V h v:=by
 unfold z0V
 split
 ·rename_i c
  rw[hh c (by simp[z0N])]
 ·rfl
theorem qha {op:IOp} {d:Option Nat} {t t':Nat→V} {h h':Nat→Hs} {v:V} {up:List (Nat×Hs)} {tc:List Nat} (he:q2s op d t h=some (v,up,tc)) (ht:Agree op.uses t t')
 (hh:∀c,c∈tc→h' c=h c):q2s op d t' h'=some (v,up,tc)∧∀y,y∈up→y.1∈tc:=by
 have pure_case:((q0k op t).map λv=>(v,([]:List (Nat×Hs)),([]:List Nat)))=some (v,up,tc)→((q0k op t').map λv=>(v,([]:List (Nat×Hs)),([]:List Nat)))=some (v,up,tc)∧∀y,y∈up→y.1∈tc:=λhp=>by
  rw[qeo ht]
  obtain⟨_,rfl,rfl⟩:=qf3 (d:=none) (h:=λ_=>.fresh) hp
  exact⟨hp,by simp⟩
 cases op
 case alloc ty z =>
  simp only[q2s] at he ⊢
  cases d with
  | none=>cases he
  | some d =>
    simp only at he ⊢
    obtain⟨hf,he⟩:=q0t he
    simp only[zS,Prod.mk.injEq] at he
    obtain⟨rfl,rfl,rfl⟩:=he
    rw[hh (nm d) (by simp),hf]
    exact⟨rfl,by simp⟩
 case box ty x =>
  simp only[q2s] at he ⊢
  rw[q06 ht]
  cases d with
  | none=>cases he
  | some d =>
    simp only at he ⊢
    obtain⟨hf,he⟩:=q0t he
    split at he
    case isFalse=>cases he
    rename_i h1
    simp only[zS,Prod.mk.injEq] at he
    obtain⟨rfl,rfl,rfl⟩:=he
    rw[hh (nm d) (by simp),hf,if_pos h1]
    exact⟨rfl,by simp⟩
 case bsl ty sz xs =>
  simp only[q2s] at he ⊢
  cases d with
  | none=>cases he
  | some d =>
    simp only at he ⊢
    obtain⟨hf,he⟩:=q0t he
    have e1:(xs.all λx=>decide ((q05 (ev t' x)).length=sz)&&(q05 (ev t' x)).all V.closed)=xs.all λx=>decide ((q05 (ev t x)).length=sz)&&(q05 (ev t x)).all V.closed:=by
     rw[Bool.eq_iff_iff]
     simp only[List.all_eq_true]
     constructor<;>intro hx x hm
     ·have:=hx x hm;rwa [q06 (t:=t) λn hn=>ht n (List.mem_flatMap.2 ⟨x,hm,hn⟩)] at this
     ·rw[q06 (t:=t) λn hn=>ht n (List.mem_flatMap.2 ⟨x,hm,hn⟩)];exact hx x hm
    have e2:(xs.map λx=>q05 (ev t' x))=xs.map λx=>q05 (ev t x):=List.map_congr_left λx hm=>by rw[q06 (t:=t) λn hn=>ht n (List.mem_flatMap.2 ⟨x,hm,hn⟩)]
    rw[e1,e2]
    split at he
    case isTrue h1 =>
     simp only[zS,Prod.mk.injEq] at he
     obtain⟨rfl,rfl,rfl⟩:=he
     rw[hh (nm d) (by simp),hf,if_pos h1]
     exact⟨rfl,by simp⟩
    case isFalse h0 =>
     split at he
     case isFalse=>cases he
     rename_i h1
     simp only[zS,Prod.mk.injEq] at he
     obtain⟨rfl,rfl,rfl⟩:=he
     have e3:∀x,x∈xs→(q05 (ev t' x)).map (z0V h')=(q05 (ev t x)).map (z0V h):=λx hm=>by
      rw[q06 (t:=t) λn hn=>ht n (List.mem_flatMap.2 ⟨x,hm,hn⟩)]
      refine List.map_congr_left λv hv=>qig λc hc=>hh c ?_
      exact List.mem_cons_of_mem _ (List.mem_flatMap.2 ⟨x,hm,List.mem_flatMap.2 ⟨v,hv,hc⟩⟩)
     have e4:(xs.all λx=>decide ((q05 (ev t' x)).length=sz)&&((q05 (ev t' x)).map (z0V h')).all V.closed)=true:=by
      rw[List.all_eq_true] at h1 ⊢
      intro x hm
      have:=h1 x hm
      rw[←e3 x hm] at this
      rwa [q06 (t:=t) λn hn=>ht n (List.mem_flatMap.2 ⟨x,hm,hn⟩)] at this ⊢
     have e5:(xs.map λx=>(q05 (ev t' x)).map (z0V h'))=xs.map λx=>(q05 (ev t x)).map (z0V h):=List.map_congr_left λx hm=>e3 x hm
     have e6:(xs.flatMap λx=>(q05 (ev t' x)).flatMap z0N)=xs.flatMap λx=>(q05 (ev t x)).flatMap z0N:=by
      have:(xs.map λx=>(q05 (ev t' x)).flatMap z0N)=xs.map λx=>(q05 (ev t x)).flatMap z0N:=List.map_congr_left λx hm=>by rw[q06 (t:=t) λn hn=>ht n (List.mem_flatMap.2 ⟨x,hm,hn⟩)]
      rw[List.flatMap_def,List.flatMap_def,this]
     rw[hh (nm d) (by simp),hf,if_neg h0,if_pos e4,e5,e6]
     exact⟨rfl,by simp⟩
 case mks ty sz cap =>
  simp only[q2s] at he ⊢
  rw[q06 ht]
  cases d with
  | none=>cases he
  | some d =>
    cases hv:ev t cap<;>rw[hv] at he<;>simp only[reduceCtorEq] at he ⊢
    obtain⟨hf,he⟩:=q0t he
    obtain⟨h2,h3⟩:=q04 he
    simp only[zS,Prod.mk.injEq] at h3
    obtain⟨rfl,rfl,rfl⟩:=h3
    rw[hh (nm d) (by simp),hf]
    simp[q24,guardP,h2]
 case mkn ty sz cap =>
  simp only[q2s] at he ⊢
  rw[q06 ht]
  cases d with
  | none=>cases he
  | some d =>
    cases hv:ev t cap<;>rw[hv] at he<;>simp only[reduceCtorEq] at he ⊢
    obtain⟨hf,he⟩:=q0t he
    obtain⟨h2,h3⟩:=q04 he
    simp only[zS,Prod.mk.injEq] at h3
    obtain⟨rfl,rfl,rfl⟩:=h3
    rw[hh (nm d) (by simp),hf]
    simp[q24,guardP,h2]
 case mkl ty sz zero len =>
  simp only[q2s] at he ⊢
  rw[q06 ht]
  cases d with
  | none=>cases he
  | some d =>
    cases hv:ev t len<;>rw[hv] at he<;>simp only[reduceCtorEq] at he ⊢
    obtain⟨hf,he⟩:=q0t he
    obtain⟨h2,h3⟩:=q04 he
    simp only[zS,Prod.mk.injEq] at h3
    obtain⟨rfl,rfl,rfl⟩:=h3
    rw[hh (nm d) (by simp),hf]
    simp[q24,guardP,h2]
 case bsn ty sz xs =>
  simp only[q2s] at he ⊢
  cases d with
  | none=>cases he
  | some d =>
    simp only at he ⊢
    obtain⟨hf,he⟩:=q0t he
    have e1:(xs.all λx=>decide ((q05 (ev t' x)).length=sz)&&(q05 (ev t' x)).all V.one)=xs.all λx=>decide ((q05 (ev t x)).length=sz)&&(q05 (ev t x)).all V.one :=
     q8q λx hm=>by rw[q06 (t:=t) λn hn=>ht n (List.mem_flatMap.2 ⟨x,hm,hn⟩)]
    have e2:(xs.flatMap λx=>q05 (ev t' x))=xs.flatMap λx=>q05 (ev t x):=by
     have:(xs.map λx=>q05 (ev t' x))=xs.map λx=>q05 (ev t x):=List.map_congr_left λx hm=>by rw[q06 (t:=t) λn hn=>ht n (List.mem_flatMap.2 ⟨x,hm,hn⟩)]
     rw[List.flatMap_def,List.flatMap_def,this]
    rw[e1,e2]
    split at he
    case isFalse=>cases he
    rename_i h1
    simp only[zS,Prod.mk.injEq] at he
    obtain⟨rfl,rfl,rfl⟩:=he
    rw[hh (nm d) (by simp),hf,if_pos h1]
    exact⟨rfl,by simp⟩
 case apn sz x y =>
  simp only[q2s] at he ⊢
  rw[q06 ht.left,q06 ht.right]
  exact qh8 he hh
 case ld sz agg x =>
  simp only[q2s] at he ⊢
  rw[q06 ht]
  obtain⟨r,hr,he⟩:=Option.map_eq_some_iff.1 he
  simp only[Prod.mk.injEq] at he
  obtain⟨rfl,rfl,rfl⟩:=he
  rw[qe4 (h':=h') (v:=r.1) (tc:=r.2) hr hh]
  exact⟨rfl,by simp⟩
 case sto sz x y =>
  simp only[q2s] at he ⊢
  rw[q06 ht.left,q06 ht.right]
  obtain⟨r,hr,he⟩:=Option.map_eq_some_iff.1 he
  simp only[Prod.mk.injEq] at he
  obtain⟨rfl,rfl,rfl⟩:=he
  obtain⟨h1,h2⟩:=qd3 (h':=h') (up:=r.1) (tc:=r.2) hr hh
  rw[h1]
  exact⟨rfl,h2⟩
 case app ty sz x y =>
  simp only[q2s] at he ⊢
  rw[q06 ht.left,q06 ht.right]
  cases d with
  | none=>cases he
  | some d=>exact qa3 he hh
 case aps ty x y =>
  simp only[q2s] at he ⊢
  rw[q06 ht.left,q06 ht.right]
  cases d with
  | none=>cases he
  | some d=>exact qhe he hh
 case iad sz x i =>
  simp only[q2s] at he ⊢
  rw[q06 ht.left,q06 ht.right]
  revert he
  generalize ev t x=p
  generalize ev t i=q
  intro he
  cases p<;>cases q<;>simp only[reduceCtorEq] at he ⊢
  case sl.int =>
   split at he
   case isFalse=>cases he
   obtain⟨h2,h3⟩:=q04 he
   simp only[zS,Prod.mk.injEq] at h3
   obtain⟨rfl,rfl,rfl⟩:=h3
   rename_i h1
   exact⟨by simp[h1,guardP,h2],by simp⟩
  case own.int c k _ m =>
   cases hc:h c<;>rw[hc] at he<;>simp only[reduceCtorEq] at he
   split at he
   case isFalse=>cases he
   rename_i h1
   obtain⟨h2,h3⟩:=q04 he
   simp only[zS,Prod.mk.injEq] at h3
   obtain⟨rfl,rfl,rfl⟩:=h3
   rw[hh c (by simp),hc]
   exact⟨by simp[h1,guardP,h2],by simp⟩
  case view.int c o k _ m =>
   cases hc:h c<;>rw[hc] at he<;>simp only[reduceCtorEq] at he
   case var ty row =>
    obtain⟨h2,h3⟩:=q04 he
    simp only[zS,Prod.mk.injEq] at h3
    obtain⟨rfl,rfl,rfl⟩:=h3
    rw[hh c (by simp),hc]
    exact⟨by simp[guardP,h2],by simp⟩
   split at he
   case isFalse=>cases he
   rename_i h1
   obtain⟨h2,h3⟩:=q04 he
   simp only[zS,Prod.mk.injEq] at h3
   obtain⟨rfl,rfl,rfl⟩:=h3
   rw[hh c (by simp),hc]
   exact⟨by simp[h1,guardP,h2],by simp⟩
 case slv sz x l u =>
  simp only[q2s] at he ⊢
  rw[q06 ht.left.left,q6o ht.left.right,q6o ht.right]
  revert he
  generalize ev t x=p
  intro he
  cases p<;>simp only[reduceCtorEq] at he ⊢
  case nils =>
   split at he
   ·obtain⟨h2,h3⟩:=q04 he
    simp only[zS,Prod.mk.injEq] at h3
    obtain⟨rfl,rfl,rfl⟩:=h3
    exact⟨he,by simp⟩
   ·cases he
  case sl =>
   split at he
   ·split at he
    case isFalse=>cases he
    rename_i h1
    obtain⟨h2,h3⟩:=q04 he
    simp only[zS,Prod.mk.injEq] at h3
    obtain⟨rfl,rfl,rfl⟩:=h3
    rw[if_pos h1]
    exact⟨he,by simp⟩
   ·cases he
  case own c k =>
   cases hc:h c<;>rw[hc] at he<;>simp only[reduceCtorEq] at he
   split at he
   ·rename_i l0 u0 e1 e2
    split at he
    case isFalse=>cases he
    rename_i h1
    obtain⟨h2,h3⟩:=q04 he
    simp only[zS,Prod.mk.injEq] at h3
    obtain⟨rfl,rfl,rfl⟩:=h3
    rw[hh c (by simp),hc]
    simp only
    rw[if_pos h1]
    exact⟨he,by simp⟩
   ·cases he
 case s2b x =>
  simp only[q2s] at he ⊢
  rw[q06 ht]
  cases hv:ev t x<;>rw[hv] at he<;>simp only[reduceCtorEq] at he ⊢
  obtain⟨h2,h3⟩:=q04 he
  simp only[zS,Prod.mk.injEq] at h3
  obtain⟨rfl,rfl,rfl⟩:=h3
  exact⟨he,by simp⟩
 case b2s x =>
  simp only[q2s] at he ⊢
  rw[q06 ht]
  cases hr:q4a h 1 (ev t x) with
  | none=>rw[hr] at he;cases he
  | some r =>
    obtain⟨rows,tcy⟩:=r
    rw[hr] at he
    simp only at he
    obtain⟨s,hs,he⟩:=Option.map_eq_some_iff.1 he
    simp only[Prod.mk.injEq] at he
    obtain⟨rfl,rfl,rfl⟩:=he
    rw[q67 hr hh]
    simp only
    rw[hs]
    exact⟨rfl,by simp⟩
 all_goals exact pure_case he
theorem qfr {o:IOper} {t t':Nat→V} (h:Agree o.uses t t'):gd o.g t'=gd o.g t:=by
 unfold gd
 cases hg:o.g with
 | none=>rfl
 | some g =>
   obtain⟨k,b⟩:=g
   simp only
   rw[h k (by simp[IOper.uses,hg])]
theorem q2l {o:IOper} {st st':St} {v:V} {up:List (Nat×Hs)} {tc:List Nat} (he:qrw o st=some (v,up,tc)) (ht:Agree o.uses st.t st'.t)
 (hh:∀c,c∈tc→st'.h c=st.h c):qrw o st'=some (v,up,tc)∧∀y,y∈up→y.1∈tc:=by
 unfold qrw at he ⊢
 rw[qfr ht]
 cases hg:gd o.g st.t with
 | none=>rw[hg] at he;cases he
 | some b =>
   cases b with
   | false =>
     rw[hg] at he
     simp only[zS,Prod.mk.injEq] at he
     obtain⟨rfl,rfl,rfl⟩:=he
     exact⟨rfl,by simp⟩
   | true=>rw[hg] at he;exact qha he ht.left hh
theorem q7r {op:IOp} {t t':Nat→V} (h:Agree op.uses t t'):callee t' op=callee t op:=by
 cases op<;>simp only[callee]
 case call f xs=>rw[q8p h]
 case cal x xs=>rw[q06 h.left,q8p h.right]
theorem q47 (up:List (Nat×Hs)) (h:Nat→Hs) (x:Nat):(∀y,y∈up→y.1≠x)→upH h up x=h x:=by
 induction up with
 | nil=>intro _;rfl
 | cons a up ih =>
   intro hx
   obtain⟨c,s⟩:=a
   simp only[upH]
   rw[if_neg (Ne.symm (hx (c,s) (by simp)))]
   exact ih λy hy=>hx y (by simp[hy])
theorem qhy (up:List (Nat×Hs)) (h h':Nat→Hs) (x:Nat) (hx:h x=h' x):upH h up x=upH h' up x:=by
 induction up with
 | nil=>exact hx
 | cons a up ih=>obtain⟨c,s⟩:=a;simp only[upH];rw[ih]
theorem qv9 (up:List (Nat×Hs)) (h h':Nat→Hs) (x:Nat) (hx:∃y,y∈up∧y.1=x):upH h up x=upH h' up x:=by
 induction up with
 | nil=>obtain⟨y,hy,_⟩:=hx;cases hy
 | cons a up ih =>
   obtain⟨c,s⟩:=a
   simp only[upH]
   by_cases he:x=c
   ·rw[if_pos he,if_pos he]
   ·rw[if_neg he,if_neg he]
    obtain⟨y,hy,hyx⟩:=hx
    rcases List.mem_cons.1 hy with hy|hy
    ·subst hy;exact absurd hyx.symm he
    ·exact ih ⟨y,hy,hyx⟩
theorem qog (u1 u2:List (Nat×Hs)) (h:Nat→Hs) (hd:∀x y,x∈u1→y∈u2→x.1≠y.1):upH (upH h u1) u2=upH (upH h u2) u1:=by
 funext x
 by_cases h2:∃y,y∈u2∧y.1=x
 ·have h1:∀y,y∈u1→y.1≠x:=λy hy he=>by
   obtain⟨z,hz,hzx⟩:=h2
   exact hd y z hy hz (he.trans hzx.symm)
  rw[q47 u1 _ x h1]
  exact qv9 u2 _ _ x h2
 ·have h2':∀y,y∈u2→y.1≠x:=λy hy he=>h2 ⟨y,hy,he⟩
  rw[q47 u2 _ x h2']
  exact qhy u1 _ _ x (q47 u2 h x h2').symm
theorem qp8 {d1 d2:Option Nat} (t:Nat→V) (v1 v2:V) (h:∀x,d1=some x→d2≠some x):upT (upT t d1 v1) d2 v2=upT (upT t d2 v2) d1 v1:=by
 cases d1 with
 | none=>rfl
 | some a =>
   cases d2 with
   | none=>rfl
   | some b =>
     have hne:a≠b:=λe=>h a rfl (by rw[e])
     funext x
     simp only[upT]
     by_cases h1:x=a<;>by_cases h2:x=b<;>simp_all
theorem qb2 (st:St) {d1 d2:Option Nat} (v1 v2:V) (u1 u2:List (Nat×Hs)) (h:∀x,d1=some x→d2≠some x) (hd:∀x y,x∈u1→y∈u2→x.1≠y.1) :
 (st.app d1 v1 u1).app d2 v2 u2=(st.app d2 v2 u2).app d1 v1 u1:=by
 simp only[St.app]
 rw[qp8 st.t v1 v2 h,qog u1 u2 st.h hd]
theorem q2e {a b:List Nat} (h:qpw a b=true):∀x,x∈a→x∉b:=by
 simp only[qpw,List.all_eq_true,Bool.not_eq_true',List.contains_eq_mem,decide_eq_false_iff_not] at h
 exact h
theorem q4f {d:Option Nat} {t:Nat→V} {v:V} {l:List Nat} (h:∀x,d=some x→x∉l):Agree l t (upT t d v):=by
 intro x hx
 cases d with
 | none=>rfl
 | some d=>simp only[upT];rw[if_neg (λe:x=d=>h d rfl (e▸hx))]
theorem Agree.symm {l:List Nat} {t t':Nat→V} (h:Agree l t t'):Agree l t' t:=λx hx=>(h x hx).symm
theorem q3v {o:IOper} {t t':Nat→V} (h:Agree o.uses t t'):q3r o t'=q3r o t:=by
 unfold q3r;rw[qfr h]
theorem qgx {x y:IOper} (h:qap x y=true):(∀d,x.d=some d→d∉y.uses)∧(∀d,x.d=some d→y.d≠some d)∧(∀d,y.d=some d→d∉x.uses)∧¬(x.isCall=true∧y.isCall=true):=by
 simp only[qap,Bool.and_eq_true,Bool.not_eq_true',Bool.and_eq_false_iff] at h
 obtain⟨⟨h1,h2⟩,h3⟩:=h
 refine⟨λd hd=>?_,λd hd=>?_,λd hd=>?_,λhc=>?_⟩
 ·rw[hd] at h1;simp at h1;exact h1.1
 ·rw[hd] at h1;simp at h1;exact h1.2
 ·rw[hd] at h2;simpa using h2
 ·rcases h3 with h3|h3
  ·rw[hc.1] at h3;cases h3
  ·rw[hc.2] at h3;cases h3
theorem q34 {α:Type} {o:Option α} {K:α→Prop} (h:qc0 o K):∃x,o=some x∧K x:=by
 cases o with
 | none=>exact h.elim
 | some x=>exact⟨x,rfl,h⟩
theorem comm {x y:IOper} {st:St} {C1 C2:List Nat→List Nat→Prop} {X:St→List Nat→List Nat→Prop} (ha:qap x y=true)
 (hx:q3d P G x st λs1 t1 w1=>C1 t1 w1∧q3d P G y s1 λs2 t2 w2=>(qpw w1 t2=true∧qpw w2 t1=true)∧C2 t2 w2∧X s2 t1 w1) :
 q3d P G y st λs1 t2 w2=>C2 t2 w2∧q3d P G x s1 λs2 t1 w1=>C1 t1 w1∧X s2 t1 w1:=by
 obtain⟨a1,a2,a3,a4⟩:=qgx ha
 have names:∀ {up:List (Nat×Hs)} {c:Nat},c∉up.map Prod.fst→∀z,z∈up→z.1≠c:=λhc z hz e=>hc (List.mem_map.2 ⟨z,hz,e⟩)
 cases hcx:q3r x st.t with
 | false =>
   rw[q2o hcx] at hx
   obtain⟨⟨v1,u1,t1⟩,hF,hC1,hy⟩:=q34 hx
   simp only at hC1 hy
   have hu1:=(q2l hF (λ_ _=>rfl) (λ_ _=>rfl)).2
   have hagy:Agree y.uses st.t (st.app x.d v1 u1).t:=q4f a1
   have hcy:q3r y (st.app x.d v1 u1).t=q3r y st.t:=q3v hagy
   cases hcy2:q3r y st.t with
   | false =>
     rw[hcy2] at hcy
     rw[q2o hcy] at hy
     obtain⟨⟨v2,u2,t2⟩,hF2,⟨hd1,hd2⟩,hC2,hX⟩:=q34 hy
     simp only at hd1 hd2 hC2 hX
     have hu2:=(q2l hF2 (λ_ _=>rfl) (λ_ _=>rfl)).2
     have hF2':=(q2l (st':=st) hF2 hagy.symm (λc hc=>(q47 u1 st.h c (names (λhm=>q2e hd1 c hm hc))).symm)).1
     have hsep:∀a b,a∈u1→b∈u2→a.1≠b.1:=λa b ha hb e=>q2e hd1 a.1 (List.mem_map.2 ⟨a,ha,rfl⟩) (e▸hu2 b hb)
     rw[q2o hcy2,hF2']
     refine⟨hC2, ?_⟩
     have hagx:Agree x.uses st.t (st.app y.d v2 u2).t:=q4f a3
     rw[q2o ((q3v hagx).trans hcx)]
     have hF':=(q2l (st':=st.app y.d v2 u2) hF hagx (λc hc=>q47 u2 st.h c (names (λhm=>q2e hd2 c hm hc)))).1
     rw[hF']
     refine⟨hC1, ?_⟩
     simp only
     rw[←qb2 st v1 v2 u1 u2 a2 hsep]
     exact hX
   | true =>
     rw[hcy2] at hcy
     rw[q4g hcy] at hy
     obtain⟨f,vs,hf,post,t2,w2,hS,hK⟩:=hy
     rw[q7r hagy.left] at hf
     have hw:∃v up,post v up:=hS.ne
     obtain⟨v0,u0,h0⟩:=hw
     obtain⟨⟨hd1,hd2⟩,hC2,_⟩:=hK v0 u0 h0
     rw[q4g hcy2]
     refine⟨f,vs,hf,post,t2,w2,hS.local_ (λc hc=>(q47 u1 st.h c (names (λhm=>q2e hd1 c hm hc))).symm),λv2 u2 h2=>⟨hC2, ?_⟩⟩
     obtain⟨_,_,hX⟩:=hK v2 u2 h2
     have hu2:=hS.wri v2 u2 h2
     have hagx:Agree x.uses st.t (st.app y.d v2 u2).t:=q4f a3
     rw[q2o ((q3v hagx).trans hcx)]
     have hF':=(q2l (st':=st.app y.d v2 u2) hF hagx (λc hc=>q47 u2 st.h c (λz hz e=>q2e hd2 c (e▸hu2 z hz) hc))).1
     rw[hF']
     refine⟨hC1, ?_⟩
     simp only
     have hsep:∀a b,a∈u1→b∈u2→a.1≠b.1:=λa b ha hb e=>q2e hd2 b.1 (hu2 b hb) (e▸hu1 a ha)
     rw[←qb2 st v1 v2 u1 u2 a2 hsep]
     exact hX
 | true =>
   rw[q4g hcx] at hx
   obtain⟨f,vs,hf,post,t1,w1,hS,hK⟩:=hx
   obtain⟨v0,u0,h0⟩:=hS.ne
   have hyc:y.isCall=false:=by
    cases hy:y.isCall with
    | false=>rfl
    | true=>exact absurd ⟨by simp only[q3r,Bool.and_eq_true] at hcx;exact hcx.1,hy⟩ a4
   have hcy:∀t,q3r y t=false:=λt=>by simp[q3r,hyc]
   obtain⟨hC1,hy⟩:=hK v0 u0 h0
   rw[q2o (hcy _)] at hy
   obtain⟨⟨v2,u2,t2⟩,hF2,⟨hd1,hd2⟩,hC2,_⟩:=q34 hy
   simp only at hd1 hd2 hC2
   have hu2:=(q2l hF2 (λ_ _=>rfl) (λ_ _=>rfl)).2
   have back:∀v1 u1,post v1 u1→qrw y (st.app x.d v1 u1)=qrw y st→True:=λ_ _ _ _=>trivial
   have hF2':=(q2l (st':=st) hF2 (q4f a1).symm (λc hc=>(q47 u0 st.h c (λz hz e=>q2e hd1 c (e▸hS.wri v0 u0 h0 z hz) hc)).symm)).1
   rw[q2o (hcy _),hF2']
   refine⟨hC2, ?_⟩
   simp only
   have hagx:Agree x.uses st.t (st.app y.d v2 u2).t:=q4f a3
   rw[q4g ((q3v hagx).trans hcx)]
   refine⟨f,vs,by rw[q7r hagx.left];exact hf,post,t1,w1,hS.local_ (λc hc=>q47 u2 st.h c (names (λhm=>q2e hd2 c hm hc))),λv1 u1 h1=>⟨(hK v1 u1 h1).1, ?_⟩⟩
   obtain⟨_,hy1⟩:=hK v1 u1 h1
   rw[q2o (hcy _)] at hy1
   have hF3:=(q2l (st':=st.app x.d v1 u1) hF2' (q4f a1) (λc hc=>q47 u1 st.h c (λz hz e=>q2e hd1 c (e▸hS.wri v1 u1 h1 z hz) hc))).1
   rw[hF3] at hy1
   obtain⟨_,_,hX⟩:=hy1
   simp only at hX
   have hsep:∀a b,a∈u1→b∈u2→a.1≠b.1:=λa b ha hb e=>q2e hd1 a.1 (hS.wri v1 u1 h1 a ha) (e▸hu2 b hb)
   rw[←qb2 st v1 v2 u1 u2 a2 hsep]
   exact hX
theorem q3k {o:IOper} {st:St} {K K':St→List Nat→List Nat→Prop} (h:∀s t w,K s t w→K' s t w) (hs:q3d P G o st K):q3d P G o st K':=by
 cases hc:q3r o st.t with
 | false =>
   rw[q2o hc] at hs ⊢
   obtain⟨r,hr,hk⟩:=q34 hs
   rw[hr]
   exact h _ _ _ hk
 | true =>
   rw[q4g hc] at hs ⊢
   obtain⟨f,vs,hf,post,t,w,hS,hK⟩:=hs
   exact⟨f,vs,hf,post,t,w,hS,λv up hp=>h _ _ _ (hK v up hp)⟩
theorem qi5 {bef:List Nat} {K:St→Prop}:∀ {l:List (Nat×IOper)} {st:St} {tr tr':List (Nat×List Nat×List Nat)},(∀i t w,chk bef i t w tr=true→chk bef i t w tr'=true) →
 qcz P G bef l st tr K→qcz P G bef l st tr' K
 | [],st,tr,tr',_,h=>h
 | (i,o)::l,st,tr,tr',ht,h=>by
   refine q3k (λs t w hk=>⟨ht _ _ _ hk.1,qi5 (λi' t' w' hc=>?_) hk.2⟩) h
   simp only[chk,List.all_cons,Bool.and_eq_true] at hc ⊢
   exact⟨hc.1,ht _ _ _ hc.2⟩
theorem qwe {bef:List Nat} {K:St→Prop} {i:Nat} {o:IOper} {post:List (Nat×IOper)}:∀ {pre:List (Nat×IOper)} {st:St} {tr:List (Nat×List Nat×List Nat)},
 (∀x,x∈pre→Nat.testBit (bef.getD i 0) x.1=false∧qap x.2 o=true)→qcz P G bef (pre++(i,o)::post) st tr K →
 q3d P G o st λst' t w=>chk bef i t w tr=true∧qcz P G bef (pre++post) st' tr K
 | [],st,tr,_,h=>q3k (λs t w hk=>⟨hk.1,qi5 (λi' t' w' hc=>by
     simp only[chk,List.all_cons,Bool.and_eq_true] at hc;exact hc.2) hk.2⟩) h
 | (j,x)::pre,st,tr,hp,h=>by
   obtain⟨hb,ha⟩:=hp (j,x) (by simp)
   have h1:q3d P G x st λs1 t1 w1=>chk bef j t1 w1 tr=true∧q3d P G o s1 λs2 t2 w2=>(qpw w1 t2=true∧qpw w2 t1=true)∧chk bef i t2 w2 tr=true∧qcz P G bef (pre++post) s2 ((j,t1,w1)::tr) K :=
    q3k (λs t w hk=>⟨hk.1,q3k (λs2 t2 w2 hk2=>by
     have hc:=hk2.1
     simp only[chk,List.all_cons,Bool.and_eq_true,Bool.or_eq_true,hb,Bool.false_eq_true,false_or] at hc
     exact⟨hc.1,hc.2,hk2.2⟩) (qwe (λx hx=>hp x (by simp[hx])) hk.2)⟩) h
   exact comm ha h1
end
section
variable {P:Program} {G:Glob} {n:Nat} {B:Base} {N:Bool}
theorem qmf {ρ:Nat→Loc} {st:St} {a:Act} {w:World} (r:RelR n B ρ st a w) {d:Nat} (hd:d<n):a.tmps[d]?=some (a.tmps.getD d undef):=by
 have:d<a.tmps.size:=by rw[r.size];exact hd
 simp[Array.getD,this]
theorem qk6 {ρ:Nat→Loc} {st:St} {a:Act} {w:World} (r:RelR n B ρ st a w) {ops:Array Oper} {o:Oper} {io:IOper} (hd:q54 N P n ops o=some io) {b:Bool} (hg:gd io.g st.t=some b) :
 Region.wanted o (yielded ops a.tmps)=b:=by
 simp only[q54,zB] at hd
 obtain⟨op,_,g,hgd,hif⟩:=hd
 split at hif
 case isFalse=>cases hif
 simp only[zS] at hif
 subst hif
 simp only at hg
 cases hgu:o.guard with
 | none =>
   rw[hgu] at hgd
   simp only[ql3,zS] at hgd
   subst hgd
   simp only[gd,zS] at hg
   subst hg
   simp[Region.wanted,hgu]
 | some jb =>
   obtain⟨j,want⟩:=jb
   rw[hgu] at hgd
   simp only[ql3,zB] at hgd
   obtain⟨d,hdj,hlt⟩:=hgd
   split at hlt
   case isFalse=>cases hlt
   rename_i hdn
   simp only[zS] at hlt
   subst hlt
   have ht:=r.tmps d
   have hget:=qmf r hdn
   simp only[gd] at hg
   have hy:yielded ops a.tmps j=match a.tmps.getD d undef with|.bool b=>some b|_=>none:=by
    unfold yielded
    have:(ops[j]?).bind (·.dst)=some d:=Option.bind_eq_some_iff.2 hdj
    rw[this]
    simp only[Option.bind_some]
    rw[hget]
    cases a.tmps.getD d undef<;>rfl
   simp only[Region.wanted,hgu,hy]
   split at hg
   ·rename_i c hc
    rw[hc] at ht
    rw[q3g ht]
    simp only[zS] at hg
    subst hg
    cases c<;>cases want<;>rfl
   ·rename_i hc
    rw[hc] at ht
    obtain⟨us,hu,hl,_⟩:=ht
    have:us=[]:=List.eq_nil_of_length_eq_zero (by simpa using hl)
    subst this
    simp only[zS] at hg
    subst hg
    rw[hu]
    rfl
   ·cases hg
def Lift (n:Nat) (B:Base) (K:St→Prop) (a:Act) (w:World):Prop:=∃st ρ,RelR n B ρ st a w∧K st
theorem qij {α β:Type} (f:α→β) (xs:Array α):xs.map f=(xs.toList.map f).toArray:=by
 apply Array.ext';simp
theorem qo5 {d:Option Nat} (h:okD n d=true):∀x,d=some x→x<n:=by
 intro x hx
 subst hx
 simpa[okD] using h
theorem q9z (hB:BaseOk G B) {ops:Array Oper} {Q:Exit→Act→World→Prop} {i:Nat} {o:Oper} (hi:ops[i]?=some o) {io:IOper} (hd:q54 N P n ops o=some io)
 {ρ:Nat→Loc} {st:St} {a:Act} {w:World} (r:RelR n B ρ st a w) {K:St→List Nat→List Nat→Prop} (hs:q3d P G io st K) :
 wpOp P ops Q i (Lift n B λs=>∃t x,K s t x) a w:=by
 have hd0:=hd
 simp only[q54,zB] at hd
 obtain⟨op,hop,g,hgd,hif⟩:=hd
 split at hif
 case isFalse=>cases hif
 rename_i hok
 simp only[zS] at hif
 subst hif
 have hlt:=qo5 hok
 unfold wpOp
 rw[hi]
 simp only
 unfold q3d at hs
 cases hg:gd g st.t with
 | none=>simp only[hg,q65] at hs
 | some b =>
   have hw:=qk6 r hd0 hg
   simp only at hs
   rw[hg] at hs
   cases b with
   | false =>
     simp only[q65] at hs
     rw[hw]
     simp only[Bool.false_eq_true,if_false]
     exact⟨_,ρ,r.step (Turns.refl r.mem) hlt (v:=.tup []) ⟨[],rfl,rfl,λj v x hv=>by simp at hv⟩,[],[],hs⟩
   | true =>
     simp only[q65] at hs
     rw[hw]
     simp only[if_true]
     refine .inl ?_
     have det:∀v up tc,q2s (op.asN N) o.dst st.t st.h=some (v,up,tc)→K (st.app o.dst v up) tc (up.map Prod.fst)→o.wp P a w (Lift n B λs=>∃t x,K s t x) Q:=λv up tc he hk=>by
      obtain⟨u,w',ρ',hr,ht,hdn⟩:=qjy hB r hop he
      unfold Oper.wp
      rcases hr with hr|⟨hr,rfl⟩
      ·rw[hr]
       exact⟨_,ρ',r.step ht hlt hdn,tc,_,hk⟩
      ·rw[hr]
       exact⟨_,ρ',r.step ht hlt hdn,tc,_,hk⟩
     have call:∀f vs us,(execOp a.eval o).run P w=(callFunc f us.toArray).run P w→DenArgs w (owns B ρ st.h) ρ st.h vs us→CallV P G f vs o.dst st K→o.wp P a w (Lift n B λs=>∃t x,K s t x) Q:=λf vs us hrun ha hc=>by
      obtain⟨post,tc,wr,hS,hK⟩:=hc
      have hen:=hS.en
      unfold entr at hen
      cases hf:P.funcs[f]? with
      | none=>rw[hf] at hen;cases hen
      | some fn =>
        rw[hf] at hen
        simp only[Bool.and_eq_true,bne_iff_ne,ne_eq] at hen
        have hcall:(callFunc f us.toArray).run P w=.ok (.enter f us.toArray) w:=by
         have h1:(fn.name== "runtime.NumGoroutine")=false:=by simpa using hen.1
         have h2:fn.body≠none:=by intro hb;rw[hb] at hen;simp at hen
         simp[callFunc,hf,hen.1,h2]
        unfold Oper.wp
        rw[hrun,hcall,Oper.upon_enter]
        refine(hS.run st.h (λ_ _=>rfl) B ρ w us hB r.mem ha).mono λe w' he=>?_
        obtain⟨u,v,up,ρ',rfl,hp,ht,hdn⟩:=he
        exact⟨_,ρ',r.step ht hlt hdn,tc,wr,hK v up hp⟩
     have hcall:∀io:IOp,(∀f xs,io≠.call f xs)→(∀x xs,io≠.cal x xs)→(∀f xs,io.asN N≠.call f xs)∧∀x xs,io.asN N≠.cal x xs:=λio h1 h2=>by
      cases N with
      | false=>exact⟨h1,h2⟩
      | true=>cases io<;>first|exact⟨h1,h2⟩|exact⟨λ_ _ h=>(by cases h),λ_ _ h=>(by cases h)⟩
     have hdet:(∀f xs,op≠.call f xs)→(∀x xs,op≠.cal x xs)→doV P G ⟨o.dst,g,op.asN N⟩ st K→∃r,q2s (op.asN N) o.dst st.t st.h=some r∧K (st.app o.dst r.1 r.2.1) r.2.2 (r.2.1.map Prod.fst):=λh1 h2 hs=>by
      obtain⟨k1,k2⟩:=hcall op h1 h2
      unfold doV at hs
      simp only at hs
      generalize op.asN N=io at *
      cases io<;>first|exact q34 hs|exact absurd rfl (k1 _ _)|exact absurd rfl (k2 _ _)
     by_cases hc1:(∀f xs,op≠.call f xs)∧∀x xs,op≠.cal x xs
     ·obtain⟨⟨v,up,tc⟩,he,hk⟩:=hdet hc1.1 hc1.2 hs
      exact det v up tc he hk
     have e1:op.asN N=op:=by
      cases N with
      | false=>rfl
      | true=>cases op<;>first|rfl|exact absurd ⟨λ_ _ h=>(by cases h),λ_ _ h=>(by cases h)⟩ hc1
     rw[e1] at hs
     unfold doV at hs
     simp only at hs
     cases op<;>try simp only at hs
     case call f xs =>
      obtain⟨c,hop1,hc⟩:=qd5 hop rfl
      obtain⟨hce,_,hxs⟩:=qh2 hc
      have hca:=And.intro hop1 hce
      refine call f _ (c.args.toList.map a.eval) ?_ ?_ hs
      ·unfold execOp
       rw[hca.1]
       simp only[resolve,hca.2,Act.eval,Deferred.ofValue,Sem.run_bind,Sem.run_pure,Result.andThen_ok,invoke]
       simp[qij]
      ·obtain⟨hl,hdn⟩:=qbc r hxs
       exact⟨by simp[hl],hdn⟩
     case cal x xs =>
      obtain⟨c,hop1,hc⟩:=qd5 hop rfl
      obtain⟨k,hce,hxk,hxs⟩:=qjc hc
      have hca:=And.intro hop1 hce
      have hx:q03 (.tmp k)=some x:=by rw[hxk];rfl
      cases hv:ev st.t x<;>rw[hv] at hs<;>simp only at hs
      rename_i f caps
      have hdx:=q0n r hx
      rw[hv] at hdx
      obtain⟨vs,hu,hl,hdn⟩:=hdx
      refine call f _ (c.args.toList.map a.eval++vs) ?_ ?_ hs
      ·unfold execOp
       rw[hca.1]
       simp only[resolve,hca.2,hu,Deferred.ofValue,Sem.run_bind,Sem.run_pure,Result.andThen_ok,invoke]
       simp[qij]
      ·obtain⟨hl2,hdn2⟩:=qbc r hxs
       refine⟨by simp[hl,hl2],λj v u hv hu=>?_⟩
       by_cases hj:j<xs.length
       ·rw[List.getElem?_append_left (by simpa using hj)] at hv
        rw[List.getElem?_append_left (by rw[List.length_map];omega)] at hu
        exact hdn2 j v u hv hu
       ·rw[List.getElem?_append_right (by simp;omega)] at hv
        rw[List.getElem?_append_right (by rw[List.length_map];omega)] at hu
        simp only[List.length_map] at hv hu
        rw[←hl2] at hu
        have h0:=hdn _ _ _ hv hu
        cases v<;>first|exact h0|exact Imm.den h0
     all_goals exact absurd ⟨λ_ _ h=>(by cases h),λ_ _ h=>(by cases h)⟩ hc1
theorem qao (hB:BaseOk G B) {ops:Array Oper} {Q:Exit→Act→World→Prop} {K:St→Prop} (hQ:∀a w,Lift n B K a w→Q .normal a w) :
 ∀(l:List IOper) (k:Nat),k+l.length=ops.size→(∀(j:Nat) io,l[j]?=some io→∃o,ops[k+j]?=some o∧q54 N P n ops o=some io) →
 ∀ρ st a w,RelR n B ρ st a w→qhn P G l st K→wpOps P ops Q (List.range' k l.length) a w
 | [],k,_,_,ρ,st,a,w,r,h=>hQ a w ⟨st,ρ,r,h⟩
 | io::l,k,hl,hg,ρ,st,a,w,r,h=>by
   obtain⟨o,ho,hd⟩:=hg 0 io rfl
   simp only[Nat.add_zero] at ho
   rw[zC,List.range'_succ,wpOps_cons]
   refine wpOp_mono (λa' w' hK=>?_) (q9z hB ho hd r h)
   obtain⟨st',ρ',r',t,x,hk⟩:=hK
   exact qao hB hQ l (k+1) (by simp at hl;omega) (λj io' hj=>by
    obtain⟨o',ho',hd'⟩:=hg (j+1) io' (by simpa using hj)
    exact⟨o',by rwa [show k+1+j=k+(j+1) by omega],hd'⟩) ρ' st' a' w' r' hk
structure Rest (bef:List Nat) (ops:Array Oper) (listed:Array Bool) (R:List (Nat×IOper)) (all:List (Nat×IOper)):Prop where
 size:listed.size=ops.size
 clo:∀i,listed.getD i false=true→∀j,j<i→Nat.testBit (bef.getD i 0) j=true→listed.getD j false=true
 mem:∀i o,(i,o)∈R↔(i,o)∈all∧listed.getD i true=false
 ord:R.Pairwise λx y=>x.1<y.1
theorem qay {bef:List Nat} {i j:Nat} {o:Oper} (hb:((List.range i).all λj=>!Nat.testBit (bef.getD i 0) j||o.after.toList.any λe=>Region.binds .any e&&(decide (e.on=j)||(decide (j<e.on)&&Nat.testBit (bef.getD e.on 0) j)))=true)
 (hj:j<i) (ht:Nat.testBit (bef.getD i 0) j=true):∃e,e∈o.after.toList∧Region.binds .any e=true∧(e.on=j∨(j<e.on∧Nat.testBit (bef.getD e.on 0) j=true)):=by
 simp only[List.all_eq_true,List.mem_range,Bool.or_eq_true,Bool.not_eq_true',List.any_eq_true,Bool.and_eq_true,decide_eq_true_eq] at hb
 rcases hb j hj with h|⟨e,he,hbd,h⟩
 ·rw[ht] at h;cases h
 ·exact⟨e,he,hbd,h⟩
theorem qh7 (hB:BaseOk G B) {ops:Array Oper} {Q:Exit→Act→World→Prop} {K:St→Prop} {bef:List Nat} {all:List (Nat×IOper)} (hQ:∀a w,Lift n B K a w→Q .normal a w)
 (hall:∀i io,(i,io)∈all→∃o,ops[i]?=some o∧q54 N P n ops o=some io) (hall2:∀i o,ops[i]?=some o→∃io,(i,io)∈all) (huniq:∀i x y,(i,x)∈all→(i,y)∈all→x=y)
 (hbef:qte bef ops.toList=true) (hap:qbr bef all=true) :
 ∀(fuel:Nat) (listed:Array Bool) (R:List (Nat×IOper)),R.length=fuel→Rest bef ops listed R all →
 ∀ρ st a w,RelR n B ρ st a w→qcz P G bef R st [] K→wpAny P .any ops Q fuel listed a w:=by
 have hbf:∀(i:Nat) o,ops[i]?=some o→(∀e,e∈o.after.toList→Region.binds .any e=true→e.on<i∧Nat.testBit (bef.getD i 0) e.on=true) ∧
  ((List.range i).all λj=>!Nat.testBit (bef.getD i 0) j||o.after.toList.any λe=>Region.binds .any e&&(decide (e.on=j)||(decide (j<e.on)&&Nat.testBit (bef.getD e.on 0) j)))=true:=λi o ho=>by
  simp only[qte,List.all_eq_true] at hbef
  have hm:(o,i)∈ops.toList.zipIdx:=by
   rw[List.mem_zipIdx_iff_getElem?]
   simpa using ho
  have:=hbef (o,i) hm
  simp only[Bool.and_eq_true] at this
  refine⟨λe he hb=>?_,by simpa only[List.all_eq_true] using this.2⟩
  have h1:=this.1
  simp only[List.all_eq_true,Bool.or_eq_true,Bool.not_eq_true',Bool.and_eq_true,decide_eq_true_eq] at h1
  rcases h1 e he with h|h
  ·rw[hb] at h;cases h
  ·exact h
 intro fuel
 induction fuel with
 | zero =>
   intro listed R hR hrest ρ st a w r h
   have hnil:R=[]:=List.eq_nil_of_length_eq_zero hR
   subst hnil
   refine⟨?_,hQ a w ⟨st,ρ,r,h⟩⟩
   cases hr:Region.ready .any ops listed with
   | nil=>rfl
   | cons j js =>
     have hj:j∈Region.ready .any ops listed:=by rw[hr];simp
     obtain⟨h0,o,ho,_⟩:=mem_ready.1 hj
     obtain⟨io,hio⟩:=hall2 j o ho
     have:=(hrest.mem j io).2 ⟨hio,h0⟩
     cases this
 | succ fuel ih =>
   intro listed R hR hrest ρ st a w r h
   refine⟨λhnil=>?_,λi hi=>?_⟩
   ·
    cases R with
    | nil=>simp at hR
    | cons x R =>
      obtain⟨j,io⟩:=x
      exfalso
      obtain⟨hja,hjl⟩:=(hrest.mem j io).1 (by simp)
      obtain⟨o,ho,_⟩:=hall j io hja
      have hjr:j∈Region.ready .any ops listed:=mem_ready.2 ⟨hjl,o,ho,λe he hb=>by
       obtain⟨hlt,_⟩:=(hbf j o ho).1 e (by simpa using he) hb
       cases hl:listed.getD e.on false with
       | true=>rfl
       | false =>
         exfalso
         have hes:e.on<ops.size:=Nat.lt_trans hlt (q2c ho)
         have hl2:listed.getD e.on true=false:=by
          have hx:e.on<listed.size:=by rw[hrest.size];exact hes
          simp only[Array.getD,hx,dif_pos] at hl ⊢
          exact hl
         obtain⟨io2,hio2⟩:=hall2 e.on ops[e.on] (by simp[hes])
         have hm:=(hrest.mem e.on io2).2 ⟨hio2,hl2⟩
         rcases List.mem_cons.1 hm with hm|hm
         ·simp only[Prod.mk.injEq] at hm;omega
         ·have:=(List.pairwise_cons.1 hrest.ord).1 _ hm
          simp only at this;omega⟩
      rw[hnil] at hjr
      cases hjr
   ·obtain⟨h0,o,ho,hpre⟩:=mem_ready.1 hi
    obtain⟨io,hio⟩:=hall2 i o ho
    have hm:=(hrest.mem i io).2 ⟨hio,h0⟩
    obtain⟨pre,post,rfl⟩:=List.append_of_mem hm
    obtain⟨o',ho',hdig⟩:=hall i io hio
    have:o'=o:=by rw[ho] at ho';exact(Option.some.inj ho').symm
    subst this
    have hsz:=hrest.size
    have hlisted:∀j,j<i→Nat.testBit (bef.getD i 0) j=true→listed.getD j false=true:=λj hj ht=>by
     obtain⟨e,he,hb,hcase⟩:=qay (hbf i o' ho).2 hj ht
     have hel:=hpre e (by simpa using he) hb
     rcases hcase with rfl|hcase
     ·exact hel
     ·exact hrest.clo e.on hel j hcase.1 hcase.2
    have hno:∀x,x∈pre→Nat.testBit (bef.getD i 0) x.1=false∧qap x.2 io=true:=λx hx=>by
     obtain⟨hxa,hxl⟩:=(hrest.mem x.1 x.2).1 (by simp[hx])
     have hxi:x.1<i:=by
      have:=hrest.ord
      rw[List.pairwise_append] at this
      exact this.2.2 x hx (i,io) (by simp)
     have hxs:x.1<listed.size:=by rw[hsz];exact Nat.lt_trans hxi (q2c ho)
     have ht:Nat.testBit (bef.getD i 0) x.1=false:=by
      cases ht:Nat.testBit (bef.getD i 0) x.1 with
      | false=>rfl
      | true =>
        have:=hlisted x.1 hxi ht
        simp only[Array.getD,hxs,dif_pos] at this hxl
        rw[this] at hxl;cases hxl
     refine⟨ht, ?_⟩
     simp only[qbr,List.all_eq_true,Bool.or_eq_true,decide_eq_true_eq] at hap
     rcases hap (i,io) hio x hxa with(h1|h1)|h1
     ·simp only at h1;omega
     ·simp only at h1;rw[ht] at h1;cases h1
     ·exact h1
    have hf:=qwe hno h
    refine wpOp_mono (λa' w' hK=>?_) (q9z hB ho hdig r hf)
    obtain⟨st',ρ',r',t,x,_,hk⟩:=hK
    have hil:i<listed.size:=by rw[hsz];exact q2c ho
    refine ih (listed.setIfInBounds i true) (pre++post) (by simp at hR ⊢;omega) ⟨by simpa using hsz,λj hj k hk ht=>?_,λj oj=>?_, ?_⟩ ρ' st' a' w' r' hk
    ·by_cases hji:j=i
     ·subst hji;exact getD_set_true (hlisted k hk ht)
     ·rw[getD_set_ne false (Ne.symm hji)] at hj
      exact getD_set_true (hrest.clo j hj k hk ht)
    ·have hm2:=hrest.mem j oj
     by_cases hji:j=i
     ·subst hji
      constructor
      ·intro hmm
       exfalso
       have hord:=hrest.ord
       rw[List.pairwise_append] at hord
       rcases List.mem_append.1 hmm with h1|h1
       ·have:=hord.2.2 _ h1 (j,io) (by simp);simp only at this;omega
       ·have:=(List.pairwise_cons.1 hord.2.1).1 _ h1;simp only at this;omega
      ·rintro⟨_,h1⟩
       have:(listed.setIfInBounds j true).getD j true=true:=by simp[Array.getD,hil]
       rw[this] at h1;cases h1
     ·rw[getD_set_ne true (Ne.symm hji)]
      rw[←hm2]
      simp only[List.mem_append,List.mem_cons,Prod.mk.injEq]
      constructor
      ·rintro(h1|h1)
       ·exact .inl h1
       ·exact .inr (.inr h1)
      ·rintro(h1|⟨h1,_⟩|h1)
       ·exact .inl h1
       ·exact absurd h1 hji
       ·exact .inr h1
    ·have hord:=hrest.ord
     rw[List.pairwise_append] at hord ⊢
     exact⟨hord.1,(List.pairwise_cons.1 hord.2.1).2,λx hx y hy=>hord.2.2 x hx y (by simp[hy])⟩
end
def exM:Exit→Ex→Prop
 | .normal,.normal=>True
 | .exit i,.exit j=>i=j
 | .ret,.ret=>True
 | _,_=>False
def LiftQ (n:Nat) (B:Base) (Q:Ex→St→Prop) (e:Exit) (a:Act) (w:World):Prop:=∃e',exM e e'∧Lift n B (Q e') a w
section
variable {P:Program} {G:Glob} {n:Nat} {B:Base} {N:Bool}
theorem qd4 {ops:Array Oper}:∀ {l:List Oper} {k:Nat} {r:List IOper},(∀(j:Nat) o,l[j]?=some o→ops[k+j]?=some o)→l.mapM (q54 N P n ops)=some r →
 r.length=l.length∧∀(j:Nat) io,r[j]?=some io→∃o,ops[k+j]?=some o∧q54 N P n ops o=some io:=by
 intro l k r hl h
 obtain⟨h1,h2⟩:=q33 h
 refine⟨h1,λj io hj=>?_⟩
 have hjl:j<l.length:=by rw[←h1];exact(List.getElem?_eq_some_iff.1 hj).1
 exact⟨l[j],hl j _ (zE hjl),h2 j _ _ (zE hjl) hj⟩
theorem qh9 {v:V} {y m:Prop} (h:qej v y m):(v=.bool true∧y)∨(v=.bool false∧m):=by
 unfold qej at h
 split at h
 ·exact .inl ⟨rfl,h⟩
 ·exact .inr ⟨rfl,h⟩
 ·exact h.elim
theorem qam {K:St→Prop} {Q:Ex→St→Prop} {e:Ex} {s:St} (h:exN K Q e s):(e=.normal∧K s)∨(e≠.normal∧Q e s):=by
 cases e
 ·exact .inl ⟨rfl,h⟩
 ·exact .inr ⟨by simp,h⟩
 ·exact .inr ⟨by simp,h⟩
theorem qi1 {pin:Nat} (hp:B.pin=pin) (hB:BaseOk G B):∀(c:Code) (ic:IC),qc1 N P n c=some ic→∀(Q:Ex→St→Prop) ρ st a w,RelR n B ρ st a w→wpI P G pin ic Q st→c.wp P (LiftQ n B Q) a w:=by
 intro c
 induction c with
 | skip =>
   intro ic hd Q ρ st a w r h
   simp only[qc1,zS] at hd;subst hd
   exact wp_skip ⟨.normal,trivial,st,ρ,r,h⟩
 | ret =>
   intro ic hd Q ρ st a w r h
   simp only[qc1,zS] at hd;subst hd
   exact wp_ret ⟨.ret,trivial,st,ρ,r,h⟩
 | exit id =>
   intro ic hd Q ρ st a w r h
   simp only[qc1,zS] at hd;subst hd
   exact wp_exit ⟨.exit id,rfl,st,ρ,r,h⟩
 | region id ops draw =>
   intro ic hd Q ρ st a w r h
   simp only[qc1,Option.bind_eq_bind,zB] at hd
   obtain⟨l,hl,hd⟩:=hd
   obtain⟨hlen,hget⟩:=qd4 (P:=P) (n:=n) (ops:=ops) (k:=0) (λj o hj=>by simpa using hj) hl
   have hQ:∀a w,Lift n B (Q .normal) a w→LiftQ n B Q .normal a w:=λa w h=>⟨.normal,trivial,h⟩
   cases draw with
   | false =>
     simp only[Bool.false_eq_true,if_false,zS] at hd
     subst hd
     refine wp_region ?_
     have:=qao (N:=N) hB (Q:=LiftQ n B Q) hQ l 0 (by simp[hlen]) hget ρ st a w r h
     rw[List.range_eq_range']
     simpa[hlen] using this
   | true =>
     simp only[if_true] at hd
     split at hd
     case isFalse=>cases hd
     rename_i hc
     obtain⟨hmix,hbef,hap⟩:=hc
     simp only[zS] at hd
     subst hd
     refine wp_region_any hmix ?_
     have hallm:∀i io,(i,io)∈(List.range l.length).zip l↔l[i]?=some io:=λi io=>by
      rw[List.mem_iff_getElem?]
      constructor
      ·rintro⟨j,hj⟩
       rw[List.getElem?_zip_eq_some] at hj
       obtain⟨h1,h2⟩:=hj
       have hjl:j<l.length:=(List.getElem?_eq_some_iff.1 h2).1
       rw[List.getElem?_range hjl] at h1
       simp only[zS] at h1
       subst h1;exact h2
      ·intro hi
       have hil:i<l.length:=(List.getElem?_eq_some_iff.1 hi).1
       exact⟨i,List.getElem?_zip_eq_some.2 ⟨List.getElem?_range hil,hi⟩⟩
     refine qh7 (N:=N) hB (Q:=LiftQ n B Q) (K:=Q .normal) (bef:=(Region.before ops).toList) (all:=(List.range l.length).zip l) hQ ?_ ?_ ?_ hbef hap ops.size (Array.replicate ops.size false)
      ((List.range l.length).zip l) (by simp[hlen]) ⟨by simp,λi hi j hj ht=>?_,λi o=>?_, ?_⟩ ρ st a { w with drawn:=w.drawn+1 } ?_ h
     ·intro i io hi
      obtain⟨o,ho,hdg⟩:=hget i io ((hallm i io).1 hi)
      exact⟨o,by simpa using ho,hdg⟩
     ·intro i o ho
      have hil:i<l.length:=by rw[hlen];simpa using q2c ho
      exact⟨l[i],(hallm i _).2 (zE hil)⟩
     ·intro i x y hx hy
      have h1:=(hallm i x).1 hx
      have h2:=(hallm i y).1 hy
      rw[h1] at h2;exact Option.some.inj h2
     ·exfalso
      by_cases hil:i<ops.size<;>simp[Array.getD,hil] at hi
     ·constructor
      ·intro hm
       have hil:i<l.length:=(List.getElem?_eq_some_iff.1 ((hallm i o).1 hm)).1
       have:i<ops.size:=by rw[hlen] at hil;simpa using hil
       exact⟨hm,by simp[Array.getD,this]⟩
      ·exact λhm=>hm.1
     ·have hp:(List.range l.length).Pairwise (·<·):=List.pairwise_lt_range
      have:((List.range l.length).zip l).map Prod.fst=List.range l.length:=by
       rw[List.map_fst_zip];simp
      rw[←this] at hp
      rwa [List.pairwise_map] at hp
     ·exact⟨(r.mem.same (w':={ w with drawn:=w.drawn+1 }) hB rfl rfl rfl rfl).rel,r.size,r.nod,λd=>(r.mem.same (w':={ w with drawn:=w.drawn+1 }) hB rfl rfl rfl rfl).den _ _ (r.tmps d)⟩
 | seq x y ihx ihy =>
   intro ic hd Q ρ st a w r h
   simp only[qc1,Option.bind_eq_bind,zB,zS] at hd
   obtain⟨x',hx,y',hy,rfl⟩:=hd
   refine wp_seq (wp_mono (ihx x' hx _ ρ st a w r h) λe a' w' hq=>?_)
   obtain⟨e',he,st',ρ',r',hq⟩:=hq
   rcases qam hq with⟨rfl,hk⟩|⟨hne,hk⟩
   ·cases e<;>simp only[exM] at he
    exact ihy y' hy Q ρ' st' a' w' r' hk
   ·cases e<;>cases e'<;>simp only[exM] at he<;>first|(exact absurd rfl hne)|exact⟨.exit _,he,st',ρ',r',hk⟩|exact⟨.ret,trivial,st',ρ',r',hk⟩
 | cond c x y ihx ihy =>
   intro ic hd Q ρ st a w r h
   simp only[qc1,Option.bind_eq_bind,zB,zS] at hd
   obtain⟨c',hc,x',hx,y',hy,rfl⟩:=hd
   have hden:=q0n r hc
   rcases qh9 h with⟨hv,hk⟩|⟨hv,hk⟩
   ·rw[hv] at hden
    exact wp_cond_true (q3g hden) (ihx x' hx Q ρ st a w r hk)
   ·rw[hv] at hden
    exact wp_cond_false (q3g hden) (ihy y' hy Q ρ st a w r hk)
 | block id x ih =>
   intro ic hd Q ρ st a w r h
   simp only[qc1,Option.bind_eq_bind,zB,zS] at hd
   obtain⟨x',hx,rfl⟩:=hd
   refine wp_block (wp_mono (ih x' hx _ ρ st a w r h) λe a' w' hq=>?_)
   obtain⟨e',he,st',ρ',r',hq⟩:=hq
   cases e<;>cases e'<;>simp only[exM] at he
   ·exact⟨.normal,trivial,st',ρ',r',hq⟩
   ·subst he
    simp only[exB] at hq
    simp only[Exit.inBlock]
    split
    ·rename_i hi
     rw[if_pos hi] at hq
     exact⟨.normal,trivial,st',ρ',r',hq⟩
    ·rename_i hi
     rw[if_neg hi] at hq
     exact⟨.exit _,rfl,st',ρ',r',hq⟩
   ·exact⟨.ret,trivial,st',ρ',r',hq⟩
 | loop x ih =>
   intro ic hd Q ρ st a w r h
   simp only[qc1,Option.bind_eq_bind,zB,zS] at hd
   obtain⟨x',hx,rfl⟩:=hd
   obtain⟨I,k,s0,hle0,hI,hround⟩:=h
   obtain⟨ρ0,r0⟩:=hle0 n B ρ a w hp hB r
   have hmin:∀a w,(∃k,Lift n B (I k) a w)→∃k,Lift n B (I k) a w∧∀m,Lift n B (I m) a w→k≤m:=λa w hex=>by
    obtain⟨k,hk⟩:=hex
    induction k using Nat.strongRecOn with
    | _ k ihk =>
      by_cases hlt:∃m,m<k∧Lift n B (I m) a w
      ·obtain⟨m,hm,hl⟩:=hlt
       exact ihk m hm hl
      ·exact⟨k,hk,λm hm=>Nat.le_of_not_lt λhlt'=>hlt ⟨m,hlt',hm⟩⟩
   classical
   refine wp_loop (λa w=>∃k,Lift n B (I k) a w) (λa w=>if hx:∃k,Lift n B (I k) a w then Classical.choose (hmin a w hx) else 0) ⟨k,s0,ρ0,r0,hI⟩ (λa w hex=>?_)
   obtain⟨hl,_⟩:=Classical.choose_spec (hmin a w hex)
   obtain⟨s,ρ,r,hI⟩:=hl
   have h1:=ih x' hx _ ρ s a w r (hround _ s hI)
   refine wp_mono h1 λe a' w' hq=>?_
   obtain⟨e',he,st',ρ',r',hq⟩:=hq
   rcases qam hq with⟨rfl,hk⟩|⟨hne,hk⟩
   ·cases e<;>simp only[exM] at he
    obtain⟨m,s'',hm,hle,hI'⟩:=hk
    obtain⟨ρ'',r''⟩:=hle n B ρ' a' w' hp hB r'
    have hex':∃k,Lift n B (I k) a' w':=⟨m,s'',ρ'',r'',hI'⟩
    refine⟨hex', ?_⟩
    rw[dif_pos hex',dif_pos hex]
    exact Nat.lt_of_le_of_lt ((Classical.choose_spec (hmin a' w' hex')).2 m ⟨s'',ρ'',r'',hI'⟩) hm
   ·cases e<;>cases e'<;>simp only[exM] at he<;>first|(exact absurd rfl hne)|exact⟨.exit _,he,st',ρ',r',hk⟩|exact⟨.ret,trivial,st',ρ',r',hk⟩
 | _=>intro ic hd;simp[qc1] at hd
end
def FzV (F:Nat→Prop) (h:Nat→Hs):V→V→Prop
 | .own c k,.sl sz rows=>(∃ty,h c=.arr ty sz rows)∧rows.length=k∧F c
 | .view c o k,.sl sz rows=>(∃ty all,h c=.arr ty sz all∧rows=(all.drop o).take k)∧rows.length=k∧F c
 | .pv c o,.iptr row o'=>o'=o∧(∃ty,h c=.var ty row)∧row.all V.closed=true∧F c
 | _,_=>False
def NoN (f:Nat→Nat) (h':Nat→Hs) (c:Nat):Prop:=∀c',(h' c').live=true→f c'≠c
def Wk0 (F:Nat→Prop) (f:Nat→Nat) (h h':Nat→Hs):V→V→Prop
 | _,.undef=>True
 | .own c k,.own c' k'=>f c'=c∧k'=k∧h' c'≠.fresh
 | .view c o k,.view c' o' k'=>f c'=c∧o'=o∧k'=k∧h' c'≠.fresh
 | .pv c o,.pv c' o'=>f c'=c∧o'=o∧h' c'≠.fresh
 | .pa c i o,.pa c' i' o'=>f c'=c∧i'=i∧o'=o∧h' c'≠.fresh
 | .nils,.sl _ []=>True
 | .own c k,.sl sz rows=>FzV F h (.own c k) (.sl sz rows)
 | .view c o k,.sl sz rows=>FzV F h (.view c o k) (.sl sz rows)
 | .pv c o,.iptr row o'=>FzV F h (.pv c o) (.iptr row o')
 | .own ..,_|.view ..,_|.pv ..,_|.pa ..,_=>False
 | v,v'=>v'=v
def Wk1 (F:Nat→Prop) (f:Nat→Nat) (h h':Nat→Hs):V→V→Prop
 | .fn g caps,.fn g' caps'=>g'=g∧caps'.length=caps.length∧∀(j:Nat) v v',caps[j]?=some v→caps'[j]?=some v'→Wk0 F f h h' v v'
 | v,v'=>Wk0 F f h h' v v'
def Wk2 (F:Nat→Prop) (f:Nat→Nat) (h h':Nat→Hs):V→V→Prop
 | .agg fs,.agg fs'=>fs'.length=fs.length∧∀(j:Nat) v v',fs[j]?=some v→fs'[j]?=some v'→Wk1 F f h h' v v'
 | v,v'=>Wk1 F f h h' v v'
def Wk (F:Nat→Prop) (f:Nat→Nat) (h h':Nat→Hs):V→V→Prop
 | .tup fs,.tup fs'=>fs'.length=fs.length∧∀(j:Nat) v v',fs[j]?=some v→fs'[j]?=some v'→Wk2 F f h h' v v'
 | v,v'=>Wk2 F f h h' v v'
def WkH (F:Nat→Prop) (f:Nat→Nat) (h h':Nat→Hs):Hs→Hs→Prop
 | _,.fresh=>True
 | a,.dead=>a≠.fresh
 | .var ty row,.var ty' row'=>ty'=ty∧row'.length=row.length∧∀(j:Nat) v v',row[j]?=some v→row'[j]?=some v'→Wk1 F f h h' v v'
 | .arr ty sz rows,.arr ty' sz' rows'=>ty'=ty∧sz'=sz∧rows'=rows
 | _,_=>False
section
variable {w:World} {O O':Nat→Prop} {ρ:Nat→Loc} {h h':Nat→Hs} {f:Nat→Nat} {F:Nat→Prop}
theorem Den0.wk (hH:∀c,WkH F f h h' (h (f c)) (h' c)) (himm:∀v u,Imm w O v u→Imm w O' v u) (hfz:∀v v' u,FzV F h v v'→Den0 w O ρ h v u→Imm w O' v' u) {v v':V} {u:Value} (hw:Wk0 F f h h' v v') (hd:Den0 w O ρ h v u):Den0 w O' (λc=>ρ (f c)) h' v' u:=by
 have gen:v'=v→v.closed=true∨(∃g caps,v=.fn g caps)→Den0 w O' (λc=>ρ (f c)) h' v' u:=λe hc=>by
  subst e
  rcases hc with hc|⟨g,caps,rfl⟩
  ·exact(himm _ _ (q3n hc (by cases v'<;>first|exact hd|(simp[V.closed] at hc)))).den0
  ·exact himm _ _ hd
 cases v with
 | own c k =>
   cases v'<;>simp only[Wk0] at hw
   case undef=>trivial
   case sl sz rows=>exact(hfz _ _ _ hw hd).den0
   case own c' k' =>
    obtain⟨rfl,rfl,hne⟩:=hw
    have h1:=hd.shape
    have hc:=hH c'
    simp only[Den0] at hd ⊢
    cases e1:h' c' with
    | fresh=>exact hne e1
    | dead=>exact h1
    | var ty row=>exact h1
    | arr ty sz rows =>
      rw[e1] at hc
      cases e2:h (f c')<;>rw[e2] at hc hd<;>simp only[WkH] at hc
      exact hd
 | view c o k =>
   cases v'<;>simp only[Wk0] at hw
   case undef=>trivial
   case sl sz rows=>exact(hfz _ _ _ hw hd).den0
   case view c' o' k' =>
    obtain⟨rfl,rfl,rfl,hne⟩:=hw
    have h1:=hd.shape
    have hc:=hH c'
    simp only[Den0] at hd ⊢
    cases e1:h' c' with
    | fresh=>exact hne e1
    | dead=>exact h1
    | var ty row =>
      rw[e1] at hc
      cases e2:h (f c')<;>rw[e2] at hc hd<;>simp only[WkH] at hc
      exact hd
    | arr ty sz rows =>
      rw[e1] at hc
      cases e2:h (f c')<;>rw[e2] at hc hd<;>simp only[WkH] at hc
      obtain⟨rfl,rfl,rfl⟩:=hc
      exact hd
 | pv c o =>
   cases v'<;>simp only[Wk0] at hw
   case undef=>trivial
   case iptr row o'=>exact(hfz _ _ _ hw hd).den0
   case pv c' o' =>
    obtain⟨rfl,rfl,hne⟩:=hw
    have h1:=hd.shape
    have hc:=hH c'
    simp only[Den0] at hd ⊢
    cases e1:h' c' with
    | fresh=>exact hne e1
    | dead=>exact h1
    | arr ty sz row=>exact h1
    | var ty rows =>
      rw[e1] at hc
      cases e2:h (f c')<;>rw[e2] at hc hd<;>simp only[WkH] at hc
      exact hd
 | pa c i o =>
   cases v'<;>simp only[Wk0] at hw
   case undef=>trivial
   case pa c' i' o' =>
    obtain⟨rfl,rfl,rfl,hne⟩:=hw
    have h1:=hd.shape
    have hc:=hH c'
    simp only[Den0] at hd ⊢
    cases e1:h' c' with
    | fresh=>exact hne e1
    | dead=>exact h1
    | var ty row=>exact h1
    | arr ty sz rows =>
      rw[e1] at hc
      cases e2:h (f c')<;>rw[e2] at hc hd<;>simp only[WkH] at hc
      obtain⟨rfl,rfl,rfl⟩:=hc
      exact hd
 | nils =>
   cases v'<;>simp only[Wk0,reduceCtorEq] at hw
   case undef=>trivial
   case nils=>exact gen rfl (.inl rfl)
   case sl sz rows =>
    cases rows with
    | nil =>
      have:=q3w hd
      subst this
      exact Imm.esl sz none 0
    | cons r rs=>simp at hw
 | undef =>
   cases v'<;>simp only[Wk0,reduceCtorEq] at hw
   trivial
 | fn g caps =>
   cases v'<;>simp only[Wk0,reduceCtorEq] at hw
   case undef=>trivial
   case fn=>exact gen hw (.inr ⟨g,caps,rfl⟩)
 | agg fs =>
   exact absurd hd (λhd=>by cases hd)
 | tup fs =>
   exact absurd hd (λhd=>by cases hd)
 | _ =>
   by_cases hu:v'=.undef
   ·subst hu;trivial
   ·refine gen ?_ (.inl rfl)
    cases v'<;>first|exact absurd rfl hu|exact hw|(rename_i sz rows;cases rows<;>exact hw)
theorem Den1.wk (hH:∀c,WkH F f h h' (h (f c)) (h' c)) (himm:∀v u,Imm w O v u→Imm w O' v u) (hfz:∀v v' u,FzV F h v v'→Den0 w O ρ h v u→Imm w O' v' u) {v v':V} {u:Value} (hw:Wk1 F f h h' v v') (hd:Den1 w O ρ h v u):Den1 w O' (λc=>ρ (f c)) h' v' u:=by
 by_cases hf:∃g caps,v=.fn g caps
 ·obtain⟨g,caps,rfl⟩:=hf
  obtain⟨vs,rfl,hl,hd⟩:=hd
  cases v'<;>simp only[Wk1,Wk0,reduceCtorEq] at hw
  case undef=>trivial
  case fn g' caps' =>
   obtain⟨rfl,hl',hw⟩:=hw
   refine⟨vs,rfl,by omega,λj v x hv hx=>?_⟩
   have hj:j<caps.length:=by rw[←hl'];exact(List.getElem?_eq_some_iff.1 hv).1
   exact(hd j caps[j] x (zE hj) hx).wk hH himm hfz (hw j _ _ (zE hj) hv)
 ·have hw0:Wk0 F f h h' v v':=by cases v<;>first|exact hw|exact absurd ⟨_,_,rfl⟩ hf
  have hd0:Den0 w O ρ h v u:=by cases v<;>first|exact hd|exact absurd ⟨_,_,rfl⟩ hf
  have:=hd0.wk hH himm hfz hw0
  by_cases hf':∃g caps,v'=.fn g caps
  ·obtain⟨g,caps,rfl⟩:=hf'
   exfalso
   cases v<;>simp only[Wk0,reduceCtorEq] at hw0
   all_goals exact hf ⟨_,_,hw0.symm⟩
  ·cases v'<;>first|exact this|exact absurd ⟨_,_,rfl⟩ hf'
theorem Den2.wk (hH:∀c,WkH F f h h' (h (f c)) (h' c)) (himm:∀v u,Imm w O v u→Imm w O' v u) (hfz:∀v v' u,FzV F h v v'→Den0 w O ρ h v u→Imm w O' v' u) {v v':V} {u:Value} (hw:Wk2 F f h h' v v') (hd:Den2 w O ρ h v u):Den2 w O' (λc=>ρ (f c)) h' v' u:=by
 by_cases hf:∃fs,v=.agg fs
 ·obtain⟨fs,rfl⟩:=hf
  obtain⟨vs,rfl,hl,hd⟩:=hd
  cases v'<;>simp only[Wk2,Wk1,Wk0,reduceCtorEq] at hw
  case undef=>trivial
  case agg fs' =>
   obtain⟨hl',hw⟩:=hw
   refine⟨vs,rfl,by omega,λj v x hv hx=>?_⟩
   have hj:j<fs.length:=by rw[←hl'];exact(List.getElem?_eq_some_iff.1 hv).1
   exact(hd j fs[j] x (zE hj) hx).wk hH himm hfz (hw j _ _ (zE hj) hv)
 ·have hw0:Wk1 F f h h' v v':=by cases v<;>first|exact hw|exact absurd ⟨_,rfl⟩ hf
  have hd0:Den1 w O ρ h v u:=by cases v<;>first|exact hd|exact absurd ⟨_,rfl⟩ hf
  have:=hd0.wk hH himm hfz hw0
  by_cases hf':∃fs,v'=.agg fs
  ·obtain⟨fs,rfl⟩:=hf'
   exfalso
   cases this
  ·cases v'<;>first|exact this|exact absurd ⟨_,rfl⟩ hf'
theorem Den.wk (hH:∀c,WkH F f h h' (h (f c)) (h' c)) (himm:∀v u,Imm w O v u→Imm w O' v u) (hfz:∀v v' u,FzV F h v v'→Den0 w O ρ h v u→Imm w O' v' u) {v v':V} {u:Value} (hw:Wk F f h h' v v') (hd:Den w O ρ h v u):Den w O' (λc=>ρ (f c)) h' v' u:=by
 by_cases hf:∃fs,v=.tup fs
 ·obtain⟨fs,rfl⟩:=hf
  obtain⟨vs,rfl,hl,hd⟩:=hd
  cases v'<;>simp only[Wk,Wk2,Wk1,Wk0,reduceCtorEq] at hw
  case undef=>trivial
  case tup fs' =>
   obtain⟨hl',hw⟩:=hw
   refine⟨vs,rfl,by omega,λj v x hv hx=>?_⟩
   have hj:j<fs.length:=by rw[←hl'];exact(List.getElem?_eq_some_iff.1 hv).1
   exact(hd j fs[j] x (zE hj) hx).wk hH himm hfz (hw j _ _ (zE hj) hv)
 ·have hw0:Wk2 F f h h' v v':=by cases v<;>first|exact hw|exact absurd ⟨_,rfl⟩ hf
  have hd0:Den2 w O ρ h v u:=by cases v<;>first|exact hd|exact absurd ⟨_,rfl⟩ hf
  have:=hd0.wk hH himm hfz hw0
  by_cases hf':∃fs,v'=.tup fs
  ·obtain⟨fs,rfl⟩:=hf'
   exfalso
   cases this
  ·cases v'<;>first|exact this|exact absurd ⟨_,rfl⟩ hf'
theorem WkH.live {a b:Hs} (hw:WkH F f h h' a b) (hl:b.live=true):a.live=true:=by
 cases b<;>first|(cases hl;done)|(cases a<;>first|rfl|exact hw.elim)
theorem qkq {b off:Nat} {cs:Array Value} {ty:TypeId} {j:Nat} {u:Value} (hb:w.heap[b]?=some (.cells cs ty (0,0))) (hu:cs[off+j]?=some u):w.cell? ⟨b,off+j,none⟩=some u:=by
 simp only[World.cell?,hb]
 simpa using hu
theorem qq2 {B:Base} (r:RelH B ρ h w) (hno:∀c,(h c).live=true→(ρ c).nil=false→F c→¬O' (ρ c).blk)
 (himm:∀v u,Imm w (owns B ρ h) v u→Imm w O' v u):∀v v' u,FzV F h v v'→Den0 w (owns B ρ h) ρ h v u→Imm w O' v' u:=by
 intro v v' u hf hd
 have arr:∀c ty sz (all:List (List V)) (o k:Nat) rows A cap,h c=.arr ty sz all→rows=(all.drop o).take k→rows.length=k→F c→u=.slice A k cap→k≤cap →
  (0<k→o+k≤all.length∧(ρ c).nil=false∧A=some ⟨(ρ c).blk,(ρ c).off+o*sz,none⟩)→Imm w O' (.sl sz rows) u:=λc ty sz all o k rows A cap hc hrows hk hz hu hkc hp=>by
  subst hu
  cases k with
  | zero =>
    have:rows=[]:=List.eq_nil_of_length_eq_zero hk
    subst this
    exact .esl sz A cap
  | succ k =>
    obtain⟨h1,hn,rfl⟩:=hp (by omega)
    have hl:(h c).live=true:=by rw[hc];rfl
    have hch:=r.chunk c
    rw[hc] at hch
    rcases hch with⟨hch,_⟩|⟨_,cs,k2,k3,k4,k5,k6⟩
    ·rw[hn] at hch;cases hch
    have hget:∀(i:Nat) rr,rows[i]?=some rr→all[o+i]?=some rr:=λi rr hi=>by
     subst hrows
     rw[List.getElem?_take] at hi
     split at hi
     ·rwa [List.getElem?_drop] at hi
     ·cases hi
    rw[←hk]
    refine .sl sz rows (ρ c).blk ((ρ c).off+o*sz) cap (λi j=>cs.getD ((ρ c).off+((o+i)*sz+j)) undef) (hno c hl hn hz) (r.blk_lt hl hn) (by omega) (λx hx=>?_) (by omega) (λi rr j v hi hj=>?_) (λi rr j v hi hj=>?_)
    ·obtain⟨i,hi⟩:=List.getElem?_of_mem hx
     exact k5 x (List.mem_of_getElem? (hget i x hi))
    ·obtain⟨u,a1,a2⟩:=k6 _ _ j v (hget i rr hi) hj
     have e:(ρ c).off+o*sz+(i*sz+j)=(ρ c).off+((o+i)*sz+j):=by rw[Nat.add_mul];omega
     rw[e,qkq k2 a1]
     simp[Array.getD_eq_getD_getElem?,a1]
    ·obtain⟨u,a1,a2⟩:=k6 _ _ j v (hget i rr hi) hj
     have:cs.getD ((ρ c).off+((o+i)*sz+j)) undef=u:=by simp[Array.getD_eq_getD_getElem?,a1]
     rw[this]
     exact himm _ _ a2
 cases v<;>cases v'<;>simp only[FzV] at hf
 case own.sl c k sz rows =>
  obtain⟨⟨ty,hc⟩,hk,hz⟩:=hf
  simp only[Den0,hc] at hd
  have hch:=r.chunk c
  rw[hc] at hch
  refine arr c ty sz rows 0 k rows (ρ c).addr (ρ c).cap hc (by simp[←hk]) hk hz hd ?_ (λh0=>?_)
  ·rcases hch with⟨_,e,e2⟩|⟨_,cs,_,_,k4,_⟩
   ·rw[e] at hk;simp at hk;omega
   ·omega
  ·rcases hch with⟨_,e,e2⟩|⟨hn,cs,_,_,k4,_⟩
   ·rw[e] at hk;simp at hk;omega
   ·exact⟨by omega,hn,by simp[Loc.addr,hn]⟩
 case view.sl c o k sz rows =>
  obtain⟨⟨ty,all,hc,hrows⟩,hk,hz⟩:=hf
  simp only[Den0,hc] at hd
  obtain⟨A,cap,hu,hkc,hp,_⟩:=hd
  exact arr c ty sz all o k rows A cap hc hrows hk hz hu hkc hp
 case pv.iptr c o row o' =>
  obtain⟨rfl,⟨ty,hc⟩,hcl,hz⟩:=hf
  simp only[Den0,hc] at hd
  subst hd
  have hch:=r.chunk c
  rw[hc] at hch
  obtain⟨hn,cs,k2,k3,k4⟩:=hch
  have hl:(h c).live=true:=by rw[hc];rfl
  refine .iptr row _ (ρ c).blk (ρ c).off (λj=>cs.getD ((ρ c).off+j) undef) (hno c hl hn hz) (r.blk_lt hl hn) (λj v hv=>?_) (λj v hv=>?_)
  ·obtain⟨u,a1,a2,a3⟩:=k4 j v hv
   rw[qkq k2 a1]
   simp[Array.getD_eq_getD_getElem?,a1]
  ·obtain⟨u,a1,a2,a3⟩:=k4 j v hv
   have:cs.getD ((ρ c).off+j) undef=u:=by simp[Array.getD_eq_getD_getElem?,a1]
   rw[this]
   exact himm _ _ (q3n (List.all_eq_true.1 hcl v (List.mem_of_getElem? hv)) a3)
theorem RelH.ren {B:Base} (r:RelH B ρ h w) (hext:∀b,B.ext b→b<B.W.heap.size∧¬B.own b) (hH:∀c,WkH (NoN f h') f h h' (h (f c)) (h' c)) (hinj:∀x y,(h' x).live=true→(h' y).live=true→f x=f y→x=y)
 (hpin:∀i,i<B.pin→f i=i∧h' i≠.fresh) :
 RelH B (λc=>ρ (f c)) h' w∧(∀v u,Imm w (owns B ρ h) v u→Imm w (owns B (λc=>ρ (f c)) h') v u)∧(∀v v' u,FzV (NoN f h') h v v'→Den0 w (owns B ρ h) ρ h v u→Imm w (owns B (λc=>ρ (f c)) h') v' u):=by
 have himm:∀v u,Imm w (owns B ρ h) v u→Imm w (owns B (λc=>ρ (f c)) h') v u:=λv u hi=>by
  refine hi.mono (Nat.le_refl _) (λb _ _=>rfl) (λb _ ho=>?_)
  rcases ho with ho|⟨c,h1,h2,h3⟩
  ·exact .inl ho
  ·exact .inr ⟨f c,(hH c).live h1,h2,h3⟩
 have hfz:=qq2 (F:=NoN f h') (O':=owns B (λc=>ρ (f c)) h') r (λc hl hn hz ho=>by
  rcases ho with ho|⟨c',h1,h2,h3⟩
  ·obtain⟨e1,e2⟩:=hext _ ho
   rcases r.home c hl hn with k|k
   ·exact e2 k
   ·omega
  ·exact hz c' h1 (r.sep _ _ ((hH c').live h1) hl h2 hn h3)) himm
 refine⟨⟨r.os,r.tape,r.output,r.grow,r.keep,λc=>?_,λc hl hn=>r.home (f c) ((hH c).live hl) hn,λx y hx hy nx ny he=>hinj x y hx hy (r.sep _ _ ((hH x).live hx) ((hH y).live hy) nx ny he),λi hi=>?_⟩,himm,hfz⟩
 ·have hc:=r.chunk (f c)
  have hw:=hH c
  cases e1:h' c with
  | fresh=>trivial
  | dead=>trivial
  | var ty row =>
    rw[e1] at hw
    cases e2:h (f c)<;>rw[e2] at hw hc<;>simp only[WkH] at hw
    rename_i ty0 row0
    obtain⟨rfl,hl,hw⟩:=hw
    obtain⟨k1,cs,k2,k3,k4⟩:=hc
    refine⟨k1,cs,k2,by omega,λj v hv=>?_⟩
    have hj:j<row0.length:=by rw[←hl];exact(List.getElem?_eq_some_iff.1 hv).1
    obtain⟨u,a1,a2,a3⟩:=k4 j row0[j] (zE hj)
    exact⟨u,a1,a2,a3.wk hH himm hfz (hw j _ _ (zE hj) hv)⟩
  | arr ty sz rows =>
    rw[e1] at hw
    cases e2:h (f c)<;>rw[e2] at hw hc<;>simp only[WkH] at hw
    obtain⟨rfl,rfl,rfl⟩:=hw
    rcases hc with hc|⟨k1,cs,k2,k3,k4,k5,k6⟩
    ·exact .inl hc
    ·exact .inr ⟨k1,cs,k2,k3,k4,k5,λi rr j v hr hv=>let ⟨u,a1,a2⟩:=k6 i rr j v hr hv;⟨u,a1,himm _ _ a2⟩⟩
 ·obtain⟨hfi,hne⟩:=hpin i hi
  have hw:=hH i
  rw[hfi] at hw
  rcases r.pin i hi with hp|⟨hp,hq⟩
  ·rw[hp] at hw
   cases e1:h' i<;>rw[e1] at hw<;>simp only[WkH] at hw
   ·exact absurd e1 hne
   ·exact .inl rfl
  ·cases e1:h' i with
   | fresh=>exact absurd e1 hne
   | dead=>exact .inl rfl
   | var ty row=>exact .inr ⟨rfl,by simp only[hfi];exact hq⟩
   | arr ty sz rows=>exact .inr ⟨rfl,by simp only[hfi];exact hq⟩
end
structure LeR (f:Nat→Nat) (pin:Nat) (s s':St):Prop where
 t:∀d,Wk (NoN f s'.h) f s.h s'.h (s.t d) (s'.t d)
 h:∀c,WkH (NoN f s'.h) f s.h s'.h (s.h (f c)) (s'.h c)
 inj:∀x y,(s'.h x).live=true→(s'.h y).live=true→f x=f y→x=y
 pin:∀i,i<pin→f i=i∧s'.h i≠.fresh
def chH (cs:List Hs) (i:Nat):Hs:=(cs[i]?).getD .fresh
def blocks (ρ:Nat→Loc) (h:Nat→Hs) (b:Nat):Prop:=∃c,(h c).live=true∧(ρ c).nil=false∧(ρ c).blk=b
structure FnP (P:Program) (G:Glob) (f:FuncId) (pin:Nat) (cs:List Hs) (args:List V) (post:V→List Hs→Prop):Prop where
 en:entr P f=true
 ne:∃r o,post r o
 run:∀W ρ ext us,G.g W→(∀b,ext b→b<W.heap.size)→(∀b,ext b→¬blocks ρ (chH cs) b)→(∀b,blocks ρ (chH cs) b→G.ng≤b) →
  RelH ⟨W,blocks ρ (chH cs),ext,pin,ρ⟩ ρ (chH cs) W→DenArgs W (owns ⟨W,blocks ρ (chH cs),ext,pin,ρ⟩ ρ (chH cs)) ρ (chH cs) args us →
  Calls P f us.toArray W λe W'=>∃u res out ρ',e=.returned u∧post res out∧RelH ⟨W,blocks ρ (chH cs),ext,pin,ρ⟩ ρ' (chH out) W' ∧
   Den W' (owns ⟨W,blocks ρ (chH cs),ext,pin,ρ⟩ ρ' (chH out)) ρ' (chH out) res u
inductive RV where
 | t (n:Nat)
 | cell (n sz:Nat) (agg:Bool)
 deriving Inhabited
def qe8 (P:Program) (n:Nat):ResultVar→Option RV
 | .tmp k=>if k<n then some (.t k) else none
 | .cell k t=>do if k<n then some (.cell k (←q8c P t) (←qf5 P t)) else none
def rvV (st:St):RV→Option V
 | .t n=>some (st.t n)
 | .cell n sz agg=>(q3t st.h sz agg (st.t n)).map Prod.fst
def V.untup:V→Bool
 | .tup _=>false
 | _=>true
def qho:List V→Option V
 | [v]=>some v
 | vs=>if vs.all V.untup=true then some (.tup vs) else none
def qld (st:St) (rs:List RV):Option V:=(rs.mapM (rvV st)).bind qho
def q59 (rs:List RV) (pin:Nat) (post:V→List Hs→Prop):Ex→St→Prop
 | .exit _,_=>False
 | _,st=>∃v res out f,qld st rs=some v∧post res out∧Wk (NoN f (chH out)) f st.h (chH out) v res∧(∀c,WkH (NoN f (chH out)) f st.h (chH out) (st.h (f c)) (chH out c)) ∧
    (∀x y,(chH out x).live=true→(chH out y).live=true→f x=f y→x=y)∧∀i,i<pin→f i=i∧chH out i≠.fresh
def qe6:Nat→List V→List (Nat×V)
 | _,[]=>[]
 | k,v::vs=>(k,v)::qe6 (k+1) vs
theorem qca:∀(vs:List V) (k d:Nat),q0i (qe6 k vs) (k+d)=(vs[d]?).getD .undef
 | [],k,d=>rfl
 | v::vs,k,0=>by simp[qe6,q0i]
 | v::vs,k,d+1=>by
   have:=qca vs (k+1) d
   rw[show k+(d+1)=k+1+d by omega]
   simp only[qe6,q0i]
   rw[if_neg (by omega),this]
   simp
section
variable {P:Program} {G:Glob}
theorem LeR.le {f:Nat→Nat} {pin:Nat} {s s':St} (l:LeR f pin s s'):s.le G pin s':=λn B ρ a w hp hB r=>by
 obtain⟨hm,himm,hfz⟩:=r.mem.ren (λb hb=>⟨hB.lt b hb,hB.no b hb⟩) l.h l.inj (by rw[hp];exact l.pin)
 exact⟨λc=>ρ (f c),hm,r.size,r.nod,λd=>(r.tmps d).wk l.h himm hfz (l.t d)⟩
theorem qmq {B:Base} {ρ:Nat→Loc} {h:Nat→Hs} {w:World} (r:RelH B ρ h w) {p:V} {u0:Value} (hd0:Den w (owns B ρ h) ρ h p u0) {t:TypeId} {sz:Nat} {agg:Bool} (hs:q8c P t=some sz)
 (ha:qf5 P t=some agg) {v:V} {tc:List Nat} (hl:q3t h sz agg p=some (v,tc)) :
 ∃u,(do loadVar t (←asAddr u0):Sem Value).run P w=.ok u w∧Den w (owns B ρ h) ρ h v u:=by
 obtain⟨A,b,hu,hv⟩:=qai r hd0 hl
 obtain⟨i,hi,hsz⟩:=Option.map_eq_some_iff.1 hs
 obtain⟨d,hd,hagg⟩:=Option.map_eq_some_iff.1 ha
 subst hu
 cases agg with
 | true =>
   obtain⟨fs,us,rfl,hfl,hul,hr,hden⟩:=hv
   refine⟨.agg us.toArray, ?_,⟨us,rfl,by omega,hden⟩⟩
   have:=run_loadVar_mid (P:=P) w A b t us d hr hd (by cases d<;>first|rfl|(simp at hagg)) (by simp[hi,hsz,hul])
   simp only[asAddr,Sem.run_bind,this,Result.andThen_ok,Sem.run_pure]
 | false =>
   obtain⟨y',hc,hden⟩:=hv
   refine⟨y', ?_, ?_⟩
   ·have hagg':(isAgg t).run P w=.ok false w:=by
     unfold isAgg
     rw[Sem.run_bind,run_underlying hd w]
     cases d<;>simp_all
    simp[asAddr,loadVar,hagg',hc]
   ·have:v.one=true∨v=.undef:=by
     cases v<;>first|exact .inl rfl|exact .inr rfl|(cases hden;done)
    exact hden.up this
def rvS (tmps:Array Value) (x:ResultVar):Sem Value:=match x with
 | .tmp t=>pure (tmps.getD t undef)
 | .cell k t=>do loadVar t (←asAddr (tmps.getD k undef))
theorem qwv {n:Nat} {B:Base} {ρ:Nat→Loc} {st:St} {a:Act} {w:World} (r:RelR n B ρ st a w) {x:ResultVar} {y:RV} (hx:qe8 P n x=some y) {v:V} (hv:rvV st y=some v) :
 ∃u,(rvS a.tmps x).run P w=.ok u w∧Den w (owns B ρ st.h) ρ st.h v u:=by
 cases x with
 | tmp k =>
   simp only[qe8] at hx
   split at hx
   ·cases hx
    simp only[rvV,zS] at hv
    subst hv
    exact⟨_,rfl,r.tmps k⟩
   ·cases hx
 | cell k t =>
   simp only[qe8] at hx
   split at hx
   case isFalse=>cases hx
   simp only[Option.bind_eq_bind,zB,zS] at hx
   obtain⟨sz,hs,agg,ha,rfl⟩:=hx
   simp only[rvV,zM] at hv
   obtain⟨⟨v0,tc⟩,hl,rfl⟩:=hv
   exact qmq r.mem (r.tmps k) hs ha hl
theorem qk7 {n:Nat} {B:Base} {ρ:Nat→Loc} {st:St} {a:Act} {w:World} (r:RelR n B ρ st a w):∀(xs:List ResultVar) (ys:List RV) (vs:List V),xs.mapM (qe8 P n)=some ys→ys.mapM (rvV st)=some vs →
 ∃us,(xs.mapM (rvS a.tmps)).run P w=.ok us w∧us.length=vs.length∧∀(j:Nat) v u,vs[j]?=some v→us[j]?=some u→Den w (owns B ρ st.h) ρ st.h v u
 | [],ys,vs,h1,h2=>by
   simp at h1;subst h1;simp at h2;subst h2
   exact⟨[],rfl,rfl,λj v u hv=>by simp at hv⟩
 | x::xs,ys,vs,h1,h2=>by
   simp only[List.mapM_cons,Option.bind_eq_bind,zB,Option.pure_def,zS] at h1
   obtain⟨y,hy,ys',hys,rfl⟩:=h1
   simp only[List.mapM_cons,Option.bind_eq_bind,zB,Option.pure_def,zS] at h2
   obtain⟨v,hv,vs',hvs,rfl⟩:=h2
   obtain⟨u,hu,hd⟩:=qwv r hy hv
   obtain⟨us,hus,hl,hds⟩:=qk7 r xs ys' vs' hys hvs
   refine⟨u::us, ?_,by simp[hl],λj v' u' hv' hu'=>?_⟩
   ·simp only[List.mapM_cons,Sem.run_bind,hu,Result.andThen_ok,hus,Sem.run_pure]
   ·cases j with
    | zero=>simp at hv' hu';subst hv' hu';exact hd
    | succ j=>exact hds j v' u' (by simpa using hv') (by simpa using hu')
theorem qrk {n:Nat} {B:Base} {ρ:Nat→Loc} {st:St} {a:Act} {w:World} (r:RelR n B ρ st a w) {fn:Func} {rs:List RV} (hrs:fn.results.toList.mapM (qe8 P n)=some rs) {v:V} (hv:qld st rs=some v) :
 ∃u,(results fn a.tmps).run P w=.ok u w∧Den w (owns B ρ st.h) ρ st.h v u:=by
 obtain⟨vs,hm,hv⟩:=Option.bind_eq_some_iff.1 hv
 obtain⟨us,hrun,hl,hd⟩:=qk7 r _ _ _ hrs hm
 have hres:(results fn a.tmps).run P w=.ok (if h:us.toArray.size=1 then us.toArray[0] else .tuple us.toArray) w:=by
  unfold results
  rw[Array.mapM_eq_mapM_toList,map_eq_pure_bind]
  simp only[Sem.run_bind,Sem.run_pure]
  erw [hrun]
  rfl
 unfold qho at hv
 split at hv
 ·rename_i v0
  simp only[zS] at hv
  subst hv
  obtain⟨u0,rfl⟩:∃u0,us=[u0]:=by
   match us,hl with
   | [u0],_=>exact⟨u0,rfl⟩
  exact⟨_,hres,hd 0 _ _ rfl rfl⟩
 ·rename_i hne
  split at hv
  case isFalse=>cases hv
  rename_i hall
  simp only[zS] at hv
  subst hv
  have h1:¬us.toArray.size=1:=λh1=>by
   have:vs.length=1:=by rw[←hl];simpa using h1
   match vs,this with
   | [v0],_=>exact hne v0 rfl
  rw[dif_neg h1] at hres
  refine⟨_,hres,us,rfl,hl,λj v u hv hu=>?_⟩
  have h2:=hd j v u hv hu
  have h3:v.untup=true:=List.all_eq_true.1 hall v (List.mem_of_getElem? hv)
  cases v<;>first|exact h2|cases h3
end
section
variable {P:Program} {G:Glob} {N:Bool}
theorem FnP.intro {f:FuncId} {fn:Func} {c:Code} {ic:IC} {rs:List RV} {pin:Nat} {cs:List Hs} {args:List V} {post:V→List Hs→Prop}
 (hf:P.funcs[f]?=some fn) (hb:fn.body=some c) (hn:entr P f=true) (hd:qc1 N P fn.ntmps c=some ic) (hrs:fn.results.toList.mapM (qe8 P fn.ntmps)=some rs)
 (ha:args.length≤fn.ntmps) (hne:∃r o,post r o) (h:wpI P G pin ic (q59 rs pin post) ⟨q0i (qe6 0 args),chH cs⟩):FnP P G f pin cs args post where
 en:=hn
 ne:=hne
 run:=λW ρ ext us hg hlt hno hng r hargs=>by
  let B:Base:=⟨W,blocks ρ (chH cs),ext,pin,ρ⟩
  have hB:BaseOk G B:=⟨hlt,hno,hg,hng⟩
  obtain⟨hul,hden⟩:=hargs
  refine calls_of_wp hf hb ?_
  have hr0:RelR fn.ntmps B ρ ⟨q0i (qe6 0 args),chH cs⟩ { tmps:=us.toArray++Array.replicate (fn.ntmps - us.toArray.size) undef,defers:=[] } W:=by
   refine⟨r,by simp;omega,rfl,λd=>?_⟩
   have hget:q0i (qe6 0 args) d=(args[d]?).getD .undef:=by simpa using qca args 0 d
   show Den W _ ρ (chH cs) (q0i (qe6 0 args) d) _
   rw[hget]
   cases hv:args[d]? with
   | none=>trivial
   | some v =>
     have hd:d<args.length:=(List.getElem?_eq_some_iff.1 hv).1
     have hdu:d<us.length:=by omega
     have:(us.toArray++Array.replicate (fn.ntmps - us.toArray.size) undef).getD d undef=us[d]:=by
      simp[Array.getD,hdu,Array.getElem_append_left]
      omega
     show Den W _ ρ (chH cs) v ((us.toArray++Array.replicate (fn.ntmps - us.toArray.size) undef).getD d undef)
     rw[this]
     exact hden d v us[d] hv (zE hdu)
  refine wp_mono (qi1 (B:=B) (pin:=pin) rfl hB c ic hd _ ρ _ _ W hr0 h) λe a w hq=>?_
  obtain⟨e',he,st,ρ',r',hq⟩:=hq
  have key:(∃v res out f,qld st rs=some v∧post res out∧Wk (NoN f (chH out)) f st.h (chH out) v res∧(∀c,WkH (NoN f (chH out)) f st.h (chH out) (st.h (f c)) (chH out c)) ∧
   (∀x y,(chH out x).live=true→(chH out y).live=true→f x=f y→x=y)∧∀i,i<pin→f i=i∧chH out i≠.fresh)→a.defers=[]∧∃v,(results fn a.tmps).run P w=.ok v w ∧
     ∃u res out ρ',Ending.returned v=.returned u∧post res out∧RelH B ρ' (chH out) w∧Den w (owns B ρ' (chH out)) ρ' (chH out) res u:=λhq=>by
   obtain⟨v,res,out,g,hv,hp,hw,hH,hinj,hpin⟩:=hq
   obtain⟨u,hu,hdn⟩:=qrk r' hrs hv
   obtain⟨hm,himm,hfz⟩:=r'.mem.ren (λb hb=>⟨hB.lt b hb,hB.no b hb⟩) hH hinj hpin
   exact⟨r'.nod,u,hu,u,res,out,λc=>ρ' (g c),rfl,hp,hm,hdn.wk hH himm hfz hw⟩
  cases e<;>cases e'<;>simp only[exM] at he
  ·exact key hq
  ·exact hq.elim
  ·exact key hq
end
def digF (P:Program) (fn:Func) (N:Bool:=false):Option (IC×List RV) :=
 fn.body.bind λc=>(qc1 N P fn.ntmps c).bind λic=>(fn.results.toList.mapM (qe8 P fn.ntmps)).bind λrs=>some (ic,rs)
section
variable {P:Program} {G:Glob} {N:Bool}
theorem FnP.mk' {f:FuncId} {fn:Func} {ic:IC} {rs:List RV} {pin:Nat} {cs:List Hs} {args:List V} {post:V→List Hs→Prop}
 (hf:P.funcs[f]?=some fn) (hn:entr P f=true) (hd:digF P fn N=some (ic,rs)) {n:Nat} (hnt:fn.ntmps=n)
 (ha:args.length≤n) (hne:∃r o,post r o) (h:wpI P G pin ic (q59 rs pin post) ⟨q0i (qe6 0 args),chH cs⟩):FnP P G f pin cs args post:=by
 obtain⟨c,hb,hd⟩:=Option.bind_eq_some_iff.1 hd
 obtain⟨ic',hc,hd⟩:=Option.bind_eq_some_iff.1 hd
 obtain⟨rs',hr,hd⟩:=Option.bind_eq_some_iff.1 hd
 simp only[zS,Prod.mk.injEq] at hd
 obtain⟨rfl,rfl⟩:=hd
 exact FnP.intro hf hb hn hc hr (by rw[hnt];exact ha) hne h
end
def V.rn0 (g:Nat→Nat):V→V
 | .own c n=>.own (g c) n
 | .view c o n=>.view (g c) o n
 | .pv c o=>.pv (g c) o
 | .pa c i o=>.pa (g c) i o
 | v=>v
def V.rn1 (g:Nat→Nat):V→V
 | .fn f caps=>.fn f (caps.map (V.rn0 g))
 | v=>v.rn0 g
def V.rn2 (g:Nat→Nat):V→V
 | .agg fs=>.agg (fs.map (V.rn1 g))
 | v=>v.rn1 g
def V.rn (g:Nat→Nat):V→V
 | .tup fs=>.tup (fs.map (V.rn2 g))
 | v=>v.rn2 g
def Hs.rn (g:Nat→Nat):Hs→Hs
 | .var ty row=>.var ty (row.map (V.rn1 g))
 | s=>s
def V.plain0:V→Bool
 | .sl _ (_::_)|.iptr ..|.fn ..=>false
 | _=>true
def V.plain1:V→Bool
 | .fn _ caps=>caps.all V.plain0
 | v=>v.plain0
def V.plain2:V→Bool
 | .agg fs=>fs.all V.plain1
 | v=>v.plain1
def V.plain:V→Bool
 | .tup fs=>fs.all V.plain2
 | v=>v.plain2
def Hs.plain:Hs→Bool
 | .var _ row=>row.all V.plain1
 | .arr _ _ rows=>rows.all λr=>r.all V.plain0
 | _=>true
theorem Imm.plain {w:World} {O O':Nat→Prop} {v:V} {u:Value} (hp:v.plain0=true) (h:Imm w O v u):Imm w O' v u:=by
 cases h with
 | int k n=>exact .int k n
 | bool b=>exact .bool b
 | str s=>exact .str s
 | nils=>exact .nils
 | nilp=>exact .nilp
 | nile=>exact .nile
 | erre t v=>exact .erre t v
 | raw _ h=>exact .raw _ h
 | esl sz A cap=>exact .esl sz A cap
 | sl sz rows blk off cap cs h1 h2 h3 =>
   cases rows with
   | nil=>simp at h3
   | cons r rs=>simp[V.plain0] at hp
 | iptr=>simp[V.plain0] at hp
 | fn=>simp[V.plain0] at hp
section
variable {w:World} {O1 O2:Nat→Prop} {ρ1 ρ2:Nat→Loc} {a h2:Nat→Hs} {g:Nat→Nat} {k:Bool}
theorem q7d (s:Hs):(s.rn g).live=s.live:=by cases s<;>rfl
theorem Den0.rn (hN:∀c,a c≠.fresh→h2 (g c)=(a c).rn g∧((a c).live=true→ρ2 (g c)=ρ1 c)) (himm:∀v u,(k=true∨v.plain0=true)→Imm w O1 v u→Imm w O2 v u) {v:V} {u:Value}
 (hp:k=true∨v.plain0=true) (hd:Den0 w O1 ρ1 a v u):Den0 w O2 ρ2 h2 (v.rn0 g) u:=by
 cases v with
 | undef=>trivial
 | own c n =>
   have h1:=hd.shape
   simp only[Den0,V.rn0] at hd ⊢
   cases hc:a c<;>rw[hc] at hd<;>simp only at hd
   all_goals obtain⟨e1,e2⟩:=hN c (by rw[hc];simp);rw[e1,hc];simp only[Hs.rn]
   ·exact hd
   ·exact hd
   ·rw[e2 (by rw[hc];rfl)];exact hd
 | view c o n =>
   simp only[Den0,V.rn0] at hd ⊢
   cases hc:a c<;>rw[hc] at hd<;>simp only at hd
   all_goals obtain⟨e1,e2⟩:=hN c (by rw[hc];simp);rw[e1,hc];simp only[Hs.rn]
   ·exact hd
   ·rw[e2 (by rw[hc];rfl)];exact hd
   ·rw[e2 (by rw[hc];rfl)];exact hd
 | pv c o =>
   simp only[Den0,V.rn0] at hd ⊢
   cases hc:a c<;>rw[hc] at hd<;>simp only at hd
   all_goals obtain⟨e1,e2⟩:=hN c (by rw[hc];simp);rw[e1,hc];simp only[Hs.rn]
   ·exact hd
   ·rw[e2 (by rw[hc];rfl)];exact hd
   ·exact hd
 | pa c i o =>
   simp only[Den0,V.rn0] at hd ⊢
   cases hc:a c<;>rw[hc] at hd<;>simp only at hd
   all_goals obtain⟨e1,e2⟩:=hN c (by rw[hc];simp);rw[e1,hc];simp only[Hs.rn]
   ·exact hd
   ·exact hd
   ·rw[e2 (by rw[hc];rfl)];exact hd
 | _=>exact himm _ _ hp hd
theorem Den1.rn (hN:∀c,a c≠.fresh→h2 (g c)=(a c).rn g∧((a c).live=true→ρ2 (g c)=ρ1 c)) (himm:∀v u,(k=true∨v.plain0=true)→Imm w O1 v u→Imm w O2 v u) {v:V} {u:Value}
 (hp:k=true∨v.plain1=true) (hd:Den1 w O1 ρ1 a v u):Den1 w O2 ρ2 h2 (v.rn1 g) u:=by
 cases v with
 | fn f caps =>
   obtain⟨vs,h1,h2,h3⟩:=hd
   refine⟨vs,h1,by simp[h2],λj v x hv hx=>?_⟩
   rw[List.getElem?_map] at hv
   obtain⟨v0,hv0,rfl⟩:=Option.map_eq_some_iff.1 hv
   exact(h3 j v0 x hv0 hx).rn hN himm (hp.imp id λh=>List.all_eq_true.1 h v0 (List.mem_of_getElem? hv0))
 | own c n=>exact Den0.rn (v:=.own c n) hN himm hp hd
 | view c o n=>exact Den0.rn (v:=.view c o n) hN himm hp hd
 | pv c o=>exact Den0.rn (v:=.pv c o) hN himm hp hd
 | pa c i o=>exact Den0.rn (v:=.pa c i o) hN himm hp hd
 | undef=>trivial
 | _=>exact himm _ _ hp hd
theorem Den2.rn (hN:∀c,a c≠.fresh→h2 (g c)=(a c).rn g∧((a c).live=true→ρ2 (g c)=ρ1 c)) (himm:∀v u,(k=true∨v.plain0=true)→Imm w O1 v u→Imm w O2 v u) {v:V} {u:Value}
 (hp:k=true∨v.plain2=true) (hd:Den2 w O1 ρ1 a v u):Den2 w O2 ρ2 h2 (v.rn2 g) u:=by
 cases v with
 | agg fs =>
   obtain⟨vs,h1,h2,h3⟩:=hd
   refine⟨vs,h1,by simp[h2],λj v x hv hx=>?_⟩
   rw[List.getElem?_map] at hv
   obtain⟨v0,hv0,rfl⟩:=Option.map_eq_some_iff.1 hv
   exact(h3 j v0 x hv0 hx).rn hN himm (hp.imp id λh=>List.all_eq_true.1 h v0 (List.mem_of_getElem? hv0))
 | tup fs=>exact absurd hd (λhd=>by cases hd)
 | fn f caps=>exact Den1.rn (v:=.fn f caps) hN himm hp hd
 | own c n=>exact Den1.rn (v:=.own c n) hN himm hp hd
 | view c o n=>exact Den1.rn (v:=.view c o n) hN himm hp hd
 | pv c o=>exact Den1.rn (v:=.pv c o) hN himm hp hd
 | pa c i o=>exact Den1.rn (v:=.pa c i o) hN himm hp hd
 | undef=>trivial
 | _=>exact himm _ _ hp hd
theorem Den.rn (hN:∀c,a c≠.fresh→h2 (g c)=(a c).rn g∧((a c).live=true→ρ2 (g c)=ρ1 c)) (himm:∀v u,(k=true∨v.plain0=true)→Imm w O1 v u→Imm w O2 v u) {v:V} {u:Value}
 (hp:k=true∨v.plain=true) (hd:Den w O1 ρ1 a v u):Den w O2 ρ2 h2 (v.rn g) u:=by
 cases v with
 | tup fs =>
   obtain⟨vs,h1,h2,h3⟩:=hd
   refine⟨vs,h1,by simp[h2],λj v x hv hx=>?_⟩
   rw[List.getElem?_map] at hv
   obtain⟨v0,hv0,rfl⟩:=Option.map_eq_some_iff.1 hv
   exact(h3 j v0 x hv0 hx).rn hN himm (hp.imp id λh=>List.all_eq_true.1 h v0 (List.mem_of_getElem? hv0))
 | agg fs=>exact Den2.rn (v:=.agg fs) hN himm hp hd
 | fn f caps=>exact Den2.rn (v:=.fn f caps) hN himm hp hd
 | own c n=>exact Den2.rn (v:=.own c n) hN himm hp hd
 | view c o n=>exact Den2.rn (v:=.view c o n) hN himm hp hd
 | pv c o=>exact Den2.rn (v:=.pv c o) hN himm hp hd
 | pa c i o=>exact Den2.rn (v:=.pa c i o) hN himm hp hd
 | undef=>trivial
 | _=>exact himm _ _ hp hd
theorem OwnC.rn (hN:∀c,a c≠.fresh→h2 (g c)=(a c).rn g∧((a c).live=true→ρ2 (g c)=ρ1 c)) (himm:∀v u,(k=true∨v.plain0=true)→Imm w O1 v u→Imm w O2 v u) {s:Hs} {l:Loc}
 (hp:k=true∨s.plain=true) (hd:OwnC w O1 ρ1 a l s):OwnC w O2 ρ2 h2 l (s.rn g):=by
 cases s with
 | var ty row =>
   obtain⟨h1,cs,h2',h3,h4⟩:=hd
   refine⟨h1,cs,h2',by simpa using h3,λj v hv=>?_⟩
   rw[List.getElem?_map] at hv
   obtain⟨v0,hv0,rfl⟩:=Option.map_eq_some_iff.1 hv
   obtain⟨u,b1,b2,b3⟩:=h4 j v0 hv0
   exact⟨u,b1,b2,b3.rn hN himm (hp.imp id λh=>List.all_eq_true.1 h v0 (List.mem_of_getElem? hv0))⟩
 | arr ty sz rows =>
   rcases hd with hd|⟨h1,cs,h2',h3,h4,h5,h6⟩
   ·exact .inl hd
   ·refine .inr ⟨h1,cs,h2',h3,h4,h5,λi r j v hr hv=>?_⟩
    obtain⟨u,b1,b3⟩:=h6 i r j v hr hv
    refine⟨u,b1,himm _ _ (hp.imp id λh=>?_) b3⟩
    exact List.all_eq_true.1 (List.all_eq_true.1 h r (List.mem_of_getElem? hr)) v (List.mem_of_getElem? hv)
 | _=>trivial
end
def nsF (ns:List Nat) (i:Nat):Nat:=(ns[i]?).getD 0
def qgq (d i:Nat):Nat:=100000+100*d+i
def bk (ns:List Nat) (pin d i:Nat):Nat:=if i<pin then nsF ns i else qgq d i
def qan (g:Nat→Nat):Nat→List Hs→List (Nat×Hs)
 | _,[]=>[]
 | i,s::out=>(g i,s.rn g)::qan g (i+1) out
def q4y (l:List Nat):List (Nat×Hs):=l.map λc=>(c,Hs.dead)
def q09:Hs→Hs→Bool
 | .fresh,_=>false
 | _,.dead=>true
 | .var _ _,.var _ _=>true
 | .arr ty sz r,.arr ty' sz' r'=>decide (ty'=ty∧sz'=sz∧r.length≤r'.length)
 | _,_=>false
theorem qpy {g:Nat→Nat} {h:Nat→Hs} {D:List (Nat×Hs)}:∀(out:List Hs) (k:Nat),(∀i j,i<out.length→j<out.length→g (k+i)=g (k+j)→i=j) →
 ∀i s,out[i]?=some s→upH h (qan g k out++D) (g (k+i))=s.rn g
 | [],k,_,i,s,hi=>by simp at hi
 | s0::out,k,hinj,0,s,hi=>by
   simp only[List.getElem?_cons_zero,zS] at hi
   subst hi
   simp[qan,upH]
 | s0::out,k,hinj,i+1,s,hi=>by
   have hi':out[i]?=some s:=by simpa using hi
   have hl:i<out.length:=(List.getElem?_eq_some_iff.1 hi').1
   have hne:g (k+(i+1))≠g k:=λe=>by
    have:=hinj (i+1) 0 (by simp;omega) (by simp) (by simpa using e)
    omega
   simp only[qan,List.cons_append,upH]
   rw[if_neg hne]
   have:=qpy (g:=g) (h:=h) (D:=D) out (k+1) (λx y hx hy e=>by
    have:=hinj (x+1) (y+1) (by simp;omega) (by simp;omega) (by rw[show k+(x+1)=k+1+x by omega,show k+(y+1)=k+1+y by omega];exact e)
    omega) i s hi'
   rw[show k+(i+1)=k+1+i by omega]
   exact this
theorem qio {g:Nat→Nat} {h:Nat→Hs} {D:List (Nat×Hs)} {x:Nat}:∀(out:List Hs) (k:Nat),(∀i,i<out.length→g (k+i)≠x)→upH h (qan g k out++D) x=upH h D x
 | [],k,_=>rfl
 | s0::out,k,hne=>by
   simp only[qan,List.cons_append,upH]
   rw[if_neg (λe=>hne 0 (by simp) (by simpa using e.symm))]
   exact qio out (k+1) λi hi e=>hne (i+1) (by simp;omega) (by rw[show k+(i+1)=k+1+i by omega];exact e)
theorem qdu {h:Nat→Hs} {x:Nat}:∀(l:List Nat),(x∈l→upH h (q4y l) x=.dead)∧(x∉l→upH h (q4y l) x=h x)
 | []=>⟨(λhx=>by cases hx),λ_=>rfl⟩
 | c::l=>by
   obtain⟨h1,h2⟩:=qdu (h:=h) (x:=x) l
   simp only[q4y,List.map_cons,upH]
   by_cases hc:x=c
   ·rw[if_pos hc];exact⟨λ_=>rfl,λhn=>absurd (by rw[hc];simp) hn⟩
   ·rw[if_neg hc]
    exact⟨λhx=>h1 (by simpa[hc] using hx),λhx=>h2 (by simpa[hc] using hx)⟩
theorem OwnC.wk {w:World} {O O':Nat→Prop} {ρ:Nat→Loc} {h h':Nat→Hs} {f:Nat→Nat} {F:Nat→Prop} (hH:∀c,WkH F f h h' (h (f c)) (h' c)) (himm:∀v u,Imm w O v u→Imm w O' v u)
 (hfz:∀v v' u,FzV F h v v'→Den0 w O ρ h v u→Imm w O' v' u) {l:Loc} {s s':Hs} (hw:WkH F f h h' s s') (hd:OwnC w O ρ h l s):OwnC w O' (λc=>ρ (f c)) h' l s':=by
 cases s' with
 | fresh=>trivial
 | dead=>trivial
 | var ty row =>
   cases s<;>simp only[WkH] at hw
   rename_i ty0 row0
   obtain⟨rfl,hl,hw⟩:=hw
   obtain⟨k1,cs,k2,k3,k4⟩:=hd
   refine⟨k1,cs,k2,by omega,λj v hv=>?_⟩
   have hj:j<row0.length:=by rw[←hl];exact(List.getElem?_eq_some_iff.1 hv).1
   obtain⟨u,a1,a2,a3⟩:=k4 j row0[j] (zE hj)
   exact⟨u,a1,a2,a3.wk hH himm hfz (hw j _ _ (zE hj) hv)⟩
 | arr ty sz rows =>
   cases s<;>simp only[WkH] at hw
   obtain⟨rfl,rfl,rfl⟩:=hw
   rcases hd with hd|⟨k1,cs,k2,k3,k4,k5,k6⟩
   ·exact .inl hd
   ·exact .inr ⟨k1,cs,k2,k3,k4,k5,λi rr j v hr hv=>let ⟨u,a1,a2⟩:=k6 i rr j v hr hv;⟨u,a1,himm _ _ a2⟩⟩
def q1x (ns lent:List Nat) (d m:Nat):List Nat:=ns++lent++(List.range m).map (qgq d)
def qbo (ns lent:List Nat) (kp:Bool) (pin d:Nat) (post:V→List Hs→Prop) (v:V) (up:List (Nat×Hs)):Prop :=
 ∃res out,post res out∧v=res.rn (bk ns pin d)∧up=qan (bk ns pin d) 0 out++q4y (ns.drop pin++bif kp then lent else [])
theorem qew {g:Nat→Nat}:∀(out:List Hs) (k:Nat) x,x∈qan g k out→∃i,i<out.length∧x.1=g (k+i)
 | [],k,x,h=>by cases h
 | s::out,k,x,h=>by
   rcases List.mem_cons.1 h with rfl|h
   ·exact⟨0,by simp,rfl⟩
   ·obtain⟨i,hi,e⟩:=qew out (k+1) x h
    exact⟨i+1,by simp;omega,by rw[e];congr 1;omega⟩
theorem qau {ns:List Nat} {i:Nat} (h:i<ns.length):nsF ns i∈ns:=by
 simp[nsF,zE h]
theorem ql6 {ns:List Nat} (hn:ns.Nodup) {i j:Nat} (hi:i<ns.length) (hj:j<ns.length) (h:nsF ns i=nsF ns j):i=j:=by
 simp only[nsF,zE hi,zE hj,Option.getD_some] at h
 exact(List.getElem_inj hn).1 h
theorem qf4 {cs:List Hs} {i:Nat} (h:(chH cs i)≠.fresh):∃s,cs[i]?=some s∧chH cs i=s:=by
 cases hc:cs[i]? with
 | none=>exact absurd (by simp[chH,hc]) h
 | some s=>exact⟨s,rfl,by simp[chH,hc]⟩
theorem qrq {F:Nat→Prop} {f g:Nat→Nat} {h h':Nat→Hs} {a b s:Hs} {l:Loc} (hw:WkH F f h h' a b) (hb:b.live=true) (hs:q09 b s=true):HStep l a l (s.rn g):=by
 cases b<;>simp only[Hs.live,Bool.false_eq_true] at hb
 case var ty row =>
  cases a<;>simp only[WkH] at hw
  cases s<;>simp only[q09,Bool.false_eq_true] at hs
  ·exact .inr (.inl ⟨by simp,rfl⟩)
  ·exact .inr (.inr ⟨rfl,.inr (.inl ⟨_,_,_,_,rfl,rfl⟩)⟩)
 case arr ty sz rows =>
  cases a<;>simp only[WkH] at hw
  obtain⟨rfl,rfl,rfl⟩:=hw
  cases s<;>simp only[q09,Bool.false_eq_true,decide_eq_true_eq] at hs
  ·exact .inr (.inl ⟨by simp,rfl⟩)
  ·obtain⟨rfl,rfl,hs⟩:=hs
   exact .inr (.inr ⟨rfl,.inr (.inr ⟨_,_,_,_,rfl,rfl,hs⟩)⟩)
theorem q2m {s:Hs} (h:s.live=true):s≠.fresh:=by rintro rfl;cases h
section
variable {P:Program} {G:Glob}
theorem qsa {f:FuncId} {pin:Nat} {cs:List Hs} {args:List V} {postf:V→List Hs→Prop} (F:FnP P G f pin cs args postf) {vs:List V} {h:Nat→Hs} {ns lent:List Nat} {kp:Bool} {d m:Nat}
 (hpin:pin≤ns.length) (hns:ns.length=cs.length) (hnd:ns.Nodup) (hva:vs.length=args.length)
 (hw:∀h',(∀c,c∈q1x ns lent d m→h' c=h c)→∀(j:Nat) v v',vs[j]?=some v→args[j]?=some v'→Wk (λc=>c∈lent) (nsF ns) h' (chH cs) v v')
 (hc:∀h',(∀c,c∈q1x ns lent d m→h' c=h c)→∀(i:Nat) s,cs[i]?=some s→(s.live=true∨(s=.dead∧pin≤i))∧WkH (λc=>c∈lent) (nsF ns) h' (chH cs) (h' (nsF ns i)) s)
 (hl:∀c,c∈lent→(h c).live=true∧c∉ns)
 (ho:∀res out,postf res out→pin≤out.length∧out.length≤m∧(kp=true∨(res.plain=true∧∀s,s∈out→s.plain=true))∧∀i,i<pin→q09 (chH cs i) (chH out i)=true)
 (hf:∀i,i<m→h (qgq d i)=.fresh) :
 CallS P G f vs h (qbo ns lent kp pin d postf) (q1x ns lent d m) (q1x ns (bif kp then lent else []) d m) where
 en:=F.en
 ne:=let ⟨r,o,hp⟩:=F.ne;⟨_,_,r,o,hp,rfl,rfl⟩
 wri:=λv up ⟨res,out,hp,_,hu⟩ x hx=>by
  subst hu
  obtain⟨h1,h2,_⟩:=ho res out hp
  simp only[q1x,List.mem_append,List.mem_map,List.mem_range]
  rcases List.mem_append.1 hx with hx|hx
  ·obtain⟨i,hi,e⟩:=qew out 0 x hx
   rw[e]
   simp only[zZ,bk]
   split
   ·exact .inl (.inl (qau (by omega)))
   ·exact .inr ⟨i,by omega,rfl⟩
  ·simp only[q4y,List.mem_map,List.mem_append] at hx
   obtain⟨c,hc,rfl⟩:=hx
   rcases hc with hc|hc
   ·exact .inl (.inl (List.mem_of_mem_drop hc))
   ·exact .inl (.inr hc)
 sub:=λc hc=>by
  simp only[q1x,List.mem_append] at hc ⊢
  rcases hc with(hc|hc)|hc
  ·exact .inl (.inl hc)
  ·cases kp
   ·cases hc
   ·exact .inl (.inr hc)
  ·exact .inr hc
 run:=λh' hh B ρ w us hB r hargs=>by
  have hw:=hw h' hh
  have hc:=hc h' hh
  have hl:∀c,c∈lent→(h' c).live=true∧c∉ns:=λc hc=>by
   rw[hh c (by simp[q1x,hc])];exact hl c hc
  have hf:∀i,i<m→h' (qgq d i)=.fresh:=λi hi=>by
   rw[hh _ (by simp only[q1x,List.mem_append,List.mem_map,List.mem_range];exact .inr ⟨i,hi,rfl⟩)];exact hf i hi
  have hH:∀c,WkH (λc=>c∈lent) (nsF ns) h' (chH cs) (h' (nsF ns c)) (chH cs c):=λc=>by
   cases hcc:cs[c]? with
   | none=>simp only[chH,hcc,Option.getD_none];cases h' (nsF ns c)<;>trivial
   | some s=>simpa only[chH,hcc,Option.getD_some] using(hc c s hcc).2
  have hlive:∀i,(chH cs i).live=true→(h' (nsF ns i)).live=true:=λi hi=>WkH.live (hH i) hi
  have hplive:∀i,i<pin→(chH cs i).live=true:=λi hi=>by
   have hi':i<cs.length:=by omega
   rcases(hc i cs[i] (zE hi')).1 with h1|⟨_,h1⟩
   ·simpa[chH,zE hi'] using h1
   ·omega
  have hnf:∀i,i<ns.length→h' (nsF ns i)≠.fresh:=λi hi=>by
   have hi':i<cs.length:=by omega
   obtain⟨h1,h2⟩:=hc i cs[i] (zE hi')
   rcases h1 with h1|⟨h1,_⟩
   ·exact q2m (WkH.live h2 h1)
   ·rw[h1] at h2
    intro e
    rw[e] at h2
    exact absurd rfl h2
  have hlc:∀i,(chH cs i).live=true→i<ns.length:=λi hi=>by
   obtain⟨s,hs,_⟩:=qf4 (cs:=cs) (i:=i) (λe=>by rw[e] at hi;cases hi)
   rw[hns];exact(List.getElem?_eq_some_iff.1 hs).1
  let ρc:Nat→Loc:=λi=>ρ (nsF ns i)
  have hA:∀b,blocks ρc (chH cs) b→∃i,(i<ns.length∧(chH cs i).live=true)∧(ρ (nsF ns i)).nil=false∧(ρ (nsF ns i)).blk=b:=λb ⟨i,h1,h2,h3⟩=>⟨i,⟨hlc i h1,h1⟩,h2,h3⟩
  let ext:Nat→Prop:=λb=>(B.ext b∨∃c,c∉lent∧(h' c).live=true∧(ρ c).nil=false∧(ρ c).blk=b)∧¬blocks ρc (chH cs) b
  let Bc:Base:=⟨w,blocks ρc (chH cs),ext,pin,ρc⟩
  have hext:∀b,ext b→b<w.heap.size:=λb hb=>by
   rcases hb.1 with hb|⟨c,_,h2,h3,h4⟩
   ·exact r.ext_lt hB b hb
   ·rw[←h4];exact r.blk_lt h2 h3
  have hOc:∀b,owns Bc ρc (chH cs) b→owns B ρ h' b:=λb hb=>by
   rcases hb with hb|hb
   ·rcases hb.1 with hb|⟨c,_,h2⟩
    ·exact .inl hb
    ·exact .inr ⟨c,h2⟩
   ·obtain⟨i,h1,h2,h3⟩:=hA b hb
    exact .inr ⟨nsF ns i,hlive i h1.2,h2,h3⟩
  have himm:∀v u,Imm w (owns B ρ h') v u→Imm w (owns Bc ρc (chH cs)) v u:=λv u hi=>hi.mono (Nat.le_refl _) (λb _ _=>rfl) (λb _ ho=>hOc b ho)
  have hno:∀c,(h' c).live=true→(ρ c).nil=false→c∈lent→¬owns Bc ρc (chH cs) (ρ c).blk:=λc h1 h2 h3 ho=>by
   rcases ho with ho|ho
   ·rcases ho.1 with ho|⟨c',k1,k2,k3,k4⟩
    ·rcases r.home c h1 h2 with k|k
     ·exact hB.no _ ho k
     ·have:=hB.lt _ ho;omega
    ·exact k1 ((r.sep c' c k2 h1 k3 h2 k4).symm▸h3)
   ·obtain⟨i,k1,k2,k3⟩:=hA _ ho
    have:=r.sep _ _ (hlive i k1.2) h1 k2 h2 k3
    exact(hl c h3).2 (this▸qau k1.1)
  have hfz:=qq2 (F:=λc=>c∈lent) (O':=owns Bc ρc (chH cs)) r hno himm
  have hng:∀c,(h' c).live=true→(ρ c).nil=false→G.ng≤(ρ c).blk:=λc h1 h2=>by
   rcases r.home c h1 h2 with k|k
   ·exact hB.ng _ k
   ·exact Nat.le_trans (G.there _ hB.g) k
  have rc:RelH Bc ρc (chH cs) w:=by
   refine⟨rfl,rfl,rfl,Nat.le_refl _,λb _ _=>rfl,λi=>?_,λi h1 h2=>.inl ⟨i,h1,h2,rfl⟩,λi j h1 h2 h3 h4 h5=>?_,λi hi=>.inr ⟨?_,rfl⟩⟩
   ·exact(r.chunk (nsF ns i)).wk hH himm hfz (hH i)
   ·exact ql6 hnd (hlc i h1) (hlc j h2) (r.sep _ _ (hlive i h1) (hlive j h2) h3 h4 h5)
   ·exact hplive i hi
  have hda:DenArgs w (owns Bc ρc (chH cs)) ρc (chH cs) args us:=by
   obtain⟨h1,h2⟩:=hargs
   refine⟨by omega,λj v' u hv' hu=>?_⟩
   have hj:j<vs.length:=by rw[hva];exact(List.getElem?_eq_some_iff.1 hv').1
   have hv:=zE hj
   exact(h2 j _ u hv hu).wk hH himm hfz (hw j _ v' hv hv')
  refine(F.run w ρc ext us (hB.now r) hext (λb hb=>hb.2) (λb hb=>?_) rc hda).mono λe w' he=>?_
  ·obtain⟨i,h1,h2,h3⟩:=hA b hb
   rw[←h3];exact hng _ (hlive i h1.2) h2
  obtain⟨u,res,out,ρ',rfl,hp,r',hd'⟩:=he
  obtain⟨o1,o2,o3,o4⟩:=ho res out hp
  have hgp:∀i,i<pin→bk ns pin d i=nsF ns i:=λi hi=>by simp[bk,hi]
  have hgn:∀i,¬i<pin→bk ns pin d i=qgq d i:=λi hi=>by simp[bk,hi]
  generalize hgg:bk ns pin d=g at hgp hgn
  have hginj:∀i j,i<out.length→j<out.length→g i=g j→i=j:=λi j hi hj e=>by
   by_cases h1:i<pin<;>by_cases h2:j<pin
   ·rw[hgp i h1,hgp j h2] at e;exact ql6 hnd (by omega) (by omega) e
   ·rw[hgp i h1,hgn j h2] at e
    have:=hlive i (hplive i h1);rw[e,hf j (by omega)] at this;cases this
   ·rw[hgn i h1,hgp j h2] at e
    have:=hlive j (hplive j h2);rw[←e,hf i (by omega)] at this;cases this
   ·rw[hgn i h1,hgn j h2] at e;simp only[qgq] at e;omega
  generalize hD:(ns.drop pin++bif kp then lent else [])=D
  have hDl:∀x,x∈D→h' x≠.fresh:=λx hx=>by
   rw[←hD] at hx
   rcases List.mem_append.1 hx with hx|hx
   ·obtain⟨i,hi⟩:=List.getElem?_of_mem (List.mem_of_mem_drop hx)
    have hil:=(List.getElem?_eq_some_iff.1 hi).1
    have:=hnf i hil
    simpa[nsF,hi] using this
   ·cases kp
    ·cases hx
    ·exact q2m (hl x hx).1
  have hhit:∀i s,out[i]?=some s→upH h' (qan g 0 out++q4y D) (g i)=s.rn g:=λi s hs=>by
   have:=qpy (g:=g) (h:=h') (D:=q4y D) out 0 (by simpa using hginj) i s hs
   simpa using this
  have hmiss:∀x,(∀i,i<out.length→g i≠x)→upH h' (qan g 0 out++q4y D) x=upH h' (q4y D) x:=λx hx=>qio out 0 (by simpa using hx)
  generalize hup:qan g 0 out++q4y D=up at hhit hmiss
  classical
  let ρ2:Nat→Loc:=λx=>if hx:∃i,i<out.length∧g i=x then ρ' hx.choose else ρ x
  have hρ1:∀i,i<out.length→ρ2 (g i)=ρ' i:=λi hi=>by
   have hx:∃j,j<out.length∧g j=g i:=⟨i,hi,rfl⟩
   show(if hx:∃j,j<out.length∧g j=g i then ρ' hx.choose else ρ (g i))=ρ' i
   rw[dif_pos hx]
   rw[hginj _ _ hx.choose_spec.1 hi hx.choose_spec.2]
  have hρ2:∀x,(∀i,i<out.length→g i≠x)→ρ2 x=ρ x:=λx hx=>by
   show(if hx:∃j,j<out.length∧g j=x then ρ' hx.choose else ρ x)=ρ x
   rw[dif_neg (λ⟨i,h1,h2⟩=>hx i h1 h2)]
  have hcase:∀x,(∃i s,i<out.length∧g i=x∧out[i]?=some s∧chH out i=s∧upH h' up x=s.rn g∧ρ2 x=ρ' i) ∨
   ((∀i,i<out.length→g i≠x)∧ρ2 x=ρ x∧((x∈D∧upH h' up x=.dead)∨(x∉D∧upH h' up x=h' x))):=λx=>by
   by_cases hx:∃i,i<out.length∧g i=x
   ·obtain⟨i,hi,rfl⟩:=hx
    have hs:=zE hi
    exact .inl ⟨i,out[i],hi,rfl,hs,by simp[chH,hs],hhit i _ hs,hρ1 i hi⟩
   ·have hx':∀i,i<out.length→g i≠x:=λi h1 h2=>hx ⟨i,h1,h2⟩
    refine .inr ⟨hx',hρ2 x hx', ?_⟩
    rw[hmiss x hx']
    by_cases hd:x∈D
    ·exact .inl ⟨hd,(qdu D).1 hd⟩
    ·exact .inr ⟨hd,(qdu D).2 hd⟩
  have hapart:∀x,(∀i,i<out.length→g i≠x)→x∉D→(h' x).live=true→(ρ x).nil=false→¬blocks ρc (chH cs) (ρ x).blk:=λx hx hxd h1 h2 hb=>by
   obtain⟨i,k1,k2,k3⟩:=hA _ hb
   have he:=r.sep _ _ (hlive i k1.2) h1 k2 h2 k3
   have k1:=k1.1
   by_cases hi:i<pin
   ·exact hx i (by omega) (by rw[hgp i hi];exact he)
   ·refine hxd ?_
    rw[←hD,←he]
    refine List.mem_append_left _ ?_
    rw[List.mem_iff_getElem?]
    refine⟨i - pin, ?_⟩
    rw[List.getElem?_drop,show pin+(i - pin)=i by omega,zE k1]
    simp[nsF,zE k1]
  have hst:∀x,HStep (ρ x) (h' x) (ρ2 x) (upH h' up x):=λx=>by
   rcases hcase x with⟨i,s,hi,rfl,hs,hcs,hu,hr⟩|⟨hx,hr,⟨hxd,hu⟩|⟨hxd,hu⟩⟩
   ·by_cases hp:i<pin
    ·have hok:=o4 i hp
     rw[hcs] at hok
     have hic:i<cs.length:=by omega
     have hl2:(chH cs i).live=true:=hplive i hp
     have hst:=qrq (g:=g) (l:=ρ (g i)) (hH i) hl2 hok
     rw[←hgp i hp] at hst
     rw[hu]
     rcases r'.pin i hp with hd|⟨_,he⟩
     ·rw[hcs] at hd
      subst hd
      exact .inr (.inl ⟨q2m (by rw[hgp i hp];exact hlive i (hplive i hp)),rfl⟩)
     ·have he2:ρ2 (g i)=ρ (g i):=by rw[hr,he,hgp i hp]
      rw[he2];exact hst
    ·exact .inl (by rw[hgn i hp];exact hf i (by omega))
   ·rw[hu];exact .inr (.inl ⟨hDl x hxd,rfl⟩)
   ·rw[hu,hr];exact HStep.refl _ _
  have hkeep:∀b,b<w.heap.size→¬blocks ρc (chH cs) b→w'.heap[b]?=w.heap[b]?:=λb hb hn=>r'.keep b hb hn
  have hgrow:w.heap.size≤w'.heap.size:=r'.grow
  have hextc:∀b,B.ext b→ext b:=λb hb=>⟨.inl hb,λhbl=>by
   obtain⟨i,k1,k2,k3⟩:=hA _ hbl
   rcases r.home _ (hlive i k1.2) k2 with k|k
   ·exact hB.no b hb (k3▸k)
   ·have:=hB.lt b hb;omega⟩
  have hO2:kp=true→∀b,owns B ρ2 (upH h' up) b→owns Bc ρ' (chH out) b:=λhk b hb=>by
   rcases hb with hb|⟨x,h1,h2,h3⟩
   ·exact .inl (hextc b hb)
   ·rcases hcase x with⟨i,s,hi,rfl,hs,hcs,hu,hr⟩|⟨hx,hr,⟨hxd,hu⟩|⟨hxd,hu⟩⟩
    ·rw[hu,q7d] at h1
     rw[hr] at h2 h3
     exact .inr ⟨i,by rw[hcs];exact h1,h2,h3⟩
    ·rw[hu] at h1;cases h1
    ·rw[hu] at h1
     rw[hr] at h2 h3
     refine .inl ⟨.inr ⟨x,λhxl=>hxd ?_,h1,h2,h3⟩,h3▸hapart x hx hxd h1 h2⟩
     rw[←hD,hk]
     exact List.mem_append_right _ hxl
  have himm2:∀v u,(kp=true∨v.plain0=true)→Imm w' (owns Bc ρ' (chH out)) v u→Imm w' (owns B ρ2 (upH h' up)) v u:=λv u hk hi=>by
   rcases hk with hk|hk
   ·exact hi.mono (Nat.le_refl _) (λb _ _=>rfl) (λb _ hb=>hO2 hk b hb)
   ·exact hi.plain hk
  have hN:∀c,chH out c≠.fresh→upH h' up (g c)=(chH out c).rn g∧((chH out c).live=true→ρ2 (g c)=ρ' c):=λc hcf=>by
   obtain⟨s,hs,he⟩:=qf4 hcf
   rw[he]
   exact⟨hhit c s hs,λ_=>hρ1 c (List.getElem?_eq_some_iff.1 hs).1⟩
  have hturn:Turns B ρ h' w ρ2 (upH h' up) w':=by
   refine r.turn r'.os r'.tape r'.output hgrow (λb hb=>?_) hst (r.ext_lt hB) (λx h1 h2=>?_) (λx y hx hy nx ny e=>?_) (λhi2 x=>?_)
   ·by_cases hbl:blocks ρc (chH cs) b
    ·obtain⟨i,k1,k2,k3⟩:=hA _ hbl
     exact .inr ⟨nsF ns i,hlive i k1.2,k2,k3⟩
    ·exact .inl (hkeep b hb hbl)
   ·rcases hcase x with⟨i,s,hi,rfl,hs,hcs,hu,hr⟩|⟨hx,hr,⟨hxd,hu⟩|⟨hxd,hu⟩⟩
    ·rw[hu,q7d,←hcs] at h1
     rw[hr] at h2 ⊢
     rcases r'.home i h1 h2 with k|k
     ·obtain⟨j,k1,k2,k3⟩:=hA _ k
      exact .inl ⟨nsF ns j,hlive j k1.2,k2,k3⟩
     ·exact .inr k
    ·rw[hu] at h1;cases h1
    ·rw[hu] at h1;rw[hr] at h2 ⊢
     exact .inl ⟨x,h1,h2,rfl⟩
   ·have mixed:∀x i s,(∀i,i<out.length→g i≠x)→x∉D→(h' x).live=true→(ρ x).nil=false→out[i]?=some s→s.live=true→chH out i=s→(ρ' i).nil=false→(ρ x).blk=(ρ' i).blk→False:=λx i s h1 h2 h3 h4 h5 h6 h7 h8 h9=>by
     rcases r'.home i (by rw[h7];exact h6) h8 with k|k
     ·rw[←h9] at k
      exact hapart x h1 h2 h3 h4 k
     ·have k0:w.heap.size≤(ρ' i).blk:=k
      have:=r.blk_lt h3 h4
      omega
    rcases hcase x with⟨i,s,hi,rfl,hs,hcs,hu,hr⟩|⟨hx1,hr,⟨hxd,hu⟩|⟨hxd,hu⟩⟩
    ·rcases hcase y with⟨j,s2,hj,rfl,hs2,hcs2,hu2,hr2⟩|⟨hy1,hr2,⟨hyd,hu2⟩|⟨hyd,hu2⟩⟩
     ·rw[hu,q7d,←hcs] at hx
      rw[hu2,q7d,←hcs2] at hy
      rw[hr] at nx e
      rw[hr2] at ny e
      rw[r'.sep i j hx hy nx ny e]
     ·rw[hu2] at hy;cases hy
     ·rw[hu,q7d] at hx
      rw[hu2] at hy
      rw[hr] at nx e
      rw[hr2] at ny e
      exact(mixed y i s hy1 hyd hy ny hs hx hcs nx e.symm).elim
    ·rw[hu] at hx;cases hx
    ·rw[hu] at hx
     rw[hr] at nx e
     rcases hcase y with⟨j,s2,hj,rfl,hs2,hcs2,hu2,hr2⟩|⟨hy1,hr2,⟨hyd,hu2⟩|⟨hyd,hu2⟩⟩
     ·rw[hu2,q7d] at hy
      rw[hr2] at ny e
      exact(mixed x j s2 hx1 hxd hx nx hs2 hy hcs2 ny e).elim
     ·rw[hu2] at hy;cases hy
     ·rw[hu2] at hy
      rw[hr2] at ny e
      exact r.sep x y hx hy nx ny e
   ·rcases hcase x with⟨i,s,hi,rfl,hs,hcs,hu,hr⟩|⟨hx,hr,⟨hxd,hu⟩|⟨hxd,hu⟩⟩
    ·rw[hu,hr]
     have hch:=r'.chunk i
     rw[hcs] at hch
     exact hch.rn hN himm2 (o3.imp id λh=>h.2 s (List.mem_of_getElem? hs))
    ·rw[hu];trivial
    ·rw[hu,hr]
     cases hlx:(h' x).live
     ·exact OwnC.not_live hlx
     ·exact(r.chunk x).mono hi2 hst (λhn=>hkeep _ (r.blk_lt hlx hn) (hapart x hx hxd hlx hn))
  exact⟨u,res.rn g,up,ρ2,rfl,⟨res,out,hp,by rw[hgg],by rw[hgg,hD,hup]⟩,hturn,hd'.rn hN himm2 (o3.imp id λh=>h.1)⟩
end
theorem qoc (l:List (Nat×V)) (m:List (Nat×Hs)) (d:Nat) (v:V) (up:List (Nat×Hs)):St.app ⟨q0i l,q0c m⟩ (some d) v up=⟨q0i ((d,v)::l),q0c (up++m)⟩:=by
 simp only[St.app,upT,St.mk.injEq]
 constructor
 ·funext x;simp[q0i]
 ·funext x
  induction up with
  | nil=>rfl
  | cons a up ih=>simp[upH,q0c,ih]
theorem qli (l:List (Nat×V)) (m:List (Nat×Hs)) (v:V) (up:List (Nat×Hs)):St.app ⟨q0i l,q0c m⟩ none v up=⟨q0i l,q0c (up++m)⟩:=by
 simp only[St.app,upT,St.mk.injEq]
 constructor
 ·trivial
 ·funext x
  induction up with
  | nil=>rfl
  | cons a up ih=>simp[upH,q0c,ih]
def q1c:Nat→List Hs→List (Nat×Hs)
 | _,[]=>[]
 | k,s::cs=>(k,s)::q1c (k+1) cs
theorem qdj:∀(cs:List Hs) (k x:Nat),q0c (q1c k cs) x=if x<k then .fresh else chH cs (x - k)
 | [],k,x=>by simp[q1c,q0c,chH]
 | s::cs,k,x=>by
   simp only[q1c,q0c]
   rw[qdj cs (k+1) x]
   by_cases h1:x=k
   ·subst h1;simp[chH]
   ·rw[if_neg h1]
    by_cases h2:x<k
    ·rw[if_pos h2,if_pos (by omega)]
    ·rw[if_neg h2,if_neg (by omega)]
     simp only[chH]
     rw[show x - k=(x - (k+1))+1 by omega]
     simp
theorem q5x (cs:List Hs):chH cs=q0c (q1c 0 cs):=by
 funext x;rw[qdj];simp
section congrs
variable {P:Program} {G:Glob} {α:Type}
theorem qgd {o o':Option α} {K:α→Prop} (h:o=o'):qc0 o K=qc0 o' K:=by rw[h]
theorem qci {g g':Option Bool} {y n:Prop} (h:g=g'):q65 g y n=q65 g' y n:=by rw[h]
theorem qdt {g g':V} {y n:Prop} (h:g=g'):qej g y n=qej g' y n:=by rw[h]
theorem qh3 {l:List IOper} {st st':St} {K:St→Prop} (h:st=st'):qhn P G l st K=qhn P G l st' K:=by rw[h]
theorem qhg {bef:List Nat} {l:List (Nat×IOper)} {st st':St} {tr tr':List (Nat×List Nat×List Nat)} {K:St→Prop} (h:st=st') (h2:tr=tr'):qcz P G bef l st tr K=qcz P G bef l st' tr' K:=by rw[h,h2]
theorem qjf {pin:Nat} {ic:IC} {Q:Ex→St→Prop} {st st':St} (h:st=st'):wpI P G pin ic Q st=wpI P G pin ic Q st':=by rw[h]
theorem CallV_congr {f:FuncId} {vs vs':List V} {d:Option Nat} {st:St} {K:St→List Nat→List Nat→Prop} (h:vs=vs'):CallV P G f vs d st K=CallV P G f vs' d st K:=by rw[h]
theorem LoopI_congr {pin:Nat} {b:(Ex→St→Prop)→St→Prop} {Q:Ex→St→Prop} {st st':St} (h:st=st'):LoopI G pin b Q st=LoopI G pin b Q st':=by rw[h]
end congrs
section
variable {P:Program} {G:Glob} {pin:Nat} {Q:Ex→St→Prop} {st:St} {K:St→Prop} {K3:St→List Nat→List Nat→Prop}
theorem qop:wpI P G pin .skip Q st=Q .normal st:=of_eq_true (eq_self _)
theorem qrt (ops):wpI P G pin (.reg ops) Q st=qhn P G ops st (Q .normal):=of_eq_true (eq_self _)
theorem qu3 (bef ops):wpI P G pin (.drw bef ops) Q st=qcz P G bef ops st [] (Q .normal):=of_eq_true (eq_self _)
theorem qqw (a b):wpI P G pin (.seq a b) Q st=wpI P G pin a (exN (wpI P G pin b Q) Q) st:=of_eq_true (eq_self _)
theorem qj2 (i b):wpI P G pin (.block i b) Q st=wpI P G pin b (exB i Q) st:=of_eq_true (eq_self _)
theorem qm1 (b):wpI P G pin (.loop b) Q st=LoopI G pin (wpI P G pin b) Q st:=of_eq_true (eq_self _)
theorem qm3 (i):wpI P G pin (.exit i) Q st=Q (.exit i) st:=of_eq_true (eq_self _)
theorem qsk:wpI P G pin .ret Q st=Q .ret st:=of_eq_true (eq_self _)
theorem exN_n:exN K Q .normal st=K st:=of_eq_true (eq_self _)
theorem exN_e (i):exN K Q (.exit i) st=Q (.exit i) st:=of_eq_true (eq_self _)
theorem exN_r:exN K Q .ret st=Q .ret st:=of_eq_true (eq_self _)
theorem exB_n (i):exB i Q .normal st=Q .normal st:=of_eq_true (eq_self _)
theorem exB_r (i):exB i Q .ret st=Q .ret st:=of_eq_true (eq_self _)
theorem qoa:qhn P G [] st K=K st:=of_eq_true (eq_self _)
theorem qpa (bef tr):qcz P G bef [] st tr K=K st:=of_eq_true (eq_self _)
theorem qvw (d op):q3d P G ⟨d,none,op⟩ st K3=doV P G ⟨d,none,op⟩ st K3:=of_eq_true (eq_self _)
theorem qxh (d n b op):q3d P G ⟨d,some (n,b),op⟩ st K3=q65 (gd (some (n,b)) st.t) (doV P G ⟨d,none,op⟩ st K3) (K3 (st.app d (.tup []) []) [] []):=of_eq_true (eq_self _)
theorem qv1 {α:Type} (x:α) (K:α→Prop):qc0 (some x) K=K x:=of_eq_true (eq_self _)
theorem qsi (d g f xs):doV P G ⟨d,g,.call f xs⟩ st K3=CallV P G f (xs.map (ev st.t)) d st K3:=of_eq_true (eq_self _)
theorem do_mv (d g x):doV P G ⟨d,g,.mv x⟩ st K3=K3 (st.app d (ev st.t x) []) [] []:=of_eq_true (eq_self _)
def pureK (d:Option Nat) (st:St) (K:St→List Nat→List Nat→Prop) (x:Option V):Prop:=qc0 x λv=>K (st.app d v []) [] []
theorem qsc (d v):pureK d st K3 (some v)=K3 (st.app d v []) [] []:=of_eq_true (eq_self _)
theorem q1u {o:IOper} (h:q2s o.op o.d st.t st.h=(q0k o.op st.t).map λv=>(v,[],[])) (hc:o.isCall=false):doV P G o st K3=pureK o.d st K3 (q0k o.op st.t):=by
 unfold doV pureK
 cases ho:o.op<;>simp only[IOper.isCall,ho,Bool.true_eq_false] at hc ⊢
 all_goals(rw[ho] at h;rw[h];cases q0k _ st.t<;>rfl)
end
def effK (d:Option Nat) (st:St) (K:St→List Nat→List Nat→Prop) (x:Option (V×List (Nat×Hs)×List Nat)):Prop:=qc0 x λr=>K (st.app d r.1 r.2.1) r.2.2 (r.2.1.map Prod.fst)
theorem qe2 {d:Option Nat} {st:St} {K:St→List Nat→List Nat→Prop} {x y:Option V} (h:x=y):pureK d st K x=pureK d st K y:=by rw[h]
theorem qgk {d:Option Nat} {st:St} {K:St→List Nat→List Nat→Prop} {x y:Option (V×List (Nat×Hs)×List Nat)} (h:x=y):effK d st K x=effK d st K y:=by rw[h]
def qra (c a b:V):Option V:=match c with
 | .bool b'=>some (bif b' then a else b)
 | _=>none
def qj8:V→Option V
 | .pv c o=>some (.pv c o)
 | .pa c i o=>some (.pa c i o)
 | .iptr r o=>some (.iptr r o)
 | .fn f caps=>some (.fn f caps)
 | _=>none
def qug (ng:Bool) (x y:V):Option V:=match x,y with
 | .bool a,.bool b=>some (.bool (ng ^^ (a==b)))
 | _,_=>none
def eqsF (ng:Bool) (ks:List Kd) (x y:V):Option V:=match x,y with
 | .agg a,.agg b=>(eqR ks a b).map λr=>.bool (ng ^^ r)
 | _,_=>none
def isnF (ng:Bool):V→Option V
 | .nile=>some (.bool (!ng))
 | .erre=>some (.bool ng)
 | _=>none
def notF:V→Option V
 | .bool b=>some (.bool (!b))
 | _=>none
def negF:V→Option V
 | .int k n=>some (.int k (k.wrap (0 - n)))
 | _=>none
def cviF (k:IntKind):V→Option V
 | .int _ n=>some (.int k (k.wrap n))
 | _=>none
def qy2 (off:Nat):V→Option V
 | .pv c o=>some (.pv c (o+off))
 | .pa c i o=>some (.pa c i (o+off))
 | .iptr r o=>some (.iptr r (o+off))
 | _=>none
def extF (k:Nat):V→Option V
 | .tup vs=>vs[k]?
 | _=>none
section
variable {P:Program} {G:Glob} {st:St} {K:St→List Nat→List Nat→Prop}
theorem qsn (d g c a b):doV P G ⟨d,g,.pick c a b⟩ st K=pureK d st K (qra (ev st.t c) (ev st.t a) (ev st.t b)):=by
 rw[q1u rfl rfl];simp only[q0k,qra];cases ev st.t c<;>rfl
theorem qqh (d g x):doV P G ⟨d,g,.nilc x⟩ st K=pureK d st K (qj8 (ev st.t x)):=by
 rw[q1u rfl rfl];simp only[q0k,qj8];cases ev st.t x<;>rfl
theorem qyp (d g op x y):doV P G ⟨d,g,.bin op x y⟩ st K=pureK d st K (q72 op (ev st.t x) (ev st.t y)):=by
 rw[q1u rfl rfl];rfl
theorem j28 (d g ng x y):doV P G ⟨d,g,.beq ng x y⟩ st K=pureK d st K (qug ng (ev st.t x) (ev st.t y)):=by
 rw[q1u rfl rfl];simp only[q0k,qug];cases ev st.t x<;>cases ev st.t y<;>rfl
theorem qyx (d g ng ks x y):doV P G ⟨d,g,.eqs ng ks x y⟩ st K=pureK d st K (eqsF ng ks (ev st.t x) (ev st.t y)):=by
 rw[q1u rfl rfl];simp only[q0k,eqsF];cases ev st.t x<;>cases ev st.t y<;>rfl
theorem j1q (d g ng x):doV P G ⟨d,g,.isn ng x⟩ st K=pureK d st K (isnF ng (ev st.t x)):=by
 rw[q1u rfl rfl];simp only[q0k,isnF];cases ev st.t x<;>rfl
theorem qy7 (d g x):doV P G ⟨d,g,.un .not x⟩ st K=pureK d st K (notF (ev st.t x)):=by
 rw[q1u rfl rfl];simp only[q0k,notF];cases ev st.t x<;>rfl
theorem qxj (d g x):doV P G ⟨d,g,.un .neg x⟩ st K=pureK d st K (negF (ev st.t x)):=by
 rw[q1u rfl rfl];simp only[q0k,negF];cases ev st.t x<;>rfl
theorem qvu (d g k x):doV P G ⟨d,g,.cvi k x⟩ st K=pureK d st K (cviF k (ev st.t x)):=by
 rw[q1u rfl rfl];simp only[q0k,cviF];cases ev st.t x<;>rfl
theorem j0d (d g off x):doV P G ⟨d,g,.fad off x⟩ st K=pureK d st K (qy2 off (ev st.t x)):=by
 rw[q1u rfl rfl];simp only[q0k,qy2];cases ev st.t x<;>rfl
theorem qut (d g x k):doV P G ⟨d,g,.ext x k⟩ st K=pureK d st K (extF k (ev st.t x)):=by
 rw[q1u rfl rfl];simp only[q0k,extF];cases ev st.t x<;>rfl
theorem qx3 (d g x):doV P G ⟨d,g,.len x⟩ st K=pureK d st K (qtp (ev st.t x)):=by
 rw[q1u rfl rfl];rfl
theorem qqq (d g x):doV P G ⟨d,g,.lens x⟩ st K=pureK d st K (qma (ev st.t x)):=by
 rw[q1u rfl rfl];rfl
theorem q58 {o:IOper} (hc:o.isCall=false):doV P G o st K=effK o.d st K (q2s o.op o.d st.t st.h):=by
 unfold doV effK
 cases ho:o.op<;>simp only[IOper.isCall,ho,Bool.true_eq_false] at hc ⊢
theorem j2c (d g ty x):doV P G ⟨some d,g,.box ty x⟩ st K=effK (some d) st K (q24 (st.h (nm d)) (if(q05 (ev st.t x)).all V.one=true then some (.pv (nm d) 0,[(nm d,.var ty (q05 (ev st.t x)))],[nm d]) else none)):=q58 rfl
theorem qns (d g ty z):doV P G ⟨some d,g,.alloc ty z⟩ st K=effK (some d) st K (q24 (st.h (nm d)) (some (.pv (nm d) 0,[(nm d,.var ty z)],[nm d]))):=q58 rfl
theorem do_ld (d g sz ag x):doV P G ⟨d,g,.ld sz ag x⟩ st K=qc0 (q3t st.h sz ag (ev st.t x)) λr=>K (st.app d r.1 []) r.2 []:=by
 rw[q58 rfl];simp only[effK,q2s];cases q3t st.h sz ag (ev st.t x)<;>rfl
theorem j1j (d g sz x y):doV P G ⟨d,g,.sto sz x y⟩ st K=qc0 (q4c st.h sz (ev st.t x) (ev st.t y)) λr=>K (st.app d (.tup []) r.1) r.2 (r.1.map Prod.fst):=by
 rw[q58 rfl];simp only[effK,q2s];cases q4c st.h sz (ev st.t x) (ev st.t y)<;>rfl
end
def V.nl0:V→Bool
 | .own ..|.view ..|.pv ..|.pa ..|.agg _|.tup _=>false
 | _=>true
def V.nl1:V→Bool
 | .fn _ caps=>caps.all V.nl0
 | v=>v.nl0
def V.nl2:V→Bool
 | .agg fs=>fs.all V.nl1
 | v=>v.nl1
def V.nl:V→Bool
 | .tup vs=>vs.all V.nl2
 | v=>v.nl2
section
variable {F:Nat→Prop} {f:Nat→Nat} {h h':Nat→Hs} {g:Nat→Nat}
theorem qes {v:V} (hv:v.nl0=true):Wk0 F f h h' v v:=by
 cases v
 case sl sz rows=>cases rows<;>rfl
 all_goals first|trivial|(simp[V.nl0] at hv;done)|rfl
theorem qfk {v:V} (hv:v.nl1=true):Wk1 F f h h' v v:=by
 cases hf:v.isFn
 ·have h0:v.nl0=true:=by cases v<;>first|exact hv|cases hf
  have h1:=qes (F:=F) (f:=f) (h:=h) (h':=h') h0
  cases v<;>first|exact h1|cases hf
 ·cases v<;>first|cases hf;done|skip
  rename_i fn caps
  refine⟨rfl,rfl,λj v v' h1 h2=>?_⟩
  rw[h1] at h2
  cases h2
  exact qes (List.all_eq_true.1 hv v (List.mem_of_getElem? h1))
theorem qg4 {v:V} (hv:v.nl2=true):Wk2 F f h h' v v:=by
 cases hf:v.isAgg
 ·have h0:v.nl1=true:=by cases v<;>first|exact hv|cases hf
  have h1:=qfk (F:=F) (f:=f) (h:=h) (h':=h') h0
  cases v<;>first|exact h1|cases hf
 ·cases v<;>first|cases hf;done|skip
  rename_i fs
  refine⟨rfl,λj v v' h1 h2=>?_⟩
  rw[h1] at h2
  cases h2
  exact qfk (List.all_eq_true.1 hv v (List.mem_of_getElem? h1))
theorem qkb {v:V} (hv:v.nl=true):Wk F f h h' v v:=by
 cases hf:v.isTup
 ·have h0:v.nl2=true:=by cases v<;>first|exact hv|cases hf
  have h1:=qg4 (F:=F) (f:=f) (h:=h) (h':=h') h0
  cases v<;>first|exact h1|cases hf
 ·cases v<;>first|cases hf;done|skip
  rename_i fs
  refine⟨rfl,λj v v' h1 h2=>?_⟩
  rw[h1] at h2
  cases h2
  exact qg4 (List.all_eq_true.1 hv v (List.mem_of_getElem? h1))
theorem qpq {v:V} (hv:v.nl0=true):v.rn0 g=v:=by cases v<;>first|rfl|(simp[V.nl0] at hv;done)
theorem qds {l:List V} {k:V→V} (h:∀v,v∈l→k v=v):l.map k=l:=by
 induction l with
 | nil=>rfl
 | cons a l ih=>simp only[List.map_cons];rw[h a (by simp),ih λv hv=>h v (by simp[hv])]
theorem qpt {v:V} (hv:v.nl1=true):v.rn1 g=v:=by
 cases hf:v.isFn
 ·have h0:v.nl0=true:=by cases v<;>first|exact hv|cases hf
  have h1:=qpq (g:=g) h0
  cases v<;>first|exact h1|cases hf
 ·cases v<;>first|cases hf;done|skip
  rename_i fn caps
  simp only[V.rn1];rw[qds λv h=>qpq (List.all_eq_true.1 hv v h)]
theorem qq4 {v:V} (hv:v.nl2=true):v.rn2 g=v:=by
 cases hf:v.isAgg
 ·have h0:v.nl1=true:=by cases v<;>first|exact hv|cases hf
  have h1:=qpt (g:=g) h0
  cases v<;>first|exact h1|cases hf
 ·cases v<;>first|cases hf;done|skip
  rename_i fs
  simp only[V.rn2];rw[qds λv h=>qpt (List.all_eq_true.1 hv v h)]
theorem qw7 {v:V} (hv:v.nl=true):v.rn g=v:=by
 cases hf:v.isTup
 ·have h0:v.nl2=true:=by cases v<;>first|exact hv|cases hf
  have h1:=qq4 (g:=g) h0
  cases v<;>first|exact h1|cases hf
 ·cases v<;>first|cases hf;done|skip
  rename_i fs
  simp only[V.rn];rw[qds λv h=>qq4 (List.all_eq_true.1 hv v h)]
end
theorem retQ_nl {rs:List RV} {post:V→List Hs→Prop} {st:St} (h:qc0 (qld st rs) λv=>v.nl=true∧post v []):q59 rs 0 post .ret st:=by
 obtain⟨v,hv,hn,hp⟩:=q34 h
 exact⟨v,v,[],id,hv,hp,qkb hn,λc=>by simp only[chH,List.getElem?_nil,Option.getD_none];cases st.h (id c)<;>trivial,λx y hx=>by simp[chH,Hs.live] at hx,λi hi=>by omega⟩
section
variable {P:Program} {G:Glob}
theorem qi2 {f:FuncId} {vs:List V} {post:V→List Hs→Prop} (F:FnP P G f 0 [] vs post) {d:Option Nat} {st:St} {K:St→List Nat→List Nat→Prop}
 (hvs:vs.all V.nl=true) (hpost:∀v out,post v out→v.nl=true∧out=[]) (hk:∀v,post v []→K (st.app d v []) [] []):CallV P G f vs d st K:=by
 have hs:=qsa F (vs:=vs) (h:=st.h) (ns:=[]) (lent:=[]) (kp:=true) (d:=0) (m:=0) (by simp) rfl List.nodup_nil rfl
  (λh' _ j v v' h1 h2=>by rw[h1] at h2;cases h2;exact qkb (List.all_eq_true.1 hvs v (List.mem_of_getElem? h1))) (λh' _ i s hs=>by simp at hs) (λc hc=>by cases hc)
  (λres out hp=>by obtain⟨_,rfl⟩:=hpost res out hp;exact⟨Nat.le_refl _,Nat.le_refl _,.inl rfl,λi hi=>by omega⟩) (λi hi=>by omega)
 refine⟨_,_,_,hs,λv up hp=>?_⟩
 obtain⟨res,out,hp,rfl,rfl⟩:=hp
 obtain⟨hn,rfl⟩:=hpost res out hp
 rw[qw7 hn]
 exact hk res hp
end
theorem qlf (k:Nat) (v:V) (l:List (Nat×V)):q0i ((k,v)::l) k=v:=by simp[q0i]
theorem qie {k x:Nat} (v:V) (l:List (Nat×V)) (h:x≠k):q0i ((k,v)::l) x=q0i l x:=by simp[q0i,h]
theorem qp1 (x:Nat):q0c [] x=.fresh:=of_eq_true (eq_self _)
theorem qly (k:Nat) (v:Hs) (l:List (Nat×Hs)):q0c ((k,v)::l) k=v:=by simp[q0c]
theorem qjo {k x:Nat} (v:Hs) (l:List (Nat×Hs)) (h:x≠k):q0c ((k,v)::l) x=q0c l x:=by simp[q0c,h]
theorem ev_t (t:Nat→V) (n:Nat):ev t (.t n)=t n:=of_eq_true (eq_self _)
theorem ev_c (t:Nat→V) (v:V):ev t (.c v)=v:=of_eq_true (eq_self _)
def gdV (b:Bool):V→Option Bool
 | .bool c=>some (c==b)
 | .tup []=>some false
 | _=>none
theorem gd_n (n:Nat) (b:Bool) (t:Nat→V):gd (some (n,b)) t=gdV b (t n):=by
 simp only[gd]
 generalize t n=x
 unfold gdV
 cases x<;>first|rfl|(rename_i l;cases l<;>rfl)
theorem gdV_t (c:Bool):gdV true (.bool c)=some c:=by cases c<;>rfl
theorem gdV_f (c:Bool):gdV false (.bool c)=some (!c):=by cases c<;>rfl
theorem gdV_s (b:Bool):gdV b (.tup [])=some false:=of_eq_true (eq_self _)
theorem j1m (c:Bool) (a b:V):qra (.bool c) a b=some (bif c then a else b):=of_eq_true (eq_self _)
theorem qnn (k:Nat):qe6 k []=[]:=of_eq_true (eq_self _)
theorem qks (k:Nat) (v:V) (vs:List V):qe6 k (v::vs)=(k,v)::qe6 (k+1) vs:=of_eq_true (eq_self _)
theorem qob (k:Nat):q1c k []=[]:=of_eq_true (eq_self _)
theorem qia (k:Nat) (v:Hs) (vs:List Hs):q1c k (v::vs)=(k,v)::q1c (k+1) vs:=of_eq_true (eq_self _)
theorem nm_eq (d:Nat):nm d=1000+d:=of_eq_true (eq_self _)
theorem qtk {α:Type} (x:Option α):q24 .fresh x=x:=of_eq_true (eq_self _)
def qlk (sz:Nat) (agg:Bool) (c o:Nat):Hs→Option (V×List Nat)
 | .var _ row=>bif agg then(qdm row o sz).map λr=>(.agg r,[c]) else(row[o]?).map λv=>(v,[c])
 | _=>none
def qo3 (sz:Nat) (agg:Bool) (c i o:Nat):Hs→Option (V×List Nat)
 | .arr _ _ rows=>bif agg then(qdm (rows.getD i []) o sz).map λr=>(.agg r,[c]) else((rows.getD i [])[o]?).map λv=>(v,[c])
 | _=>none
def qqz (sz:Nat) (agg:Bool) (o:Nat) (row:List V):Option (V×List Nat):=bif agg then(qdm row o sz).map λr=>(.agg r,[]) else(row[o]?).map λv=>(v,[])
theorem ld_pv (h:Nat→Hs) (sz agg c o):q3t h sz agg (.pv c o)=qlk sz agg c o (h c):=by
 simp only[q3t,qlk];cases h c<;>rfl
theorem ld_pa (h:Nat→Hs) (sz agg c i o):q3t h sz agg (.pa c i o)=qo3 sz agg c i o (h c):=by
 simp only[q3t,qo3];cases h c<;>rfl
theorem ld_ip (h:Nat→Hs) (sz agg row o):q3t h sz agg (.iptr row o)=qqz sz agg o row:=of_eq_true (eq_self _)
def ldA (c:List Nat) (x:Option (List V)):Option (V×List Nat):=x.map λr=>(.agg r,c)
def ld1 (c:List Nat) (x:Option V):Option (V×List Nat):=x.map λr=>(r,c)
theorem qr9 (ty row sz c o):qlk sz true c o (.var ty row)=ldA [c] (qdm row o sz):=of_eq_true (eq_self _)
theorem qrs (ty row sz c o):qlk sz false c o (.var ty row)=ld1 [c] row[o]?:=of_eq_true (eq_self _)
theorem qs7 (ty s rows sz c i o):qo3 sz true c i o (.arr ty s rows)=ldA [c] (qdm (rows.getD i []) o sz):=of_eq_true (eq_self _)
theorem qss (ty s rows sz c i o):qo3 sz false c i o (.arr ty s rows)=ld1 [c] (rows.getD i [])[o]?:=of_eq_true (eq_self _)
theorem qtq (row sz o):qqz sz true o row=ldA [] (qdm row o sz):=of_eq_true (eq_self _)
theorem qs1 (row sz o):qqz sz false o row=ld1 [] row[o]?:=of_eq_true (eq_self _)
theorem ldA_s (c x):ldA c (some x)=some (.agg x,c):=of_eq_true (eq_self _)
theorem ld1_s (c x):ld1 c (some x)=some (x,c):=of_eq_true (eq_self _)
theorem qwa {row:List V} {o sz:Nat} (h:o+sz≤row.length):qdm row o sz=some ((row.drop o).take sz):=by simp[qdm,h]
def qna (sz c o:Nat) (cs:List V):Hs→Option (List (Nat×Hs)×List Nat)
 | .var ty row=>if cs.all V.one=true∧o+sz≤row.length then some ([(c,.var ty (qa9 row o cs))],[c]) else none
 | _=>none
def qmi (sz c i o:Nat) (cs:List V):Hs→Option (List (Nat×Hs)×List Nat)
 | .arr ty s rows=>if cs.all V.closed=true∧o+sz≤s then some ([(c,.arr ty s (rows.set i (qa9 (rows.getD i []) o cs)))],[c]) else none
 | _=>none
theorem st_pv (h:Nat→Hs) (sz c o x) (hl:(q05 x).length=sz):q4c h sz (.pv c o) x=qna sz c o (q05 x) (h c):=by
 simp only[q4c,qna,hl,if_true];cases h c<;>rfl
theorem st_pa (h:Nat→Hs) (sz c i o x) (hl:(q05 x).length=sz):q4c h sz (.pa c i o) x=qmi sz c i o (q05 x) (h c):=by
 simp only[q4c,qmi,hl,if_true];cases h c<;>rfl
theorem qql (sz c o cs ty row) (h1:cs.all V.one=true) (h2:o+sz≤row.length):qna sz c o cs (.var ty row)=some ([(c,.var ty (qa9 row o cs))],[c]):=by
 simp only[qna,h1,h2,and_self,if_true]
theorem qu4 (sz c i o cs ty s rows) (h1:cs.all V.closed=true) (h2:o+sz≤s):qmi sz c i o cs (.arr ty s rows)=some ([(c,.arr ty s (rows.set i (qa9 (rows.getD i []) o cs)))],[c]):=by
 simp only[qmi,h1,h2,and_self,if_true]
theorem qkl (fs:List V):q05 (.agg fs)=fs:=of_eq_true (eq_self _)
theorem ql1 (k n):q05 (.int k n)=[.int k n]:=of_eq_true (eq_self _)
theorem qh1 (b):q05 (.bool b)=[.bool b]:=of_eq_true (eq_self _)
theorem qji (s):q05 (.str s)=[.str s]:=of_eq_true (eq_self _)
theorem qiy (c n):q05 (.own c n)=[.own c n]:=of_eq_true (eq_self _)
theorem qnp (c n):q05 (.sl c n)=[.sl c n]:=of_eq_true (eq_self _)
theorem qgf:q05 .nils=[.nils]:=of_eq_true (eq_self _)
theorem j1x {st:St} {K:St→List Nat→List Nat→Prop} (d v up tc):effK d st K (some (v,up,tc))=K (st.app d v up) tc (up.map Prod.fst):=of_eq_true (eq_self _)
theorem qxt (off c o):qy2 off (.pv c o)=some (.pv c (o+off)):=of_eq_true (eq_self _)
theorem qz3 (off c i o):qy2 off (.pa c i o)=some (.pa c i (o+off)):=of_eq_true (eq_self _)
theorem j0h (off r o):qy2 off (.iptr r o)=some (.iptr r (o+off)):=of_eq_true (eq_self _)
theorem qts (c o):qj8 (.pv c o)=some (.pv c o):=of_eq_true (eq_self _)
theorem qu1 (c i o):qj8 (.pa c i o)=some (.pa c i o):=of_eq_true (eq_self _)
theorem qs4 (r o):qj8 (.iptr r o)=some (.iptr r o):=of_eq_true (eq_self _)
theorem not_b (b):notF (.bool b)=some (.bool (!b)):=of_eq_true (eq_self _)
theorem ext_t (k vs):extF k (.tup vs)=vs[k]?:=of_eq_true (eq_self _)
def FnR (P:Program) (G:Glob) (f:FuncId) (vs:List V) (v:V):Prop:=FnP P G f 0 [] vs (λr o=>r=v∧o=[])
section
variable {P:Program} {G:Glob}
theorem qg5 (pin:Nat):∀(ic:IC) (Q Q':Ex→St→Prop),(∀e s,Q e s→Q' e s)→∀st,wpI P G pin ic Q st→wpI P G pin ic Q' st:=by
 have hrunT:∀(os:List IOper) (K K':St→Prop),(∀s,K s→K' s)→∀st,qhn P G os st K→qhn P G os st K':=by
  intro os K K' hk
  induction os with
  | nil=>exact λst h=>hk st h
  | cons o os ih=>exact λst h=>q3k (λs _ _ h=>ih s h) h
 have hrunD:∀(bef:List Nat) (os:List (Nat×IOper)) (K K':St→Prop),(∀s,K s→K' s)→∀st tr,qcz P G bef os st tr K→qcz P G bef os st tr K':=by
  intro bef os K K' hk
  induction os with
  | nil=>exact λst tr h=>hk st h
  | cons o os ih=>exact λst tr h=>q3k (λs _ _ h=>⟨h.1,ih s _ h.2⟩) h
 have hexN:∀(K K':St→Prop) (Q Q':Ex→St→Prop),(∀s,K s→K' s)→(∀e s,Q e s→Q' e s)→∀e s,exN K Q e s→exN K' Q' e s:=by
  intro K K' Q Q' hk hq e s h
  cases e
  ·exact hk s h
  ·exact hq _ s h
  ·exact hq _ s h
 intro ic
 induction ic with
 | skip=>exact λQ Q' hq st h=>hq _ st h
 | reg ops=>exact λQ Q' hq st h=>hrunT ops _ _ (hq _) st h
 | drw bef ops=>exact λQ Q' hq st h=>hrunD bef ops _ _ (hq _) st _ h
 | seq a b iha ihb=>exact λQ Q' hq st h=>iha _ _ (hexN _ _ _ _ (ihb _ _ hq) hq) st h
 | cond x a b iha ihb =>
   intro Q Q' hq st h
   simp only[wpI] at h ⊢
   unfold qej at h ⊢
   split at h
   ·exact iha _ _ hq st h
   ·exact ihb _ _ hq st h
   ·exact h
 | block i b ih =>
   intro Q Q' hq st h
   refine ih _ _ (λe s hs=>?_) st h
   cases e
   ·exact hq _ s hs
   ·simp only[exB] at hs ⊢
    split
    ·rename_i hi;rw[if_pos hi] at hs;exact hq _ s hs
    ·rename_i hi;rw[if_neg hi] at hs;exact hq _ s hs
   ·exact hq _ s hs
 | loop b ih =>
   intro Q Q' hq st ⟨I,k,s0,hl,hI,hr⟩
   exact⟨I,k,s0,hl,hI,λk s hs=>ih _ _ (hexN _ _ _ _ (λ_ h=>h) hq) s (hr k s hs)⟩
 | exit i=>exact λQ Q' hq st h=>hq _ st h
 | ret=>exact λQ Q' hq st h=>hq _ st h
theorem q0r {f:FuncId} {vs:List V} {v:V} (F:FnR P G f vs v) {d:Option Nat} {st:St} {K:St→List Nat→List Nat→Prop} (hvs:vs.all V.nl=true) (hv:v.nl=true) (hk:K (st.app d v []) [] []) :
 CallV P G f vs d st K :=
 qi2 F hvs (λr o ⟨h1,h2⟩=>⟨by rw[h1];exact hv,h2⟩) (λr ⟨h1,_⟩=>by rw[h1];exact hk)
end
def q0o:List (Nat×Nat)→Nat→Nat
 | [],x=>x
 | (k,v)::l,x=>if x=k then v else q0o l x
section
variable {F F':Nat→Prop} {f:Nat→Nat} {h h1 h':Nat→Hs}
theorem FzV.congr {v v':V} (hF:∀c,F c→F' c∧h1 c=h c) (hw:FzV F h v v'):FzV F' h1 v v':=by
 cases v<;>cases v'<;>simp only[FzV] at hw ⊢
 ·obtain⟨a,b,c⟩:=hw;exact⟨by rw[(hF _ c).2];exact a,b,(hF _ c).1⟩
 ·obtain⟨a,b,c⟩:=hw;exact⟨by rw[(hF _ c).2];exact a,b,(hF _ c).1⟩
 ·obtain⟨a,b,c,d⟩:=hw;exact⟨a,by rw[(hF _ d).2];exact b,c,(hF _ d).1⟩
theorem Wk0.congr {v v':V} (hF:∀c,F c→F' c∧h1 c=h c) (hw:Wk0 F f h h' v v'):Wk0 F' f h1 h' v v':=by
 have fz:FzV F h v v'→FzV F' h1 v v':=FzV.congr hF
 cases v<;>cases v'<;>first|exact hw|exact fz hw|(rename_i a b;cases b<;>first|exact hw|exact fz hw)|(rename_i a;cases a<;>first|exact hw|exact fz hw)
theorem Wk1.congr {v v':V} (hF:∀c,F c→F' c∧h1 c=h c) (hw:Wk1 F f h h' v v'):Wk1 F' f h1 h' v v':=by
 have w0:Wk0 F f h h' v v'→Wk0 F' f h1 h' v v':=Wk0.congr hF
 cases v<;>first|exact w0 hw|skip
 cases v'<;>first|exact w0 hw|skip
 exact⟨hw.1,hw.2.1,λj v v' a b=>(hw.2.2 j v v' a b).congr hF⟩
theorem Wk2.congr {v v':V} (hF:∀c,F c→F' c∧h1 c=h c) (hw:Wk2 F f h h' v v'):Wk2 F' f h1 h' v v':=by
 have w0:Wk1 F f h h' v v'→Wk1 F' f h1 h' v v':=Wk1.congr hF
 cases v<;>first|exact w0 hw|skip
 cases v'<;>first|exact w0 hw|skip
 exact⟨hw.1,λj v v' a b=>(hw.2 j v v' a b).congr hF⟩
theorem Wk.congr {v v':V} (hF:∀c,F c→F' c∧h1 c=h c) (hw:Wk F f h h' v v'):Wk F' f h1 h' v v':=by
 have w0:Wk2 F f h h' v v'→Wk2 F' f h1 h' v v':=Wk2.congr hF
 cases v<;>first|exact w0 hw|skip
 cases v'<;>first|exact w0 hw|skip
 exact⟨hw.1,λj v v' a b=>(hw.2 j v v' a b).congr hF⟩
theorem WkH.congr {a b:Hs} (hF:∀c,F c→F' c∧h1 c=h c) (hw:WkH F f h h' a b):WkH F' f h1 h' a b:=by
 cases b<;>cases a<;>simp only[WkH] at hw ⊢<;>first|exact hw|skip
 exact⟨hw.1,hw.2.1,λj v v' x y=>(hw.2.2 j v v' x y).congr hF⟩
def WkL (R:V→V→Prop):List V→List V→Prop
 | [],[]=>True
 | v::vs,v'::vs'=>R v v'∧WkL R vs vs'
 | _,_=>False
theorem WkL.spec {R:V→V→Prop}:∀ {vs vs':List V},WkL R vs vs'→vs'.length=vs.length∧∀(j:Nat) v v',vs[j]?=some v→vs'[j]?=some v'→R v v'
 | [],[],_=>⟨rfl,λj v v' h=>by simp at h⟩
 | v::vs,v'::vs',⟨h1,h2⟩=>by
   obtain⟨a,b⟩:=h2.spec
   refine⟨by simp[a],λj x x' hx hx'=>?_⟩
   cases j with
   | zero=>simp at hx hx';subst hx hx';exact h1
   | succ j=>exact b j x x' (by simpa using hx) (by simpa using hx')
theorem qkf {g:Nat} {a b:List V} (h:WkL (Wk0 F f h1 h') a b):Wk1 F f h1 h' (.fn g a) (.fn g b):=⟨rfl,h.spec⟩
theorem qt6 {ty:Nat} {a b:List V} (h:WkL (Wk1 F f h1 h') a b):WkH F f h1 h' (.var ty a) (.var ty b):=⟨rfl,h.spec⟩
theorem q5h {a:Hs}:WkH F f h1 h' a .fresh:=by cases a<;>trivial
theorem qbh {a:Hs} (ha:a≠.fresh):WkH F f h1 h' a .dead:=by cases a<;>exact ha
def V.bot:V→Bool
 | .tup _|.agg _|.fn ..=>false
 | _=>true
theorem qwj {v v':V} (hv:v.bot=true):Wk F f h1 h' v v'=Wk0 F f h1 h' v v':=by cases v<;>first|rfl|cases hv
theorem qq7 {v v':V} (hv:v.bot=true):Wk2 F f h1 h' v v'=Wk0 F f h1 h' v v':=by cases v<;>first|rfl|cases hv
theorem qs8 {v v':V} (hv:v.bot=true):Wk1 F f h1 h' v v'=Wk0 F f h1 h' v v':=by cases v<;>first|rfl|cases hv
theorem qbd {v:V}:Wk F f h1 h' v .undef=True:=by cases v<;>rfl
theorem qlo {a b:List V}:Wk F f h1 h' (.tup a) (.tup b)=WkL (Wk2 F f h1 h') a b:=by
 refine propext ⟨λhw=>?_,λhw=>hw.spec⟩
 obtain⟨hl,hw⟩:=hw
 induction a generalizing b with
 | nil=>cases b<;>first|trivial|cases hl
 | cons x a ih =>
   cases b with
   | nil=>cases hl
   | cons y b=>exact⟨hw 0 x y rfl rfl,ih (by simpa using hl) λj v v' h1 h2=>hw (j+1) v v' (by simpa using h1) (by simpa using h2)⟩
theorem q8z {a b:List V}:Wk2 F f h1 h' (.agg a) (.agg b)=WkL (Wk1 F f h1 h') a b:=by
 refine propext ⟨λhw=>?_,λhw=>hw.spec⟩
 obtain⟨hl,hw⟩:=hw
 induction a generalizing b with
 | nil=>cases b<;>first|trivial|cases hl
 | cons x a ih =>
   cases b with
   | nil=>cases hl
   | cons y b=>exact⟨hw 0 x y rfl rfl,ih (by simpa using hl) λj v v' h1 h2=>hw (j+1) v v' (by simpa using h1) (by simpa using h2)⟩
theorem qnd {a b:List V}:Wk F f h1 h' (.agg a) (.agg b)=WkL (Wk1 F f h1 h') a b:=q8z
theorem qp7 {g:Nat} {a b:List V} (h:WkL (Wk0 F f h1 h') a b):Wk1 F f h1 h' (.fn g a) (.fn g b)=True:=eq_true (qkf h)
theorem qnk {g:Nat} {a b:List V} (h:WkL (Wk0 F f h1 h') a b):Wk2 F f h1 h' (.fn g a) (.fn g b)=True:=eq_true (qkf h)
theorem qtb {g:Nat} {a b:List V} (h:WkL (Wk0 F f h1 h') a b):Wk F f h1 h' (.fn g a) (.fn g b)=True:=eq_true (qkf h)
theorem qsd {R:V→V→Prop}:WkL R [] []=True:=of_eq_true (eq_self _)
theorem qnl {R:V→V→Prop} {v v':V} {vs vs':List V}:WkL R (v::vs) (v'::vs')=(R v v'∧WkL R vs vs'):=of_eq_true (eq_self _)
theorem qi7 {ty:Nat} {a b:List V}:WkH F f h1 h' (.var ty a) (.var ty b)=WkL (Wk1 F f h1 h') a b:=by
 refine propext ⟨λhw=>?_,λhw=>qt6 hw⟩
 have:=q8z (F:=F) (f:=f) (h1:=h1) (h':=h') (a:=a) (b:=b)
 rw[←this]
 exact hw.2
theorem qj5 {ty sz:Nat} {a b:List (List V)}:WkH F f h1 h' (.arr ty sz a) (.arr ty sz b)=(b=a):=by
 simp[WkH]
theorem qdz {a:Hs}:WkH F f h1 h' a .fresh=True:=eq_true q5h
theorem qgz {ty:Nat} {row:List V}:WkH F f h1 h' (.var ty row) .dead=True:=eq_true (qbh (by simp))
theorem qgc {ty sz:Nat} {row:List (List V)}:WkH F f h1 h' (.arr ty sz row) .dead=True:=eq_true (qbh (by simp))
theorem qhf:WkH F f h1 h' .dead .dead=True:=eq_true (qbh (by simp))
theorem qki {v:V}:Wk0 F f h1 h' v .undef=True:=by cases v<;>rfl
theorem qr0 {k k':IntKind} {a b:Int}:Wk0 F f h1 h' (.int k a) (.int k' b)=(k'=k∧b=a):=by simp[Wk0]
theorem qmz {a b:Bool}:Wk0 F f h1 h' (.bool a) (.bool b)=(b=a):=by simp[Wk0]
theorem qq6 {a b:List UInt8}:Wk0 F f h1 h' (.str a) (.str b)=(b=a):=by simp[Wk0]
theorem qmu:Wk0 F f h1 h' .nils .nils=True:=by simp[Wk0]
theorem qek {sz:Nat} {r:List (List V)}:Wk0 F f h1 h' .nils (.sl sz r)=(r=[]):=by cases r<;>simp[Wk0]
theorem qn8:Wk0 F f h1 h' .nilp .nilp=True:=by simp[Wk0]
theorem qlz:Wk0 F f h1 h' .nile .nile=True:=by simp[Wk0]
theorem qme:Wk0 F f h1 h' .erre .erre=True:=by simp[Wk0]
theorem j04 {s s':Nat} {a b:List (List V)}:Wk0 F f h1 h' (.sl s a) (.sl s' b)=(s'=s∧b=a):=by cases b<;>simp[Wk0]
theorem qlv {o o':Nat} {a b:List V}:Wk0 F f h1 h' (.iptr a o) (.iptr b o')=(b=a∧o'=o):=by simp[Wk0]
theorem qse {c k c' k':Nat}:Wk0 F f h1 h' (.own c k) (.own c' k')=(f c'=c∧k'=k∧h' c'≠.fresh):=of_eq_true (eq_self _)
theorem qow {c o k c' o' k':Nat}:Wk0 F f h1 h' (.view c o k) (.view c' o' k')=(f c'=c∧o'=o∧k'=k∧h' c'≠.fresh):=of_eq_true (eq_self _)
theorem j0o {c k c' k':Nat}:Wk0 F f h1 h' (.pv c k) (.pv c' k')=(f c'=c∧k'=k∧h' c'≠.fresh):=of_eq_true (eq_self _)
theorem qvy {c o k c' o' k':Nat}:Wk0 F f h1 h' (.pa c o k) (.pa c' o' k')=(f c'=c∧o'=o∧k'=k∧h' c'≠.fresh):=of_eq_true (eq_self _)
def fzA:Hs→Nat→List (List V)→Prop
 | .arr _ sz rows,sz',rows'=>sz'=sz∧rows'=rows
 | _,_,_=>False
theorem fzA_a {ty sz sz':Nat} {rows rows':List (List V)}:fzA (.arr ty sz rows) sz' rows'=(sz'=sz∧rows'=rows):=of_eq_true (eq_self _)
def fzW:Hs→Nat→Nat→Nat→List (List V)→Prop
 | .arr _ sz rows,o,k,sz',rows'=>sz'=sz∧rows'=(rows.drop o).take k
 | _,_,_,_,_=>False
theorem fzW_a {ty sz sz' o k:Nat} {rows rows':List (List V)}:fzW (.arr ty sz rows) o k sz' rows'=(sz'=sz∧rows'=(rows.drop o).take k):=of_eq_true (eq_self _)
def fzP:Hs→List V→Prop
 | .var _ row,row'=>row'=row
 | _,_=>False
theorem fzP_v {ty:Nat} {row row':List V}:fzP (.var ty row) row'=(row'=row):=of_eq_true (eq_self _)
theorem qhc {c k sz:Nat} {rows:List (List V)}:Wk0 F f h1 h' (.own c k) (.sl sz rows)=(fzA (h1 c) sz rows∧rows.length=k∧F c):=by
 refine propext ⟨λhw=>?_,λ⟨a,b,d⟩=>?_⟩
 ·have hw:FzV F h1 (.own c k) (.sl sz rows):=by cases rows<;>exact hw
  obtain⟨⟨ty,a⟩,b,d⟩:=hw
  exact⟨by rw[a];exact⟨rfl,rfl⟩,b,d⟩
 ·have:FzV F h1 (.own c k) (.sl sz rows):=by
   cases hc:h1 c<;>rw[hc] at a<;>simp only[fzA] at a
   obtain⟨rfl,rfl⟩:=a
   exact⟨⟨_,hc⟩,b,d⟩
  cases rows<;>exact this
theorem qe1 {c o k sz:Nat} {rows:List (List V)}:Wk0 F f h1 h' (.view c o k) (.sl sz rows)=(fzW (h1 c) o k sz rows∧rows.length=k∧F c):=by
 refine propext ⟨λhw=>?_,λ⟨a,b,d⟩=>?_⟩
 ·have hw:FzV F h1 (.view c o k) (.sl sz rows):=by cases rows<;>exact hw
  obtain⟨⟨ty,all,a,a2⟩,b,d⟩:=hw
  exact⟨by rw[a];exact⟨rfl,a2⟩,b,d⟩
 ·have:FzV F h1 (.view c o k) (.sl sz rows):=by
   cases hc:h1 c<;>rw[hc] at a<;>simp only[fzW] at a
   obtain⟨rfl,a2⟩:=a
   exact⟨⟨_,_,hc,a2⟩,b,d⟩
  cases rows<;>exact this
theorem qeb {c o o':Nat} {row:List V}:Wk0 F f h1 h' (.pv c o) (.iptr row o')=(o'=o∧fzP (h1 c) row∧row.all V.closed=true∧F c):=by
 refine propext ⟨λhw=>?_,λ⟨a,b,d,e⟩=>?_⟩
 ·obtain⟨a,⟨ty,b⟩,d,e⟩:=hw
  exact⟨a,by rw[b];rfl,d,e⟩
 ·have:FzV F h1 (.pv c o) (.iptr row o'):=by
   cases hc:h1 c<;>rw[hc] at b<;>simp only[fzP] at b
   subst b
   exact⟨a,⟨_,hc⟩,d,e⟩
  exact this
end
def NsL (R:Nat→Hs→Prop):List Nat→List Hs→Prop
 | [],[]=>True
 | n::ns,s::cs=>R n s∧NsL R ns cs
 | _,_=>False
theorem qqs {R:Nat→Hs→Prop}:NsL R [] []=True:=of_eq_true (eq_self _)
theorem qoz {R:Nat→Hs→Prop} {n s ns cs}:NsL R (n::ns) (s::cs)=(R n s∧NsL R ns cs):=of_eq_true (eq_self _)
theorem NsL.spec {R:Nat→Hs→Prop}:∀ {ns:List Nat} {cs:List Hs},NsL R ns cs→ns.length=cs.length∧∀(i:Nat) s,cs[i]?=some s→R (nsF ns i) s
 | [],[],_=>⟨rfl,λi s h=>by simp at h⟩
 | n::ns,s::cs,⟨h1,h2⟩=>by
   obtain⟨a,b⟩:=h2.spec
   refine⟨by simp[a],λi s' hs=>?_⟩
   cases i with
   | zero=>simp at hs;subst hs;simpa[nsF] using h1
   | succ i=>have:=b i s' (by simpa using hs);simpa[nsF] using this
def WkS (R:V→V→Prop) (t:Nat→V):List (Nat×V)→Prop
 | []=>True
 | (k,v)::l=>R (t k) v∧WkS R t l
def WkN (R:Hs→Hs→Prop) (g:Nat→Hs):List (Nat×Hs)→Prop
 | []=>True
 | (k,v)::l=>R (g k) v∧WkN R g l
def qc7 (fs:List (Nat×Nat)):List (Nat×Hs)→Nat→Bool
 | [],_=>true
 | (k,_)::m,c=>(q0o fs k != c)&&qc7 fs m c
def pinOk (fs:List (Nat×Nat)) (h:Nat→Hs):Nat→Prop
 | 0=>True
 | n+1=>pinOk fs h n∧q0o fs n=n∧h n≠.fresh
theorem WkS_nil {R:V→V→Prop} {t:Nat→V}:WkS R t []=True:=of_eq_true (eq_self _)
theorem WkS_cons {R:V→V→Prop} {t:Nat→V} {k:Nat} {v:V} {l:List (Nat×V)}:WkS R t ((k,v)::l)=(R (t k) v∧WkS R t l):=of_eq_true (eq_self _)
theorem WkN_nil {R:Hs→Hs→Prop} {t:Nat→Hs}:WkN R t []=True:=of_eq_true (eq_self _)
theorem WkN_cons {R:Hs→Hs→Prop} {t:Nat→Hs} {k:Nat} {v:Hs} {l:List (Nat×Hs)}:WkN R t ((k,v)::l)=(R (t k) v∧WkN R t l):=of_eq_true (eq_self _)
theorem qnb {fs:List (Nat×Nat)} {c:Nat}:qc7 fs [] c=true:=of_eq_true (eq_self _)
theorem qhp {fs:List (Nat×Nat)} {c k:Nat} {s:Hs} {m:List (Nat×Hs)}:qc7 fs ((k,s)::m) c=((q0o fs k != c)&&qc7 fs m c):=of_eq_true (eq_self _)
theorem qo0 (x:Nat):q0o [] x=x:=of_eq_true (eq_self _)
theorem qmb (k:Nat) (v:Nat) (l:List (Nat×Nat)):q0o ((k,v)::l) k=v:=by simp[q0o]
theorem qjw {k x:Nat} (v:Nat) (l:List (Nat×Nat)) (h:x≠k):q0o ((k,v)::l) x=q0o l x:=by simp[q0o,h]
theorem qt1 {fs:List (Nat×Nat)} {h:Nat→Hs}:pinOk fs h 0=True:=of_eq_true (eq_self _)
theorem qtf {fs:List (Nat×Nat)} {h:Nat→Hs} {n:Nat}:pinOk fs h (n+1)=(pinOk fs h n∧q0o fs n=n∧h n≠.fresh):=of_eq_true (eq_self _)
theorem WkS.all {R:V→V→Prop} (hu:∀v,R v .undef) {t:Nat→V}:∀ {l:List (Nat×V)},WkS R t l→∀d,R (t d) (q0i l d)
 | [],_,d=>hu _
 | (k,v)::l,h,d=>by
   simp only[q0i]
   split
   ·rename_i e;subst e;exact h.1
   ·exact h.2.all hu d
theorem WkN.all {R:Hs→Hs→Prop} (hu:∀v,R v .fresh) {fs:List (Nat×Nat)} {g:Nat→Hs}:∀ {l:List (Nat×Hs)},WkN R (λc=>g (q0o fs c)) l→∀d,R (g (q0o fs d)) (q0c l d)
 | [],_,d=>hu _
 | (k,v)::l,h,d=>by
   simp only[q0c]
   split
   ·rename_i e;subst e;exact h.1
   ·exact h.2.all hu d
theorem q8a:∀ {m:List (Nat×Hs)} {c:Nat},q0c m c≠.fresh→∃s,(c,s)∈m
 | [],c,h=>absurd rfl h
 | (k,s)::m,c,h=>by
   simp only[q0c] at h
   split at h
   ·rename_i e;subst e;exact⟨s,by simp⟩
   ·obtain⟨s',hs⟩:=q8a h;exact⟨s',by simp[hs]⟩
theorem qch {fs:List (Nat×Nat)} {c:Nat}:∀ {m:List (Nat×Hs)},qc7 fs m c=true→∀k s,(k,s)∈m→q0o fs k≠c
 | [],_,k,s,h=>by cases h
 | (k0,s0)::m,hb,k,s,h=>by
   simp only[qc7,Bool.and_eq_true,bne_iff_ne,ne_eq] at hb
   rcases List.mem_cons.1 h with h|h
   ·cases h;exact hb.1
   ·exact qch hb.2 k s h
theorem qbj {fs:List (Nat×Nat)} {c:Nat} {m:List (Nat×Hs)} (h:qc7 fs m c=true):NoN (q0o fs) (q0c m) c:=λc' hl=>by
 obtain⟨s,hs⟩:=q8a (q2m hl)
 exact qch h _ _ hs
theorem q7p {fs:List (Nat×Nat)} {m:List (Nat×Hs)} (h:(m.map λp=>q0o fs p.1).Nodup):∀x y,(q0c m x).live=true→(q0c m y).live=true→q0o fs x=q0o fs y→x=y:=by
 have key:∀(m:List (Nat×Hs)),(m.map λp=>q0o fs p.1).Nodup→∀x y s s',(x,s)∈m→(y,s')∈m→q0o fs x=q0o fs y→x=y:=by
  intro m
  induction m with
  | nil=>intro _ x y s s' hx;cases hx
  | cons a m ih =>
    intro hn x y s s' hx hy he
    simp only[List.map_cons,List.nodup_cons,List.mem_map,not_exists,not_and] at hn
    rcases List.mem_cons.1 hx with hx1|hx1<;>rcases List.mem_cons.1 hy with hy1|hy1
    ·rw[←hx1] at hy1;cases hy1;rfl
    ·subst hx1;exact absurd he.symm (hn.1 (y,s') hy1)
    ·subst hy1;exact absurd he (hn.1 (x,s) hx1)
    ·exact ih hn.2 x y s s' hx1 hy1 he
 intro x y hx hy he
 obtain⟨s,hs⟩:=q8a (q2m hx)
 obtain⟨s',hs'⟩:=q8a (q2m hy)
 exact key m h x y s s' hs hs' he
theorem pinOk.spec {fs:List (Nat×Nat)} {h:Nat→Hs}:∀ {n:Nat},pinOk fs h n→∀i,i<n→q0o fs i=i∧h i≠.fresh
 | 0,_,i,hi=>by omega
 | n+1,hp,i,hi=>by
   by_cases e:i=n
   ·subst e;exact hp.2
   ·exact hp.1.spec i (by omega)
theorem leN {G:Glob} {pin:Nat} {l1 l2:List (Nat×V)} {m1 m2:List (Nat×Hs)} (fs:List (Nat×Nat))
 (ht:WkS (Wk (λc=>qc7 fs m2 c=true) (q0o fs) (q0c m1) (q0c m2)) (q0i l1) l2)
 (hh:WkN (WkH (λc=>qc7 fs m2 c=true) (q0o fs) (q0c m1) (q0c m2)) (λc=>q0c m1 (q0o fs c)) m2)
 (hi:(m2.map λp=>q0o fs p.1).Nodup) (hp:pinOk fs (q0c m2) pin):St.le G pin ⟨q0i l1,q0c m1⟩ ⟨q0i l2,q0c m2⟩:=by
 have hF:∀c,qc7 fs m2 c=true→NoN (q0o fs) (q0c m2) c∧q0c m1 c=q0c m1 c:=λc hc=>⟨qbj hc,rfl⟩
 refine LeR.le (f:=q0o fs) ⟨λd=>?_,λc=>?_,q7p hi,hp.spec⟩
 ·exact(WkS.all (λv=>by rw[qbd];trivial) ht d).congr hF
 ·exact(WkN.all (λv=>q5h) hh c).congr hF
section
variable {P:Program} {G:Glob}
theorem q0v {α:Type} {pin:Nat} {ic:IC} {Q:Ex→St→Prop} {st:St} (S:α→St) (M:α→Nat) (Inv:α→Prop) (a0:α) (h0:st.le G pin (S a0)) (hi:Inv a0)
 (hr:∀a,Inv a→wpI P G pin ic (exN (λs'=>∃a',M a'<M a∧Inv a'∧s'.le G pin (S a')) Q) (S a)):LoopI G pin (wpI P G pin ic) Q st:=by
 refine⟨λk s=>∃a,M a=k∧Inv a∧s=S a,M a0,S a0,h0,⟨a0,rfl,hi,rfl⟩, ?_⟩
 rintro k s ⟨a,rfl,ha,rfl⟩
 refine qg5 pin ic _ _ (λe s hs=>?_) _ (hr a ha)
 cases e
 ·obtain⟨a',h1,h2,h3⟩:=hs
  exact⟨M a',S a',h1,h3,a',rfl,h2,rfl⟩
 ·exact hs
 ·exact hs
theorem q1m {rs:List RV} {pin:Nat} {post:V→List Hs→Prop} {l:List (Nat×V)} {m:List (Nat×Hs)} (res:V) (out:List Hs) (fs:List (Nat×Nat))
 (hv:qc0 (qld ⟨q0i l,q0c m⟩ rs) λv=>Wk (λc=>qc7 fs (q1c 0 out) c=true) (q0o fs) (q0c m) (q0c (q1c 0 out)) v res) (hp:post res out)
 (hh:WkN (WkH (λc=>qc7 fs (q1c 0 out) c=true) (q0o fs) (q0c m) (q0c (q1c 0 out))) (λc=>q0c m (q0o fs c)) (q1c 0 out))
 (hi:((q1c 0 out).map λp=>q0o fs p.1).Nodup) (hpi:pinOk fs (q0c (q1c 0 out)) pin):q59 rs pin post .ret ⟨q0i l,q0c m⟩:=by
 have hF:∀c,qc7 fs (q1c 0 out) c=true→NoN (q0o fs) (q0c (q1c 0 out)) c∧q0c m c=q0c m c:=λc hc=>⟨qbj hc,rfl⟩
 obtain⟨v,hv,hw⟩:=q34 hv
 refine⟨v,res,out,q0o fs,hv,hp, ?_,λc=>?_, ?_, ?_⟩
 ·rw[q5x];exact hw.congr hF
 ·rw[q5x];exact(WkN.all (λv=>q5h) hh c).congr hF
 ·rw[q5x];exact q7p hi
 ·rw[q5x];exact hpi.spec
def qu9 (rs:List RV) (v:V):Ex→St→Prop
 | .exit _,_=>False
 | _,st=>qc0 (qld st rs) λr=>Wk (λ_=>True) id st.h (λ_=>.fresh) r v
theorem qwi (rs v) (st:St):qu9 rs v .normal st=qc0 (qld st rs) λr=>Wk (λ_=>True) id st.h (λ_=>.fresh) r v:=of_eq_true (eq_self _)
theorem qvx (rs v) (st:St):qu9 rs v .ret st=qc0 (qld st rs) λr=>Wk (λ_=>True) id st.h (λ_=>.fresh) r v:=of_eq_true (eq_self _)
theorem FnR.mkF {f:FuncId} {fn:Func} {ic:IC} {rs:List RV} {args:List V} {v:V} (hf:P.funcs[f]?=some fn) (hn:entr P f=true) {N:Bool} (hd:digF P fn N=some (ic,rs)) {n:Nat} (hnt:fn.ntmps=n)
 (ha:args.length≤n) (h:wpI P G 0 ic (qu9 rs v) ⟨q0i (qe6 0 args),q0c []⟩):FnR P G f args v:=by
 refine FnP.mk' hf hn hd hnt ha ⟨_,_,rfl,rfl⟩ ?_
 have:chH []=q0c []:=q5x []
 rw[this]
 refine qg5 0 ic _ _ (λe s hs=>?_) _ h
 have key:(qc0 (qld s rs) λr=>Wk (λ_=>True) id s.h (λ_=>.fresh) r v)→q59 rs 0 (λr o=>r=v∧o=[]) .ret s:=λhs=>by
  obtain⟨r,hr,hw⟩:=q34 hs
  have hc:chH []=λ_=>.fresh:=by funext x;simp[chH]
  refine⟨r,v,[],id,hr,⟨rfl,rfl⟩, ?_,λc=>?_,λx y hx=>?_,λi hi=>by omega⟩
  ·rw[hc];exact hw.congr λc _=>⟨λc' hl=>(by cases hl),rfl⟩
  ·rw[hc];exact q5h
  ·rw[hc] at hx;cases hx
 cases e
 ·exact key hs
 ·exact hs.elim
 ·exact key hs
theorem q0m {f:FuncId} {pin:Nat} {cs:List Hs} {args:List V} {postf:V→List Hs→Prop} (F:FnP P G f pin cs args postf) {vs:List V} {d:Option Nat} {st:St} {K:St→List Nat→List Nat→Prop}
 (ns lent:List Nat) (kp:Bool) (dd m:Nat)
 (hw:WkL (Wk (λc=>c∈lent) (nsF ns) st.h (chH cs)) vs args)
 (hc:NsL (λn s=>s.live=true∧WkH (λc=>c∈lent) (nsF ns) st.h (chH cs) (st.h n) s) ns cs)
 (hpin:pin≤ns.length) (hnd:ns.Nodup) (hl:∀c,c∈lent→(st.h c).live=true∧c∉ns)
 (ho:∀res out,postf res out→pin≤out.length∧out.length≤m∧(kp=true∨(res.plain=true∧∀s,s∈out→s.plain=true))∧∀i,i<pin→q09 (chH cs i) (chH out i)=true)
 (hf:∀i,i<m→st.h (qgq dd i)=.fresh)
 (hk:∀res out,postf res out→K (st.app d (res.rn (bk ns pin dd)) (qan (bk ns pin dd) 0 out++q4y (ns.drop pin++bif kp then lent else []))) (q1x ns lent dd m) (q1x ns (bif kp then lent else []) dd m)) :
 CallV P G f vs d st K:=by
 obtain⟨hlen,hw⟩:=hw.spec
 have hF:∀h':Nat→Hs,(∀c,c∈q1x ns lent dd m→h' c=st.h c)→∀c,c∈lent→c∈lent∧h' c=st.h c:=λh' hh c hc=>⟨hc,hh c (by simp[q1x,hc])⟩
 obtain⟨h20,h21⟩:=hc.spec
 have h2:ns.length=cs.length∧∀(i:Nat) s,cs[i]?=some s→s.live=true∧WkH (λc=>c∈lent) (nsF ns) st.h (chH cs) (st.h (nsF ns i)) s∧nsF ns i∈ns :=
  ⟨h20,λi s hs=>⟨(h21 i s hs).1,(h21 i s hs).2,qau (by rw[h20];exact(List.getElem?_eq_some_iff.1 hs).1)⟩⟩
 have hs:=qsa F (vs:=vs) (h:=st.h) (ns:=ns) (lent:=lent) (kp:=kp) (d:=dd) (m:=m) hpin h2.1 hnd hlen.symm
  (λh' hh j v v' h1 h2=>(hw j v v' h1 h2).congr (hF h' hh))
  (λh' hh i s hs=>by
    obtain⟨a,b,e⟩:=h2.2 i s hs
    refine⟨.inl a, ?_⟩
    rw[hh (nsF ns i) (by simp[q1x,e])]
    exact b.congr (hF h' hh)) hl ho hf
 refine⟨_,_,_,hs,λv up hp=>?_⟩
 obtain⟨res,out,hp,rfl,rfl⟩:=hp
 exact hk res out hp
theorem q2p {f:FuncId} {args:List V} {v:V} (F:FnR P G f args v) {vs:List V} {d:Option Nat} {st:St} {K:St→List Nat→List Nat→Prop} (lent:List Nat) (kp:Bool)
 (hw:WkL (Wk (λc=>c∈lent) (nsF []) st.h (chH [])) vs args) (hl:∀c,c∈lent→(st.h c).live=true) (hv:v.nl=true) (hk:kp=true∨v.plain=true)
 (hK:K (st.app d v (q4y (bif kp then lent else []))) lent (bif kp then lent else [])):CallV P G f vs d st K:=by
 refine q0m F [] lent kp 0 0 hw trivial (Nat.zero_le _) List.nodup_nil (λc hc=>⟨hl c hc,by simp⟩) ?_ (λi hi=>by omega) ?_
 ·rintro res out ⟨rfl,rfl⟩
  exact⟨Nat.le_refl _,Nat.le_refl _,hk.imp id λh=>⟨h,λs hs=>by cases hs⟩,λi hi=>by omega⟩
 ·rintro res out ⟨rfl,rfl⟩
  have h1:∀l:List Nat,q1x [] l 0 0=l:=λl=>by simp[q1x]
  rw[qw7 hv,h1,h1]
  simpa[qan] using hK
end
section
variable {Q:Ex→St→Prop} {st:St}
theorem exB_h (i):exB i Q (.exit i) st=Q .normal st:=by simp[exB]
theorem exB_m {i j:Nat} (h:j≠i):exB i Q (.exit j) st=Q (.exit j) st:=by simp[exB,h]
end
theorem qdq {P:Program} {G:Glob} {o:IOper} {st st':St} {K:St→List Nat→List Nat→Prop} (h:st=st'):q3d P G o st K=q3d P G o st' K:=by rw[h]
theorem qky {P:Program} {G:Glob} {o:IOper} {st st':St} {K:St→List Nat→List Nat→Prop} (h:st=st'):doV P G o st K=doV P G o st' K:=by rw[h]
theorem qin {K:St→Prop} {Q:Ex→St→Prop} {e:Ex} {st st':St} (h:st=st'):exN K Q e st=exN K Q e st':=by rw[h]
theorem qjr {i:Nat} {Q:Ex→St→Prop} {e:Ex} {st st':St} (h:st=st'):exB i Q e st=exB i Q e st':=by rw[h]
theorem qh0 {rs:List RV} {v:V} {e:Ex} {st st':St} (h:st=st'):qu9 rs v e st=qu9 rs v e st':=by rw[h]
theorem qge {rs:List RV} {n:Nat} {post:V→List Hs→Prop} {e:Ex} {st st':St} (h:st=st'):q59 rs n post e st=q59 rs n post e st':=by rw[h]
def fstO (o:Option (V×List Nat)):Option V:=o.map Prod.fst
def qqo:Option V→Option (List V)→Option (List V)
 | some v,some l=>some (v::l)
 | _,_=>none
theorem qrb (v:V) (l:List V):qqo (some v) (some l)=some (v::l):=of_eq_true (eq_self _)
def resK (o:Option (List V)):Option V:=o.bind qho
theorem j12 (l:List V):resK (some l)=qho l:=of_eq_true (eq_self _)
theorem j0r (st:St) (rs:List RV):qld st rs=resK (rs.mapM (rvV st)):=of_eq_true (eq_self _)
theorem qrl (st:St):([]:List RV).mapM (rvV st)=some []:=by simp
theorem rvs_t (st:St) (n:Nat) (rs:List RV):(RV.t n::rs).mapM (rvV st)=qqo (some (st.t n)) (rs.mapM (rvV st)):=by
 simp only[List.mapM_cons,rvV]
 cases rs.mapM (rvV st)<;>rfl
theorem rvs_c (st:St) (n sz:Nat) (ag:Bool) (rs:List RV):(RV.cell n sz ag::rs).mapM (rvV st)=qqo (fstO (q3t st.h sz ag (st.t n))) (rs.mapM (rvV st)):=by
 simp only[List.mapM_cons,rvV,fstO]
 cases q3t st.h sz ag (st.t n)<;>cases rs.mapM (rvV st)<;>rfl
theorem j0y (v:V) (l:List Nat):fstO (some (v,l))=some v:=of_eq_true (eq_self _)
theorem qzg (v:V):qho [v]=some v:=of_eq_true (eq_self _)
theorem qzz {a b:V} (h:(a.untup&&b.untup)=true):qho [a,b]=some (.tup [a,b]):=by
 simp only[qho,List.all_cons,List.all_nil,Bool.and_true,h,if_true]
theorem qz8 {a b c:V} (h:(a.untup&&(b.untup&&c.untup))=true):qho [a,b,c]=some (.tup [a,b,c]):=by
 simp only[qho,List.all_cons,List.all_nil,Bool.and_true,h,if_true]
theorem j19 {a b c d:V} (h:(a.untup&&(b.untup&&(c.untup&&d.untup)))=true):qho [a,b,c,d]=some (.tup [a,b,c,d]):=by
 simp only[qho,List.all_cons,List.all_nil,Bool.and_true,h,if_true]
theorem qml (ng:Bool):isnF ng .nile=some (.bool (!ng)):=of_eq_true (eq_self _)
theorem qok (ng:Bool):isnF ng .erre=some (.bool ng):=of_eq_true (eq_self _)
theorem neg_i (k:IntKind) (n:Int):negF (.int k n)=some (.int k (k.wrap (0 - n))):=of_eq_true (eq_self _)
theorem cvi_i (k k':IntKind) (n:Int):cviF k (.int k' n)=some (.int k (k.wrap n)):=of_eq_true (eq_self _)
theorem q01 {n:Int} (h : -9223372036854775808≤n∧n≤9223372036854775807):IntKind.i64.wrap n=n:=IntWalk.i64_in n h
theorem u8w {n:Int} (h:0≤n∧n≤255):IntKind.u8.wrap n=n:=IntWalk.u8_in n h
def slsG (s:List UInt8) (l u:Option Int):Option V:=match l,u with
 | some l,some u=>guardP (0≤l∧l≤u∧u≤s.length) (some (.str ((s.take u.toNat).drop l.toNat)))
 | _,_=>none
def slsF (x:V) (lo hi:Option V):Option V:=match x with
 | .str s=>slsG s (loV lo) (hiV s.length hi)
 | _=>none
def idxF (x i:V):Option V:=match x,i with
 | .str s,.int _ n=>guardP (0≤n∧n<s.length) (some (.int .u8 ((s.getD n.toNat 0).toNat:Int)))
 | _,_=>none
def mnF (x y:V):Option V:=match x,y with
 | .int k a,.int k' b=>if k=k' then some (.int k (min a b)) else none
 | _,_=>none
def mxF (x y:V):Option V:=match x,y with
 | .int k a,.int k' b=>if k=k' then some (.int k (max a b)) else none
 | _,_=>none
def s2bF:V→Option (V×List (Nat×Hs)×List Nat)
 | .str s=>guardP (s.length≤2000000) (some (.sl 1 (s.map λb=>[.int .u8 (b.toNat:Int)]),[],[]))
 | _=>none
def bytO (tc:List Nat) (x:Option (List UInt8)):Option (V×List (Nat×Hs)×List Nat):=x.map λs=>(.str s,[],tc)
def b2sF (x:Option (List (List V)×List Nat)):Option (V×List (Nat×Hs)×List Nat):=match x with
 | some (rows,tc)=>bytO tc (q4m rows)
 | none=>none
def slvG (sz:Nat) (rows:List (List V)) (l u:Option Int):Option (V×List (Nat×Hs)×List Nat):=match l,u with
 | some l,some u=>guardP (0≤l∧l≤u∧u≤rows.length) (some (.sl sz ((rows.take u.toNat).drop l.toNat),[],[]))
 | _,_=>none
def slvN (sz:Nat) (l u:Option Int):Option (V×List (Nat×Hs)×List Nat):=match l,u with
 | some l,some u=>guardP (l=0∧u=0) (some (.sl sz [],[],[]))
 | _,_=>none
def j0c (sz c k:Nat) (a:Hs) (l u:Option Int):Option (V×List (Nat×Hs)×List Nat):=match a with
 | .arr _ s rows=>match l,u with
   | some l,some u=>if s=sz then guardP (0≤l∧l≤u∧u≤k∧k≤rows.length) (some (.view c l.toNat (u.toNat - l.toNat),[],[c])) else none
   | _,_=>none
 | _=>none
def qu8 (h:Nat→Hs) (sz:Nat) (x:V) (lo hi:Option V):Option (V×List (Nat×Hs)×List Nat):=match x with
 | .sl s rows=>if s=sz then slvG sz rows (loV lo) (hiV rows.length hi) else none
 | .own c k=>j0c sz c k (h c) (loV lo) (hiV k hi)
 | .nils=>slvN sz (loV lo) (hiV 0 hi)
 | _=>none
def qyf (rows:List (List V)) (n:Int):Option (V×List (Nat×Hs)×List Nat):=guardP (0≤n∧n<rows.length) (some (.iptr (rows.getD n.toNat []) 0,[],[]))
def j10 (sz c k:Nat) (a:Hs) (n:Int):Option (V×List (Nat×Hs)×List Nat):=match a with
 | .arr _ s rows=>if s=sz then guardP (0≤n∧n<k∧k≤rows.length) (some (.pa c n.toNat 0,[],[c])) else none
 | _=>none
def j1r (sz c o k:Nat) (a:Hs) (n:Int):Option (V×List (Nat×Hs)×List Nat):=match a with
 | .arr _ s rows=>if s=sz then guardP (0≤n∧n<k∧o+k≤rows.length) (some (.pa c (o+n.toNat) 0,[],[c])) else none
 | .var _ row=>guardP (0≤n∧n<k∧k*sz≤row.length) (some (.pv c (n.toNat*sz),[],[c]))
 | _=>none
def quf (h:Nat→Hs) (sz:Nat) (x i:V):Option (V×List (Nat×Hs)×List Nat):=match x,i with
 | .sl s rows,.int _ n=>if s=sz then qyf rows n else none
 | .own c k,.int _ n=>j10 sz c k (h c) n
 | .view c o k,.int _ n=>j1r sz c o k (h c) n
 | _,_=>none
def qu5 (zero:List V) (parts:List (Nat×Nat×V)):Option V:=if parts.all (λp=>(q05 p.2.2).all V.one)=true then(q82 zero parts).map .agg else none
def qpo (f:Nat) (caps:List V):Option V:=if caps.all (λv=>v.one&&!v.isFn)=true then some (.fn f caps) else none
def qjm (h:Nat→Hs) (sz:Nat) (v:V):Option (List (List V)×List Nat):=q4a h sz v
def qu7 (ty sz n:Nat) (ys:List (List V)) (tc:List Nat) (c m:Nat) (a:Hs):Option (V×List (Nat×Hs)×List Nat):=match a with
 | .arr ty' s rows=>if s=sz∧ty'=ty then guardP (rows.length=n∧n+ys.length≤2000000) (some (.own m (n+ys.length),[(c,.dead),(m,.arr ty sz (rows++ys))],c::m::tc)) else none
 | _=>none
def qtj (h:Nat→Hs) (ty sz m:Nat) (x:V) (r:Option (List (List V)×List Nat)):Option (V×List (Nat×Hs)×List Nat):=match r with
 | none=>none
 | some (ys,tc)=>q24 (h m)<|match x with
   | .nils=>guardP (ys.length≤2000000) (some (.own m ys.length,[(m,.arr ty sz ys)],m::tc))
   | .own c n=>qu7 ty sz n ys tc c m (h c)
   | _=>none
section
variable {P:Program} {G:Glob} {st:St} {K:St→List Nat→List Nat→Prop}
theorem qyi (d g x lo hi):doV P G ⟨d,g,.sls x lo hi⟩ st K=pureK d st K (slsF (ev st.t x) (lo.map (ev st.t)) (hi.map (ev st.t))):=by
 rw[q1u rfl rfl];simp only[q0k,slsF,slsG]
 cases ev st.t x<;>rfl
theorem j25 (d g x i):doV P G ⟨d,g,.idx x i⟩ st K=pureK d st K (idxF (ev st.t x) (ev st.t i)):=by
 rw[q1u rfl rfl];simp only[q0k,idxF];cases ev st.t x<;>cases ev st.t i<;>rfl
theorem do_mn (d g x y):doV P G ⟨d,g,.mn x y⟩ st K=pureK d st K (mnF (ev st.t x) (ev st.t y)):=by
 rw[q1u rfl rfl];simp only[q0k,mnF];cases ev st.t x<;>cases ev st.t y<;>rfl
theorem do_mx (d g x y):doV P G ⟨d,g,.mx x y⟩ st K=pureK d st K (mxF (ev st.t x) (ev st.t y)):=by
 rw[q1u rfl rfl];simp only[q0k,mxF];cases ev st.t x<;>cases ev st.t y<;>rfl
theorem qpc (d g zero parts):doV P G ⟨d,g,.build zero parts⟩ st K=pureK d st K (qu5 zero (parts.map λp=>(p.1,p.2.1,ev st.t p.2.2))):=by
 rw[q1u rfl rfl];simp only[q0k,qu5,List.all_map];rfl
theorem j16 (d g f caps):doV P G ⟨d,g,.mkf f caps⟩ st K=pureK d st K (qpo f (caps.map (ev st.t))):=by
 rw[q1u rfl rfl];simp only[q0k,qpo,List.all_map];rfl
theorem qx4 (d g x):doV P G ⟨d,g,.s2b x⟩ st K=effK d st K (s2bF (ev st.t x)):=by
 rw[q58 rfl];simp only[q2s,s2bF];cases ev st.t x<;>rfl
theorem qvo (d g x):doV P G ⟨d,g,.b2s x⟩ st K=effK d st K (b2sF (qjm st.h 1 (ev st.t x))):=by
 rw[q58 rfl];simp only[q2s,b2sF,qjm,bytO];cases q4a st.h 1 (ev st.t x)<;>rfl
theorem qun (d g sz x lo hi):doV P G ⟨d,g,.slv sz x lo hi⟩ st K=effK d st K (qu8 st.h sz (ev st.t x) (lo.map (ev st.t)) (hi.map (ev st.t))):=by
 rw[q58 rfl];simp only[q2s,qu8]
 cases hx:ev st.t x
 case nils=>simp only[slvN];cases loV (lo.map (ev st.t))<;>cases hiV 0 (hi.map (ev st.t))<;>rfl
 case sl s rows =>
  simp only[slvG]
  cases loV (lo.map (ev st.t))<;>cases hiV rows.length (hi.map (ev st.t))<;>by_cases h:s=sz<;>simp[h]
 case own c k =>
  simp only[j0c]
  cases st.h c<;>cases loV (lo.map (ev st.t))<;>cases hiV k (hi.map (ev st.t))<;>rfl
 all_goals rfl
theorem j0i (d g sz x i):doV P G ⟨d,g,.iad sz x i⟩ st K=effK d st K (quf st.h sz (ev st.t x) (ev st.t i)):=by
 rw[q58 rfl];simp only[q2s,quf]
 cases ev st.t x<;>cases ev st.t i<;>first|rfl|(rename_i c k _ _;simp only[j10];cases st.h c<;>rfl)|(rename_i c o k _ _;simp only[j1r];cases st.h c<;>rfl)
theorem qyh (d g ty sz xs):doV P G ⟨some d,g,.bsl ty sz xs⟩ st K=effK (some d) st K (q24 (st.h (nm d)) (if xs.all (λx=>decide ((q05 (ev st.t x)).length=sz)&&(q05 (ev st.t x)).all V.closed)=true then
        some (.own (nm d) xs.length,[(nm d,.arr ty sz (xs.map λx=>q05 (ev st.t x)))],[nm d])
 else if xs.all (λx=>decide ((q05 (ev st.t x)).length=sz)&&((q05 (ev st.t x)).map (z0V st.h)).all V.closed)=true then
  some (.own (nm d) xs.length,[(nm d,.arr ty sz (xs.map λx=>(q05 (ev st.t x)).map (z0V st.h)))],nm d::xs.flatMap λx=>(q05 (ev st.t x)).flatMap z0N) else none)):=q58 rfl
def mksF (h:Nat→Hs) (ty sz m:Nat):V→Option (V×List (Nat×Hs)×List Nat)
 | .int _ n=>q24 (h m) (guardP (0≤n∧n≤2000000) (some (.own m 0,[(m,.arr ty sz [])],[m])))
 | _=>none
theorem j0n (d g ty sz x):doV P G ⟨some d,g,.mks ty sz x⟩ st K=effK (some d) st K (mksF st.h ty sz (nm d) (ev st.t x)):=by
 rw[q58 rfl];simp only[q2s,mksF];cases ev st.t x<;>rfl
def apsG (h:Nat→Hs) (ty m:Nat) (x:V):V→Option (V×List (Nat×Hs)×List Nat)
 | .str s=>qtj h ty 1 m x (some (s.map λb=>[.int .u8 (b.toNat:Int)],[]))
 | _=>none
theorem quk (d g ty x y):doV P G ⟨some d,g,.aps ty x y⟩ st K=effK (some d) st K (apsG st.h ty (nm d) (ev st.t x) (ev st.t y)):=by
 rw[q58 rfl];simp only[q2s,qqr]
 cases ev st.t y<;>first|rfl|skip
 all_goals(simp only[apsG,qit,qtj,q4a,if_true];cases ev st.t x<;>first|rfl|(rename_i c n;simp only[qu7];cases st.h c<;>rfl))
theorem qws (d g ty sz x y):doV P G ⟨some d,g,.app ty sz x y⟩ st K=effK (some d) st K (qtj st.h ty sz (nm d) (ev st.t x) (qjm st.h sz (ev st.t y))):=by
 rw[q58 rfl];simp only[q2s,qit,qtj,qjm]
 cases q4a st.h sz (ev st.t y) with
 | none=>rfl
 | some r =>
   obtain⟨ys,tc⟩:=r
   cases ev st.t x<;>first|rfl|(rename_i c n;simp only[qu7];cases st.h c<;>rfl)
def j1o (P:Program) (G:Glob) (xs:List V) (d:Option Nat) (st:St) (K:St→List Nat→List Nat→Prop):V→Prop
 | .fn f caps=>CallV P G f (xs++caps) d st K
 | _=>False
theorem j00 (d g x xs):doV P G ⟨d,g,.cal x xs⟩ st K=j1o P G (xs.map (ev st.t)) d st K (ev st.t x):=by
 simp only[doV,j1o];cases ev st.t x<;>rfl
theorem j1d (xs d f caps):j1o P G xs d st K (.fn f caps)=CallV P G f (xs++caps) d st K:=of_eq_true (eq_self _)
theorem qgy {xs:List V} {d:Option Nat} {v v':V} (h:v=v'):j1o P G xs d st K v=j1o P G xs d st K v':=by rw[h]
theorem pureG {d:Option Nat} {c:Prop} {inst:Decidable c} {x:Option V} (h1:c) (h2:pureK d st K x):pureK d st K (guardP c x):=by rw[q4l _ h1];exact h2
theorem effG {d:Option Nat} {c:Prop} {inst:Decidable c} {x:Option (V×List (Nat×Hs)×List Nat)} (h1:c) (h2:effK d st K x):effK d st K (guardP c x):=by rw[q4l _ h1];exact h2
end
theorem qmg {α:Type} {inst:Decidable True} (x:Option α):@guardP α True inst x=x:=q4l x trivial
theorem sls_s (s lo hi):slsF (.str s) lo hi=slsG s (loV lo) (hiV s.length hi):=of_eq_true (eq_self _)
theorem qwq (s l u):slsG s (some l) (some u)=guardP (0≤l∧l≤u∧u≤s.length) (some (.str ((s.take u.toNat).drop l.toNat))):=of_eq_true (eq_self _)
theorem loV_n:loV none=some 0:=of_eq_true (eq_self _)
theorem loV_i (k n):loV (some (.int k n))=some n:=of_eq_true (eq_self _)
theorem hiV_n (k):hiV k none=some (k:Int):=of_eq_true (eq_self _)
theorem hiV_i (m k n):hiV m (some (.int k n))=some n:=of_eq_true (eq_self _)
theorem idx_s (s k n):idxF (.str s) (.int k n)=guardP (0≤n∧n<s.length) (some (.int .u8 ((s.getD n.toNat 0).toNat:Int))):=of_eq_true (eq_self _)
theorem mn_i (k a b):mnF (.int k a) (.int k b)=some (.int k (min a b)):=by simp[mnF]
theorem mx_i (k a b):mxF (.int k a) (.int k b)=some (.int k (max a b)):=by simp[mxF]
theorem s2b_s (s):s2bF (.str s)=guardP (s.length≤2000000) (some (.sl 1 (s.map λb=>[.int .u8 (b.toNat:Int)]),[],[])):=of_eq_true (eq_self _)
theorem b2s_s (rows tc):b2sF (some (rows,tc))=bytO tc (q4m rows):=of_eq_true (eq_self _)
theorem qyq (tc s):bytO tc (some s)=some (.str s,[],tc):=of_eq_true (eq_self _)
theorem qi4:q4m []=some []:=of_eq_true (eq_self _)
def conB (b:UInt8):Option (List UInt8)→Option (List UInt8)
 | some l=>some (b::l)
 | none=>none
theorem qvr (b l):conB b (some l)=some (b::l):=of_eq_true (eq_self _)
theorem qgp (n:Int) (r):q4m ([.int .u8 n]::r)=conB (UInt8.ofNat n.toNat) (q4m r):=by simp only[q4m,conB];cases q4m r<;>rfl
theorem j29 (h sz rows lo hi):qu8 h sz (.sl sz rows) lo hi=slvG sz rows (loV lo) (hiV rows.length hi):=by simp[qu8]
theorem qrv (h sz c k lo hi):qu8 h sz (.own c k) lo hi=j0c sz c k (h c) (loV lo) (hiV k hi):=of_eq_true (eq_self _)
theorem qm9 (h sz lo hi):qu8 h sz .nils lo hi=slvN sz (loV lo) (hiV 0 hi):=of_eq_true (eq_self _)
theorem j1u (sz rows l u):slvG sz rows (some l) (some u)=guardP (0≤l∧l≤u∧u≤rows.length) (some (.sl sz ((rows.take u.toNat).drop l.toNat),[],[])):=of_eq_true (eq_self _)
theorem qv0 (sz l u):slvN sz (some l) (some u)=guardP (l=0∧u=0) (some (.sl sz [],[],[])):=of_eq_true (eq_self _)
theorem j0x (sz c k ty rows l u):j0c sz c k (.arr ty sz rows) (some l) (some u)=guardP (0≤l∧l≤u∧u≤k∧k≤rows.length) (some (.view c l.toNat (u.toNat - l.toNat),[],[c])):=by simp[j0c]
theorem qxp (h sz rows k n):quf h sz (.sl sz rows) (.int k n)=qyf rows n:=by simp[quf]
theorem q02 (rows n):qyf rows n=guardP (0≤n∧n<rows.length) (some (.iptr (rows.getD n.toNat []) 0,[],[])):=of_eq_true (eq_self _)
theorem qoh {α:Type} [Inhabited α] (l:List α) (f:α→List V) (n):qyf (l.map f) n=guardP (0≤n∧n<l.length) (some (.iptr (f (l.getD n.toNat default)) 0,[],[])):=by
 simp only[qyf,List.length_map]
 by_cases h:0≤n∧n<(l.length:Int)
 ·rw[q4l _ h,q4l _ h]
  have:n.toNat<l.length:=by omega
  simp[List.getD,this]
 ·simp[guardP,h]
theorem qnr {α β:Type} (f:α→β) (l:List α) (n:Nat):(l.map f).take n=(l.take n).map f:=List.map_take.symm
theorem qnf {α β:Type} (f:α→β) (l:List α) (n:Nat):(l.map f).drop n=(l.drop n).map f:=List.map_drop.symm
theorem qrx (h sz c k k' n):quf h sz (.own c k) (.int k' n)=j10 sz c k (h c) n:=of_eq_true (eq_self _)
theorem qoe (h sz c o k k' n):quf h sz (.view c o k) (.int k' n)=j1r sz c o k (h c) n:=of_eq_true (eq_self _)
theorem qxg (sz c k ty rows n):j10 sz c k (.arr ty sz rows) n=guardP (0≤n∧n<k∧k≤rows.length) (some (.pa c n.toNat 0,[],[c])):=by simp[j10]
theorem qz0 (sz c o k ty rows n):j1r sz c o k (.arr ty sz rows) n=guardP (0≤n∧n<k∧o+k≤rows.length) (some (.pa c (o+n.toNat) 0,[],[c])):=by simp[j1r]
theorem mks_i (h:Nat→Hs) (ty sz m k n):mksF h ty sz m (.int k n)=q24 (h m) (guardP (0≤n∧n≤2000000) (some (.own m 0,[(m,.arr ty sz [])],[m]))):=of_eq_true (eq_self _)
theorem qk2 (h sz):qjm h sz .nils=some ([],[]):=of_eq_true (eq_self _)
theorem qqn (h sz rows):qjm h sz (.sl sz rows)=some (rows,[]):=by simp[qjm,q4a]
def rowA (sz c n:Nat):Hs→Option (List (List V)×List Nat)
 | .arr _ s rows=>if s=sz then guardP (n≤rows.length) (some (rows.take n,[c])) else none
 | _=>none
theorem qmr (h:Nat→Hs) (sz c n):qjm h sz (.own c n)=rowA sz c n (h c):=by simp only[qjm,q4a,rowA];cases h c<;>rfl
theorem j03 {sz c n ty rows} (hl:rows.length=n):rowA sz c n (.arr ty sz rows)=some (rows,[c]):=by
 subst hl;simp[rowA,guardP]
theorem qi0 (h:Nat→Hs) (ty sz m ys tc):qtj h ty sz m .nils (some (ys,tc))=q24 (h m) (guardP (ys.length≤2000000) (some (.own m ys.length,[(m,.arr ty sz ys)],m::tc))):=of_eq_true (eq_self _)
theorem j0t (h:Nat→Hs) (ty m x s):apsG h ty m x (.str s)=qtj h ty 1 m x (some (s.map λb=>[.int .u8 (b.toNat:Int)],[])):=of_eq_true (eq_self _)
theorem qnj (h:Nat→Hs) (ty sz m c n ys tc):qtj h ty sz m (.own c n) (some (ys,tc))=q24 (h m) (qu7 ty sz n ys tc c m (h c)):=of_eq_true (eq_self _)
theorem qv5 (ty sz n ys tc c m rows):qu7 ty sz n ys tc c m (.arr ty sz rows)=guardP (rows.length=n∧n+ys.length≤2000000) (some (.own m (n+ys.length),[(c,.dead),(m,.arr ty sz (rows++ys))],c::m::tc)):=by simp[qu7]
def mapA (o:Option (List V)):Option V:=o.map .agg
theorem qww (r):mapA (some r)=some (.agg r):=of_eq_true (eq_self _)
theorem qwc {zero parts} (h1:parts.all (λp=>(q05 p.2.2).all V.one)=true):qu5 zero parts=mapA (q82 zero parts):=by simp[qu5,h1,mapA]
theorem qtl (zero):qu5 zero []=some (.agg zero):=by simp[qu5,q82]
theorem qqg (f):qpo f []=some (.fn f []):=by simp[qpo]
theorem qo8 (row):q82 row []=some row:=of_eq_true (eq_self _)
theorem qi3 {row off sz v r} (h1:(q05 v).length=sz) (h2:off+sz≤row.length):q82 row ((off,sz,v)::r)=q82 (qa9 row off (q05 v)) r:=by simp[q82,h1,h2]
theorem qsw {f caps} (h:caps.all (λv=>v.one&&!v.isFn)=true):qpo f caps=some (.fn f caps):=by simp[qpo,h]
section
variable {P:Program} {G:Glob} {pin:Nat} {Q:Ex→St→Prop} {st:St} {K:St→Prop} {K3:St→List Nat→List Nat→Prop}
def kT (P:Program) (G:Glob) (os:List IOper) (K:St→Prop):St→List Nat→List Nat→Prop:=λst' _ _=>qhn P G os st' K
def kD (P:Program) (G:Glob) (bef:List Nat) (os:List (Nat×IOper)) (i:Nat) (tr:List (Nat×List Nat×List Nat)) (K:St→Prop):St→List Nat→List Nat→Prop :=
 λst' tc wr=>chk bef i tc wr tr=true∧qcz P G bef os st' ((i,tc,wr)::tr) K
def gK (P:Program) (G:Glob) (d:Option Nat) (op:IOp) (st:St) (K:St→List Nat→List Nat→Prop) (g:Option Bool):Prop:=q65 g (doV P G ⟨d,none,op⟩ st K) (K (st.app d (.tup []) []) [] [])
def condW (P:Program) (G:Glob) (pin:Nat) (a b:IC) (Q:Ex→St→Prop) (st:St) (v:V):Prop:=qej v (wpI P G pin a Q st) (wpI P G pin b Q st)
def ldK (d:Option Nat) (st:St) (K:St→List Nat→List Nat→Prop) (x:Option (V×List Nat)):Prop:=qc0 x λr=>K (st.app d r.1 []) r.2 []
def stoK (d:Option Nat) (st:St) (K:St→List Nat→List Nat→Prop) (x:Option (List (Nat×Hs)×List Nat)):Prop:=qc0 x λr=>K (st.app d (.tup []) r.1) r.2 (r.1.map Prod.fst)
theorem kT_e (os st tc wr):kT P G os K st tc wr=qhn P G os st K:=of_eq_true (eq_self _)
theorem kD_e (bef os i tr st tc wr):kD P G bef os i tr K st tc wr=(chk bef i tc wr tr=true∧qcz P G bef os st ((i,tc,wr)::tr) K):=of_eq_true (eq_self _)
theorem qx0 (o os):qhn P G (o::os) st K=q3d P G o st (kT P G os K):=of_eq_true (eq_self _)
theorem qwr (bef i o os tr):qcz P G bef ((i,o)::os) st tr K=q3d P G o st (kD P G bef os i tr K):=of_eq_true (eq_self _)
theorem j13 (d n b op):q3d P G ⟨d,some (n,b),op⟩ st K3=gK P G d op st K3 (gdV b (st.t n)):=by rw[qxh,gd_n];rfl
theorem gK_t (d op):gK P G d op st K3 (some true)=doV P G ⟨d,none,op⟩ st K3:=of_eq_true (eq_self _)
theorem gK_f (d op):gK P G d op st K3 (some false)=K3 (st.app d (.tup []) []) [] []:=of_eq_true (eq_self _)
theorem qz2 (x a b):wpI P G pin (.cond x a b) Q st=condW P G pin a b Q st (ev st.t x):=of_eq_true (eq_self _)
theorem qrp (a b):condW P G pin a b Q st (.bool true)=wpI P G pin a Q st:=of_eq_true (eq_self _)
theorem qt8 (a b):condW P G pin a b Q st (.bool false)=wpI P G pin b Q st:=of_eq_true (eq_self _)
theorem qzy (d g sz ag x):doV P G ⟨d,g,.ld sz ag x⟩ st K3=ldK d st K3 (q3t st.h sz ag (ev st.t x)):=do_ld d g sz ag x
theorem qti (d g sz x y):doV P G ⟨d,g,.sto sz x y⟩ st K3=stoK d st K3 (q4c st.h sz (ev st.t x) (ev st.t y)):=j1j d g sz x y
theorem ldK_s (d v tc):ldK d st K3 (some (v,tc))=K3 (st.app d v []) tc []:=of_eq_true (eq_self _)
theorem j1p (d up tc):stoK d st K3 (some (up,tc))=K3 (st.app d (.tup []) up) tc (up.map Prod.fst):=of_eq_true (eq_self _)
theorem gB {d op} {b:Bool} (h1:b=true→doV P G ⟨d,none,op⟩ st K3) (h2:b=false→K3 (st.app d (.tup []) []) [] []):gK P G d op st K3 (some b):=by cases b;exact h2 rfl;exact h1 rfl
theorem gBn {d op} {b:Bool} (h1:b=true→K3 (st.app d (.tup []) []) [] []) (h2:b=false→doV P G ⟨d,none,op⟩ st K3):gK P G d op st K3 (some (!b)):=by cases b;exact h2 rfl;exact h1 rfl
theorem cB {a b':IC} {b:Bool} (h1:b=true→wpI P G pin a Q st) (h2:b=false→wpI P G pin b' Q st):condW P G pin a b' Q st (.bool b):=by cases b;exact h2 rfl;exact h1 rfl
theorem cBn {a b':IC} {b:Bool} (h1:b=true→wpI P G pin b' Q st) (h2:b=false→wpI P G pin a Q st):condW P G pin a b' Q st (.bool (!b)):=by cases b;exact h2 rfl;exact h1 rfl
theorem chkI {bef i tc wr tr} {p:Prop} (h1:chk bef i tc wr tr=true) (h2:p):chk bef i tc wr tr=true∧p:=⟨h1,h2⟩
theorem gBd {d op} {p:Prop} {inst:Decidable p} (h1:p→p=True→doV P G ⟨d,none,op⟩ st K3) (h2:¬p→p=False→K3 (st.app d (.tup []) []) [] []):gK P G d op st K3 (some (decide p)):=gB (λh=>h1 (of_decide_eq_true h) (eq_true (of_decide_eq_true h))) (λh=>h2 (of_decide_eq_false h) (eq_false (of_decide_eq_false h)))
theorem gBnd {d op} {p:Prop} {inst:Decidable p} (h1:p→p=True→K3 (st.app d (.tup []) []) [] []) (h2:¬p→p=False→doV P G ⟨d,none,op⟩ st K3):gK P G d op st K3 (some (!decide p)):=gBn (λh=>h1 (of_decide_eq_true h) (eq_true (of_decide_eq_true h))) (λh=>h2 (of_decide_eq_false h) (eq_false (of_decide_eq_false h)))
theorem cBd {a b':IC} {p:Prop} {inst:Decidable p} (h1:p→p=True→wpI P G pin a Q st) (h2:¬p→p=False→wpI P G pin b' Q st):condW P G pin a b' Q st (.bool (decide p)):=cB (λh=>h1 (of_decide_eq_true h) (eq_true (of_decide_eq_true h))) (λh=>h2 (of_decide_eq_false h) (eq_false (of_decide_eq_false h)))
theorem cBnd {a b':IC} {p:Prop} {inst:Decidable p} (h1:p→p=True→wpI P G pin b' Q st) (h2:¬p→p=False→wpI P G pin a Q st):condW P G pin a b' Q st (.bool (!decide p)):=cBn (λh=>h1 (of_decide_eq_true h) (eq_true (of_decide_eq_true h))) (λh=>h2 (of_decide_eq_false h) (eq_false (of_decide_eq_false h)))
theorem qnw {d op} {g g':Option Bool} (h:g=g'):gK P G d op st K3 g=gK P G d op st K3 g':=by rw[h]
theorem qe3 {a b} {g g':V} (h:g=g'):condW P G pin a b Q st g=condW P G pin a b Q st g':=by rw[h]
theorem qii {d} {g g':Option (V×List Nat)} (h:g=g'):ldK d st K3 g=ldK d st K3 g':=by rw[h]
theorem qgu {d} {g g':Option (List (Nat×Hs)×List Nat)} (h:g=g'):stoK d st K3 g=stoK d st K3 g':=by rw[h]
def q61 (op:BinOp) (x y:V):Option V:=q72 op x y
theorem qtx (d g op x y):doV P G ⟨d,g,.bin op x y⟩ st K3=pureK d st K3 (q61 op (ev st.t x) (ev st.t y)):=qyp d g op x y
end
theorem qzs (s):qma (.str s)=some (.int .i64 s.length):=of_eq_true (eq_self _)
theorem qm0:qtp .nils=some (.int .i64 0):=of_eq_true (eq_self _)
theorem qzr (z r):qtp (.sl z r)=some (.int .i64 r.length):=of_eq_true (eq_self _)
theorem qst (c n):qtp (.own c n)=some (.int .i64 n):=of_eq_true (eq_self _)
theorem qm8 (c o n):qtp (.view c o n)=some (.int .i64 n):=of_eq_true (eq_self _)
theorem qzk (a b):q61 .add (.int .i64 a) (.int .i64 b)=some (.int .i64 (IntKind.i64.wrap (a+b))):=by simp[q61,q72]
theorem qyo (a b):q61 .sub (.int .i64 a) (.int .i64 b)=some (.int .i64 (IntKind.i64.wrap (a - b))):=by simp[q61,q72]
theorem qxr (a b):q61 .mul (.int .i64 a) (.int .i64 b)=some (.int .i64 (IntKind.i64.wrap (a*b))):=by simp[q61,q72]
theorem qtg (a b):q61 .sub (.int .u8 a) (.int .u8 b)=some (.int .u8 (IntKind.u8.wrap (a - b))):=by simp[q61,q72]
theorem j1g (a b):q61 .quo (.int .i64 a) (.int .i64 b)=guardP (b≠0) (some (.int .i64 (IntKind.i64.wrap (a.tdiv b)))):=by simp[q61,q72]
theorem j1a (a b):q61 .rem (.int .i64 a) (.int .i64 b)=guardP (b≠0) (some (.int .i64 (a.tmod b))):=by simp[q61,q72]
theorem qus (a b):q61 .xor (.int .i64 a) (.int .i64 b)=some (.int .i64 (bits .xor .i64 a b)):=by simp[q61,q72]
theorem quq (k a b):q61 .eql (.int k a) (.int k b)=some (.bool (decide (a=b))):=by simp[q61,q72]
theorem qw1 (k a b):q61 .neq (.int k a) (.int k b)=some (.bool (!decide (a=b))):=by simp[q61,q72]
theorem qxo (k a b):q61 .lss (.int k a) (.int k b)=some (.bool (decide (a<b))):=by simp[q61,q72]
theorem qw2 (k a b):q61 .leq (.int k a) (.int k b)=some (.bool (decide (a≤b))):=by simp[q61,q72]
theorem qy8 (k a b):q61 .gtr (.int k a) (.int k b)=some (.bool (decide (b<a))):=by simp[q61,q72]
theorem quv (k a b):q61 .geq (.int k a) (.int k b)=some (.bool (decide (b≤a))):=by simp[q61,q72]
theorem qvg (a b:List UInt8):q61 .add (.str a) (.str b)=guardP (((a.length+b.length:Nat):Int)≤9223372036854775807) (some (.str (a++b))):=by simp[q61,q72]
theorem qz9 (a b:List UInt8):q61 .eql (.str a) (.str b)=some (.bool (decide (a=b))):=by simp[q61,q72]
theorem qwt (a b:List UInt8):q61 .neq (.str a) (.str b)=some (.bool (!decide (a=b))):=by simp[q61,q72]
theorem qso (k n):V.bot (.int k n)=true:=of_eq_true (eq_self _)
theorem qru (k n):V.one (.int k n)=true:=of_eq_true (eq_self _)
theorem qqf (k n):V.untup (.int k n)=true:=of_eq_true (eq_self _)
theorem qor (b):V.bot (.bool b)=true:=of_eq_true (eq_self _)
theorem qnc (b):V.one (.bool b)=true:=of_eq_true (eq_self _)
theorem qoj (b):V.untup (.bool b)=true:=of_eq_true (eq_self _)
theorem qtw (s):V.bot (.str s)=true:=of_eq_true (eq_self _)
theorem qri (s):V.one (.str s)=true:=of_eq_true (eq_self _)
theorem qqa (s):V.untup (.str s)=true:=of_eq_true (eq_self _)
theorem qnx :V.bot (.nils)=true:=of_eq_true (eq_self _)
theorem qox :V.one (.nils)=true:=of_eq_true (eq_self _)
theorem qnv :V.untup (.nils)=true:=of_eq_true (eq_self _)
theorem qp4 :V.bot (.nilp)=true:=of_eq_true (eq_self _)
theorem qp3 :V.one (.nilp)=true:=of_eq_true (eq_self _)
theorem qn2 :V.untup (.nilp)=true:=of_eq_true (eq_self _)
theorem qn3 :V.bot (.nile)=true:=of_eq_true (eq_self _)
theorem qp2 :V.one (.nile)=true:=of_eq_true (eq_self _)
theorem qm5 :V.untup (.nile)=true:=of_eq_true (eq_self _)
theorem qoo :V.bot (.erre)=true:=of_eq_true (eq_self _)
theorem qoq :V.one (.erre)=true:=of_eq_true (eq_self _)
theorem qo1 :V.untup (.erre)=true:=of_eq_true (eq_self _)
theorem qr7 (v):V.bot (.raw v)=true:=of_eq_true (eq_self _)
theorem qsf (v):V.one (.raw v)=true:=of_eq_true (eq_self _)
theorem qrn (v):V.untup (.raw v)=true:=of_eq_true (eq_self _)
theorem qwl (z r):V.bot (.sl z r)=true:=of_eq_true (eq_self _)
theorem qwy (z r):V.one (.sl z r)=true:=of_eq_true (eq_self _)
theorem qvz (z r):V.untup (.sl z r)=true:=of_eq_true (eq_self _)
theorem qs6 (c n):V.bot (.own c n)=true:=of_eq_true (eq_self _)
theorem qtu (c n):V.one (.own c n)=true:=of_eq_true (eq_self _)
theorem qt9 (c n):V.untup (.own c n)=true:=of_eq_true (eq_self _)
theorem qm2 (c o n):V.bot (.view c o n)=true:=of_eq_true (eq_self _)
theorem qne (c o n):V.one (.view c o n)=true:=of_eq_true (eq_self _)
theorem qnm (c o n):V.untup (.view c o n)=true:=of_eq_true (eq_self _)
theorem j0a (c o):V.bot (.pv c o)=true:=of_eq_true (eq_self _)
theorem qzq (c o):V.one (.pv c o)=true:=of_eq_true (eq_self _)
theorem j15 (c o):V.untup (.pv c o)=true:=of_eq_true (eq_self _)
theorem j26 (c i o):V.bot (.pa c i o)=true:=of_eq_true (eq_self _)
theorem qvs (c i o):V.one (.pa c i o)=true:=of_eq_true (eq_self _)
theorem qwh (c i o):V.untup (.pa c i o)=true:=of_eq_true (eq_self _)
theorem qm4 (r o):V.bot (.iptr r o)=true:=of_eq_true (eq_self _)
theorem qmm (r o):V.one (.iptr r o)=true:=of_eq_true (eq_self _)
theorem qp5 (r o):V.untup (.iptr r o)=true:=of_eq_true (eq_self _)
theorem qrc (k n):V.closed (.int k n)=true:=of_eq_true (eq_self _)
theorem qn7 (b):V.closed (.bool b)=true:=of_eq_true (eq_self _)
theorem qq8 (s):V.closed (.str s)=true:=of_eq_true (eq_self _)
theorem qo6 :V.closed (.nils)=true:=of_eq_true (eq_self _)
theorem qlw :V.closed (.nilp)=true:=of_eq_true (eq_self _)
theorem qnq :V.closed (.nile)=true:=of_eq_true (eq_self _)
theorem qlg :V.closed (.erre)=true:=of_eq_true (eq_self _)
theorem qq9 (v):V.closed (.raw v)=true:=of_eq_true (eq_self _)
theorem j2f (z r):V.closed (.sl z r)=true:=of_eq_true (eq_self _)
theorem qqi (c n):V.closed (.own c n)=false:=of_eq_true (eq_self _)
theorem qom (c o n):V.closed (.view c o n)=false:=of_eq_true (eq_self _)
theorem qx1 (c o):V.closed (.pv c o)=false:=of_eq_true (eq_self _)
theorem j1v (c i o):V.closed (.pa c i o)=false:=of_eq_true (eq_self _)
theorem qn0 (r o):V.closed (.iptr r o)=true:=of_eq_true (eq_self _)
theorem qsh (f):V.untup (.agg f)=true:=of_eq_true (eq_self _)
theorem j18 (f c):V.untup (.fn f c)=true:=of_eq_true (eq_self _)
theorem qzj (f c):V.one (.fn f c)=true:=of_eq_true (eq_self _)
section
variable {P:Program} {G:Glob} {f:FuncId}
def ClipM (P:Program) (f:FuncId):Prop:=∀A n c W,n≤c→Calls P f #[.slice A n c] W λe w'=>e=.returned (.slice A n n)∧w'=W
theorem qrd:chH []=λ_=>.fresh:=by funext x;simp[chH]
theorem qa6 {w:World} {O:Nat→Prop} {ρ:Nat→Loc} {h:Nat→Hs} {v:V} {us:List Value} (hargs:DenArgs w O ρ h [v] us):∃u,us=[u]∧Den w O ρ h v u:=by
 obtain⟨h1,h2⟩:=hargs
 match us,h1 with
 | [u],_=>exact⟨u,rfl,h2 0 v u rfl rfl⟩
theorem qos (hn:entr P f=true) (h:ClipM P f) (sz:Nat) (rows:List (List V)):FnR P G f [.sl sz rows] (.sl sz rows) where
 en:=hn
 ne:=⟨_,_,rfl,rfl⟩
 run:=λW ρ ext us hg hlt hno hng r hargs=>by
  obtain⟨u,rfl,hd⟩:=qa6 hargs
  have hd:Imm W (owns ⟨W,blocks ρ (chH []),ext,0,ρ⟩ ρ (chH [])) (.sl sz rows) u:=hd
  cases hd with
  | esl _ A cap=>exact(h A 0 cap W (Nat.zero_le _)).mono λe w' ⟨he,hw⟩=>⟨_,_,_,ρ,he,⟨rfl,rfl⟩,hw▸r,hw▸Imm.esl sz A 0⟩
  | sl _ _ blk off cap cs h1 h2 h3 h4 h5 h6 h7 =>
    exact(h _ _ cap W h5).mono λe w' ⟨he,hw⟩=>by subst hw;exact⟨_,_,_,ρ,he,⟨rfl,rfl⟩,r,Imm.sl sz rows blk off rows.length cs h1 h2 h3 h4 (Nat.le_refl _) h6 h7⟩
theorem qkm (hn:entr P f=true) (h:ClipM P f) (ty sz:Nat) (rows:List (List V)) (n:Nat) (hrn:rows.length=n) (hz1:sz≠1:=by decide) :
 FnP P G f 0 [.arr ty sz rows] [.own 0 n] (λr o=>r=.own 0 n∧o=[.arr ty sz rows]) where
 en:=hn
 ne:=⟨_,_,rfl,rfl⟩
 run:=λW ρ ext us hg hlt hno hng r hargs=>by
  obtain⟨u,rfl,hd⟩:=qa6 hargs
  have h0:chH [Hs.arr ty sz rows] 0=.arr ty sz rows:=rfl
  have h1:∀c,c≠0→chH [Hs.arr ty sz rows] c=.fresh:=λc hc=>by
   match c,hc with
   | c+1,_=>simp[chH]
  have hd:u=(ρ 0).sl n:=by
   simp only[Den,Den2,Den1,Den0,h0] at hd
   exact hd
  subst hd
  have hch:=r.chunk 0
  rw[h0] at hch
  have hcap:n≤(ρ 0).cap:=by
   rcases hch with⟨_,e,_⟩|⟨_,cs,_,_,e,_⟩
   ·rw[e] at hrn;simp at hrn;omega
   ·omega
  refine(h (ρ 0).addr n (ρ 0).cap W hcap).mono λe w' ⟨he,hw⟩=>?_
  subst hw
  let ρ':=upρ ρ 0 { ρ 0 with cap:=n }
  have e1:∀c,(ρ' c).nil=(ρ c).nil∧(ρ' c).blk=(ρ c).blk:=λc=>by
   by_cases hc:c=0
   ·subst hc;exact⟨rfl,rfl⟩
   ·simp[ρ',upρ,hc]
  have hO:owns ⟨w',blocks ρ (chH [.arr ty sz rows]),ext,0,ρ⟩ ρ' (chH [.arr ty sz rows])=owns ⟨w',blocks ρ (chH [.arr ty sz rows]),ext,0,ρ⟩ ρ (chH [.arr ty sz rows]):=by
   funext b
   simp only[owns,(e1 _).1,(e1 _).2]
  have hl:∀c,(chH [Hs.arr ty sz rows] c).live=true→c=0:=λc hc=>by
   by_cases h':c=0
   ·exact h'
   ·rw[h1 c h'] at hc;cases hc
  refine⟨_,_,_,ρ',he,⟨rfl,rfl⟩,⟨r.os,r.tape,r.output,r.grow,r.keep,λc=>?_,λc hc hnl=>?_,λc c' hc hc' _ _ _=>(hl c hc).trans (hl c' hc').symm,λi hi=>absurd hi (Nat.not_lt_zero _)⟩, ?_⟩
  ·by_cases hc:c=0
   ·subst hc
    rw[hO,h0]
    rcases hch with⟨a1,a2,a3⟩|⟨a1,cs,a2,a3,a4,a5,a6⟩
    ·refine .inl ⟨a1,a2, ?_⟩
     rw[a2] at hrn;simp at hrn
     exact hrn.symm
    ·refine .inr ⟨a1,cs,a2, ?_, ?_,a5,a6⟩
     ·exact⟨Nat.le_trans (Nat.add_le_add_left (Nat.mul_le_mul_right _ hcap) _) a3.1,λh=>absurd h hz1⟩
     ·exact Nat.le_of_eq hrn
   ·rw[h1 c hc];trivial
  ·rw[(e1 c).2];rw[(e1 c).1] at hnl;exact r.home c hc hnl
  ·simp only[Den,Den2,Den1,Den0,h0]
   rfl
def CloneM (P:Program) (f:FuncId) (ty sz:Nat):Prop:=(∀n c W,Calls P f #[.slice none n c] W λe w'=>e=.returned (.slice none 0 0)∧w'=W) ∧
 ∀(a:Addr) n c us (W:World),us.length=n*sz→(∀(j:Nat) u,us[j]?=some u→W.cell? (a.add j)=some u)→(∀u∈us,u.oneCell'=true)→n≤2000000 →
  Calls P f #[.slice (some a) n c] W λe w'=>∃v',e=.returned v'∧w'.ownsRow W.heap.size ty sz v' n us∧Below W.heap.size W w'
theorem qbi (hn:entr P f=true) {ty sz:Nat} (h:CloneM P f ty sz) (rows:List (List V)) (hr:rows.length≤2000000) :
 FnP P G f 0 [] [.sl sz rows] (λr o=>r=.own 0 rows.length∧o=[.arr ty sz rows]) where
 en:=hn
 ne:=⟨_,_,rfl,rfl⟩
 run:=λW ρ ext us hg hlt hno hng r hargs=>by
  obtain⟨u,rfl,hd⟩:=qa6 hargs
  have h0:chH [Hs.arr ty sz rows] 0=.arr ty sz rows:=rfl
  have h1:∀c,c≠0→chH [Hs.arr ty sz rows] c=.fresh:=λc hc=>by
   match c,hc with
   | c+1,_=>simp[chH]
  have hl:∀c,(chH [Hs.arr ty sz rows] c).live=true→c=0:=λc hc=>by
   by_cases h':c=0
   ·exact h'
   ·rw[h1 c h'] at hc;cases hc
  have hbn:∀b,¬blocks ρ (chH []) b:=λb ⟨c,hc,_⟩=>by rw[qrd] at hc;cases hc
  obtain⟨A,cap,rfl,hcap,hlen,hcells⟩:=qb9 r hd (sz:=sz) (rows:=rows) (tc:=[]) (by simp[q4a])
  have nilCase:∀W',W'=W→rows=[]→∃u res out ρ',Ending.returned (Value.slice none 0 0)=.returned u∧(res=V.own 0 rows.length∧out=[Hs.arr ty sz rows])∧RelH ⟨W,blocks ρ (chH []),ext,0,ρ⟩ ρ' (chH out) W' ∧
   Den W' (owns ⟨W,blocks ρ (chH []),ext,0,ρ⟩ ρ' (chH out)) ρ' (chH out) res u:=λW' hW hrn=>by
   subst hW
   subst hrn
   refine⟨_,_,_,λ_=>⟨true,0,0,0⟩,rfl,⟨rfl,rfl⟩,⟨rfl,rfl,rfl,Nat.le_refl _,λb _ _=>rfl,λc=>?_,λc _ hnl=>(by cases hnl),λc c' _ _ hnl=>(by cases hnl),λi hi=>absurd hi (Nat.not_lt_zero _)⟩, ?_⟩
   ·by_cases hc:c=0
    ·subst hc;rw[h0];exact .inl ⟨rfl,rfl,rfl⟩
    ·rw[h1 c hc];trivial
   ·simp only[Den,Den2,Den1,Den0,h0]
    rfl
  cases A with
  | none =>
    have hz:rows=[]:=by
     by_cases hp:0<rows.length
     ·obtain⟨_,_,e,_⟩:=hcells hp;cases e
     ·exact List.eq_nil_of_length_eq_zero (by omega)
    refine(h.1 _ _ W).mono λe w' ⟨he,hw⟩=>?_
    subst he
    exact nilCase w' hw hz
  | some a =>
    have hflat:∃us:List Value,us.length=rows.length*sz∧(∀(j:Nat) u,us[j]?=some u→W.cell? (a.add j)=some u)∧(∀u,u∈us→u.oneCell'=true) ∧
     ∀(i:Nat) x (j:Nat) y,rows[i]?=some x→x[j]?=some y→∃z,us[i*sz+j]?=some z∧Imm W (owns ⟨W,blocks ρ (chH []),ext,0,ρ⟩ ρ (chH [])) y z:=by
     by_cases hp:0<rows.length
     ·obtain⟨blk,off,e,hb,hc⟩:=hcells hp
      cases e
      exact q5j hlen hc
     ·have:rows=[]:=List.eq_nil_of_length_eq_zero (by omega)
      subst this
      exact⟨[],by simp,λj u hu=>by simp at hu,λu hu=>by simp at hu,λi x j y hx=>by simp at hx⟩
    obtain⟨us,hu1,hu2,hu3,hu4⟩:=hflat
    refine(h.2 a rows.length cap us W hu1 hu2 hu3 hr).mono λe w' ⟨v',he,⟨hx,hown⟩,hb⟩=>?_
    subst he
    rcases hown with⟨rfl,hz⟩|⟨g,cap',cur,rfl,hg1,hg2,hg3,hg4,hg5,hg6⟩
    ·have:rows=[]:=List.eq_nil_of_length_eq_zero hz
     subst this
     refine⟨_,_,_,λ_=>⟨true,0,0,0⟩,rfl,⟨rfl,rfl⟩,⟨hb.os,hb.tape,hb.output,hb.size,λb hb1 _=>hb.block b hb1,λc=>?_,λc _ hnl=>(by cases hnl),λc c' _ _ hnl=>(by cases hnl),λi hi=>absurd hi (Nat.not_lt_zero _)⟩, ?_⟩
     ·by_cases hc:c=0
      ·subst hc;rw[h0];exact .inl ⟨rfl,rfl,rfl⟩
      ·rw[h1 c hc];trivial
     ·simp only[Den,Den2,Den1,Den0,h0]
      rfl
    ·refine⟨_,_,_,λ_=>⟨false,g,0,cap'⟩,rfl,⟨rfl,rfl⟩,⟨hb.os,hb.tape,hb.output,hb.size,λb hb1 _=>hb.block b hb1,λc=>?_,λc _ _=>.inr hg1,λc c' hc hc' _ _ _=>(hl c hc).trans (hl c' hc').symm,λi hi=>absurd hi (Nat.not_lt_zero _)⟩, ?_⟩
     ·by_cases hc:c=0
      ·subst hc
       rw[h0]
       refine .inr ⟨rfl,cur,hg2,by rw[hg5];exact⟨by simp,λh=>⟨rfl,by rw[h,Nat.mul_one]⟩⟩,hg3,hlen,λi x j y hx hy=>?_⟩
       obtain⟨z,hz1,hz2⟩:=hu4 i x j y hx hy
       have hjl:i*sz+j<rows.length*sz:=by rw[←hu1];exact(List.getElem?_eq_some_iff.1 hz1).1
       refine⟨z, ?_,hz2.mono hb.size (λb hb1 _=>hb.block b hb1) (λb hb1 ho=>?_)⟩
       ·rw[←hg6,List.getElem?_take,if_pos hjl] at hz1
        simpa using hz1
       ·rcases ho with ho|⟨c,hc,_,he⟩
        ·exact .inl ho
        ·simp only at he;omega
      ·rw[h1 c hc];trivial
     ·simp only[Den,Den2,Den1,Den0,h0]
      rfl
end
section
variable {g:Nat→Nat}
theorem j23 (l):(V.tup l).rn g=.tup (l.map (V.rn2 g)):=of_eq_true (eq_self _)
theorem j0j (l):(V.agg l).rn g=.agg (l.map (V.rn1 g)):=of_eq_true (eq_self _)
theorem qqc (l):(V.agg l).rn2 g=.agg (l.map (V.rn1 g)):=of_eq_true (eq_self _)
theorem rn_fn (f l):(V.fn f l).rn g=.fn f (l.map (V.rn0 g)):=of_eq_true (eq_self _)
theorem qyk (f l):(V.fn f l).rn2 g=.fn f (l.map (V.rn0 g)):=of_eq_true (eq_self _)
theorem rnfn1 (f l):(V.fn f l).rn1 g=.fn f (l.map (V.rn0 g)):=of_eq_true (eq_self _)
theorem qx6 {v:V} (h:v.bot=true):v.rn g=v.rn0 g:=by cases v<;>first|rfl|cases h
theorem qtm {v:V} (h:v.bot=true):v.rn2 g=v.rn0 g:=by cases v<;>first|rfl|cases h
theorem qsu {v:V} (h:v.bot=true):v.rn1 g=v.rn0 g:=by cases v<;>first|rfl|cases h
theorem qt3 (k n):(V.int k n).rn0 g=.int k n:=of_eq_true (eq_self _)
theorem qlx (b):(V.bool b).rn0 g=.bool b:=of_eq_true (eq_self _)
theorem qtd (b):(V.str b).rn0 g=.str b:=of_eq_true (eq_self _)
theorem qmp:V.nils.rn0 g=.nils:=of_eq_true (eq_self _)
theorem qmd:V.nilp.rn0 g=.nilp:=of_eq_true (eq_self _)
theorem qoi:V.nile.rn0 g=.nile:=of_eq_true (eq_self _)
theorem qny:V.erre.rn0 g=.erre:=of_eq_true (eq_self _)
theorem qwf (z r):(V.sl z r).rn0 g=.sl z r:=of_eq_true (eq_self _)
theorem qlu (r o):(V.iptr r o).rn0 g=.iptr r o:=of_eq_true (eq_self _)
theorem qqy (c n):(V.own c n).rn0 g=.own (g c) n:=of_eq_true (eq_self _)
theorem qo4 (c o n):(V.view c o n).rn0 g=.view (g c) o n:=of_eq_true (eq_self _)
theorem j0s (c n):(V.pv c n).rn0 g=.pv (g c) n:=of_eq_true (eq_self _)
theorem j0p (c i n):(V.pa c i n).rn0 g=.pa (g c) i n:=of_eq_true (eq_self _)
theorem qsy (ty r):(Hs.var ty r).rn g=.var ty (r.map (V.rn1 g)):=of_eq_true (eq_self _)
theorem qrz (ty z r):(Hs.arr ty z r).rn g=.arr ty z r:=of_eq_true (eq_self _)
theorem qn4:(Hs.dead).rn g=.dead:=of_eq_true (eq_self _)
theorem qn5 (k):qan g k []=[]:=of_eq_true (eq_self _)
theorem qih (k s l):qan g k (s::l)=(g k,s.rn g)::qan g (k+1) l:=of_eq_true (eq_self _)
end
theorem qif:q4y []=[]:=of_eq_true (eq_self _)
theorem qhi (c l):q4y (c::l)=(c,.dead)::q4y l:=of_eq_true (eq_self _)
theorem bk_ge {ns:List Nat} {pin d i:Nat} (h:pin≤i):bk ns pin d i=100000+100*d+i:=by simp[bk,qgq,Nat.not_lt.2 h]
theorem bk_lt {ns:List Nat} {pin d i:Nat} (h:i<pin):bk ns pin d i=nsF ns i:=by simp[bk,h]
theorem nsF_0 (n ns):nsF (n::ns) 0=n:=by simp[nsF]
theorem nsF_s (n ns i):nsF (n::ns) (i+1)=nsF ns i:=by simp[nsF]
theorem chH_0 (s cs):chH (s::cs) 0=s:=by simp[chH]
theorem chH_s (s cs i):chH (s::cs) (i+1)=chH cs i:=by simp[chH]
theorem chH_n (i):chH [] i=.fresh:=by simp[chH]
theorem qyy (d i):qgq d i=100000+100*d+i:=of_eq_true (eq_self _)
def qth (b:Bool) (o:Option Bool):Option Bool:=o.map (b&&·)
theorem j2d (b c):qth b (some c)=some (b&&c):=of_eq_true (eq_self _)
theorem qqm:eqR [] [] []=some true:=of_eq_true (eq_self _)
theorem eqR_i (ks k a r b s):eqR (.i::ks) (.int k a::r) (.int k b::s)=qth (decide (a=b)) (eqR ks r s):=by simp[eqR,qth]
theorem eqR_b (ks a r b s):eqR (.b::ks) (.bool a::r) (.bool b::s)=qth (a==b) (eqR ks r s):=by simp[eqR,qth]
theorem eqR_s (ks a r b s):eqR (.s::ks) (.str a::r) (.str b::s)=qth (decide (a=b)) (eqR ks r s):=by simp[eqR,qth]
def qwb (ng:Bool) (o:Option Bool):Option V:=o.map λr=>.bool (ng ^^ r)
theorem qum (b):qwb false (some b)=some (.bool b):=by simp[qwb]
theorem j07 (b):qwb true (some b)=some (.bool (!b)):=by simp[qwb]
theorem eqs_a (ng ks a b):eqsF ng ks (.agg a) (.agg b)=qwb ng (eqR ks a b):=of_eq_true (eq_self _)
theorem beq_f (a b):qug false (.bool a) (.bool b)=some (.bool (a==b)):=by simp[qug]
theorem beq_t (a b):qug true (.bool a) (.bool b)=some (.bool (!(a==b))):=by simp[qug]
section
variable {P:Program} {G:Glob}
theorem q5b {f:FuncId} {args:List V} {postf:V→List Hs→Prop} (F:FnP P G f 0 [] args postf) {vs:List V} {d:Option Nat} {st:St} {K:St→List Nat→List Nat→Prop}
 (lent:List Nat) (dd m:Nat) (hw:WkL (Wk (λc=>c∈lent) (nsF []) st.h (chH [])) vs args) (hl:∀c,c∈lent→(st.h c).live=true)
 (ho:∀res out,postf res out→out.length≤m) (hf:∀i,i<m→st.h (qgq dd i)=.fresh)
 (hk:∀res out,postf res out→K (st.app d (res.rn (bk [] 0 dd)) (qan (bk [] 0 dd) 0 out++q4y lent)) (q1x [] lent dd m) (q1x [] lent dd m)):CallV P G f vs d st K :=
 q0m F [] lent true dd m hw trivial (Nat.zero_le _) List.nodup_nil (λc hc=>⟨hl c hc,by simp⟩) (λres out hp=>⟨Nat.zero_le _,ho res out hp,.inl rfl,λi hi=>absurd hi (Nat.not_lt_zero _)⟩) hf
  (λres out hp=>by simpa using hk res out hp)
theorem q25 {f:FuncId} {cs:List Hs} {args:List V} {postf:V→List Hs→Prop} (F:FnP P G f 0 cs args postf) {vs:List V} {d:Option Nat} {st:St} {K:St→List Nat→List Nat→Prop}
 (ns lent:List Nat) (dd m:Nat) (hw:WkL (Wk (λc=>c∈lent) (nsF ns) st.h (chH cs)) vs args)
 (hc:NsL (λn s=>s.live=true∧WkH (λc=>c∈lent) (nsF ns) st.h (chH cs) (st.h n) s) ns cs) (hnd:ns.Nodup)
 (hl:∀c,c∈lent→(st.h c).live=true∧c∉ns)
 (ho:∀res out,postf res out→out.length≤m) (hf:∀i,i<m→st.h (qgq dd i)=.fresh)
 (hk:∀res out,postf res out→K (st.app d (res.rn (bk ns 0 dd)) (qan (bk ns 0 dd) 0 out++q4y (ns++lent))) (q1x ns lent dd m) (q1x ns lent dd m)):CallV P G f vs d st K :=
 q0m F ns lent true dd m hw hc (Nat.zero_le _) hnd hl (λres out hp=>⟨Nat.zero_le _,ho res out hp,.inl rfl,λi hi=>absurd hi (Nat.not_lt_zero _)⟩) hf
  (λres out hp=>by simpa using hk res out hp)
end
theorem q00 {α:Type} [Inhabited α] {l:List α} {i:Nat} (h:i<l.length) (f:α→List V) (d:List V):(l.map f).getD i d=f (l.getD i default):=by
 simp[List.getD,h]
theorem qg0 (ty z r):(Hs.arr ty z r).live=true:=of_eq_true (eq_self _)
theorem qex (ty r):(Hs.var ty r).live=true:=of_eq_true (eq_self _)
def qb5 (fs:List (Nat×Nat)):List (Nat×Hs)→List Nat
 | []=>[]
 | (k,s)::m=>bif s.live then q0o fs k::qb5 fs m else qb5 fs m
theorem q8k {fs:List (Nat×Nat)}:∀ {m:List (Nat×Hs)} {k s},(k,s)∈m→s.live=true→q0o fs k∈qb5 fs m
 | (k0,s0)::m,k,s,h,hl=>by
   simp only[qb5]
   rcases List.mem_cons.1 h with h|h
   ·cases h;simp[hl]
   ·cases s0.live<;>simp[q8k h hl]
theorem qdb {fs:List (Nat×Nat)}:∀ {m:List (Nat×Hs)},(qb5 fs m).Nodup→∀x y s s',(x,s)∈m→(y,s')∈m→s.live=true→s'.live=true→q0o fs x=q0o fs y→x=y
 | [],_,x,y,s,s',hx,_,_,_,_=>by cases hx
 | (k0,s0)::m,hn,x,y,s,s',hx,hy,h1,h2,he=>by
   simp only[qb5] at hn
   rcases List.mem_cons.1 hx with hx1|hx1<;>rcases List.mem_cons.1 hy with hy1|hy1
   ·cases hx1;cases hy1;rfl
   ·cases hx1
    simp only[h1,cond_true,List.nodup_cons] at hn
    exact absurd (he▸q8k hy1 h2) hn.1
   ·cases hy1
    simp only[h2,cond_true,List.nodup_cons] at hn
    exact absurd (he▸q8k hx1 h1) hn.1
   ·have hn':(qb5 fs m).Nodup:=by
     cases hs:s0.live<;>simp only[hs,cond_true,cond_false,List.nodup_cons] at hn
     ·exact hn
     ·exact hn.2
    exact qdb hn' x y s s' hx1 hy1 h1 h2 he
theorem q8f:∀ {m:List (Nat×Hs)} {c:Nat},q0c m c≠.fresh→(c,q0c m c)∈m
 | [],c,h=>absurd rfl h
 | (k,s)::m,c,h=>by
   simp only[q0c] at h ⊢
   split at h
   ·rename_i e;subst e;simp
   ·rename_i e;rw[if_neg e];simp[q8f h]
theorem leN' {G:Glob} {pin:Nat} {l1 l2:List (Nat×V)} {m1 m2:List (Nat×Hs)} (fs:List (Nat×Nat))
 (ht:WkS (Wk (λc=>qc7 fs m2 c=true) (q0o fs) (q0c m1) (q0c m2)) (q0i l1) l2)
 (hh:WkN (WkH (λc=>qc7 fs m2 c=true) (q0o fs) (q0c m1) (q0c m2)) (λc=>q0c m1 (q0o fs c)) m2)
 (hi:(qb5 fs m2).Nodup) (hp:pinOk fs (q0c m2) pin):St.le G pin ⟨q0i l1,q0c m1⟩ ⟨q0i l2,q0c m2⟩:=by
 have hF:∀c,qc7 fs m2 c=true→NoN (q0o fs) (q0c m2) c∧q0c m1 c=q0c m1 c:=λc hc=>⟨qbj hc,rfl⟩
 refine LeR.le (f:=q0o fs) ⟨λd=>?_,λc=>?_,λx y hx hy he=>?_,hp.spec⟩
 ·exact(WkS.all (λv=>by rw[qbd];trivial) ht d).congr hF
 ·exact(WkN.all (λv=>q5h) hh c).congr hF
 ·exact qdb hi x y _ _ (q8f (q2m hx)) (q8f (q2m hy)) hx hy he
def RowsW (rows rows':List (List V)):Prop:=rows'.length=rows.length∧∀(i:Nat) r r',rows[i]?=some r→rows'[i]?=some r'→r'.length=r.length∧∀(j:Nat) v v',r[j]?=some v→r'[j]?=some v'→v'=v∨(v=.nils∧∃sz,v'=.sl sz [])
def HsW:Hs→Hs→Prop
 | .arr ty sz rows,.arr ty' sz' rows'=>ty'=ty∧sz'=sz∧RowsW rows rows'
 | a,b=>b=a
theorem RowsW.refl (rows:List (List V)):RowsW rows rows:=⟨rfl,λi r r' h h'=>by rw[h] at h';cases h';exact⟨rfl,λj v v' a b=>by rw[a] at b;cases b;exact .inl rfl⟩⟩
theorem RowsW.app {a b a' b':List (List V)} (h1:RowsW a a') (h2:RowsW b b'):RowsW (a++b) (a'++b'):=by
 refine⟨by simp[h1.1,h2.1],λi r r' hr hr'=>?_⟩
 by_cases hi:i<a.length
 ·rw[List.getElem?_append_left hi] at hr
  rw[List.getElem?_append_left (by rw[h1.1];exact hi)] at hr'
  exact h1.2 i r r' hr hr'
 ·rw[List.getElem?_append_right (by omega)] at hr
  rw[List.getElem?_append_right (by rw[h1.1];omega),h1.1] at hr'
  exact h2.2 _ r r' hr hr'
inductive RowW:List V→List V→Prop
 | nil:RowW [] []
 | same (v:V) {r r':List V} (h:RowW r r'):RowW (v::r) (v::r')
 | nils (sz:Nat) {r r':List V} (h:RowW r r'):RowW (.nils::r) (.sl sz []::r')
theorem RowW.spec {r r':List V} (h:RowW r r'):r'.length=r.length∧∀(j:Nat) v v',r[j]?=some v→r'[j]?=some v'→v'=v∨(v=.nils∧∃sz,v'=.sl sz []):=by
 induction h with
 | nil=>exact⟨rfl,λj v v' h=>by simp at h⟩
 | same v h ih =>
   refine⟨by simp[ih.1],λj a b ha hb=>?_⟩
   cases j with
   | zero=>simp at ha hb;subst ha;subst hb;exact .inl rfl
   | succ j=>exact ih.2 j a b (by simpa using ha) (by simpa using hb)
 | nils sz h ih =>
   refine⟨by simp[ih.1],λj a b ha hb=>?_⟩
   cases j with
   | zero=>simp at ha hb;subst ha;subst hb;exact .inr ⟨rfl,sz,rfl⟩
   | succ j=>exact ih.2 j a b (by simpa using ha) (by simpa using hb)
theorem RowsW.one {r r':List V} (h:RowW r r'):RowsW [r] [r']:=by
 refine⟨rfl,λi a b ha hb=>?_⟩
 cases i with
 | zero=>simp at ha hb;subst ha;subst hb;exact h.spec
 | succ i=>simp at ha
theorem HsW.refl (a:Hs):HsW a a:=by cases a<;>first|rfl|exact⟨rfl,rfl,.refl _⟩
theorem HsW.live {a b:Hs} (h:HsW a b):b.live=a.live:=by
 cases a<;>cases b<;>first|rfl|(cases h;done)|(simp only[HsW] at h;cases h;done)|(simp only[HsW] at h;rw[h])
theorem HsW.step {a b:Hs} (h:HsW a b) (l:Loc):HStep l a l b:=by
 cases a<;>cases b<;>first
  | exact HStep.refl _ _
  | (obtain⟨rfl,rfl,h⟩:=h;exact .inr (.inr ⟨rfl,.inr (.inr ⟨_,_,_,_,rfl,rfl,by rw[h.1];exact Nat.le_refl _⟩)⟩))
  | (simp only[HsW] at h;rw[h];exact HStep.refl _ _)
  | (simp only[HsW] at h;cases h;done)
theorem RelH.rows {B:Base} {ρ:Nat→Loc} {h h':Nat→Hs} {w:World} (hw:∀c,HsW (h c) (h' c)) (r:RelH B ρ h w):RelH B ρ h' w∧(∀b,owns B ρ h' b↔owns B ρ h b):=by
 have ho:∀b,owns B ρ h' b↔owns B ρ h b:=λb=>by
  simp only[owns,(hw _).live]
 have himm:∀v u,Imm w (owns B ρ h) v u→Imm w (owns B ρ h') v u:=λv u hi=>hi.mono (Nat.le_refl _) (λ_ _ _=>rfl) λb _ hb=>(ho b).1 hb
 refine⟨⟨r.os,r.tape,r.output,r.grow,r.keep,λc=>?_,λc hl=>r.home c (by rw[←(hw c).live];exact hl),λc c' hl hl'=>r.sep c c' (by rw[←(hw c).live];exact hl) (by rw[←(hw c').live];exact hl'),λi hi=>?_⟩,ho⟩
 ·have hc:=(r.chunk c).mono himm (λx=>(hw x).step (ρ x)) (λ_=>rfl)
  have hwc:=hw c
  revert hc hwc
  cases h c<;>cases h' c<;>intro hc hwc<;>first
   | trivial
   | (simp only[HsW] at hwc;cases hwc;exact hc)
   | (simp only[HsW] at hwc;cases hwc;done)
   | skip
  rename_i ty sz rows ty' sz' rows'
  obtain⟨rfl,rfl,hl,hr⟩:=hwc
  rcases hc with⟨a,b,c⟩|⟨a,cs,b,c,d,e,f⟩
  ·subst b
   exact .inl ⟨a,List.length_eq_zero_iff.1 (by simpa using hl),c⟩
  ·refine .inr ⟨a,cs,b,c,by omega,λx hx=>?_,λi x j v hx hv=>?_⟩
   ·obtain⟨i,hi⟩:=List.mem_iff_getElem?.1 hx
    have hil:i<rows.length:=by rw[←hl];exact(List.getElem?_eq_some_iff.1 hi).1
    rw[(hr i _ _ (zE hil) hi).1]
    exact e _ (List.getElem_mem hil)
   ·have hil:i<rows.length:=by rw[←hl];exact(List.getElem?_eq_some_iff.1 hx).1
    obtain⟨h1,h2⟩:=hr i _ _ (zE hil) hx
    have hjl:j<rows[i].length:=by rw[←h1];exact(List.getElem?_eq_some_iff.1 hv).1
    obtain⟨u,hu,hi⟩:=f i _ j _ (zE hil) (zE hjl)
    rcases h2 j _ _ (zE hjl) hv with hvv|⟨hv1,sz,rfl⟩
    ·rw[hvv];exact⟨u,hu,hi⟩
    ·rw[hv1] at hi
     cases hi
     exact⟨_,hu,.esl _ _ _⟩
 ·rcases r.pin i hi with hd|⟨hd,he⟩
  ·left
   have:=hw i
   rw[hd] at this
   exact this
  ·right
   exact⟨by rw[(hw i).live];exact hd,he⟩
theorem FnP.rowsIn {P:Program} {G:Glob} {f:FuncId} {pin:Nat} {cs cs':List Hs} {args:List V} {post:V→List Hs→Prop} (F:FnP P G f pin cs' args post) (hc:∀c,HsW (chH cs c) (chH cs' c)):FnP P G f pin cs args post where
 en:=F.en
 ne:=F.ne
 run:=λW ρ ext us hg hlt hno hng r hargs=>by
  have hb:∀b,blocks ρ (chH cs') b↔blocks ρ (chH cs) b:=λb=>by simp only[blocks,(hc _).live]
  have hbe:blocks ρ (chH cs')=blocks ρ (chH cs):=funext λb=>propext (hb b)
  obtain⟨r',ho⟩:=r.rows hc
  have hargs':DenArgs W (owns ⟨W,blocks ρ (chH cs'),ext,pin,ρ⟩ ρ (chH cs')) ρ (chH cs') args us:=by
   rw[hbe]
   exact⟨hargs.1,λj v u hv hu=>(hargs.2 j v u hv hu).mono (λv u hi=>hi.mono (Nat.le_refl _) (λ_ _ _=>rfl) λb _ hb=>(ho b).1 hb) λc=>(hc c).step _⟩
  have:=F.run W ρ ext us hg hlt (λb h=>by rw[hbe];exact hno b h) (λb h=>hng b ((hb b).1 h)) (by rw[hbe];exact r') hargs'
  rw[hbe] at this
  exact this
theorem FnP.rowsOut {P:Program} {G:Glob} {f:FuncId} {pin:Nat} {cs:List Hs} {args:List V} {post post':V→List Hs→Prop} (F:FnP P G f pin cs args post)
 (hc:∀r o,post r o→∃o',post' r o'∧∀c,HsW (chH o c) (chH o' c)):FnP P G f pin cs args post' where
 en:=F.en
 ne:=let ⟨r,o,h⟩:=F.ne;let ⟨o',h',_⟩:=hc r o h;⟨r,o',h'⟩
 run:=λW ρ ext us hg hlt hno hng r hargs=>(F.run W ρ ext us hg hlt hno hng r hargs).mono λe W' ⟨u,res,out,ρ',he,hp,hr,hd⟩=>by
  obtain⟨o',hp',hw⟩:=hc res out hp
  obtain⟨hr',ho⟩:=hr.rows hw
  exact⟨u,res,o',ρ',he,hp',hr',hd.mono (λv u hi=>hi.mono (Nat.le_refl _) (λ_ _ _=>rfl) λb _ hb=>(ho b).1 hb) λc=>(hw c).step _⟩
theorem St.le_trans {G:Glob} {pin:Nat} {a b c:St} (h1:a.le G pin b) (h2:b.le G pin c):a.le G pin c:=λn B ρ x w hp hB r=>by
 obtain⟨ρ',r'⟩:=h1 n B ρ x w hp hB r
 exact h2 n B ρ' x w hp hB r'
def q6l:Loc:=⟨true,0,0,0⟩
theorem RelH.nilCell {G:Glob} {B:Base} {ρ:Nat→Loc} {h:Nat→Hs} {w:World} (hB:BaseOk G B) (r:RelH B ρ h w) {c m ty sz tz j:Nat} {row:List V} (hm:h m=.fresh) (hne:c≠m) (hc:h c=.var tz row) (hj:row[j]?=some .nils) :
 Turns B ρ h w (upρ ρ m q6l) (upH h [(c,.var tz (row.set j (.own m 0))),(m,.arr ty sz [])]) w:=by
 have hst:∀x,HStep (ρ x) (h x) (upρ ρ m q6l x) (upH h [(c,.var tz (row.set j (.own m 0))),(m,.arr ty sz [])] x):=λx=>by
  by_cases hxm:x=m
  ·subst hxm;exact .inl hm
  ·by_cases hxc:x=c
   ·subst hxc
    refine .inr (.inr ⟨by simp[upρ,hxm],.inr (.inl ⟨tz,row,tz,row.set j (.own m 0),hc,by simp[upH]⟩)⟩)
   ·simp only[upH,upρ,if_neg hxm,if_neg hxc];exact HStep.refl _ _
 have hnm:∀x,(upρ ρ m q6l x).nil=false→x≠m:=λx hx he=>by
  subst he;simp[upρ,q6l] at hx
 have hlv:∀x,x≠m→(upH h [(c,.var tz (row.set j (.own m 0))),(m,.arr ty sz [])] x).live=true→(h x).live=true:=λx hx hl=>by
  by_cases hxc:x=c
  ·subst hxc;rw[hc];rfl
  ·simpa only[upH,if_neg hx,if_neg hxc] using hl
 refine r.turn rfl rfl rfl (Nat.le_refl _) (λb _=>.inl rfl) hst (r.ext_lt hB) ?_ ?_ ?_
 ·intro x hl hn
  have hx:=hnm x hn
  simp only[upρ,if_neg hx] at hn ⊢
  exact .inl ⟨x,hlv x hx hl,hn,rfl⟩
 ·intro x y hl1 hl2 hn1 hn2 he
  have hx:=hnm x hn1
  have hy:=hnm y hn2
  simp only[upρ,if_neg hx,if_neg hy] at hn1 hn2 he
  exact r.sep x y (hlv x hx hl1) (hlv y hy hl2) hn1 hn2 he
 ·intro himm x
  by_cases hxm:x=m
  ·subst hxm
   have:upH h [(c,Hs.var tz (row.set j (.own x 0))),(x,.arr ty sz [])] x=.arr ty sz []:=by simp[upH,Ne.symm hne]
   rw[this]
   exact .inl ⟨by simp[upρ,q6l],rfl,by simp[upρ,q6l]⟩
  ·by_cases hxc:x=c
   ·subst hxc
    have e1:upH h [(x,Hs.var tz (row.set j (.own m 0))),(m,.arr ty sz [])] x=.var tz (row.set j (.own m 0)):=by simp[upH]
    have e2:upρ ρ m q6l x=ρ x:=by simp[upρ,hxm]
    have hcx:=r.chunk x
    rw[hc] at hcx
    obtain⟨a1,cs,a2,a3,a4⟩:=hcx
    rw[e1,e2]
    refine⟨a1,cs,a2,by simpa using a3,λi v hv=>?_⟩
    by_cases hij:i=j
    ·subst hij
     obtain⟨u,b1,b2,b3⟩:=a4 i _ hj
     have hlt:=(List.getElem?_eq_some_iff.1 hj).1
     rw[List.getElem?_set_self hlt] at hv
     cases hv
     refine⟨u,b1,b2, ?_⟩
     have hu:u=.slice none 0 0:=by cases b3;rfl
     have e3:upH h [(x,Hs.var tz (row.set i (.own m 0))),(m,.arr ty sz [])] m=.arr ty sz []:=by simp[upH,hne,Ne.symm hne]
     refine(Den1.lo rfl).2 ?_
     simp only[Den0,e3]
     rw[hu]
     simp[upρ,q6l,Loc.sl,Loc.addr]
    ·rw[List.getElem?_set_ne (Ne.symm hij)] at hv
     obtain⟨u,b1,b2,b3⟩:=a4 i v hv
     exact⟨u,b1,b2,b3.mono himm hst⟩
   ·have e1:upH h [(c,Hs.var tz (row.set j (.own m 0))),(m,.arr ty sz [])] x=h x:=by simp only[upH,if_neg hxm,if_neg hxc]
    have e2:upρ ρ m q6l x=ρ x:=by simp[upρ,hxm]
    rw[e1,e2]
    exact(r.chunk x).mono himm hst (λ_=>rfl)
theorem qfx {G:Glob} {pin:Nat} {l:List (Nat×V)} {mm:List (Nat×Hs)} (c m ty sz tz j:Nat) {row:List V} (hm:q0c mm m=.fresh) (hne:c≠m) (hc:q0c mm c=.var tz row) (hj:row[j]?=some .nils) :
 St.le G pin ⟨q0i l,q0c mm⟩ ⟨q0i l,q0c ((c,.var tz (row.set j (.own m 0)))::(m,.arr ty sz [])::mm)⟩:=λn B ρ a w hp hB r=>by
 have T:=r.mem.nilCell (c:=c) (m:=m) (ty:=ty) (sz:=sz) (tz:=tz) (j:=j) hB hm hne hc hj
 have e:upH (q0c mm) [(c,Hs.var tz (row.set j (.own m 0))),(m,.arr ty sz [])]=q0c ((c,.var tz (row.set j (.own m 0)))::(m,.arr ty sz [])::mm):=by
  funext x;simp[upH,q0c]
 rw[e] at T
 exact⟨_,T.rel,r.size,r.nod,λd=>T.den _ _ (r.tmps d)⟩
theorem qfp {h:Nat→Hs}:∀ {up:List (Nat×Hs)},(∀x,x∈up→h x.1=x.2)→upH h up=h
 | [],_=>by funext x;rfl
 | p::up,hp=>by
   have ih:=qfp (h:=h) (up:=up) λx hx=>hp x (List.mem_cons_of_mem _ hx)
   have h1:=hp p List.mem_cons_self
   funext x
   simp only[upH]
   split
   ·rename_i e;rw[e];exact h1.symm
   ·exact congrFun ih x
section
variable {P:Program} {G:Glob}
theorem qpg {f:FuncId} {pin:Nat} {cs:List Hs} {args:List V} {postf:V→List Hs→Prop} (F:FnP P G f pin cs args postf) {vs:List V} {d:Option Nat} {st:St} {K:St→List Nat→List Nat→Prop}
 (ns:List Nat) (dd m:Nat)
 (hw:WkL (Wk (λc=>c∈[]) (nsF ns) st.h (chH cs)) vs args)
 (hc:NsL (λn s=>s.live=true∧WkH (λc=>c∈[]) (nsF ns) st.h (chH cs) (st.h n) s) ns cs)
 (hpin:pin≤ns.length) (hnd:ns.Nodup)
 (ho:∀res out,postf res out→pin≤out.length∧out.length≤m∧∀i,i<pin→q09 (chH cs i) (chH out i)=true)
 (hf:∀i,i<m→st.h (qgq dd i)=.fresh)
 (hsame:∀res out,postf res out→∀x,x∈qan (bk ns pin dd) 0 out++q4y (ns.drop pin)→st.h x.1=x.2)
 (hk:∀res out,postf res out→K (st.app d (res.rn (bk ns pin dd)) []) (q1x ns [] dd m) []) :
 CallV P G f vs d st K:=by
 obtain⟨hlen,hw⟩:=hw.spec
 have hF:∀h':Nat→Hs,(∀c,c∈q1x ns [] dd m→h' c=st.h c)→∀c,c∈([]:List Nat)→c∈([]:List Nat)∧h' c=st.h c:=λh' hh c hc=>by cases hc
 obtain⟨h20,h21⟩:=hc.spec
 have h2:ns.length=cs.length∧∀(i:Nat) s,cs[i]?=some s→s.live=true∧WkH (λc=>c∈([]:List Nat)) (nsF ns) st.h (chH cs) (st.h (nsF ns i)) s∧nsF ns i∈ns :=
  ⟨h20,λi s hs=>⟨(h21 i s hs).1,(h21 i s hs).2,qau (by rw[h20];exact(List.getElem?_eq_some_iff.1 hs).1)⟩⟩
 have hs:=qsa F (vs:=vs) (h:=st.h) (ns:=ns) (lent:=[]) (kp:=true) (d:=dd) (m:=m) hpin h2.1 hnd hlen.symm
  (λh' hh j v v' h1 h2=>(hw j v v' h1 h2).congr (hF h' hh))
  (λh' hh i s hs=>by
    obtain⟨a,b,e⟩:=h2.2 i s hs
    refine⟨.inl a, ?_⟩
    rw[hh (nsF ns i) (by simp[q1x,e])]
    exact b.congr (hF h' hh)) (λc hc=>by cases hc) (λres out hp=>let ⟨a,b,c⟩:=ho res out hp;⟨a,b,.inl rfl,c⟩) hf
 have hup:∀v up,qbo ns [] true pin dd postf v up→∃res out,postf res out∧v=res.rn (bk ns pin dd)∧∀x,x∈up→st.h x.1=x.2:=by
  rintro v up ⟨res,out,hp,rfl,rfl⟩
  refine⟨res,out,hp,rfl, ?_⟩
  simpa using hsame res out hp
 refine⟨λv up=>∃up',qbo ns [] true pin dd postf v up'∧up=[],q1x ns [] dd m,[],⟨hs.en, ?_, ?_,(λc hc=>by cases hc), ?_⟩, ?_⟩
 ·obtain⟨v,up,hp⟩:=hs.ne
  exact⟨v,[],up,hp,rfl⟩
 ·rintro v up ⟨_,_,rfl⟩ x hx;cases hx
 ·intro h' hh B ρ w us hB r ha
  refine(hs.run h' hh B ρ w us hB r ha).mono λe w' hp=>?_
  obtain⟨u,v,up,ρ',he,hp,hT,hd⟩:=hp
  have hw2:=hs.wri v up hp
  obtain⟨_,_,_,_,hx⟩:=hup v up hp
  have e1:upH h' up=h':=qfp λx hxu=>by
   rw[hh x.1 (hs.sub _ (hw2 x hxu))];exact hx x hxu
  rw[e1] at hT hd
  exact⟨u,v,[],ρ',he,⟨up,hp,rfl⟩,hT,hd⟩
 ·rintro v up ⟨up',hp,rfl⟩
  obtain⟨res,out,hq,rfl,_⟩:=hup v up' hp
  exact hk res out hq
end
abbrev mV (d a:Nat):IOper:=⟨some d,none,.mv (.t a)⟩
abbrev lD (d k a:Nat):IOper:=⟨some d,none,.ld k false (.t a)⟩
abbrev lA (d k a:Nat):IOper:=⟨some d,none,.ld k true (.t a)⟩
abbrev fD (d k a:Nat):IOper:=⟨some d,none,.fad k (.t a)⟩
abbrev bN (d:Nat) (o:BinOp) (a b:Nat):IOper:=⟨some d,none,.bin o (.t a) (.t b)⟩
abbrev eX (d a i:Nat):IOper:=⟨some d,none,.ext (.t a) i⟩
abbrev oP (d:Nat) (x:IOp):IOper:=⟨some d,none,x⟩
abbrev nP (x:IOp):IOper:=⟨none,none,x⟩
abbrev sR (l:List IOper) (x:IC):IC:=.seq (.reg l) x
abbrev i0:V:=.int .i64 0
abbrev s0:V:=.str []
abbrev gT (d k:Nat) (x:IOp):IOper:=⟨some d,some (k,true),x⟩
abbrev gF (d k:Nat) (x:IOp):IOper:=⟨some d,some (k,false),x⟩
abbrev cT:Opd:=.c (.bool true)
abbrev cF:Opd:=.c (.bool false)
abbrev cI (n:Int):Opd:=.c (.int .i64 n)
abbrev pF (d a b:Nat):IOper:=⟨some d,none,.pick (.t a) (.t b) (.c (.bool false))⟩
abbrev pT (d a b:Nat):IOper:=⟨some d,none,.pick (.t a) (.c (.bool true)) (.t b)⟩
abbrev cD (n:Nat) (a b:IC):IC:=.cond (.t n) a b
class Br (g:Prop) (p e A q f C:outParam Prop):Prop where
 out:(p→e→A)→(q→f→C)→g
theorem br {g p e A q f C:Prop} [i:Br g p e A q f C] (h1:p→e→A) (h2:q→f→C):g:=i.out h1 h2
class Sd (g:Prop) (p A:outParam Prop):Prop where
 out:p→A→g
theorem sd {g p A:Prop} [i:Sd g p A] (h2:A) (h1:p:=by first|kernel_rfl|omega):g:=i.out h1 h2
section
variable {P:Program} {G:Glob} {pin:Nat} {st:St} {K3:St→List Nat→List Nat→Prop} {Q:Ex→St→Prop}
instance {d op} {b:Bool}:Br (gK P G d op st K3 (some b)) (b=true) (b=true) (doV P G ⟨d,none,op⟩ st K3) (b=false) (b=false) (K3 (st.app d (.tup []) []) [] []):=⟨λh1 h2=>gB (λh=>h1 h h) λh=>h2 h h⟩
instance {a b':IC} {b:Bool}:Br (condW P G pin a b' Q st (.bool b)) (b=true) (b=true) (wpI P G pin a Q st) (b=false) (b=false) (wpI P G pin b' Q st):=⟨λh1 h2=>cB (λh=>h1 h h) λh=>h2 h h⟩
instance {d op} {b:Bool}:Br (gK P G d op st K3 (some (!b))) (b=true) (b=true) (K3 (st.app d (.tup []) []) [] []) (b=false) (b=false) (doV P G ⟨d,none,op⟩ st K3):=⟨λh1 h2=>gBn (λh=>h1 h h) λh=>h2 h h⟩
instance {a b':IC} {b:Bool}:Br (condW P G pin a b' Q st (.bool (!b))) (b=true) (b=true) (wpI P G pin b' Q st) (b=false) (b=false) (wpI P G pin a Q st):=⟨λh1 h2=>cBn (λh=>h1 h h) λh=>h2 h h⟩
instance {d op} {p:Prop} {inst:Decidable p}:Br (gK P G d op st K3 (some (decide p))) p (p=True) (doV P G ⟨d,none,op⟩ st K3) (¬p) (p=False) (K3 (st.app d (.tup []) []) [] []):=⟨gBd⟩
instance {a b':IC} {p:Prop} {inst:Decidable p}:Br (condW P G pin a b' Q st (.bool (decide p))) p (p=True) (wpI P G pin a Q st) (¬p) (p=False) (wpI P G pin b' Q st):=⟨cBd⟩
instance {d op} {p:Prop} {inst:Decidable p}:Br (gK P G d op st K3 (some (!decide p))) p (p=True) (K3 (st.app d (.tup []) []) [] []) (¬p) (p=False) (doV P G ⟨d,none,op⟩ st K3):=⟨gBnd⟩
instance {a b':IC} {p:Prop} {inst:Decidable p}:Br (condW P G pin a b' Q st (.bool (!decide p))) p (p=True) (wpI P G pin b' Q st) (¬p) (p=False) (wpI P G pin a Q st):=⟨cBnd⟩
instance {d:Option Nat} {c:Prop} {inst:Decidable c} {x:Option V}:Sd (pureK d st K3 (guardP c x)) c (pureK d st K3 x):=⟨pureG⟩
instance {d:Option Nat} {c:Prop} {inst:Decidable c} {x:Option (V×List (Nat×Hs)×List Nat)}:Sd (effK d st K3 (guardP c x)) c (effK d st K3 x):=⟨effG⟩
instance {bef i tc wr tr} {p:Prop}:Sd (chk bef i tc wr tr=true∧p) (chk bef i tc wr tr=true) p:=⟨λa b=>⟨a,b⟩⟩
instance {bef i tc wr tr}:Sd (chk bef i tc wr tr=true) (chk bef i tc wr tr=true) True:=⟨λa _=>a⟩
structure Dg (P:Program) (f:FuncId) (fn:Func) (ic:IC) (rs:List RV):Prop where
 hf:P.funcs[f]?=some fn
 he:entr P f=true
 hd:digF P fn=some (ic,rs)
theorem mF {f:FuncId} {fn:Func} {ic:IC} {rs:List RV} {args:List V} {v:V} (D:Dg P f fn ic rs) {n:Nat} (hnt:fn.ntmps=n) (h:wpI P G 0 ic (qu9 rs v) ⟨q0i (qe6 0 args),q0c []⟩) (ha:args.length≤n:=by simp):FnR P G f args v :=
 FnR.mkF D.hf D.he D.hd hnt ha h
theorem mP {f:FuncId} {fn:Func} {ic:IC} {rs:List RV} {cs:List Hs} {args:List V} {post:V→List Hs→Prop} (D:Dg P f fn ic rs) {n:Nat} (hnt:fn.ntmps=n) (hne:∃r o,post r o) (h:wpI P G pin ic (q59 rs pin post) ⟨q0i (qe6 0 args),chH cs⟩)
 (ha:args.length≤n:=by simp):FnP P G f pin cs args post:=FnP.mk' D.hf D.he D.hd hnt ha hne h
theorem cr {f:FuncId} {vs:List V} {v:V} (F:FnR P G f vs v) {d:Option Nat} {K:St→List Nat→List Nat→Prop} (hk:K (st.app d v []) [] []) (hvs:vs.all V.nl=true:=by kernel_rfl) (hv:v.nl=true:=by kernel_rfl) :
 CallV P G f vs d st K:=q0r F hvs hv hk
theorem leQ {l1 l2:List (Nat×V)} {m1 m2:List (Nat×Hs)} (fs:List (Nat×Nat))
 (ht:WkS (Wk (λc=>qc7 fs m2 c=true) (q0o fs) (q0c m1) (q0c m2)) (q0i l1) l2:=by simp only[go_sem];first|done|omega|rfl)
 (hh:WkN (WkH (λc=>qc7 fs m2 c=true) (q0o fs) (q0c m1) (q0c m2)) (λc=>q0c m1 (q0o fs c)) m2:=by simp only[go_sem];first|done|omega|rfl)
 (hi:(m2.map λp=>q0o fs p.1).Nodup:=by simp[q0o]) (hp:pinOk fs (q0c m2) pin:=by simp only[go_sem]):St.le G pin ⟨q0i l1,q0c m1⟩ ⟨q0i l2,q0c m2⟩:=leN fs ht hh hi hp
theorem cf {f:FuncId} {args:List V} {v:V} (F:FnR P G f args v) {vs:List V} {d:Option Nat} {K:St→List Nat→List Nat→Prop} (lent:List Nat)
 (hK:K (st.app d v []) lent [])
 (hw:WkL (Wk (λc=>c∈lent) (nsF []) st.h (chH [])) vs args:=by simp only[go_sem];first|done|simp[E.row,Pc.row,Pair.row,Part.row,Flw.row,Pk.row,Conv.row])
 (hl:∀c,c∈lent→(st.h c).live=true:=by simp only[List.mem_cons,List.not_mem_nil,or_false];rintro c (rfl|rfl|rfl|rfl)<;>simp only[go_sem]) (hv:v.nl=true:=by kernel_rfl) (hk:v.plain=true:=by kernel_rfl):CallV P G f vs d st K :=
 q2p F lent false hw hl hv (.inr hk) hK
end
end Go.Proofs.YtpnekhiejecipaaGreatDoor.VL
namespace Go.Proofs.YtpnekhiejecipaaGreatDoor.M
abbrev B:=List UInt8
structure E where
 a:Int
 p:Int
 deriving DecidableEq,Inhabited
structure Pc where
 size:Nat
 named:Bool
 e:E
 deriving DecidableEq,Inhabited
structure Pair where
 port:Int
 ins:E
 deriving DecidableEq,Inhabited
structure Part where
 size:Int
 text:B
 deriving DecidableEq,Inhabited
structure Strm where
 inn:B
 parts:List Part
 deriving DecidableEq,Inhabited
structure Pk where
 kind:Int
 frm:E
 to:E
 at_:Int
 text:B
 deriving DecidableEq,Inhabited
structure Flw where
 ins:E
 out:E
 up:Strm
 down:Strm
 deriving DecidableEq,Inhabited
structure Door where
 map:List Pair
 flows:List Flw
 deriving DecidableEq,Inhabited
structure Conv where
 ins:E
 out:E
 up:B
 down:B
 upAck:Int
 downAck:Int
 upGot:B
 downGot:B
 deriving DecidableEq,Inhabited
structure World where
 convs:List Conv
 door:Door
 nets:List Pk
 deriving DecidableEq,Inhabited
structure Ev where
 kind:Int
 a:Int
 b:Int
 c:Int
 pkt:Pk
 deriving DecidableEq,Inhabited
def E.zero:E:=⟨0,0⟩
def Pk.zero:Pk:=⟨0,.zero,.zero,0,[]⟩
def Strm.zero:Strm:=⟨[],[]⟩
def Door.zero:Door:=⟨[],[]⟩
def Conv.zero:Conv:=⟨.zero,.zero,[],[],0,0,[],[]⟩
def q0g (n lo hi:Int):Bool:=decide (lo≤n)&&decide (n≤hi)
def E.inside (e:E):Bool:=q0g e.a 1 3&&q0g e.p 1 9
def E.outside (e:E):Bool:=q0g e.a 4 6&&q0g e.p 1 9
def E.door (e:E):Bool:=decide (e.a=9)&&q0g e.p 10 17
def E.any (e:E):Bool:=e.inside||e.outside||e.door
def q7h (n:Nat):B:=if n<10 then [UInt8.ofNat (48+n)] else [UInt8.ofNat (48+n / 10),UInt8.ofNat (48+n % 10)]
def dec (i:Int):B:=q7h i.toNat
def E.text (e:E):B:=if e.any then dec e.a++(58::dec e.p) else []
def qg7:List E :=
 ([1,2,3,4,5,6]:List Int).flatMap (λa=>([1,2,3,4,5,6,7,8,9]:List Int).map λp=>⟨a,p⟩)++([10,11,12,13,14,15,16,17]:List Int).map λp=>⟨9,p⟩
def q08 (t:B):Option E:=qg7.find? λe=>decide (e.text=t)
def q57 (b lo:UInt8):Bool:=decide (lo≤b)&&decide (b≤57)
def okB (b:UInt8):Bool:=(decide (97≤b)&&decide (b≤122))||q57 b 48||decide (b=64)||decide (b=58)||decide (b=59)
def txOk (t:B):Bool:=t.all okB&&decide (t.length≤40)
def q6h:B→Bool
 | [a]=>decide (a=64)
 | [a,b]=>decide (a=64)&&q57 b 49
 | [a,b,c]=>decide (a=64)&&q57 b 49&&decide (c=58)
 | [a,b,c,d]=>decide (a=64)&&q57 b 49&&decide (c=58)&&q57 d 49
 | [a,b,c,d,e]=>decide (a=64)&&q57 b 49&&decide (c=58)&&q57 d 49&&q57 e 48
 | _=>false
def q3s (t:B):Nat→Nat
 | 0=>0
 | n+1=>if decide (n+1≤t.length)&&q6h (t.drop (t.length - (n+1))) then n+1 else q3s t n
def q6a (t:B):Nat:=q3s t 5
def q81 (s:B) (c:UInt8):B×B×Bool:=if c∈s then(s.takeWhile λb=>decide (b≠c),(s.dropWhile λb=>decide (b≠c)).tail,true) else(s,[],false)
def name (e:E):B:=64::(e.text++[59])
def q19:B→Option E
 | []=>none
 | c::r=>if c=64∧59∈r then q08 (r.takeWhile λb=>decide (b≠59)) else none
def pcK:Nat→B→List Pc
 | 0,_=>[]
 | _,[]=>[]
 | n+1,c::r=>match q19 (c::r) with
   | some e=>⟨(name e).length,true,e⟩::pcK n ((c::r).drop (name e).length)
   | none=>⟨1,false,.zero⟩::pcK n r
def body (t:B):B:=t.take (t.length - q6a t)
def pieces (t:B):List Pc:=pcK t.length (body t)
def q1g (t:B):List Pc:=if txOk t then pieces t else []
def q18 (l:List Pc):List E:=(l.filter (·.named)).map (·.e)
def q1p (t:B):List E:=q18 (q1g t)
def q4b (m:List Pair) (i:Nat):Bool:=match m[i]? with
 | some p=>decide (p.port=10+(i:Int))&&p.ins.inside&&!(m.take i).any λq=>decide (q.ins=p.ins)
 | none=>true
def mapOk (m:List Pair):Bool:=(List.range m.length).all (q4b m)&&decide (m.length≤8)
def portOf (m:List Pair) (e:E):Int:=match m.find? λp=>decide (p.ins=e) with
 | some p=>p.port
 | none=>0
def q0j (m:List Pair) (port:Int):Option E:=(m.find? λp=>decide (p.port=port)).map (·.ins)
def mOut (m:List Pair) (e:E):List Pair×Int×Bool:=match m.find? λp=>decide (p.ins=e) with
 | some p=>(m,p.port,true)
 | none=>if 8≤m.length then(m,0,false) else(m++[⟨10+(m.length:Int),e⟩],10+(m.length:Int),true)
def q0q (m:List Pair) (p:Pc) (s:B):List Pair×B :=
 if p.named&&p.e.inside then(match mOut m p.e with
  | (x,port,true)=>(x,name ⟨9,port⟩)
  | (_,_,false)=>(m,s))
 else(m,s)
def q2j (m:List Pair) (p:Pc) (s:B):B :=
 if p.named&&p.e.door then(match q0j m p.e.p with
  | some e=>name e
  | none=>s)
 else s
def turn (m:List Pair) (p:Pc) (s:B) (out:Bool):List Pair×B:=bif out then q0q m p s else(m,q2j m p s)
def turned (m:List Pair):List Pc→B→Bool→List Pair×List B
 | [],_,_=>(m,[])
 | p::ps,s,out=>((turned (turn m p (s.take p.size) out).1 ps (s.drop p.size) out).1,(turn m p (s.take p.size) out).2::(turned (turn m p (s.take p.size) out).1 ps (s.drop p.size) out).2)
def q63 (p:Part) (q:Pc):Bool:=decide (p.size=(q.size:Int))&&q0g p.text.length 1 6&&txOk p.text
def q0x:List Part→List Pc→Bool
 | [],[]=>true
 | p::ps,q::qs=>q63 p q&&q0x ps qs
 | _,_=>false
def strmOk (s:Strm):Bool:=txOk s.inn&&q0x s.parts (pieces s.inn)
def sOut (s:Strm):B:=s.parts.flatMap (·.text)
def q0s:List Part→Int→Int
 | [],_=>0
 | p::ps,i=>if p.size≤i then p.text.length+q0s ps (i - p.size) else 0
def backP:List Part→Int→Int
 | [],_=>0
 | p::ps,i=>if(p.text.length:Int)≤i then p.size+backP ps (i - p.text.length) else 0
def q0b (came:B) (at_:Int) (text:B):B×Bool :=
 if at_>came.length||at_+text.length>40 then(came,false)
 else if at_+text.length≤came.length then(came,true)
 else(came++text.drop (came.length - at_).toNat,true)
def doneP (l:List Part):Nat:=(l.map λp=>p.size.toNat).sum
def q0w:List Pc→List B→List Part
 | p::ps,b::bs=>⟨p.size,b⟩::q0w ps bs
 | _,_=>[]
def put (m:List Pair) (s:Strm) (at_:Int) (text:B) (out:Bool):List Pair×Strm×Bool :=
 if(q0b s.inn at_ text).2 then
  let inn:=(q0b s.inn at_ text).1
  let list:=(pieces inn).drop s.parts.length
  let r:=turned m list (inn.drop (doneP s.parts)) out
  (r.1,⟨inn,s.parts++q0w list r.2⟩,true)
 else(m,s,false)
def q48 (p:Pk):Bool:=p.frm.any&&p.to.any&&q0g p.at_ 0 99 &&
 ((decide (p.kind=1)&&txOk p.text&&!p.text.isEmpty)||(decide (p.kind=2)&&p.text.isEmpty))
def q0p (fs:List Flw) (i o:E):Option Nat:=fs.findIdx? λf=>decide (f.ins=i)&&decide (f.out=o)
def q7q (d:Door) (k:Nat):Bool:=match d.flows[k]? with
 | some f=>d.map.any (λp=>decide (p.ins=f.ins))&&f.out.outside&&strmOk f.up&&strmOk f.down&&!(d.flows.take k).any λg=>decide (g.ins=f.ins)&&decide (g.out=f.out)
 | none=>true
def doorOk (d:Door):Bool:=mapOk d.map&&decide (d.flows.length≤4)&&(List.range d.flows.length).all (q7q d)
def q1h (was is:Strm) (p:Pk):Option Pk :=
 let fr:=q0s is.parts p.at_
 let to:=if was.inn.length<is.inn.length then((sOut is).length:Int) else q0s is.parts (min (p.at_+p.text.length) is.inn.length)
 if fr≥to then none
 else if to - fr≤40 then some { p with at_:=fr,text:=((sOut is).take to.toNat).drop fr.toNat } else none
def q43 (d:Door) (i o:E):Option (Door×Nat):=match q0p d.flows i o with
 | some k=>some (d,k)
 | none=>match mOut d.map i with
   | (m,_,true)=>if d.flows.length<4 then some (⟨m,d.flows++[⟨i,o,.zero,.zero⟩]⟩,d.flows.length) else none
   | _=>none
def q5r (d:Door) (p:Pk):Door×Option Pk:=match q43 d p.frm p.to with
 | none=>(d,none)
 | some (d,k)=>match d.flows[k]? with
   | none=>(d,none)
   | some f =>
     let dr:E:=⟨9,portOf d.map p.frm⟩
     if p.kind=2 then
      if p.at_>(sOut f.down).length then(d,none) else(d,some ⟨2,dr,p.to,backP f.down.parts p.at_,[]⟩)
     else match put d.map f.up p.at_ p.text true with
      | (_,_,false)=>(d,none)
      | (m,s,true)=>(⟨m,d.flows.set k { f with up:=s }⟩,(q1h f.up s p).map λq=>{ q with frm:=dr })
def dIn (d:Door) (p:Pk):Door×Option Pk:=match q0j d.map p.to.p with
 | none=>(d,none)
 | some i=>match q0p d.flows i p.frm with
   | none=>(d,none)
   | some k=>match d.flows[k]? with
     | none=>(d,none)
     | some f =>
       if p.kind=2 then
        if p.at_>(sOut f.up).length then(d,none) else(d,some ⟨2,p.frm,i,backP f.up.parts p.at_,[]⟩)
       else match put d.map f.down p.at_ p.text false with
        | (_,_,false)=>(d,none)
        | (_,s,true)=>(⟨d.map,d.flows.set k { f with down:=s }⟩,(q1h f.down s p).map λq=>{ q with to:=i })
def Pk.outward (p:Pk):Bool:=p.frm.inside&&p.to.outside
def Pk.inward (p:Pk):Bool:=p.frm.outside&&p.to.door
def dPass (d:Door) (p:Pk):Door×Option Pk:=if p.outward then q5r d p else if p.inward then dIn d p else(d,none)
def q56 (t:B):Bool:=decide (t.length≤24)&&txOk t&&decide (q6a t=0)
def qzn (t:B):Bool:=!(q1p t).any E.door
def q1o (i o:E) (up down:B):Option Conv :=
 if i.inside&&o.outside&&q56 up&&q56 down&&qzn up then some ⟨i,o,up,down,0,0,[],[]⟩ else none
def convOk (c:Conv):Bool:=(q1o c.ins c.out c.up c.down).isSome&&q0g c.upAck 0 c.up.length&&q0g c.downAck 0 c.down.length&&txOk c.upGot&&txOk c.downGot
def say (c:Conv) (outward:Bool) (port at_ many:Int):Option Pk :=
 let p:Pk:=if outward then⟨1,c.ins,c.out,at_,[]⟩ else⟨1,c.out,⟨9,port⟩,at_,[]⟩
 let text:=if outward then c.up else c.down
 if q0g at_ 0 ((text.length:Int) - 1)&&decide (1≤many)&&(outward||p.to.door) then
  some { p with text:=(text.drop at_.toNat).take (min many (text.length - at_)).toNat }
 else none
def hear (c:Conv) (inward:Bool) (p:Pk):Conv×Option Pk :=
 if bif inward then decide (p.frm=c.out)&&decide (p.to=c.ins) else decide (p.to=c.out)&&p.frm.door then
  if p.kind=2 then
   (bif inward then { c with upAck:=max c.upAck (min p.at_ c.up.length) } else { c with downAck:=max c.downAck (min p.at_ c.down.length) },none)
  else
   bif inward then({ c with downGot:=(q0b c.downGot p.at_ p.text).1 },some ⟨2,p.to,p.frm,(q0b c.downGot p.at_ p.text).1.length,[]⟩)
   else({ c with upGot:=(q0b c.upGot p.at_ p.text).1 },some ⟨2,p.to,p.frm,(q0b c.upGot p.at_ p.text).1.length,[]⟩)
 else(c,none)
def q9d (cs:List Conv) (i:Nat):Bool:=match cs[i]? with
 | some c=>convOk c&&!(cs.take i).any λo=>decide (o.ins=c.ins)||decide (o.out=c.out)
 | none=>true
def q17 (cs:List Conv):Bool:=(List.range cs.length).all (q9d cs)&&decide (cs.length≤2)
def q16:List Conv→Option (List Conv)
 | []=>some []
 | c::cs=>match q1o c.ins c.out c.up c.down,q16 cs with
   | some n,some ns=>some (n::ns)
   | _,_=>none
def q0z (cs:List Conv):Option World:=match q16 cs with
 | some ns=>if q17 ns then some ⟨ns,.zero,[]⟩ else none
 | none=>none
def q5c (w:World):Bool:=q17 w.convs&&doorOk w.door&&decide (w.nets.length≤10)&&w.nets.all q48
def send (w:World):Option Pk→World
 | some p=>if w.nets.length<10 then { w with nets:=w.nets++[p] } else w
 | none=>w
def hostIx (w:World) (p:Pk):Option (Nat×Bool) :=
 match w.convs.findIdx? λc=>(decide (p.to=c.ins)&&decide (p.frm=c.out))||(decide (p.to=c.out)&&p.frm.door&&decide (p.frm.p=portOf w.door.map c.ins)) with
 | some i=>match w.convs[i]? with
   | some c=>some (i,decide (p.to=c.ins)&&decide (p.frm=c.out))
   | none=>none
 | none=>none
def carry (w:World) (p:Pk):World×Option Pk :=
 if p.to.door||p.frm.inside then({ w with door:=(dPass w.door p).1 },(dPass w.door p).2)
 else match hostIx w p with
  | none=>(w,none)
  | some (i,inward)=>match w.convs[i]? with
    | none=>(w,none)
    | some c=>({ w with convs:=w.convs.set i (hear c inward p).1 },(hear c inward p).2)
def sayW (w:World) (up:Bool) (a b c:Int):Option Pk :=
 if q0g a 0 ((w.convs.length:Int) - 1) then(match w.convs[a.toNat]? with
  | some cv=>say cv up (bif up then 0 else portOf w.door.map cv.ins) b c
  | none=>none)
 else none
def stranger (w:World) (p:Pk):Bool:=q48 p&&p.inward&&!w.convs.any λc=>decide (c.out=p.frm)
def wDo (w:World) (e:Ev):World :=
 let packet:=q0g e.a 0 ((w.nets.length:Int) - 1)
 if e.kind=1 then send w (sayW w true e.a e.b e.c)
 else if e.kind=2 then send w (sayW w false e.a e.b e.c)
 else if e.kind=3 then
  if packet then(match w.nets[e.a.toNat]? with
   | some p=>let r:=carry { w with nets:=w.nets.eraseIdx e.a.toNat } p;send r.1 r.2
   | none=>w) else w
 else if e.kind=4 then
  if packet then { w with nets:=w.nets.eraseIdx e.a.toNat } else w
 else if e.kind=5 then
  if packet then send w w.nets[e.a.toNat]? else w
 else if e.kind=6 then(if stranger w e.pkt then send w (some e.pkt) else w)
 else w
def q4q (cs:List Conv) (es:List Ev):Option World:=match q0z cs with
 | some w=>if es.length≤60 then some (es.foldl wDo w) else none
 | none=>none
def through:Nat→World→Option Pk→World
 | 0,w,_=>w
 | _,w,none=>w
 | n+1,w,some p=>through n (carry w p).1 (carry w p).2
def sayRound (w:World) (i:Nat):World:=match w.convs[i]? with
 | none=>w
 | some c =>
   let w1:=through 4 w (say c true 0 c.upAck 24)
   match w1.convs[i]? with
   | none=>w1
   | some c1=>through 4 w1 (say c1 false (portOf w1.door.map c1.ins) c1.downAck 24)
def round (w:World):World :=
 let w1:=w.nets.foldl (λw p=>through 4 w (some p)) { w with nets:=[] }
 (List.range w1.convs.length).foldl sayRound w1
def rounds:Nat→World→World
 | 0,w=>w
 | n+1,w=>rounds n (round w)
theorem within_iff {n lo hi:Int}:q0g n lo hi=true↔lo≤n∧n≤hi:=by simp[q0g]
theorem E.inside_iff {e:E}:e.inside=true↔(1≤e.a∧e.a≤3)∧1≤e.p∧e.p≤9:=by simp[E.inside,within_iff]
theorem E.outside_iff {e:E}:e.outside=true↔(4≤e.a∧e.a≤6)∧1≤e.p∧e.p≤9:=by simp[E.outside,within_iff]
theorem E.door_iff {e:E}:e.door=true↔e.a=9∧10≤e.p∧e.p≤17:=by simp[E.door,within_iff]
theorem E.any_iff {e:E}:e.any=true↔e∈qg7:=by
 constructor
 ·intro h
  obtain⟨a,p⟩:=e
  simp only[E.any,Bool.or_eq_true,E.inside_iff,E.outside_iff,E.door_iff] at h
  have h9:∀x:Int,1≤x∧x≤9→x=1∨x=2∨x=3∨x=4∨x=5∨x=6∨x=7∨x=8∨x=9:=by omega
  have h17:∀x:Int,10≤x∧x≤17→x=10∨x=11∨x=12∨x=13∨x=14∨x=15∨x=16∨x=17:=by omega
  have h6:∀x:Int,1≤x∧x≤6→x=1∨x=2∨x=3∨x=4∨x=5∨x=6:=by omega
  have:(a=9∧10≤p∧p≤17)∨((1≤a∧a≤6)∧1≤p∧p≤9):=by omega
  simp only[qg7,List.mem_append,List.mem_flatMap,List.mem_map,List.mem_cons,List.not_mem_nil,or_false,E.mk.injEq]
  rcases this with⟨rfl,hp⟩|⟨ha,hp⟩
  ·exact .inr ⟨p,h17 p hp,rfl,rfl⟩
  ·exact .inl ⟨a,h6 a ha,p,h9 p hp,rfl,rfl⟩
 ·intro h
  have key:qg7.all E.any=true:=by decide
  exact List.all_eq_true.1 key e h
theorem qj4:∀e∈qg7,q08 e.text=some e:=by decide
theorem q1r {t:B} {e:E} (h:q08 t=some e):e.any=true∧e.text=t:=by
 have h1:=List.mem_of_find?_eq_some h
 have h2:=List.find?_some h
 exact⟨E.any_iff.2 h1,of_decide_eq_true h2⟩
theorem q28 {e:E} (h:e.any=true):q08 e.text=some e:=qj4 e (E.any_iff.1 h)
theorem qjl {e:E}:59∉e.text:=by
 by_cases h:e.any=true
 ·have key:∀e∈qg7,59∉e.text:=by decide
  exact key e (E.any_iff.1 h)
 ·simp[E.text,h]
theorem qkk {e:E}:64∉e.text:=by
 by_cases h:e.any=true
 ·have key:∀e∈qg7,64∉e.text:=by decide
  exact key e (E.any_iff.1 h)
 ·simp[E.text,h]
theorem q83 {e:E} (h:e.any=true):e.text.length=(if e.door then 4 else 3):=by
 have key:∀e∈qg7,e.text.length=(if e.door then 4 else 3):=by decide
 exact key e (E.any_iff.1 h)
theorem qil {e:E}:e.text.all okB=true:=by
 by_cases h:e.any=true
 ·have key:∀e∈qg7,e.text.all okB=true:=by decide
  exact key e (E.any_iff.1 h)
 ·simp[E.text,h]
theorem q5s {e:E} (h:e.any=true):(name e).length=(if e.door then 6 else 5):=by
 simp only[name,zC,zA,zN,q83 h]
 split<;>rfl
theorem q9h {e:E} {r:B}:(e.text++[59]++r).takeWhile (λb=>decide (b≠59))=e.text:=by
 rw[List.append_assoc,List.takeWhile_append_of_pos]
 ·simp
 ·intro b hb
  simp only[ne_eq,decide_eq_true_eq]
  rintro rfl
  exact qjl hb
theorem q6d {e:E} (h:e.any=true) (r:B):q19 (name e++r)=some e:=by
 simp only[name,List.cons_append,q19]
 rw[if_pos (by simp),q9h,q28 h]
theorem qp9 {r:B} (h:59∈r):∃s,r=r.takeWhile (λb=>decide (b≠59))++[59]++s:=by
 induction r with
 | nil=>cases h
 | cons c r ih =>
   by_cases hc:c=59
   ·subst hc;exact⟨r,by simp⟩
   ·have h':59∈r:=by
     rcases List.mem_cons.1 h with h|h
     ·exact absurd h.symm hc
     ·exact h
    obtain⟨s,hs⟩:=ih h'
    refine⟨s, ?_⟩
    rw[List.takeWhile_cons_of_pos (by simpa using hc)]
    simp only[List.cons_append]
    rw[←hs]
theorem q2i {s:B} {e:E} (h:q19 s=some e):e.any=true∧∃r,s=name e++r:=by
 cases s with
 | nil=>simp[q19] at h
 | cons c r =>
   simp only[q19] at h
   split at h
   ·rename_i hc
    obtain⟨rfl,h59⟩:=hc
    obtain⟨ha,ht⟩:=q1r h
    obtain⟨s,hs⟩:=qp9 h59
    refine⟨ha,s, ?_⟩
    rw[hs,←ht]
    simp[name]
   ·cases h
theorem qhs:∀e∈qg7,(0≤e.a∧e.a<100)∧(0≤e.p∧e.p<100)∧58∉dec e.a:=by decide
theorem qqx {a r:B} {c:UInt8} (h:c∉a):q81 (a++c::r) c=(a,r,true):=by
 have h1:c∈a++c::r:=by simp
 simp only[q81,if_pos h1]
 have ha:∀b∈a,decide (b≠c)=true:=λb hb=>by simp only[ne_eq,decide_eq_true_eq];rintro rfl;exact h hb
 rw[List.takeWhile_append_of_pos ha,List.dropWhile_append_of_pos ha]
 simp
theorem qem {t:B} {e:E} (h:q08 t=some e):q81 t 58=(dec e.a,dec e.p,true)∧(0≤e.a∧e.a<100)∧(0≤e.p∧e.p<100):=by
 obtain⟨h1,h2⟩:=q1r h
 obtain⟨a1,a2,a3⟩:=qhs e (E.any_iff.1 h1)
 refine⟨?_,a1,a2⟩
 rw[←h2]
 simp only[E.text,h1,if_true]
 exact qqx a3
theorem qg9 (t:B) (c:UInt8):(q81 t c).1.length≤t.length∧(q81 t c).2.1.length≤t.length:=by
 unfold q81
 split
 ·have h:=List.takeWhile_append_dropWhile (p:=λb:UInt8=>decide (b≠c)) (l:=t)
  have h2:=congrArg List.length h
  simp only[zA] at h2
  simp only[List.length_tail]
  omega
 ·simp
def pc1 (s:B):Pc:=match q19 s with
 | some e=>⟨(name e).length,true,e⟩
 | none=>⟨1,false,.zero⟩
def pcs (s:B):List Pc:=pcK s.length s
theorem q30 {s:B} (h:s≠[]):1≤(pc1 s).size∧(pc1 s).size≤s.length∧(pc1 s).size≤6:=by
 unfold pc1
 cases hn:q19 s with
 | none =>
   have:=List.length_pos_iff.2 h
   exact⟨Nat.le_refl _,this,by simp⟩
 | some e =>
   obtain⟨h1,r,h2⟩:=q2i hn
   have:=q5s h1
   have h3:=congrArg List.length h2
   simp only[zA] at h3
   simp only
   split at this<;>omega
theorem qax (n:Nat) {s:B} (h:s≠[]):pcK (n+1) s=pc1 s::pcK n (s.drop (pc1 s).size):=by
 cases s with
 | nil=>exact absurd rfl h
 | cons c r =>
   simp only[pcK,pc1]
   cases q19 (c::r)<;>rfl
theorem qjq:∀(n:Nat) (s:B),s.length≤n→pcK n s=pcs s:=by
 intro n
 induction n using Nat.strongRecOn with
 | _ n ih =>
   intro s hs
   by_cases h:s=[]
   ·subst h;cases n<;>rfl
   ·have hp:=List.length_pos_iff.2 h
    obtain⟨p1,p2,_⟩:=q30 h
    obtain⟨m,rfl⟩:∃m,n=m+1:=⟨n - 1,by omega⟩
    obtain⟨k,hk⟩:∃k,s.length=k+1:=⟨s.length - 1,by omega⟩
    unfold pcs
    rw[hk,qax m h,qax k h]
    congr 1
    rw[ih m (by omega) _ (by simp;omega)]
    by_cases hkm:k=m
    ·subst hkm;rw[ih k (by omega) _ (by simp;omega)]
    ·rw[ih k (by omega) _ (by simp;omega)]
theorem qaw:pcs []=[]:=rfl
theorem q3c {s:B} (h:s≠[]):pcs s=pc1 s::pcs (s.drop (pc1 s).size):=by
 obtain⟨k,hk⟩:∃k,s.length=k+1:=⟨s.length - 1,by have:=List.length_pos_iff.2 h;omega⟩
 obtain⟨p1,p2,_⟩:=q30 h
 conv=>lhs;unfold pcs
 rw[hk,qax k h,qjq k _ (by simp;omega)]
theorem q2r (t:B):(body t).length=t.length - q6a t:=by simp[body]
theorem q35 (t:B):pieces t=pcs (body t):=by
 unfold pieces
 exact qjq _ _ (by rw[q2r];omega)
theorem qre:∀(n:Nat) (s:B),s.length≤n→(pcs s).length≤s.length:=by
 intro n
 induction n with
 | zero =>
   intro s hs
   have:s=[]:=List.eq_nil_of_length_eq_zero (by omega)
   subst this;exact Nat.le_refl _
 | succ n ih =>
   intro s hs
   by_cases h:s=[]
   ·subst h;exact Nat.le_refl _
   ·obtain⟨p1,p2,_⟩:=q30 h
    rw[q3c h]
    have:=ih (s.drop (pc1 s).size) (by simp;omega)
    simp only[zC,List.length_drop] at this ⊢
    omega
theorem q4p (t:B):(pieces t).length≤t.length:=by
 rw[q35]
 have:=qre _ (body t) (Nat.le_refl _)
 rw[q2r] at this;omega
theorem q2d (t:B):(q1g t).length≤t.length:=by
 unfold q1g
 split
 ·exact q4p t
 ·simp
theorem E.ext_iff' {a p c d:Int}:(decide (a=c)&&decide (p=d))=decide ((⟨a,p⟩:E)=⟨c,d⟩):=by
 by_cases h1:a=c<;>by_cases h2:p=d<;>simp[h1,h2]
def PortsOk (m:List Pair):Prop:=∀p∈m,p.port≠0∧p.port<1000
theorem q7i (e:E):portOf [] e=0:=rfl
theorem q4v (p:Pair) (m:List Pair) (e:E):portOf (p::m) e=if p.ins=e then p.port else portOf m e:=by
 by_cases h:p.ins=e<;>simp[portOf,h]
theorem qbp (p:Pair) (m:List Pair) (n:Int):q0j (p::m) n=if p.port=n then some p.ins else q0j m n:=by
 by_cases h:p.port=n<;>simp[q0j,h]
theorem qk3 {m:List Pair} {e:E} (h:∀p∈m,p.port≠0):(portOf m e≠0↔m.any (λq=>decide (q.ins=e))=true):=by
 induction m with
 | nil=>simp[q7i]
 | cons p m ih =>
   rw[q4v,List.any_cons]
   by_cases hp:p.ins=e
   ·simp[hp,h p (by simp)]
   ·rw[if_neg hp,ih λq hq=>h q (by simp[hq])];simp[hp]
theorem q5z {m:List Pair} {e:E} (h:∀p∈m,p.port≠0) (hp:portOf m e≠0):mOut m e=(m,portOf m e,true):=by
 unfold portOf at hp ⊢
 unfold mOut
 cases hf:m.find? λp=>decide (p.ins=e) with
 | none=>rw[hf] at hp;exact absurd rfl hp
 | some p=>rfl
theorem qcs {m:List Pair} {e:E} (h:∀p∈m,p.port≠0) (hp:portOf m e=0):mOut m e=if 8≤m.length then(m,0,false) else(m++[⟨10+(m.length:Int),e⟩],10+(m.length:Int),true):=by
 unfold mOut
 cases hf:m.find? λp=>decide (p.ins=e) with
 | none=>rfl
 | some p =>
   unfold portOf at hp
   rw[hf] at hp
   exact absurd hp (h p (List.mem_of_find?_eq_some hf))
theorem PortsOk.mOut {m:List Pair} {e:E} (h:PortsOk m):PortsOk (mOut m e).1:=by
 unfold M.mOut
 split
 ·exact h
 ·split
  ·exact h
  ·rename_i hl
   intro p hp
   rcases List.mem_append.1 hp with hp|hp
   ·exact h p hp
   ·simp only[List.mem_singleton] at hp
    subst hp
    simp only
    omega
theorem q8x {m:List Pair} {i:Nat} {p:Pair} (h:q4b m i=true) (hp:m[i]?=some p):p.port=10+(i:Int)∧p.ins.inside=true:=by
 simp only[q4b,hp,Bool.and_eq_true,decide_eq_true_eq] at h
 exact h.1
theorem q0d {m:List Pair} (h:mapOk m=true):PortsOk m∧m.length≤8:=by
 simp only[mapOk,Bool.and_eq_true,decide_eq_true_eq,List.all_eq_true,List.mem_range] at h
 refine⟨λp hp=>?_,h.2⟩
 obtain⟨i,hi⟩:=List.getElem?_of_mem hp
 have hl:=(List.getElem?_eq_some_iff.1 hi).1
 have:=(q8x (h.1 i hl) hi).1
 omega
theorem q5w {m:List Pair} (h:mapOk m=true) {i:Nat} (hi:i<m.length):m[i].port=10+(i:Int)∧m[i].ins.inside=true:=by
 simp only[mapOk,Bool.and_eq_true,List.all_eq_true,List.mem_range] at h
 exact q8x (h.1 i hi) (zE hi)
theorem q8y {m:List Pair} (h:mapOk m=true) (n:Int):q0j m n=if hn:0≤n - 10∧n - 10<m.length then some (m[(n - 10).toNat]'(by omega)).ins else none:=by
 split
 ·rename_i hn
  have hi:(n - 10).toNat<m.length:=by omega
  have:m.find? (λp=>decide (p.port=n))=some m[(n - 10).toNat]:=by
   rw[List.find?_eq_some_iff_getElem]
   refine⟨by rw[(q5w h hi).1];simp;omega,_,hi,rfl,λj hj=>?_⟩
   have:=(q5w h (Nat.lt_trans hj hi)).1
   rw[this];simp;omega
  simp[q0j,this]
 ·rename_i hn
  have:m.find? (λp=>decide (p.port=n))=none:=by
   rw[List.find?_eq_none]
   intro p hp
   obtain⟨i,hi⟩:=List.getElem?_of_mem hp
   have hil:=(List.getElem?_eq_some_iff.1 hi).1
   have hpi:p=m[i]:=by rw[zE hil] at hi;exact(Option.some.inj hi).symm
   rw[hpi,(q5w h hil).1]
   simp;omega
  simp[q0j,this]
theorem qm7 (m:List Pair) (e:E):(mOut m e).1.length≤m.length+1:=by
 unfold mOut
 split
 ·simp
 ·split<;>simp
theorem qbf (e:E):(name e).length≤6:=by
 by_cases h:e.any=true
 ·rw[q5s h];split<;>omega
 ·simp[name,E.text,h]
def fits:List Pc→B→Prop
 | [],_=>True
 | p::ps,s=>p.size≤s.length∧fits ps (s.drop p.size)
theorem qf2 (m:List Pair) (p:Pc) (s:B) (out:Bool):(turn m p s out).2.length≤s.length+6∧(turn m p s out).1.length≤m.length+1:=by
 cases out
 ·simp only[turn,q2j,cond_false]
  refine⟨?_,by omega⟩
  split
  ·split
   ·rename_i e _;have:=qbf e;omega
   ·omega
  ·omega
 ·simp only[turn,q0q,cond_true]
  split
  ·have h:=qm7 m p.e
   rcases hmo:M.mOut m p.e with⟨x,port,ok⟩
   rw[hmo] at h
   cases ok<;>simp only at h ⊢
   ·omega
   ·have:=qbf ⟨9,port⟩;omega
  ·simp only;omega
theorem PortsOk.turn {m:List Pair} (h:PortsOk m) (p:Pc) (s:B) (out:Bool):PortsOk (turn m p s out).1:=by
 cases out
 ·exact h
 ·simp only[M.turn,q0q,cond_true]
  split
  ·have h2:=h.mOut (e:=p.e)
   rcases hmo:M.mOut m p.e with⟨x,port,ok⟩
   rw[hmo] at h2
   cases ok
   ·exact h
   ·exact h2
  ·exact h
theorem qhh {s:B} {e:E} (h:q19 s=some e) (r:B):q19 (s++r)=some e:=by
 obtain⟨h1,q,rfl⟩:=q2i h
 rw[List.append_assoc]
 exact q6d h1 _
theorem qdw {s r:B} {e:E} (h:q19 (s++r)=some e) (hl:(name e).length≤s.length):q19 s=some e:=by
 obtain⟨h1,q,hq⟩:=q2i h
 have:s=name e++s.drop (name e).length:=by
  have h2:=congrArg (List.take (name e).length) hq
  rw[List.take_append_of_le_length hl,List.take_left'] at h2
  ·conv=>lhs;rw[←List.take_append_drop (name e).length s,h2]
  ·rfl
 rw[this]
 exact q6d h1 _
theorem qr2:∀(n:Nat) (s r:B),s.length≤n→(∀i e,i<s.length→q19 ((s++r).drop i)=some e→i+(name e).length≤s.length)→pcs (s++r)=pcs s++pcs r:=by
 intro n
 induction n with
 | zero =>
   intro s r hs _
   have:s=[]:=List.eq_nil_of_length_eq_zero (by omega)
   subst this;rfl
 | succ n ih =>
   intro s r hs H
   by_cases h:s=[]
   ·subst h;rfl
   have hp:0<s.length:=List.length_pos_iff.2 h
   have hne:s++r≠[]:=by simp[h]
   have key:pc1 (s++r)=pc1 s:=by
    unfold pc1
    cases hn:q19 (s++r) with
    | some e =>
      have:=H 0 e hp (by simpa using hn)
      rw[qdw hn (by omega)]
    | none =>
      cases hs:q19 s with
      | none=>rfl
      | some e=>rw[qhh hs r] at hn;cases hn
   obtain⟨p1,p2,_⟩:=q30 h
   rw[q3c hne,q3c h,key,List.drop_append_of_le_length p2,List.cons_append]
   congr 1
   refine ih _ _ (by simp;omega) λi e hi hn=>?_
   have hi':i<s.length - (pc1 s).size:=by simpa using hi
   have:=H (i+(pc1 s).size) e (by omega) (by rw[Nat.add_comm,←List.drop_drop,List.drop_append_of_le_length p2];exact hn)
   simp;omega
theorem qu0:∀(n:Nat) (s:B),s.length≤n→((pcs s).map (·.size)).sum=s.length:=by
 intro n
 induction n with
 | zero =>
   intro s hs
   have:s=[]:=List.eq_nil_of_length_eq_zero (by omega)
   subst this;rfl
 | succ n ih =>
   intro s hs
   by_cases h:s=[]
   ·subst h;rfl
   obtain⟨p1,p2,_⟩:=q30 h
   rw[q3c h,List.map_cons,List.sum_cons,ih _ (by simp;omega)]
   simp;omega
theorem qmx:∀(n:Nat) (s r:B),s.length≤n→fits (pcs s) (s++r):=by
 intro n
 induction n with
 | zero =>
   intro s r hs
   have:s=[]:=List.eq_nil_of_length_eq_zero (by omega)
   subst this;trivial
 | succ n ih =>
   intro s r hs
   by_cases h:s=[]
   ·subst h;trivial
   obtain⟨p1,p2,_⟩:=q30 h
   rw[q3c h]
   refine⟨by simp;omega, ?_⟩
   rw[List.drop_append_of_le_length p2]
   exact ih _ _ (by simp;omega)
theorem qd0 (t:B):∀n,0<q3s t n→q6h (t.drop (t.length - q3s t n))=true
 | 0,h=>by simp[q3s] at h
 | n+1,h=>by
   simp only[q3s] at h ⊢
   split
   ·rename_i hc
    simp only[Bool.and_eq_true] at hc
    exact hc.2
   ·rename_i hc
    rw[if_neg hc] at h
    exact qd0 t n h
theorem qcu (t:B):∀n k,k≤n→k≤t.length→0<k→q6h (t.drop (t.length - k))=true→k≤q3s t n
 | 0,k,hk,_,h0,_=>by omega
 | n+1,k,hk,hl,h0,hb=>by
   simp only[q3s]
   by_cases hc:(decide (n+1≤t.length)&&q6h (t.drop (t.length - (n+1))))=true
   ·rw[if_pos hc];exact hk
   ·rw[if_neg hc]
    rcases Nat.lt_or_ge k (n+1) with h|h
    ·exact qcu t n k (by omega) hl h0 hb
    ·obtain rfl:k=n+1:=by omega
     exact absurd (by simp[hl,hb]) hc
theorem qff {t:B} (h:0<q6a t):q6h (t.drop (t.length - q6a t))=true:=qd0 t 5 h
theorem qfj {t:B} {k:Nat} (hk:k≤5) (hl:k≤t.length) (h0:0<k) (hb:q6h (t.drop (t.length - k))=true):k≤q6a t:=qcu t 5 k hk hl h0 hb
theorem qsv (t:B):q6a t≤5∧q6a t≤t.length:=by
 have key:∀n,q3s t n≤n∧q3s t n≤t.length:=λn=>by
  induction n with
  | zero=>exact⟨Nat.le_refl _,Nat.zero_le _⟩
  | succ n ih =>
    simp only[q3s]
    split
    ·rename_i h;simp at h;omega
    ·omega
 exact key 5
theorem qjh {s:B} (h:q6h s=true) {k:Nat} (h0:0<k) (hk:k≤s.length):q6h (s.take k)=true:=by
 rcases s with _|⟨a,_|⟨b,_|⟨c,_|⟨d,_|⟨e,_|⟨f,r⟩⟩⟩⟩⟩⟩
 ·cases h
 all_goals(try(simp[q6h] at h;done))
 all_goals
  simp only[zC,zN] at hk
  match k,h0,hk with
  | 1,_,_=>simp_all[q6h]
  | 2,_,_=>simp_all[q6h]
  | 3,_,_=>simp_all[q6h]
  | 4,_,_=>simp_all[q6h]
  | 5,_,_=>simp_all[q6h]
theorem qix {s:B} (h:q6h s=true):s.length≤5∧∃r,s=64::r:=by
 rcases s with _|⟨a,_|⟨b,_|⟨c,_|⟨d,_|⟨e,_|⟨f,r⟩⟩⟩⟩⟩⟩<;>simp_all[q6h]
theorem qpb:∀e∈qg7,∀k∈[1,2,3,4,5],k<(name e).length→q6h ((name e).take k)=true:=by decide
theorem qp6 {e:E} (h:e.any=true) {k:Nat} (h0:0<k) (hk:k<(name e).length):q6h ((name e).take k)=true:=by
 have hl:=q5s h
 refine qpb e (E.any_iff.1 h) k ?_ hk
 have:k≤5:=by split at hl<;>omega
 simp;omega
theorem qrr {e:E} {j:Nat} (h0:0<j):(name e)[j]?≠some 64:=by
 obtain⟨j,rfl⟩:∃i,j=i+1:=⟨j - 1,by omega⟩
 simp only[name,List.getElem?_cons_succ]
 intro hc
 have:=List.mem_of_getElem? hc
 rcases List.mem_append.1 this with h|h
 ·exact qkk h
 ·simp at h
theorem qon (s t:B):q6a (s++t)≤q6a s+t.length:=by
 rcases Nat.lt_or_ge t.length (q6a (s++t)) with h|h
 ·have hb:=qff (t:=s++t) (by omega)
  have h5:=qsv (s++t)
  simp only[zA] at h5 hb
  have hk:0<q6a (s++t) - t.length:=by omega
  have h2:=qjh hb hk (by simp;omega)
  have e1:((s++t).drop (s.length+t.length - q6a (s++t))).take (q6a (s++t) - t.length)=s.drop (s.length - (q6a (s++t) - t.length)):=by
   rw[List.drop_append_of_le_length (by omega),List.take_append_of_le_length (by simp;omega)]
   rw[List.take_of_length_le (by simp;omega)]
   congr 1;omega
  rw[e1] at h2
  have:=qfj (by omega) (by omega) hk h2
  omega
 ·omega
theorem q88 (s t:B):body (s++t)=body s++(body (s++t)).drop (body s).length:=by
 have h1:=qon s t
 have h5:=qsv s
 have:body s=(body (s++t)).take (body s).length:=by
  rw[q2r]
  unfold body
  rw[List.take_take,zA,Nat.min_eq_left (by omega),List.take_append_of_le_length (by omega)]
 conv=>lhs;rw[←List.take_append_drop (body s).length (body (s++t)),←this]
theorem q7l (s t:B):pieces (s++t)=pieces s++pcs ((body (s++t)).drop (body s).length):=by
 rw[q35,q35]
 conv=>lhs;rw[q88]
 refine qr2 _ _ _ (Nat.le_refl _) λi e hi hn=>?_
 rw[←q88] at hn
 obtain⟨ha,q,hq⟩:=q2i hn
 have hu:∃q',(s++t).drop i=name e++q':=by
  refine⟨q++(s++t).drop ((s++t).length - q6a (s++t)), ?_⟩
  rw[←List.append_assoc,←hq]
  have:s++t=body (s++t)++(s++t).drop ((s++t).length - q6a (s++t)):=(List.take_append_drop _ _).symm
  conv=>lhs;rw[this]
  rw[List.drop_append_of_le_length]
  have h1:=congrArg List.length (q88 s t)
  simp only[zA] at h1
  omega
 obtain⟨q',hq'⟩:=hu
 have hnl:=q5s ha
 have hbl:=q2r s
 have h5:=qsv s
 rcases Nat.lt_or_ge (body s).length (i+(name e).length) with hlt|hge
 ·exfalso
  by_cases hh:q6a s=0
  ·have hk:0<s.length - i:=by omega
   have hkl:s.length - i<(name e).length:=by omega
   have hb:=qp6 ha hk hkl
   have e1:(name e).take (s.length - i)=s.drop (s.length - (s.length - i)):=by
    have h2:=congrArg (List.take (s.length - i)) hq'
    rw[List.take_append_of_le_length (by omega),List.drop_append_of_le_length (by omega),List.take_append_of_le_length (by simp),List.take_of_length_le (by simp)] at h2
    rw[←h2];congr 1;omega
   rw[e1] at hb
   have:=qfj (by split at hnl<;>omega) (by omega) hk hb
   omega
  ·have hb:=qff (t:=s) (by omega)
   obtain⟨_,r,hr⟩:=qix hb
   have e1:(s++t)[(body s).length]?=some 64:=by
    rw[List.getElem?_append_left (by omega),hbl]
    have:=congrArg (λl=>l[0]?) hr
    simpa using this
   have e2:(s++t)[(body s).length]?=(name e)[(body s).length - i]?:=by
    have:=congrArg (λl=>l[(body s).length - i]?) hq'
    simp only[List.getElem?_drop] at this
    rw[show i+((body s).length - i)=(body s).length by omega] at this
    rw[this,List.getElem?_append_left (by omega)]
   rw[e2] at e1
   exact qrr (by omega) e1
 ·exact hge
end Go.Proofs.YtpnekhiejecipaaGreatDoor.M
