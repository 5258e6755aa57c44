/- Part 1 of the proof: the walk over values, the plain model, contracts of the functions of the program. -/
import Derived.Orders
import Derived.Laws.World
import Derived.Laws.Sem
import Derived.Laws.Cells
import Derived.Below
import Derived.Laws.Entries
import Derived.Laws.Strings
import Derived.Laws.Tables
import Derived.Laws.Append
import Derived.Laws.AppendOwn
import Derived.Laws.MakeOwn
import Derived.Laws.StructEq
import Derived.Laws.IdiomStrings
import Derived.Laws.BytesString
import Derived.Deep.MidRow
import Derived.Deep.AppendSrc
set_option linter.all false
namespace Go.Proofs.YtpnekhiejecipaaGreatDoor
theorem zA.{u} {α:Type u} {s t:List α}:(s++t).length=s.length+t.length:=List.length_append
theorem zC.{u} {α:Type u} {a:α} {s:List α}:(a::s).length=s.length+1:=rfl
theorem zN.{u} {α:Type u}:([]:List α).length=0:=rfl
theorem zP (n m:Nat):((n+m:Nat):Int)=n+m:=Int.natCast_add n m
theorem zU:((1:Nat):Int)=1:=Int.natCast_one
theorem zZ (n:Nat):0+n=n:=Nat.zero_add n
theorem zS.{u} {α:Type u} (a b:α):(some a=some b)=(a=b):=Option.some.injEq a b
theorem zE.{u} {α:Type u} {l:List α} {i:Nat} (h:i<l.length):l[i]?=some l[i]:=List.getElem?_eq_getElem h
theorem zI.{u} {α:Type u} {i:Nat} {a:α} {l:List α}:l[i]?=some a↔∃h,l[i]=a:=List.getElem?_eq_some_iff
theorem zB.{u,v} {β:Type u} {b:β} {α:Type v} {x:Option α} {f:α→Option β}:x.bind f=some b↔∃a,x=some a∧f a=some b:=Option.bind_eq_some_iff
theorem zM.{u,v} {β:Type u} {b:β} {α:Type v} {x:Option α} {f:α→β}:Option.map f x=some b↔∃a,x=some a∧f a=b:=Option.map_eq_some_iff
end Go.Proofs.YtpnekhiejecipaaGreatDoor
namespace Go.Proofs.YtpnekhiejecipaaGreatDoor.VL
open Go Go.RowKit
inductive V where
 | undef
 | int (k:IntKind) (n:Int)
 | bool (b:Bool)
 | str (s:List UInt8)
 | nils
 | nilp
 | nile
 | erre
 | raw (v:Value)
 | agg (fs:List V)
 | tup (vs:List V)
 | sl (sz:Nat) (rows:List (List V))
 | own (c n:Nat)
 | view (c o n:Nat)
 | pv (c o:Nat)
 | pa (c i o:Nat)
 | iptr (row:List V) (o:Nat)
 | fn (f:Nat) (caps:List V)
 deriving Inhabited
inductive Hs where
 | fresh
 | dead
 | var (ty:Nat) (row:List V)
 | arr (ty sz:Nat) (rows:List (List V))
 deriving Inhabited
structure Loc where
 nil:Bool
 blk:Nat
 off:Nat
 cap:Nat
 deriving Inhabited
def Loc.addr (l:Loc):Option Addr:=if l.nil then none else some ⟨l.blk,l.off,none⟩
def Loc.sl (l:Loc) (n:Nat):Value:=.slice l.addr n l.cap
def mkStr (s:List UInt8):ByteArray:=⟨s.toArray⟩
inductive Imm (w:World) (O:Nat→Prop):V→Value→Prop
 | int (k:IntKind) (n:Int):Imm w O (.int k n) (.int k n)
 | bool (b:Bool):Imm w O (.bool b) (.bool b)
 | str (s:List UInt8):Imm w O (.str s) (.string (mkStr s))
 | nils:Imm w O .nils (.slice none 0 0)
 | nilp:Imm w O .nilp (.pointer none)
 | nile:Imm w O .nile .nilIface
 | erre (t:TypeId) (v:Value):Imm w O .erre (.iface t v)
 | raw (v:Value) (h:v.oneCell'=true):Imm w O (.raw v) v
 | esl (sz:Nat) (A:Option Addr) (cap:Nat):Imm w O (.sl sz []) (.slice A 0 cap)
 | sl (sz:Nat) (rows:List (List V)) (blk off cap:Nat) (cs:Nat→Nat→Value) (hO:¬O blk) (hb:blk<w.heap.size) (hn:0<rows.length)
    (hl:∀r,r∈rows→r.length=sz) (hcap:rows.length≤cap)
    (hc:∀(i:Nat) r (j:Nat) v,rows[i]?=some r→r[j]?=some v→w.cell? ⟨blk,off+(i*sz+j),none⟩=some (cs i j))
    (hi:∀(i:Nat) r (j:Nat) v,rows[i]?=some r→r[j]?=some v→Imm w O v (cs i j)) :
    Imm w O (.sl sz rows) (.slice (some ⟨blk,off,none⟩) rows.length cap)
 | iptr (row:List V) (o blk off:Nat) (cs:Nat→Value) (hO:¬O blk) (hb:blk<w.heap.size)
    (hc:∀(j:Nat) v,row[j]?=some v→w.cell? ⟨blk,off+j,none⟩=some (cs j))
    (hi:∀(j:Nat) v,row[j]?=some v→Imm w O v (cs j)) :
    Imm w O (.iptr row o) (.pointer (some ⟨blk,off+o,none⟩))
 | fn (f:Nat) (caps:List V) (vs:List Value) (hl:vs.length=caps.length)
    (hi:∀(j:Nat) v u,caps[j]?=some v→vs[j]?=some u→Imm w O v u):Imm w O (.fn f caps) (.func (.func f) #[] vs.toArray)
theorem q4s {w w':World} {a:Addr} (h:w'.heap[a.block]?=w.heap[a.block]?):w'.cell? a=w.cell? a:=by
 unfold World.cell?;rw[h]
theorem Imm.mono {w w':World} {O O':Nat→Prop} {v:V} {u:Value} (h:Imm w O v u) (hs:w.heap.size≤w'.heap.size)
 (hk:∀b,b<w.heap.size→¬O b→w'.heap[b]?=w.heap[b]?) (hO:∀b,b<w.heap.size→O' b→O b):Imm w' O' v u:=by
 induction h with
 | int k n=>exact .int k n
 | bool b=>exact .bool b
 | str s=>exact .str s
 | nils=>exact .nils
 | nilp=>exact .nilp
 | nile=>exact .nile
 | erre t v=>exact .erre t v
 | raw v h=>exact .raw v h
 | esl sz A cap=>exact .esl sz A cap
 | sl sz rows blk off cap cs h1 h2 h3 h4 h5 hc _ ih =>
   exact .sl sz rows blk off cap cs (λh=>h1 (hO _ h2 h)) (Nat.lt_of_lt_of_le h2 hs) h3 h4 h5
    (λi r j v hr hv=>(q4s (hk blk h2 h1)).trans (hc i r j v hr hv)) ih
 | iptr row o blk off cs h1 h2 hc _ ih =>
   exact .iptr row o blk off cs (λh=>h1 (hO _ h2 h)) (Nat.lt_of_lt_of_le h2 hs)
    (λj v hv=>(q4s (hk blk h2 h1)).trans (hc j v hv)) ih
 | fn f caps vs hl _ ih=>exact .fn f caps vs hl ih
theorem Imm.one {w:World} {O:Nat→Prop} {v:V} {u:Value} (h:Imm w O v u):u.oneCell'=true:=by
 cases h<;>first|rfl|assumption
section den
variable (w:World) (O:Nat→Prop) (ρ:Nat→Loc) (h:Nat→Hs)
def Den0:V→Value→Prop
 | .undef,_=>True
 | .own c n,u=>match h c with
   | .fresh=>False
   | .arr _ _ _=>u=(ρ c).sl n
   | _=>∃A cap,u=.slice A n cap
 | .view c o n,u=>match h c with
   | .fresh=>False
   | .arr _ sz rows=>∃A cap,u=.slice A n cap∧n≤cap∧(0<n→o+n≤rows.length∧(ρ c).nil=false∧A=some ⟨(ρ c).blk,(ρ c).off+o*sz,none⟩) ∧
      ((ρ c).nil=false→cap=(ρ c).cap - o∧o≤(ρ c).cap∧A=some ⟨(ρ c).blk,if(ρ c).cap=o then(ρ c).off else(ρ c).off+o*sz,none⟩)
   | .var _ _=>n≤o∧u=.slice (some ⟨(ρ c).blk,(ρ c).off,none⟩) n o
   | _=>∃A cap,u=.slice A n cap
 | .pv c o,u=>match h c with
   | .fresh=>False
   | .var _ _=>u=.pointer (some ⟨(ρ c).blk,(ρ c).off+o,none⟩)
   | _=>∃a,u=.pointer (some a)
 | .pa c i o,u=>match h c with
   | .fresh=>False
   | .arr _ sz rows=>i<rows.length∧u=.pointer (some ⟨(ρ c).blk,(ρ c).off+(i*sz+o),none⟩)
   | _=>∃a,u=.pointer (some a)
 | v,u=>Imm w O v u
def Den1:V→Value→Prop
 | .fn f caps,u=>∃vs:List Value,u=.func (.func f) #[] vs.toArray∧vs.length=caps.length∧∀(j:Nat) v x,caps[j]?=some v→vs[j]?=some x→Den0 w O ρ h v x
 | v,u=>Den0 w O ρ h v u
def Den2:V→Value→Prop
 | .agg fs,u=>∃us:List Value,u=.agg us.toArray∧us.length=fs.length∧∀(j:Nat) v x,fs[j]?=some v→us[j]?=some x→Den1 w O ρ h v x
 | v,u=>Den1 w O ρ h v u
def Den:V→Value→Prop
 | .tup vs,u=>∃us:List Value,u=.tuple us.toArray∧us.length=vs.length∧∀(j:Nat) v x,vs[j]?=some v→us[j]?=some x→Den2 w O ρ h v x
 | v,u=>Den2 w O ρ h v u
def OwnC (l:Loc):Hs→Prop
 | .var ty row=>l.nil=false∧∃cs:Array Value,w.heap[l.blk]?=some (.cells cs ty (0,0))∧(l.off=0∧row.length=cs.size) ∧
    ∀(j:Nat) v,row[j]?=some v→∃u,cs[l.off+j]?=some u∧u.oneCell'=true∧Den1 w O ρ h v u
 | .arr ty sz rows=>(l.nil=true∧rows=[]∧l.cap=0) ∨
    (l.nil=false∧∃cs:Array Value,w.heap[l.blk]?=some (.cells cs ty (0,0))∧(l.off+l.cap*sz≤cs.size∧(sz=1→l.off=0∧cs.size=l.cap))∧rows.length≤l.cap∧(∀r,r∈rows→r.length=sz) ∧
      ∀(i:Nat) r (j:Nat) v,rows[i]?=some r→r[j]?=some v→∃u,cs[l.off+(i*sz+j)]?=some u∧Imm w O v u)
 | _=>True
end den
def HStep (l:Loc) (a:Hs) (l':Loc) (b:Hs):Prop :=
 a=.fresh∨(a≠.fresh∧b=.dead)∨(l'=l∧(b=a∨(∃ty r ty' r',a=.var ty r∧b=.var ty' r')∨(∃ty sz r r',a=.arr ty sz r∧b=.arr ty sz r'∧r.length≤r'.length)))
theorem HStep.refl (l:Loc) (a:Hs):HStep l a l a:=.inr (.inr ⟨rfl,.inl rfl⟩)
def V.one:V→Bool
 | .agg _|.tup _|.undef=>false
 | _=>true
def V.isFn:V→Bool
 | .fn ..=>true
 | _=>false
def V.isAgg:V→Bool
 | .agg _=>true
 | _=>false
def V.isTup:V→Bool
 | .tup _=>true
 | _=>false
section lo
variable {w:World} {O:Nat→Prop} {ρ:Nat→Loc} {h:Nat→Hs} {v:V} {u:Value}
theorem Den1.lo (hv:v.isFn=false):Den1 w O ρ h v u↔Den0 w O ρ h v u:=by cases v<;>first|exact Iff.rfl|(simp[V.isFn] at hv)
theorem Den2.lo (hv:v.isAgg=false):Den2 w O ρ h v u↔Den1 w O ρ h v u:=by cases v<;>first|exact Iff.rfl|(simp[V.isAgg] at hv)
theorem Den.lo (hv:v.isTup=false):Den w O ρ h v u↔Den2 w O ρ h v u:=by cases v<;>first|exact Iff.rfl|(simp[V.isTup] at hv)
end lo
def V.shape:V→Value→Prop
 | .own _ n,u=>∃A cap,u=.slice A n cap
 | .view _ _ n,u=>∃A cap,u=.slice A n cap
 | .pv _ _,u=>∃a,u=.pointer (some a)
 | .pa _ _ _,u=>∃a,u=.pointer (some a)
 | _,_=>True
theorem Den0.shape {w:World} {O:Nat→Prop} {ρ:Nat→Loc} {h:Nat→Hs} {v:V} {u:Value} (hd:Den0 w O ρ h v u):v.shape u:=by
 cases v<;>simp only[V.shape]<;>simp only[Den0] at hd
 case own c n =>
  split at hd
  ·exact hd.elim
  ·exact⟨_,_,hd⟩
  ·exact hd
 case view c o n =>
  split at hd
  ·exact hd.elim
  ·obtain⟨A,cap,h,_⟩:=hd;exact⟨A,cap,h⟩
  ·exact⟨_,_,hd.2⟩
  ·exact hd
 case pv c o =>
  split at hd
  ·exact hd.elim
  ·exact⟨_,hd⟩
  ·exact hd
 case pa c i o =>
  split at hd
  ·exact hd.elim
  ·exact⟨_,hd.2⟩
  ·exact hd
theorem Den0.one {w:World} {O:Nat→Prop} {ρ:Nat→Loc} {h:Nat→Hs} {v:V} {u:Value} (ho:v.one=true) (hd:Den0 w O ρ h v u):u.oneCell'=true:=by
 have hs:=hd.shape
 cases v with
 | undef=>simp[V.one] at ho
 | own c n=>obtain⟨A,cap,rfl⟩:=hs;rfl
 | view c o n=>obtain⟨A,cap,rfl⟩:=hs;rfl
 | pv c o=>obtain⟨a,rfl⟩:=hs;rfl
 | pa c i o=>obtain⟨a,rfl⟩:=hs;rfl
 | _=>exact Imm.one hd
theorem Den1.one {w:World} {O:Nat→Prop} {ρ:Nat→Loc} {h:Nat→Hs} {v:V} {u:Value} (ho:v.one=true) (hd:Den1 w O ρ h v u):u.oneCell'=true:=by
 cases v with
 | fn f caps=>obtain⟨vs,rfl,_⟩:=hd;rfl
 | _=>exact Den0.one ho ((Den1.lo rfl).1 hd)
section mono
variable {w w':World} {O O':Nat→Prop} {ρ ρ':Nat→Loc} {h h':Nat→Hs}
theorem Den0.mono {v:V} {u:Value} (himm:∀v u,Imm w O v u→Imm w' O' v u) (hst:∀c,HStep (ρ c) (h c) (ρ' c) (h' c)) (hd:Den0 w O ρ h v u):Den0 w' O' ρ' h' v u:=by
 cases v with
 | undef=>trivial
 | own c n =>
   have h1:=hd.shape
   have hc:=hst c
   simp only[Den0] at hd ⊢
   rcases hc with hc|⟨hc,hc'⟩|⟨hl,hc|⟨ty,r,ty',r',hc,hc'⟩|⟨ty,sz,r,r',hc,hc',hr⟩⟩
   ·rw[hc] at hd;exact hd.elim
   ·rw[hc'];exact h1
   ·rw[hc,hl];exact hd
   ·rw[hc'];exact h1
   ·rw[hc'] ;rw[hc] at hd;rw[hl];exact hd
 | view c o n =>
   have h1:=hd.shape
   have hc:=hst c
   simp only[Den0] at hd ⊢
   rcases hc with hc|⟨hc,hc'⟩|⟨hl,hc|⟨ty,r,ty',r',hc,hc'⟩|⟨ty,sz,r,r',hc,hc',hr⟩⟩
   ·rw[hc] at hd;exact hd.elim
   ·rw[hc'];exact h1
   ·rw[hc,hl];exact hd
   ·rw[hc'];rw[hc] at hd;rw[hl];exact hd
   ·rw[hc'] ;rw[hc] at hd;rw[hl]
    obtain⟨A,cap,h1,h2,h3,h4⟩:=hd
    exact⟨A,cap,h1,h2,λhn=>⟨Nat.le_trans (h3 hn).1 hr,(h3 hn).2⟩,h4⟩
 | pv c o =>
   have h1:=hd.shape
   have hc:=hst c
   simp only[Den0] at hd ⊢
   rcases hc with hc|⟨hc,hc'⟩|⟨hl,hc|⟨ty,r,ty',r',hc,hc'⟩|⟨ty,sz,r,r',hc,hc',hr⟩⟩
   ·rw[hc] at hd;exact hd.elim
   ·rw[hc'];exact h1
   ·rw[hc,hl];exact hd
   ·rw[hc'];rw[hc] at hd;rw[hl];exact hd
   ·rw[hc'];exact h1
 | pa c i o =>
   have h1:=hd.shape
   have hc:=hst c
   simp only[Den0] at hd ⊢
   rcases hc with hc|⟨hc,hc'⟩|⟨hl,hc|⟨ty,r,ty',r',hc,hc'⟩|⟨ty,sz,r,r',hc,hc',hr⟩⟩
   ·rw[hc] at hd;exact hd.elim
   ·rw[hc'];exact h1
   ·rw[hc,hl];exact hd
   ·rw[hc'];exact h1
   ·rw[hc'];rw[hc] at hd;rw[hl];exact⟨Nat.lt_of_lt_of_le hd.1 hr,hd.2⟩
 | _=>exact himm _ _ hd
theorem Den1.mono {v:V} {u:Value} (himm:∀v u,Imm w O v u→Imm w' O' v u) (hst:∀c,HStep (ρ c) (h c) (ρ' c) (h' c)) (hd:Den1 w O ρ h v u):Den1 w' O' ρ' h' v u:=by
 cases v with
 | fn f caps=>obtain⟨vs,h1,h2,h3⟩:=hd;exact⟨vs,h1,h2,λj v x hv hx=>(h3 j v x hv hx).mono himm hst⟩
 | _=>exact(Den1.lo rfl).2 (((Den1.lo rfl).1 hd).mono himm hst)
theorem Den2.mono {v:V} {u:Value} (himm:∀v u,Imm w O v u→Imm w' O' v u) (hst:∀c,HStep (ρ c) (h c) (ρ' c) (h' c)) (hd:Den2 w O ρ h v u):Den2 w' O' ρ' h' v u:=by
 cases v with
 | agg fs=>obtain⟨vs,h1,h2,h3⟩:=hd;exact⟨vs,h1,h2,λj v x hv hx=>(h3 j v x hv hx).mono himm hst⟩
 | _=>exact(Den2.lo rfl).2 (((Den2.lo rfl).1 hd).mono himm hst)
theorem Den.mono {v:V} {u:Value} (himm:∀v u,Imm w O v u→Imm w' O' v u) (hst:∀c,HStep (ρ c) (h c) (ρ' c) (h' c)) (hd:Den w O ρ h v u):Den w' O' ρ' h' v u:=by
 cases v with
 | tup fs=>obtain⟨vs,h1,h2,h3⟩:=hd;exact⟨vs,h1,h2,λj v x hv hx=>(h3 j v x hv hx).mono himm hst⟩
 | _=>exact(Den.lo rfl).2 (((Den.lo rfl).1 hd).mono himm hst)
theorem OwnC.mono {l:Loc} {a:Hs} (himm:∀v u,Imm w O v u→Imm w' O' v u) (hst:∀c,HStep (ρ c) (h c) (ρ' c) (h' c))
 (hb:l.nil=false→w'.heap[l.blk]?=w.heap[l.blk]?) (hd:OwnC w O ρ h l a):OwnC w' O' ρ' h' l a:=by
 cases a with
 | var ty row =>
   obtain⟨h1,cs,h2,h3,h4⟩:=hd
   exact⟨h1,cs,(hb h1).trans h2,h3,λj v hv=>let ⟨u,a1,a2,a3⟩:=h4 j v hv;⟨u,a1,a2,a3.mono himm hst⟩⟩
 | arr ty sz rows =>
   rcases hd with hd|⟨h1,cs,h2,h3,h4,h5,h6⟩
   ·exact .inl hd
   ·exact .inr ⟨h1,cs,(hb h1).trans h2,h3,h4,h5,λi r j v hr hv=>let ⟨u,a1,a3⟩:=h6 i r j v hr hv;⟨u,a1,himm _ _ a3⟩⟩
 | _=>trivial
end mono
theorem Imm.den0 {w:World} {O:Nat→Prop} {ρ:Nat→Loc} {h:Nat→Hs} {v:V} {u:Value} (hi:Imm w O v u):Den0 w O ρ h v u:=by
 cases v<;>first|exact hi|(cases hi;done)
theorem Imm.den1 {w:World} {O:Nat→Prop} {ρ:Nat→Loc} {h:Nat→Hs} {v:V} {u:Value} (hi:Imm w O v u):Den1 w O ρ h v u:=by
 cases v with
 | fn f caps =>
   cases hi with
   | fn _ _ vs hl hi=>exact⟨vs,rfl,hl,λj v x hv hx=>(hi j v x hv hx).den0⟩
 | _=>exact(Den1.lo rfl).2 hi.den0
theorem Imm.den2 {w:World} {O:Nat→Prop} {ρ:Nat→Loc} {h:Nat→Hs} {v:V} {u:Value} (hi:Imm w O v u):Den2 w O ρ h v u:=by
 cases v with
 | agg fs=>cases hi
 | _=>exact(Den2.lo rfl).2 hi.den1
theorem Imm.den {w:World} {O:Nat→Prop} {ρ:Nat→Loc} {h:Nat→Hs} {v:V} {u:Value} (hi:Imm w O v u):Den w O ρ h v u:=by
 cases v with
 | tup fs=>cases hi
 | _=>exact(Den.lo rfl).2 hi.den2
def V.closed:V→Bool
 | .undef|.agg _|.tup _|.own ..|.view ..|.pv ..|.pa ..|.fn ..=>false
 | _=>true
theorem q3n {w:World} {O:Nat→Prop} {ρ:Nat→Loc} {h:Nat→Hs} {v:V} {u:Value} (hc:v.closed=true) (hd:Den1 w O ρ h v u):Imm w O v u:=by
 cases v<;>first|exact hd|(simp[V.closed] at hc)
theorem Den1.up {w:World} {O:Nat→Prop} {ρ:Nat→Loc} {h:Nat→Hs} {v:V} {u:Value} (h1:v.one=true∨v=.undef) (hd:Den1 w O ρ h v u):Den w O ρ h v u:=by
 cases v<;>first|exact hd|(simp[V.one] at h1)
structure St where
 t:Nat→V
 h:Nat→Hs
def upT (t:Nat→V) (d:Option Nat) (v:V):Nat→V:=match d with
 | some d=>λx=>if x=d then v else t x
 | none=>t
def upH (h:Nat→Hs):List (Nat×Hs)→Nat→Hs
 | [],x=>h x
 | (c,a)::r,x=>if x=c then a else upH h r x
def q0i:List (Nat×V)→Nat→V
 | [],_=>.undef
 | (k,v)::l,x=>if x=k then v else q0i l x
def q0c:List (Nat×Hs)→Nat→Hs
 | [],_=>.fresh
 | (k,v)::l,x=>if x=k then v else q0c l x
def St.app (st:St) (d:Option Nat) (v:V) (up:List (Nat×Hs)):St:=⟨upT st.t d v,upH st.h up⟩
def Hs.live:Hs→Bool
 | .var ..|.arr ..=>true
 | _=>false
structure Glob where
 g:World→Prop
 ng:Nat
 stays:∀W W':World,g W→W.heap.size≤W'.heap.size→W'.os=W.os→W'.tape=W.tape→W'.output=W.output→(∀b,b<ng→W'.heap[b]?=W.heap[b]?)→g W'
 there:∀W,g W→ng≤W.heap.size
structure Base where
 W:World
 own:Nat→Prop
 ext:Nat→Prop
 pin:Nat
 ρ0:Nat→Loc
def owns (B:Base) (ρ:Nat→Loc) (h:Nat→Hs) (b:Nat):Prop:=B.ext b∨∃c,(h c).live=true∧(ρ c).nil=false∧(ρ c).blk=b
structure RelH (B:Base) (ρ:Nat→Loc) (h:Nat→Hs) (w:World):Prop where
 os:w.os=B.W.os
 tape:w.tape=B.W.tape
 output:w.output=B.W.output
 grow:B.W.heap.size≤w.heap.size
 keep:∀b,b<B.W.heap.size→¬B.own b→w.heap[b]?=B.W.heap[b]?
 chunk:∀c,OwnC w (owns B ρ h) ρ h (ρ c) (h c)
 home:∀c,(h c).live=true→(ρ c).nil=false→B.own (ρ c).blk∨B.W.heap.size≤(ρ c).blk
 sep:∀c c',(h c).live=true→(h c').live=true→(ρ c).nil=false→(ρ c').nil=false→(ρ c).blk=(ρ c').blk→c=c'
 pin:∀i,i<B.pin→h i=.dead∨((h i).live=true∧ρ i=B.ρ0 i)
structure RelR (n:Nat) (B:Base) (ρ:Nat→Loc) (st:St) (a:Act) (w:World):Prop where
 mem:RelH B ρ st.h w
 size:a.tmps.size=n
 nod:a.defers=[]
 tmps:∀d,Den w (owns B ρ st.h) ρ st.h (st.t d) (a.tmps.getD d undef)
structure BaseOk (G:Glob) (B:Base):Prop where
 lt:∀b,B.ext b→b<B.W.heap.size
 no:∀b,B.ext b→¬B.own b
 g:G.g B.W
 ng:∀b,B.own b→G.ng≤b
theorem BaseOk.now {G:Glob} {B:Base} (hB:BaseOk G B) {ρ:Nat→Loc} {h:Nat→Hs} {w:World} (r:RelH B ρ h w):G.g w :=
 G.stays _ _ hB.g r.grow r.os r.tape r.output λb hb=>r.keep b (Nat.lt_of_lt_of_le hb (G.there _ hB.g)) λho=>by have:=hB.ng b ho;omega
theorem OwnC.heap {w:World} {O:Nat→Prop} {ρ:Nat→Loc} {h:Nat→Hs} {l:Loc} {a:Hs} (hc:OwnC w O ρ h l a) (hl:a.live=true) (hn:l.nil=false) :
 ∃cs ty,w.heap[l.blk]?=some (.cells cs ty (0,0)):=by
 cases a with
 | var ty row=>obtain⟨_,cs,h2,_⟩:=hc;exact⟨cs,ty,h2⟩
 | arr ty sz rows =>
   rcases hc with⟨h1,_⟩|⟨_,cs,h2,_⟩
   ·rw[hn] at h1;cases h1
   ·exact⟨cs,ty,h2⟩
 | fresh=>cases hl
 | dead=>cases hl
theorem OwnC.not_live {w:World} {O:Nat→Prop} {ρ:Nat→Loc} {h:Nat→Hs} {l:Loc} {a:Hs} (hl:a.live=false):OwnC w O ρ h l a:=by
 cases a<;>first|trivial|cases hl
theorem q2c {α:Type} {xs:Array α} {i:Nat} {x:α} (h:xs[i]?=some x):i<xs.size:=(Array.getElem?_eq_some_iff.1 h).1
section
variable {G:Glob} {B:Base} {ρ ρ':Nat→Loc} {h h':Nat→Hs} {w w':World}
theorem RelH.blk_lt (r:RelH B ρ h w) {c:Nat} (hl:(h c).live=true) (hn:(ρ c).nil=false):(ρ c).blk<w.heap.size:=by
 obtain⟨cs,ty,h⟩:=(r.chunk c).heap hl hn
 exact q2c h
structure Turns (B:Base) (ρ:Nat→Loc) (h:Nat→Hs) (w:World) (ρ':Nat→Loc) (h':Nat→Hs) (w':World):Prop where
 rel:RelH B ρ' h' w'
 imm:∀v u,Imm w (owns B ρ h) v u→Imm w' (owns B ρ' h') v u
 den:∀v u,Den w (owns B ρ h) ρ h v u→Den w' (owns B ρ' h') ρ' h' v u
theorem RelH.turn (r:RelH B ρ h w)
 (hos:w'.os=w.os) (htape:w'.tape=w.tape) (hout:w'.output=w.output) (hsz:w.heap.size≤w'.heap.size)
 (hblk:∀b,b<w.heap.size→w'.heap[b]?=w.heap[b]?∨∃c,(h c).live=true∧(ρ c).nil=false∧(ρ c).blk=b)
 (hst:∀c,HStep (ρ c) (h c) (ρ' c) (h' c)) (hext:∀b,B.ext b→b<w.heap.size)
 (hlive:∀c,(h' c).live=true→(ρ' c).nil=false→(∃c0,(h c0).live=true∧(ρ c0).nil=false∧(ρ c0).blk=(ρ' c).blk)∨w.heap.size≤(ρ' c).blk)
 (hsep:∀c c',(h' c).live=true→(h' c').live=true→(ρ' c).nil=false→(ρ' c').nil=false→(ρ' c).blk=(ρ' c').blk→c=c')
 (hch:(∀v u,Imm w (owns B ρ h) v u→Imm w' (owns B ρ' h') v u)→∀c,OwnC w' (owns B ρ' h') ρ' h' (ρ' c) (h' c)) :
 Turns B ρ h w ρ' h' w':=by
 have himm:∀v u,Imm w (owns B ρ h) v u→Imm w' (owns B ρ' h') v u:=λv u hi=>by
  refine hi.mono hsz (λb hb hno=>?_) (λb hb ho=>?_)
  ·rcases hblk b hb with h|h
   ·exact h
   ·exact absurd (.inr h) hno
  ·rcases ho with ho|⟨c,h1,h2,h3⟩
   ·exact .inl ho
   ·rcases hlive c h1 h2 with⟨c0,k1,k2,k3⟩|k
    ·exact .inr ⟨c0,k1,k2,k3.trans h3⟩
    ·omega
 refine⟨⟨hos.trans r.os,htape.trans r.tape,hout.trans r.output,Nat.le_trans r.grow hsz,λb hb hno=>?_,hch himm,λc h1 h2=>?_,hsep,λi hi=>?_⟩,himm,λv u hd=>hd.mono himm hst⟩
 ·rcases hblk b (Nat.lt_of_lt_of_le hb r.grow) with h|⟨c,h1,h2,h3⟩
  ·exact h.trans (r.keep b hb hno)
  ·rcases r.home c h1 h2 with k|k
   ·rw[h3] at k;exact absurd k hno
   ·omega
 ·rcases hlive c h1 h2 with⟨c0,k1,k2,k3⟩|k
  ·rw[←k3];exact r.home c0 k1 k2
  ·exact .inr (Nat.le_trans r.grow k)
 ·have hs:=hst i
  rcases r.pin i hi with hp|⟨hp,hq⟩
  ·rcases hs with hs|⟨_,hs⟩|⟨_,hs|⟨ty,rr,ty',r',hc,_⟩|⟨ty,sz,rr,r',hc,_,_⟩⟩
   ·rw[hp] at hs;cases hs
   ·exact .inl hs
   ·exact .inl (hs.trans hp)
   ·rw[hp] at hc;cases hc
   ·rw[hp] at hc;cases hc
  ·rcases hs with hs|⟨_,hs⟩|⟨hl,hs|⟨ty,rr,ty',r',_,hc⟩|⟨ty,sz,rr,r',_,hc,_⟩⟩
   ·rw[hs] at hp;cases hp
   ·exact .inl hs
   ·exact .inr ⟨by rw[hs];exact hp,hl.trans hq⟩
   ·exact .inr ⟨by rw[hc];rfl,hl.trans hq⟩
   ·exact .inr ⟨by rw[hc];rfl,hl.trans hq⟩
theorem RelH.ext_lt (hB:BaseOk G B) (r:RelH B ρ h w) (b:Nat) (hb:B.ext b):b<w.heap.size:=Nat.lt_of_lt_of_le (hB.lt b hb) r.grow
theorem RelH.garbage (hB:BaseOk G B) (r:RelH B ρ h w) (hos:w'.os=w.os) (htape:w'.tape=w.tape) (hout:w'.output=w.output)
 (hsz:w.heap.size≤w'.heap.size) (hk:∀b,b<w.heap.size→w'.heap[b]?=w.heap[b]?):Turns B ρ h w ρ h w' :=
 r.turn hos htape hout hsz (λb hb=>.inl (hk b hb)) (λc=>HStep.refl _ _) (r.ext_lt hB) (λc h1 h2=>.inl ⟨c,h1,h2,rfl⟩) r.sep
  (λhimm c=>by
    cases hl:(h c).live
    ·exact OwnC.not_live hl
    ·exact(r.chunk c).mono himm (λ_=>HStep.refl _ _) (λhn=>hk _ (r.blk_lt hl hn)))
theorem RelH.same (hB:BaseOk G B) (r:RelH B ρ h w) (hos:w'.os=w.os) (htape:w'.tape=w.tape) (hout:w'.output=w.output) (hheap:w'.heap=w.heap):Turns B ρ h w ρ h w' :=
 r.garbage hB hos htape hout (by rw[hheap];exact Nat.le_refl _) (λb _=>by rw[hheap])
def upρ (ρ:Nat→Loc) (c:Nat) (l:Loc):Nat→Loc:=λx=>if x=c then l else ρ x
theorem RelH.alloc (hB:BaseOk G B) (r:RelH B ρ h w) {c:Nat} {s:Hs} {l:Loc} (hos:w'.os=w.os) (htape:w'.tape=w.tape) (hout:w'.output=w.output)
 (hsz:w.heap.size≤w'.heap.size) (hk:∀b,b<w.heap.size→w'.heap[b]?=w.heap[b]?) (hf:h c=.fresh) (hl:l.nil=false→w.heap.size≤l.blk)
 (hc:∀O' ρ' h',(∀v u,Den1 w (owns B ρ h) ρ h v u→Den1 w' O' ρ' h' v u)→(∀v u,Imm w (owns B ρ h) v u→Imm w' O' v u)→OwnC w' O' ρ' h' l s) :
 Turns B ρ h w (upρ ρ c l) (upH h [(c,s)]) w':=by
 have hst:∀x,HStep (ρ x) (h x) (upρ ρ c l x) (upH h [(c,s)] x):=λx=>by
  by_cases hx:x=c
  ·subst hx;exact .inl hf
  ·simp only[upH,upρ,if_neg hx];exact HStep.refl _ _
 refine r.turn hos htape hout hsz (λb hb=>.inl (hk b hb)) hst (r.ext_lt hB) ?_ ?_ ?_
 ·intro x hl' hn
  by_cases hx:x=c
  ·subst hx;simp only[upρ,if_true] at hn ⊢;exact .inr (hl hn)
  ·simp only[upH,upρ,if_neg hx] at hl' hn ⊢;exact .inl ⟨x,hl',hn,rfl⟩
 ·intro x y hx hy nx ny he
  by_cases ex:x=c<;>by_cases ey:y=c
  ·rw[ex,ey]
  ·simp only[upH,upρ,if_neg ey] at hy ny he
   subst ex
   simp only[upρ,if_true] at he nx
   have:=r.blk_lt hy ny
   have:=hl nx
   omega
  ·simp only[upH,upρ,if_neg ex] at hx nx he
   subst ey
   simp only[upρ,if_true] at he ny
   have:=r.blk_lt hx nx
   have:=hl ny
   omega
  ·simp only[upH,upρ,if_neg ex,if_neg ey] at hx hy nx ny he
   exact r.sep x y hx hy nx ny he
 ·intro himm x
  by_cases hx:x=c
  ·subst hx
   simp only[upρ,upH,if_true]
   exact hc _ _ _ (λv u hd=>hd.mono himm hst) himm
  ·simp only[upρ,upH,if_neg hx]
   cases hl:(h x).live
   ·exact OwnC.not_live hl
   ·exact(r.chunk x).mono himm hst (λhn=>hk _ (r.blk_lt hl hn))
theorem RelH.write (hB:BaseOk G B) (r:RelH B ρ h w) {c:Nat} {s:Hs} (hl:(h c).live=true) (hn:(ρ c).nil=false)
 (hos:w'.os=w.os) (htape:w'.tape=w.tape) (hout:w'.output=w.output) (hsz:w'.heap.size=w.heap.size) (hk:∀b,b≠(ρ c).blk→w'.heap[b]?=w.heap[b]?)
 (hstep:HStep (ρ c) (h c) (ρ c) s)
 (hc:∀O' h',(∀v u,Den1 w (owns B ρ h) ρ h v u→Den1 w' O' ρ h' v u)→(∀v u,Imm w (owns B ρ h) v u→Imm w' O' v u)→OwnC w' O' ρ h' (ρ c) s) :
 Turns B ρ h w ρ (upH h [(c,s)]) w':=by
 have hst:∀x,HStep (ρ x) (h x) (ρ x) (upH h [(c,s)] x):=λx=>by
  by_cases hx:x=c
  ·subst hx;simpa[upH] using hstep
  ·simp only[upH,if_neg hx];exact HStep.refl _ _
 have key:∀z,(upH h [(c,s)] z).live=true→(h z).live=true:=λz hz=>by
  by_cases e:z=c
  ·subst e;exact hl
  ·simpa only[upH,if_neg e] using hz
 refine r.turn hos htape hout (by omega) (λb hb=>?_) hst (r.ext_lt hB) (λx h1 h2=>.inl ⟨x,key x h1,h2,rfl⟩) (λx y hx hy=>r.sep x y (key x hx) (key y hy)) ?_
 ·by_cases hb':b=(ρ c).blk
  ·exact .inr ⟨c,hl,hn,hb'.symm⟩
  ·exact .inl (hk b hb')
 ·intro himm x
  by_cases hx:x=c
  ·subst hx
   simp only[upH,if_true]
   exact hc _ _ (λv u hd=>hd.mono himm hst) himm
  ·simp only[upH,if_neg hx]
   cases hl':(h x).live
   ·exact OwnC.not_live hl'
   ·exact(r.chunk x).mono himm hst (λhn'=>hk _ (λhe=>hx (r.sep x c hl' hl hn' hn he)))
theorem RelH.drop (hB:BaseOk G B) (r:RelH B ρ h w) {c:Nat} (hl:h c≠.fresh):Turns B ρ h w ρ (upH h [(c,.dead)]) w:=by
 have hst:∀x,HStep (ρ x) (h x) (ρ x) (upH h [(c,.dead)] x):=λx=>by
  by_cases hx:x=c
  ·subst hx;exact .inr (.inl ⟨hl,by simp[upH]⟩)
  ·simp only[upH,if_neg hx];exact HStep.refl _ _
 have key:∀z,(upH h [(c,.dead)] z).live=true→(h z).live=true:=λz hz=>by
  by_cases e:z=c
  ·subst e;simp[upH,Hs.live] at hz
  ·simpa only[upH,if_neg e] using hz
 refine r.turn rfl rfl rfl (Nat.le_refl _) (λb hb=>.inl rfl) hst (r.ext_lt hB) (λx h1 h2=>.inl ⟨x,key x h1,h2,rfl⟩) (λx y hx hy=>r.sep x y (key x hx) (key y hy)) ?_
 intro himm x
 by_cases hx:x=c
 ·subst hx;simp only[upH,if_true];trivial
 ·simp only[upH,if_neg hx]
  exact(r.chunk x).mono himm hst (λ_=>rfl)
theorem Turns.refl (r:RelH B ρ h w):Turns B ρ h w ρ h w:=⟨r,λ_ _ h=>h,λ_ _ h=>h⟩
theorem Turns.trans {ρ'':Nat→Loc} {h'':Nat→Hs} {w'':World} (x:Turns B ρ h w ρ' h' w') (y:Turns B ρ' h' w' ρ'' h'' w''):Turns B ρ h w ρ'' h'' w'' :=
 ⟨y.rel,λv u hd=>y.imm v u (x.imm v u hd),λv u hd=>y.den v u (x.den v u hd)⟩
end
theorem qiq (h:Nat→Hs):upH h []=h:=rfl
theorem RelR.step {n:Nat} {B:Base} {ρ ρ':Nat→Loc} {st:St} {h':Nat→Hs} {a:Act} {w w':World} (r:RelR n B ρ st a w) (t:Turns B ρ st.h w ρ' h' w') {d:Option Nat} {v:V} {u:Value}
 (hd:∀x,d=some x→x<n) (hv:Den w' (owns B ρ' h') ρ' h' v u):RelR n B ρ' ⟨upT st.t d v,h'⟩ (a.put d u) w':=by
 cases d with
 | none=>exact⟨t.rel,r.size,r.nod,λx=>t.den _ _ (r.tmps x)⟩
 | some d =>
   refine⟨t.rel,by simpa[Act.put] using r.size,r.nod,λx=>?_⟩
   have hlt:d<a.tmps.size:=by rw[r.size];exact hd d rfl
   simp only[upT,Act.put]
   by_cases hx:x=d
   ·subst hx
    rw[if_pos rfl]
    simpa[Array.getD,hlt] using hv
   ·rw[if_neg hx]
    have:=t.den _ _ (r.tmps x)
    simpa[Array.getElem?_setIfInBounds_ne (Ne.symm hx)] using this
inductive Opd where
 | t (n:Nat)
 | c (v:V)
 deriving Inhabited
inductive Kd where
 | i|b|s
 deriving Inhabited,DecidableEq
inductive IOp where
 | mv (x:Opd)
 | pick (c a b:Opd)
 | alloc (ty:Nat) (zero:List V)
 | box (ty:Nat) (x:Opd)
 | build (zero:List V) (parts:List (Nat×Nat×Opd))
 | bsl (ty sz:Nat) (xs:List Opd)
 | ld (sz:Nat) (agg:Bool) (a:Opd)
 | sto (sz:Nat) (a x:Opd)
 | nilc (x:Opd)
 | bin (op:BinOp) (x y:Opd)
 | beq (neg:Bool) (x y:Opd)
 | eqs (neg:Bool) (ks:List Kd) (x y:Opd)
 | isn (neg:Bool) (x:Opd)
 | un (op:UnOp) (x:Opd)
 | cvi (k:IntKind) (x:Opd)
 | cvs (x:Opd)
 | s2b (x:Opd)
 | b2s (x:Opd)
 | mkf (f:Nat) (caps:List Opd)
 | mks (ty sz:Nat) (cap:Opd)
 | sls (x:Opd) (lo hi:Option Opd)
 | slv (sz:Nat) (x:Opd) (lo hi:Option Opd)
 | fad (off:Nat) (x:Opd)
 | iad (sz:Nat) (x i:Opd)
 | idx (x i:Opd)
 | ext (x:Opd) (k:Nat)
 | len (x:Opd)
 | lens (x:Opd)
 | app (ty sz:Nat) (x y:Opd)
 | aps (ty:Nat) (x y:Opd)
 | mkn (ty sz:Nat) (cap:Opd)
 | bsn (ty sz:Nat) (xs:List Opd)
 | apn (sz:Nat) (x y:Opd)
 | mkl (ty sz:Nat) (zero:List V) (len:Opd)
 | mn (x y:Opd)
 | mx (x y:Opd)
 | call (f:Nat) (xs:List Opd)
 | cal (x:Opd) (xs:List Opd)
 deriving Inhabited
structure IOper where
 d:Option Nat
 g:Option (Nat×Bool)
 op:IOp
 deriving Inhabited
def ev (t:Nat→V):Opd→V
 | .t n=>t n
 | .c v=>v
def nm (d:Nat):Nat:=1000+d
def q05:V→List V
 | .agg fs=>fs
 | v=>[v]
def guardP {α:Type} (p:Prop) [Decidable p] (x:Option α):Option α:=if p then x else none
theorem q4l {α:Type} {p:Prop} [Decidable p] (x:Option α) (h:p):guardP p x=x:=if_pos h
theorem q04 {α:Type} {p:Prop} [Decidable p] {x:Option α} {y:α} (h:guardP p x=some y):p∧x=some y:=by
 unfold guardP at h
 split at h
 ·exact⟨‹_›,h⟩
 ·cases h
def qa9 (row:List V) (o:Nat) (cs:List V):List V:=row.take o++cs++row.drop (o+cs.length)
def qdm (row:List V) (o sz:Nat):Option (List V):=if o+sz≤row.length then some ((row.drop o).take sz) else none
def q72 (op:BinOp):V→V→Option V
 | .int k a,.int k' b=>if k=k' then
    match op with
    | .add=>some (.int k (k.wrap (a+b)))
    | .sub=>some (.int k (k.wrap (a - b)))
    | .mul=>some (.int k (k.wrap (a*b)))
    | .quo=>guardP (b≠0) (some (.int k (k.wrap (a.tdiv b))))
    | .rem=>guardP (b≠0) (some (.int k (a.tmod b)))
    | .eql=>some (.bool (decide (a=b)))
    | .neq=>some (.bool (!decide (a=b)))
    | .lss=>some (.bool (decide (a<b)))
    | .leq=>some (.bool (decide (a≤b)))
    | .gtr=>some (.bool (decide (b<a)))
    | .geq=>some (.bool (decide (b≤a)))
    | .xor=>some (.int k (bits .xor k a b))
    | _=>none
   else none
 | .str a,.str b =>
    match op with
    | .add=>guardP (((a.length+b.length:Nat):Int)≤9223372036854775807) (some (.str (a++b)))
    | .eql=>some (.bool (decide (a=b)))
    | .neq=>some (.bool (!decide (a=b)))
    | _=>none
 | _,_=>none
def eqR:List Kd→List V→List V→Option Bool
 | [],[],[]=>some true
 | .i::ks,.int k a::r,.int k' b::s=>if k=k' then(eqR ks r s).map (decide (a=b)&&·) else none
 | .b::ks,.bool a::r,.bool b::s=>(eqR ks r s).map ((a==b)&&·)
 | .s::ks,.str a::r,.str b::s=>(eqR ks r s).map (decide (a=b)&&·)
 | _,_,_=>none
def q4m:List (List V)→Option (List UInt8)
 | []=>some []
 | [.int .u8 n]::r=>(q4m r).map (UInt8.ofNat n.toNat::·)
 | _=>none
def loV:Option V→Option Int
 | none=>some 0
 | some (.int _ n)=>some n
 | _=>none
def hiV (len:Nat):Option V→Option Int
 | none=>some len
 | some (.int _ n)=>some n
 | _=>none
def q82 (row:List V):List (Nat×Nat×V)→Option (List V)
 | []=>some row
 | (off,sz,v)::r=>if(q05 v).length=sz∧off+sz≤row.length then q82 (qa9 row off (q05 v)) r else none
def q4a (h:Nat→Hs) (sz:Nat):V→Option (List (List V)×List Nat)
 | .nils=>some ([],[])
 | .sl s rows=>if s=sz then some (rows,[]) else none
 | .own c n=>match h c with
   | .arr _ s rows=>if s=sz then guardP (n≤rows.length) (some (rows.take n,[c])) else none
   | _=>none
 | .view c o n=>match h c with
   | .arr _ s rows=>if s=sz then guardP (o+n≤rows.length) (some ((rows.drop o).take n,[c])) else none
   | _=>none
 | _=>none
def qma:V→Option V
 | .str s=>some (.int .i64 s.length)
 | _=>none
def qtp:V→Option V
 | .nils=>some (.int .i64 0)
 | .sl _ rows=>some (.int .i64 rows.length)
 | .own _ n=>some (.int .i64 n)
 | .view _ _ n=>some (.int .i64 n)
 | _=>none
def q0k (op:IOp) (t:Nat→V):Option V :=
 match op with
 | .mv x=>some (ev t x)
 | .pick c a b=>match ev t c with
   | .bool b'=>some (bif b' then ev t a else ev t b)
   | _=>none
 | .build zero parts=>if parts.all (λp=>(q05 (ev t p.2.2)).all V.one)=true then(q82 zero (parts.map λp=>(p.1,p.2.1,ev t p.2.2))).map .agg else none
 | .nilc x=>match ev t x with
   | .pv c o=>some (.pv c o)
   | .pa c i o=>some (.pa c i o)
   | .iptr r o=>some (.iptr r o)
   | .fn f caps=>some (.fn f caps)
   | _=>none
 | .bin op x y=>q72 op (ev t x) (ev t y)
 | .beq neg x y=>match ev t x,ev t y with
   | .bool a,.bool b=>some (.bool (neg ^^ (a==b)))
   | _,_=>none
 | .eqs neg ks x y=>match ev t x,ev t y with
   | .agg a,.agg b=>(eqR ks a b).map λr=>.bool (neg ^^ r)
   | _,_=>none
 | .isn neg x=>match ev t x with
   | .nile=>some (.bool (!neg))
   | .erre=>some (.bool neg)
   | _=>none
 | .un .not x=>match ev t x with
   | .bool b=>some (.bool (!b))
   | _=>none
 | .un .neg x=>match ev t x with
   | .int k n=>some (.int k (k.wrap (0 - n)))
   | _=>none
 | .cvi k x=>match ev t x with
   | .int _ n=>some (.int k (k.wrap n))
   | _=>none
 | .cvs x=>match ev t x with
   | .str s=>some (.str s)
   | _=>none
 | .mkf f caps=>if caps.all (λx=>(ev t x).one&&!(ev t x).isFn)=true then some (.fn f (caps.map (ev t))) else none
 | .sls x lo hi=>match ev t x with
   | .str s=>match loV (lo.map (ev t)),hiV s.length (hi.map (ev t)) with
     | some l,some u=>guardP (0≤l∧l≤u∧u≤s.length) (some (.str ((s.take u.toNat).drop l.toNat)))
     | _,_=>none
   | _=>none
 | .fad off x=>match ev t x with
   | .pv c o=>some (.pv c (o+off))
   | .pa c i o=>some (.pa c i (o+off))
   | .iptr r o=>some (.iptr r (o+off))
   | _=>none
 | .idx x i=>match ev t x,ev t i with
   | .str s,.int _ n=>guardP (0≤n∧n<s.length) (some (.int .u8 ((s.getD n.toNat 0).toNat:Int)))
   | _,_=>none
 | .ext x k=>match ev t x with
   | .tup vs=>vs[k]?
   | _=>none
 | .len x=>qtp (ev t x)
 | .lens x=>qma (ev t x)
 | .mn x y=>match ev t x,ev t y with
   | .int k a,.int k' b=>if k=k' then some (.int k (min a b)) else none
   | _,_=>none
 | .mx x y=>match ev t x,ev t y with
   | .int k a,.int k' b=>if k=k' then some (.int k (max a b)) else none
   | _,_=>none
 | _=>none
def q24 {α:Type} (a:Hs) (x:Option α):Option α:=match a with
 | .fresh=>x
 | _=>none
def q3t (h:Nat→Hs) (sz:Nat) (agg:Bool) (p:V):Option (V×List Nat) :=
 match p with
 | .pv c o=>match h c with
   | .var _ row=>bif agg then(qdm row o sz).map λr=>(.agg r,[c]) else(row[o]?).map λv=>(v,[c])
   | _=>none
 | .pa c i o=>match h c with
   | .arr _ _ rows=>bif agg then(qdm (rows.getD i []) o sz).map λr=>(.agg r,[c]) else((rows.getD i [])[o]?).map λv=>(v,[c])
   | _=>none
 | .iptr row o=>bif agg then(qdm row o sz).map λr=>(.agg r,[]) else(row[o]?).map λv=>(v,[])
 | _=>none
def q4c (h:Nat→Hs) (sz:Nat) (p x:V):Option (List (Nat×Hs)×List Nat) :=
 if(q05 x).length=sz then
  match p with
  | .pv c o=>match h c with
    | .var ty row=>if(q05 x).all V.one=true∧o+sz≤row.length then some ([(c,.var ty (qa9 row o (q05 x)))],[c]) else none
    | _=>none
  | .pa c i o=>match h c with
    | .arr ty s rows=>if(q05 x).all V.closed=true∧o+sz≤s then some ([(c,.arr ty s (rows.set i (qa9 (rows.getD i []) o (q05 x))))],[c]) else none
    | _=>none
  | _=>none
 else none
def qit (h:Nat→Hs) (ty sz:Nat) (d:Nat) (x y:V):Option (V×List (Nat×Hs)×List Nat) :=
 match q4a h sz y with
 | none=>none
 | some (ys,tc)=>q24 (h (nm d)) <|
   match x with
   | .nils=>guardP (ys.length≤2000000) (some (.own (nm d) ys.length,[(nm d,.arr ty sz ys)],nm d::tc))
   | .own c n=>match h c with
     | .arr ty' s rows=>if s=sz∧ty'=ty then guardP (rows.length=n∧n+ys.length≤2000000) (some (.own (nm d) (n+ys.length),[(c,.dead),(nm d,.arr ty sz (rows++ys))],c::nm d::tc)) else none
     | _=>none
   | _=>none
def qqr (h:Nat→Hs) (ty:Nat) (d:Nat) (x y:V):Option (V×List (Nat×Hs)×List Nat) :=
 match y with
 | .str s=>qit h ty 1 d x (.sl 1 (s.map λb=>[.int .u8 (b.toNat:Int)]))
 | _=>none
def z0V (h:Nat→Hs):V→V
 | .own c 0=>match h c with
   | .arr _ sz _=>.sl sz []
   | _=>.own c 0
 | v=>v
def z0N:V→List Nat
 | .own c 0=>[c]
 | _=>[]
def qub (h:Nat→Hs) (sz:Nat) (x y:V):Option (V×List (Nat×Hs)×List Nat) :=
 match x,y with
 | .view c o k,.view c' _ m=>match h c,h c' with
   | .var ty row,.var _ row'=>if c≠c'∧0<m then guardP (k+m≤o∧o*sz=row.length∧m*sz=row'.length∧row'.all V.one=true) (some (.view c o (k+m),[(c,.var ty (qa9 row (k*sz) row'))],[c,c'])) else none
   | _,_=>none
 | _,_=>none
def q2s (op:IOp) (d:Option Nat) (t:Nat→V) (h:Nat→Hs):Option (V×List (Nat×Hs)×List Nat) :=
 match op with
 | .alloc ty zero=>match d with
   | some d=>q24 (h (nm d)) (some (.pv (nm d) 0,[(nm d,.var ty zero)],[nm d]))
   | none=>none
 | .box ty x=>match d with
   | some d=>q24 (h (nm d)) (if(q05 (ev t x)).all V.one=true then some (.pv (nm d) 0,[(nm d,.var ty (q05 (ev t x)))],[nm d]) else none)
   | none=>none
 | .bsl ty sz xs=>match d with
   | some d=>q24 (h (nm d)) (if xs.all (λx=>decide ((q05 (ev t x)).length=sz)&&(q05 (ev t x)).all V.closed)=true then
      some (.own (nm d) xs.length,[(nm d,.arr ty sz (xs.map λx=>q05 (ev t x)))],[nm d])
     else if xs.all (λx=>decide ((q05 (ev t x)).length=sz)&&((q05 (ev t x)).map (z0V h)).all V.closed)=true then
      some (.own (nm d) xs.length,[(nm d,.arr ty sz (xs.map λx=>(q05 (ev t x)).map (z0V h)))],nm d::xs.flatMap λx=>(q05 (ev t x)).flatMap z0N) else none)
   | none=>none
 | .mks ty sz cap=>match d,ev t cap with
   | some d,.int _ n=>q24 (h (nm d)) (guardP (0≤n∧n≤2000000) (some (.own (nm d) 0,[(nm d,.arr ty sz [])],[nm d])))
   | _,_=>none
 | .mkn ty sz cap=>match d,ev t cap with
   | some d,.int _ n=>q24 (h (nm d)) (guardP (0≤n∧n≤2000000) (some (.view (nm d) n.toNat 0,[(nm d,.var ty (List.replicate (n.toNat*sz) .undef))],[nm d])))
   | _,_=>none
 | .bsn ty sz xs=>match d with
   | some d=>q24 (h (nm d)) (if xs.all (λx=>decide ((q05 (ev t x)).length=sz)&&(q05 (ev t x)).all V.one)=true then
      some (.view (nm d) xs.length xs.length,[(nm d,.var ty (xs.flatMap λx=>q05 (ev t x)))],[nm d]) else none)
   | none=>none
 | .apn sz x y=>qub h sz (ev t x) (ev t y)
 | .mkl ty sz zero len=>match d,ev t len with
   | some d,.int _ n=>q24 (h (nm d)) (guardP (0≤n∧n≤2000000) (some (.own (nm d) n.toNat,[(nm d,.arr ty sz (List.replicate n.toNat zero))],[nm d])))
   | _,_=>none
 | .ld sz agg a=>(q3t h sz agg (ev t a)).map λr=>(r.1,[],r.2)
 | .sto sz a x=>(q4c h sz (ev t a) (ev t x)).map λr=>(.tup [],r.1,r.2)
 | .app ty sz x y=>match d with
   | some d=>qit h ty sz d (ev t x) (ev t y)
   | none=>none
 | .aps ty x y=>match d with
   | some d=>qqr h ty d (ev t x) (ev t y)
   | none=>none
 | .iad sz x i=>match ev t x,ev t i with
   | .sl s rows,.int _ n=>if s=sz then guardP (0≤n∧n<rows.length) (some (.iptr (rows.getD n.toNat []) 0,[],[])) else none
   | .own c k,.int _ n=>match h c with
     | .arr _ s rows=>if s=sz then guardP (0≤n∧n<k∧k≤rows.length) (some (.pa c n.toNat 0,[],[c])) else none
     | _=>none
   | .view c o k,.int _ n=>match h c with
     | .arr _ s rows=>if s=sz then guardP (0≤n∧n<k∧o+k≤rows.length) (some (.pa c (o+n.toNat) 0,[],[c])) else none
     | .var _ row=>guardP (0≤n∧n<k∧k*sz≤row.length) (some (.pv c (n.toNat*sz),[],[c]))
     | _=>none
   | _,_=>none
 | .slv sz x lo hi=>match ev t x with
   | .sl s rows=>match loV (lo.map (ev t)),hiV rows.length (hi.map (ev t)) with
     | some l,some u=>if s=sz then guardP (0≤l∧l≤u∧u≤rows.length) (some (.sl s ((rows.take u.toNat).drop l.toNat),[],[])) else none
     | _,_=>none
   | .own c k=>match h c with
     | .arr _ s rows=>match loV (lo.map (ev t)),hiV k (hi.map (ev t)) with
       | some l,some u=>if s=sz then guardP (0≤l∧l≤u∧u≤k∧k≤rows.length) (some (.view c l.toNat (u.toNat - l.toNat),[],[c])) else none
       | _,_=>none
     | _=>none
   | .nils=>match loV (lo.map (ev t)),hiV 0 (hi.map (ev t)) with
     | some l,some u=>guardP (l=0∧u=0) (some (.sl sz [],[],[]))
     | _,_=>none
   | _=>none
 | .s2b x=>match ev t x with
   | .str s=>guardP (s.length≤2000000) (some (.sl 1 (s.map λb=>[.int .u8 (b.toNat:Int)]),[],[]))
   | _=>none
 | .b2s x=>match q4a h 1 (ev t x) with
   | some (rows,tc)=>(q4m rows).map λs=>(.str s,[],tc)
   | none=>none
 | op=>(q0k op t).map λv=>(v,[],[])
def qd9:Value→Option V
 | .int k n=>some (.int k n)
 | .bool b=>some (.bool b)
 | .string s=>some (.str s.data.toList)
 | .pointer none=>some .nilp
 | .slice none 0 0=>some .nils
 | .nilIface=>some .nile
 | _=>none
def q03:Operand→Option Opd
 | .tmp n=>some (.t n)
 | .const v=>(qd9 v).map .c
 | .func f=>some (.c (.fn f []))
 | .global _=>none
def q8c (P:Program) (t:TypeId):Option Nat:=(P.info? t).map (·.size)
def qf5 (P:Program) (t:TypeId):Option Bool:=(P.underlying t).map fun|.struct _|.array _ _=>true|_=>false
def qdi (P:Program) (t:TypeId):Option (List V):=((P.info? t).bind (·.zero)).bind λz=>z.cells.toList.mapM qd9
def q3q (P:Program) (t:TypeId):Option TypeId:=(P.underlying t).bind fun|.slice e=>some e|_=>none
def qhm (f:Operand→Option Opd):Option Operand→Option (Option Opd)
 | none=>some none
 | some x=>(f x).map some
def q7o (g:TypeId→Option (List Kd)):List Field→List Kd→Option (List Kd)
 | [],acc=>some acc
 | f::fs,acc=>if f.name≠ "_"∧f.offset=acc.length then(g f.type).bind λks=>q7o g fs (acc++ks) else none
def q5i (P:Program):Nat→TypeId→Option (List Kd)
 | 0,_=>none
 | n+1,t=>match P.underlying t with
   | some (.int _)=>if q8c P t=some 1 then some [.i] else none
   | some .bool=>if q8c P t=some 1 then some [.b] else none
   | some .string=>if q8c P t=some 1 then some [.s] else none
   | some (.struct fs)=>if P.stoodInHeld t=false then(q7o (q5i P n) fs.toList []).bind λks=>if q8c P t=some ks.length then some ks else none else none
   | _=>none
def entr (P:Program) (f:FuncId):Bool:=match P.funcs[f]? with
 | some fn=>fn.name != "runtime.NumGoroutine"&&fn.body.isSome
 | none=>false
def eqD (op:BinOp) (f:Bool→IOp):Option IOp:=match op with
 | .eql=>some (f false)
 | .neq=>some (f true)
 | _=>none
def binD (P:Program) (op:BinOp) (t:TypeId) (y:Operand) (x' y':Opd):Option IOp :=
 match P.underlying t with
 | some (.int _)=>some (.bin op x' y')
 | some .string=>some (.bin op x' y')
 | some .bool=>eqD op λng=>.beq ng x' y'
 | some (.struct _)=>if P.eqGuardType P.depth t=false then(q5i P 6 t).bind λks=>eqD op λng=>.eqs ng ks x' y' else none
 | some (.interface _)=>match y with
   | .const .nilIface=>eqD op λng=>.isn ng x'
   | _=>none
 | _=>none
def quc (P:Program) (e:TypeId):Bool:=match P.underlying e with
 | some (.int .u8)=>decide (q8c P e=some 1)
 | _=>false
def qqk (P:Program) (t:TypeId):Bool:=match P.underlying t with
 | some .string=>true
 | _=>false
def cvD (P:Program) (s d:TypeId) (x:Opd):Option IOp :=
 match P.underlying s,P.underlying d with
 | some (.int _),some (.int k)=>some (.cvi k x)
 | some .string,some .string=>some (.cvs x)
 | some .string,some (.slice e)=>if quc P e=true then some (.s2b x) else none
 | some (.slice e),some .string=>if quc P e=true then some (.b2s x) else none
 | _,_=>none
def qtt (P:Program) (fs:Array Field):Option (List (Nat×Nat)):=fs.toList.mapM λf=>(P.info? f.type).map λi=>(f.offset,i.size)
def qu6 (P:Program) (t:TypeId) (zero:List V) (parts:List (Nat×Operand)):Option IOp :=
 match P.underlying t with
 | some (.struct fs)=>do
   let places ←qtt P fs
   some (.build zero (←parts.mapM λp=>do
    let f ←places[p.1]?
    some (f.1,f.2,←q03 p.2)))
 | _=>none
def fadD (P:Program) (t:TypeId) (k:Nat) (x:Opd):Option IOp :=
 match P.underlying t with
 | some (.struct fs)=>do
   let f ←fs[k]?
   let sz ←q8c P f.type
   if 0<sz then some (.fad f.offset x) else none
 | _=>none
def slD (P:Program) (t:TypeId) (x:Opd) (lo hi:Option Opd):Option IOp :=
 match P.underlying t with
 | some .string=>some (.sls x lo hi)
 | some (.slice e)=>do some (.slv (←q8c P e) x lo hi)
 | _=>none
def qud (P:Program) (t:TypeId) (x:Opd):Option IOp :=
 match P.underlying t with
 | some .string=>some (.lens x)
 | some (.slice _)=>some (.len x)
 | _=>none
def qmt:Operand→Bool
 | .const (.int .i64 n)=>decide (n=0)
 | _=>false
def qr6:Operand→Operand→Bool
 | .tmp a,.tmp b=>decide (a=b)
 | _,_=>false
def mkD (f:Fn) (first:Array Operand) (caps:Array Operand):Option IOp :=
 match f,first.toList with
 | .func f,[]=>do some (.mkf f (←caps.toList.mapM q03))
 | _,_=>none
def qv3 (P:Program) (x y:Operand) (t u:TypeId):Option IOp :=
 if t=u then do
  let e ←q3q P t
  let i ←P.info? e
  let z ←i.zero
  if 0<i.size∧z.cells.size=i.size∧i.bytes≤100000 then do some (.app e i.size (←q03 x) (←q03 y)) else none
 else match P.underlying u with
 | some .string=>do
   let e ←q3q P t
   let i ←P.info? e
   let z ←i.zero
   if i.size=1∧z.cells.size=i.size∧i.bytes≤100000 then do some (.aps e (←q03 x) (←q03 y)) else none
 | _=>none
def qye (P:Program) (b:Builtin) (args:List Operand) (ts:List TypeId):Option IOp :=
 match b,args,ts with
 | .len,[x],[t]=>do qud P t (←q03 x)
 | .min,[x,y],_=>do some (.mn (←q03 x) (←q03 y))
 | .max,[x,y],_=>do some (.mx (←q03 x) (←q03 y))
 | .append,[x,y],[t,u]=>qv3 P x y t u
 | _,_,_=>none
def qbx (P:Program) (c:Call):Option IOp :=
 match c.callee with
 | .builtin b=>qye P b c.args.toList c.argTypes.toList
 | .value (.func f)=>if entr P f=true then do some (.call f (←c.args.toList.mapM q03)) else none
 | .value (.tmp n)=>do some (.cal (.t n) (←c.args.toList.mapM q03))
 | _=>none
def IOp.isCall:IOp→Bool
 | .call _ _|.cal _ _=>true
 | _=>false
def digO (P:Program) (op:Op):Option IOp :=
 match op with
 | .move x|.assign x=>(q03 x).map .mv
 | .pick c a b=>do some (.pick (←q03 c) (←q03 a) (←q03 b))
 | .alloc e=>do some (.alloc e (←qdi P e))
 | .box e x=>do some (.box e (←q03 x))
 | .build t parts=>do qu6 P t (←qdi P t) parts.toList
 | .buildSlice t len parts=>do
   let e ←q3q P t
   let sz ←q8c P e
   if parts.toList.map (·.1)=List.range len∧0<sz∧len*sz≤16777216∧((P.info? e).bind (·.zero)).isSome then some (.bsl e sz (←parts.toList.mapM λp=>q03 p.2)) else none
 | .load t a=>do some (.ld (←q8c P t) (←qf5 P t) (←q03 a))
 | .store t a x=>do some (.sto (←q8c P t) (←q03 a) (←q03 x))
 | .nilCheck x=>do some (.nilc (←q03 x))
 | .binOp op t x y _=>do binD P op t y (←q03 x) (←q03 y)
 | .unOp op _ x=>do some (.un op (←q03 x))
 | .convert s d x=>do cvD P s d (←q03 x)
 | .makeFunc f first caps=>mkD f first caps
 | .makeSlice t len cap=>if qmt len=true then do
    let e ←q3q P t
    let i ←P.info? e
    let c ←q03 cap
    if 0<i.size∧i.bytes≤100000∧i.zero.isSome=true∧(i.zero.map λz=>decide (z.cells.size=i.size)&&z.cells.toList.all Value.oneCell').getD false=true then some (.mks e i.size c) else none
   else if qr6 len cap=true then do
    let e ←q3q P t
    let i ←P.info? e
    let z ←qdi P e
    let c ←q03 len
    if 0<i.size∧i.bytes≤100000∧z.length=i.size then some (.mkl e i.size z c) else none
   else none
 | .slice t x lo hi mx=>if mx.isNone=true then do slD P t (←q03 x) (←qhm q03 lo) (←qhm q03 hi) else none
 | .fieldAddr t x k=>do fadD P t k (←q03 x)
 | .indexAddr t x i=>do some (.iad (←q8c P (←q3q P t)) (←q03 x) (←q03 i))
 | .index t x i=>if qqk P t=true then do some (.idx (←q03 x) (←q03 i)) else none
 | .extract x k=>do some (.ext (←q03 x) k)
 | _=>none
def qe5 (P:Program) (o:Oper):Option IOp :=
 match o.op with
 | .call c=>qbx P c
 | op=>(digO P op).bind λio=>bif io.isCall then none else some io
def IOp.toN:IOp→IOp
 | .mks ty sz c=>.mkn ty sz c
 | .bsl ty sz xs=>.bsn ty sz xs
 | .app _ sz x y=>.apn sz x y
 | op=>op
def IOp.asN (N:Bool) (op:IOp):IOp:=bif N then op.toN else op
theorem qgj (s:ByteArray):mkStr s.data.toList=s:=by
 obtain⟨a⟩:=s
 simp[mkStr]
theorem q2a (s:List UInt8):(mkStr s).size=s.length:=by simp[mkStr,ByteArray.size]
section inv
variable {w:World} {O:Nat→Prop} {u:Value}
theorem q5l {k:IntKind} {n:Int} (h:Imm w O (.int k n) u):u=.int k n:=by cases h;rfl
theorem q6s {b:Bool} (h:Imm w O (.bool b) u):u=.bool b:=by cases h;rfl
theorem q5n {s:List UInt8} (h:Imm w O (.str s) u):u=.string (mkStr s):=by cases h;rfl
theorem q3w (h:Imm w O .nils u):u=.slice none 0 0:=by cases h;rfl
theorem qfe (h:Imm w O .nile u):u=.nilIface:=by cases h;rfl
theorem qmw (h:Imm w O .erre u):∃t v,u=.iface t v:=by cases h;exact⟨_,_,rfl⟩
theorem qpd {sz:Nat} {rows:List (List V)} (h:Imm w O (.sl sz rows) u):∃A cap,u=.slice A rows.length cap∧rows.length≤cap:=by
 cases h with
 | esl _ A cap=>exact⟨A,cap,rfl,Nat.zero_le _⟩
 | sl _ _ blk off cap cs _ _ _ _ hcap=>exact⟨_,_,rfl,hcap⟩
theorem qo9 {row:List V} {o:Nat} (h:Imm w O (.iptr row o) u):∃a,u=.pointer (some a):=by cases h;exact⟨_,rfl⟩
end inv
theorem q5t {w:World} {O:Nat→Prop} {u:Value} {v:V} (h:qd9 u=some v):Imm w O v u:=by
 unfold qd9 at h
 split at h<;>(first|(cases h;done)|skip)
 ·cases h;exact .int _ _
 ·cases h;exact .bool _
 ·rename_i s
  cases h
  have:=Imm.str (w:=w) (O:=O) s.data.toList
  rwa [qgj] at this
 ·cases h;exact .nilp
 ·cases h;exact .nils
 ·cases h;exact .nile
section
variable {P:Program} {n:Nat} {B:Base} {ρ:Nat→Loc} {st:St} {a:Act} {w:World}
theorem q0n (r:RelR n B ρ st a w) {x:Operand} {y:Opd} (h:q03 x=some y):Den w (owns B ρ st.h) ρ st.h (ev st.t y) (a.eval x):=by
 cases x with
 | tmp n=>simp only[q03,zS] at h;subst h;exact r.tmps n
 | const u =>
   obtain⟨v,hv,rfl⟩:=Option.map_eq_some_iff.1 h
   exact(q5t hv).den
 | func f=>simp only[q03,zS] at h;subst h;exact⟨[],rfl,rfl,λj v x hv _=>by simp at hv⟩
 | global g=>simp[q03] at h
theorem qbc (r:RelR n B ρ st a w):∀ {xs:List Operand} {ys:List Opd},xs.mapM q03=some ys →
 ys.length=xs.length∧∀(j:Nat) v u,(ys.map (ev st.t))[j]?=some v→(xs.map a.eval)[j]?=some u→Den w (owns B ρ st.h) ρ st.h v u
 | [],ys,h=>by
   simp at h;subst h
   exact⟨rfl,λj v u hv _=>by simp at hv⟩
 | x::xs,ys,h=>by
   simp only[List.mapM_cons,Option.bind_eq_bind,zB,Option.pure_def,zS] at h
   obtain⟨y,hy,ys',hys,rfl⟩:=h
   obtain⟨hl,hd⟩:=qbc r hys
   refine⟨by simp[hl],λj v u hv hu=>?_⟩
   cases j with
   | zero =>
     simp only[List.map_cons,List.getElem?_cons_zero,zS] at hv hu
     subst hv;subst hu
     exact q0n r hy
   | succ j =>
     simp only[List.map_cons,List.getElem?_cons_succ] at hv hu
     exact hd j v u hv hu
theorem q1w {k:IntKind} {n:Int} {u:Value} {O:Nat→Prop} {h:Nat→Hs} (hd:Den w O ρ h (.int k n) u):u=.int k n:=q5l hd
theorem q3g {b:Bool} {u:Value} {O:Nat→Prop} {h:Nat→Hs} (hd:Den w O ρ h (.bool b) u):u=.bool b:=q6s hd
theorem q4w {s:List UInt8} {u:Value} {O:Nat→Prop} {h:Nat→Hs} (hd:Den w O ρ h (.str s) u):u=.string (mkStr s):=q5n hd
theorem qtz (t:TypeId) (op:BinOp) (k k':IntKind) (x y:Int) {v:V} (h:q72 op (.int k x) (.int k' y)=some v) {O:Nat→Prop} {h0:Nat→Hs} :
 ∃u,(binOp op t (.int k x) (.int k' y)).run P w=.ok u w∧Den w O ρ h0 v u:=by
 simp only[q72] at h
 split at h
 case isFalse=>cases h
 rename_i hk
 subst hk
 cases op<;>simp only[zS,reduceCtorEq] at h<;>(try subst h)
 case add=>exact⟨_,by simp[binOp,Op.intArith],Imm.int _ _⟩
 case sub=>exact⟨_,by simp[binOp,Op.intArith],Imm.int _ _⟩
 case mul=>exact⟨_,by simp[binOp,Op.intArith],Imm.int _ _⟩
 case quo =>
  obtain⟨hy,h⟩:=q04 h
  cases h
  exact⟨_,by simp[binOp,Op.intDiv,hy],Imm.int _ _⟩
 case rem =>
  obtain⟨hy,h⟩:=q04 h
  cases h
  exact⟨_,by simp[binOp,Op.intDiv,hy],Imm.int _ _⟩
 case xor=>exact⟨_,by simp[binOp,Op.intBits,bits],Imm.int _ _⟩
 case eql=>exact⟨.bool (decide (x=y)),by simp[binOp,Op.intCmp];rfl,Imm.bool _⟩
 case neq=>exact⟨.bool (!decide (x=y)),by simp[binOp,Op.intCmp];rfl,Imm.bool _⟩
 case lss=>exact⟨_,by simp[binOp,Op.intCmp],Imm.bool _⟩
 case leq=>exact⟨_,by simp[binOp,Op.intCmp],Imm.bool _⟩
 case gtr=>exact⟨_,by simp[binOp,Op.intCmp],Imm.bool _⟩
 case geq=>exact⟨_,by simp[binOp,Op.intCmp],Imm.bool _⟩
theorem q3y (s:List UInt8):(mkStr s).toList=s:=by
 rw[ByteArray.toList_eq];simp[mkStr]
theorem qcc (s t:List UInt8):mkStr s++mkStr t=mkStr (s++t):=by
 apply ByteArray.ext
 simp[mkStr]
theorem qbg (s:List UInt8) (l u:Nat):(mkStr s).extract l u=mkStr ((s.take u).drop l):=by
 apply ByteArray.ext
 simp[mkStr,List.extract_eq_drop_take,List.drop_take]
theorem qs5 (t:TypeId) (op:BinOp) (x y:List UInt8) {v:V} (h:q72 op (.str x) (.str y)=some v) {O:Nat→Prop} {h0:Nat→Hs} :
 ∃u,(binOp op t (.string (mkStr x)) (.string (mkStr y))).run P w=.ok u w∧Den w O ρ h0 v u:=by
 simp only[q72] at h
 cases op<;>simp only[zS,reduceCtorEq] at h<;>(try subst h)
 case add =>
  obtain⟨hy,h⟩:=q04 h
  cases h
  refine⟨.string (mkStr (x++y)), ?_,Imm.str _⟩
  have h2:¬(((mkStr x).size+(mkStr y).size:Nat):Int)>IntKind.i64.max:=by
   rw[q2a,q2a]
   have:IntKind.i64.max=9223372036854775807:=by decide
   rw[this];omega
  simp only[binOp,Op.stringOp,if_neg h2,qcc]
  rfl
 case eql =>
  refine⟨.bool (decide (x=y)), ?_,Imm.bool _⟩
  simp only[binOp,Op.stringOp,q3y]
  have:(x==y)=decide (x=y):=by by_cases e:x=y<;>simp[e]
  rw[this];rfl
 case neq =>
  refine⟨.bool (!decide (x=y)), ?_,Imm.bool _⟩
  simp only[binOp,Op.stringOp,q3y]
  have:(x==y)=decide (x=y):=by by_cases e:x=y<;>simp[e]
  rw[this];rfl
theorem qqe (t:TypeId) (op:BinOp) (X Y:V) (x y:Value) {v:V} (h:q72 op X Y=some v) {O O':Nat→Prop} {h0:Nat→Hs} (hx:Den w O ρ h0 X x) (hy:Den w O ρ h0 Y y)
 :∃u,(binOp op t x y).run P w=.ok u w∧Den w O' ρ h0 v u∧(eqGuard op t (.tmp 0) (.tmp 0) x y).run P w=.ok () w:=by
 cases X<;>cases Y<;>simp only[q72,reduceCtorEq] at h
 case int.int k a k' b =>
  rw[q1w hx,q1w hy]
  obtain⟨u,h1,h2⟩:=qtz (P:=P) (w:=w) (ρ:=ρ) t op k k' a b (v:=v) (by simpa only[q72] using h) (O:=O') (h0:=h0)
  exact⟨u,h1,h2,by cases op<;>simp[eqGuard]⟩
 case str.str a b =>
  rw[q4w hx,q4w hy]
  obtain⟨u,h1,h2⟩:=qs5 (P:=P) (w:=w) (ρ:=ρ) t op a b (v:=v) (by simpa only[q72] using h) (O:=O') (h0:=h0)
  exact⟨u,h1,h2,by cases op<;>simp[eqGuard]⟩
end
section
variable {P:Program} {G:Glob} {n:Nat} {B:Base} {ρ:Nat→Loc} {h:Nat→Hs} {w:World}
theorem q1k (w:World) (o:Obj) (b:Nat) (hb:b<w.heap.size):(w.alloc o).heap[b]?=w.heap[b]?:=Below.heap_alloc w o b hb
theorem q1s (w:World) (o:Obj):(w.alloc o).heap[w.heap.size]?=some o:=by
 show(w.heap.push o)[w.heap.size]?=some o
 simp
theorem qby (hB:BaseOk G B) (r:RelH B ρ h w) {c ty:Nat} {row:List V} {us:List Value} (hf:h c=.fresh) (hl:us.length=row.length)
 (hd:∀(j:Nat) v u,row[j]?=some v→us[j]?=some u→u.oneCell'=true∧Den1 w (owns B ρ h) ρ h v u) :
 ∃ρ',Turns B ρ h w ρ' (upH h [(c,.var ty row)]) (w.alloc (.cells us.toArray ty)) ∧
  Den (w.alloc (.cells us.toArray ty)) (owns B ρ' (upH h [(c,.var ty row)])) ρ' (upH h [(c,.var ty row)]) (.pv c 0) (.pointer (some ⟨w.heap.size,0,none⟩)):=by
 refine⟨_,r.alloc hB (l:=⟨false,w.heap.size,0,1⟩) rfl rfl rfl (by simp) (λb hb=>q1k w _ b hb) hf (λ_=>Nat.le_refl _) (λO' ρ' h' h1 _=>?_), ?_⟩
 ·refine⟨rfl,us.toArray,q1s w _,by simp[hl],λj v hv=>?_⟩
  have hj:j<us.length:=by rw[hl];exact(List.getElem?_eq_some_iff.1 hv).1
  have:=hd j v us[j] hv (zE hj)
  exact⟨us[j],by simp[hj],this.1,h1 _ _ this.2⟩
 ·simp[Den,Den2,Den1,Den0,upH,upρ]
theorem q6y (hB:BaseOk G B) (r:RelH B ρ h w) {c ty sz cap k:Nat} {rows:List (List V)} {cs:Array Value} {w':World} (hf:h c=.fresh)
 (hw:w'.os=w.os∧w'.tape=w.tape∧w'.output=w.output∧w.heap.size≤w'.heap.size∧(∀b,b<w.heap.size→w'.heap[b]?=w.heap[b]?))
 {blk:Nat} (hblk:w.heap.size≤blk) (hc:w'.heap[blk]?=some (.cells cs ty (0,0))) (hsz:cs.size=cap*sz) (hlen:rows.length≤cap) (hr:∀x,x∈rows→x.length=sz)
 (hd:∀(i:Nat) x (j:Nat) v,rows[i]?=some x→x[j]?=some v→∃u,cs[i*sz+j]?=some u∧Imm w (owns B ρ h) v u) :
 ∃ρ',Turns B ρ h w ρ' (upH h [(c,.arr ty sz rows)]) w' ∧
  Den w' (owns B ρ' (upH h [(c,.arr ty sz rows)])) ρ' (upH h [(c,.arr ty sz rows)]) (.own c k) (.slice (some ⟨blk,0,none⟩) k cap):=by
 obtain⟨h1,h2,h3,h4,h5⟩:=hw
 refine⟨_,r.alloc hB (l:=⟨false,blk,0,cap⟩) h1 h2 h3 h4 h5 hf (λ_=>hblk) (λO' ρ' h' _ h2=>?_), ?_⟩
 ·refine .inr ⟨rfl,cs,hc,⟨by simp[hsz],λh1=>⟨rfl,by rw[hsz,h1,Nat.mul_one]⟩⟩,hlen,hr,λi x j v hx hv=>?_⟩
  obtain⟨u,a1,a2⟩:=hd i x j v hx hv
  exact⟨u,by simpa using a1,h2 _ _ a2⟩
 ·simp[Den,Den2,Den1,Den0,upH,upρ,Loc.sl,Loc.addr]
theorem q93 {O:Nat→Prop} {v:V} {u:Value} (ho:v.one=true) (hd:Den w O ρ h v u):Den1 w O ρ h v u:=by
 cases v<;>first|exact hd|(simp[V.one] at ho)
theorem qj6 {v:V} (ho:v.one=true):q05 v=[v]:=by
 cases v<;>first|rfl|(simp[V.one] at ho)
theorem q4k {O:Nat→Prop} {v:V} {u:Value} (ho:(q05 v).all V.one=true) (hd:Den w O ρ h v u) :
 ∃us:List Value,u.cells=us.toArray∧us.length=(q05 v).length∧(∀x∈us,x.oneCell'=true)∧∀(j:Nat) x y,(q05 v)[j]?=some x→us[j]?=some y→Den1 w O ρ h x y:=by
 by_cases hag:∃fs,v=.agg fs
 ·obtain⟨fs,rfl⟩:=hag
  obtain⟨us,rfl,hl,hd⟩:=hd
  refine⟨us,rfl,hl,λx hx=>?_,hd⟩
  obtain⟨j,hj,rfl⟩:=List.getElem_of_mem hx
  have hj':j<fs.length:=by rw[←hl];exact hj
  refine(hd j fs[j] us[j] (zE hj') (zE hj)).one ?_
  simp only[q05,List.all_eq_true] at ho
  exact ho _ (List.getElem_mem hj')
 ·have hv:v.one=true:=by
   cases v<;>first|rfl|exact absurd ⟨_,rfl⟩ hag|(simp[q05,V.one] at ho)
  have h1:=q93 hv hd
  have h2:u.oneCell'=true:=h1.one hv
  rw[qj6 hv]
  refine⟨[u],by cases u<;>first|rfl|(simp[Value.oneCell'] at h2),rfl,by simpa using h2,λj x y hx hy=>?_⟩
  cases j with
  | zero =>
    simp only[List.getElem?_cons_zero,zS] at hx hy
    subst hx;subst hy;exact h1
  | succ j=>simp at hx
theorem qai (r:RelH B ρ h w) {p:V} {u:Value} (hd:Den w (owns B ρ h) ρ h p u) {sz:Nat} {agg:Bool} {v:V} {tc:List Nat} (hl:q3t h sz agg p=some (v,tc)) :
 ∃(a b:Nat),u=.pointer (some ⟨a,b,none⟩) ∧
  match agg with
  | true=>∃(fs:List V) (us:List Value),v=.agg fs∧fs.length=sz∧us.length=sz∧w.rangeAt a b us∧∀(j:Nat) x y,fs[j]?=some x→us[j]?=some y→Den1 w (owns B ρ h) ρ h x y
  | false=>∃y,w.cell? ⟨a,b,none⟩=some y∧Den1 w (owns B ρ h) ρ h v y:=by
 have key:∀(row:List V) (o a b:Nat) (f:Nat→Value),(∀(j:Nat) x,row[j]?=some x→w.cell? ⟨a,b+j,none⟩=some (f j)∧Den1 w (owns B ρ h) ρ h x (f j)) →
  ∀v0,(bif agg then(qdm row o sz).map V.agg else row[o]?)=some v0 →
  match agg with
  | true=>∃(fs:List V) (us:List Value),v0=.agg fs∧fs.length=sz∧us.length=sz∧w.rangeAt a (b+o) us∧∀(j:Nat) x y,fs[j]?=some x→us[j]?=some y→Den1 w (owns B ρ h) ρ h x y
  | false=>∃y,w.cell? ⟨a,b+o,none⟩=some y∧Den1 w (owns B ρ h) ρ h v0 y:=by
  intro row o a b f hf v0 hv
  cases agg with
  | false =>
    simp only[cond_false] at hv ⊢
    exact⟨_,hf o v0 hv⟩
  | true =>
    simp only[cond_true,qdm,zM] at hv ⊢
    obtain⟨fs,hfs,rfl⟩:=hv
    split at hfs
    case isFalse=>cases hfs
    rename_i hle
    simp only[zS] at hfs
    have hlen:fs.length=sz:=by subst hfs;simp;omega
    have hget:∀(j:Nat) x,fs[j]?=some x→row[o+j]?=some x:=λj x hx=>by
     subst hfs
     rw[List.getElem?_take] at hx
     split at hx
     ·rwa [List.getElem?_drop] at hx
     ·cases hx
    refine⟨fs,(List.range sz).map λj=>f (o+j),rfl,hlen,by simp,λj y hy=>?_,λj x y hx hy=>?_⟩
    ·simp only[List.getElem?_map,zM] at hy
     obtain⟨j',hj',rfl⟩:=hy
     have hjl:j<sz:=by have:=(List.getElem?_eq_some_iff.1 hj').1;simpa using this
     have:j'=j:=by rw[List.getElem?_range hjl] at hj';simpa using hj'.symm
     subst this
     have hx:fs[j']?=some fs[j']:=zE (by omega)
     have:=(hf _ _ (hget j' _ hx)).1
     rwa [←Nat.add_assoc] at this
    ·simp only[List.getElem?_map,zM] at hy
     obtain⟨j',hj',rfl⟩:=hy
     have hjl:j<sz:=by have:=(List.getElem?_eq_some_iff.1 hj').1;simpa using this
     have:j'=j:=by rw[List.getElem?_range hjl] at hj';simpa using hj'.symm
     subst this
     exact(hf _ _ (hget j' x hx)).2
 have cellAt:∀(b off:Nat) (cs:Array Value) ty fr (j:Nat) u,w.heap[b]?=some (.cells cs ty fr)→cs[off+j]?=some u→w.cell? ⟨b,off+j,none⟩=some u:=λb off cs ty fr j u hb hu=>by
  simp[World.cell?,hb,hu]
 cases p with
 | pv c o =>
   have hch:=r.chunk c
   simp only[q3t] at hl
   simp only[Den,Den2,Den1,Den0] at hd
   cases hc:h c with
   | var ty row =>
     rw[hc] at hl hd hch
     obtain⟨_,cs,h2,h3,h4⟩:=hch
     simp only at hl hd
     obtain⟨v0,hv0,hv1⟩:∃v0,(bif agg then(qdm row o sz).map V.agg else row[o]?)=some v0∧v0=v:=by
      cases agg<;>simp only[cond_true,cond_false,zM,Prod.mk.injEq] at hl ⊢
      ·obtain⟨x,hx,rfl,_⟩:=hl;exact⟨x,hx,rfl⟩
      ·obtain⟨x,hx,rfl,_⟩:=hl;exact⟨.agg x,⟨x,hx,rfl⟩,rfl⟩
     subst hv1
     refine⟨_,_,hd, ?_⟩
     have hex:∀j,∃y,∀x,row[j]?=some x→w.cell? ⟨(ρ c).blk,(ρ c).off+j,none⟩=some y∧Den1 w (owns B ρ h) ρ h x y:=λj=>by
      cases hj:row[j]? with
      | none=>exact⟨undef,λx hx=>by cases hx⟩
      | some x =>
        obtain⟨y,a1,_,a3⟩:=h4 j x hj
        exact⟨y,λx' hx'=>by cases hx';exact⟨cellAt _ _ cs _ _ j y h2 a1,a3⟩⟩
     exact key row o _ _ (λj=>Classical.choose (hex j)) (λj x hx=>Classical.choose_spec (hex j) x hx) v0 hv0
   | _=>rw[hc] at hl;cases hl
 | pa c i o =>
   have hch:=r.chunk c
   simp only[q3t] at hl
   simp only[Den,Den2,Den1,Den0] at hd
   cases hc:h c with
   | arr ty s rows =>
     rw[hc] at hl hd hch
     simp only at hl hd
     obtain⟨hi,hd⟩:=hd
     rcases hch with⟨_,hnil,_⟩|⟨_,cs,h2,h3,h4,h5,h6⟩
     ·subst hnil;simp at hi
     have hgetD:rows.getD i []=rows[i]:=by simp[List.getD,hi]
     rw[hgetD] at hl
     obtain⟨v0,hv0,hv1⟩:∃v0,(bif agg then(qdm rows[i] o sz).map V.agg else rows[i][o]?)=some v0∧v0=v:=by
      cases agg<;>simp only[cond_true,cond_false,zM,Prod.mk.injEq] at hl ⊢
      ·obtain⟨x,hx,rfl,_⟩:=hl;exact⟨x,hx,rfl⟩
      ·obtain⟨x,hx,rfl,_⟩:=hl;exact⟨.agg x,⟨x,hx,rfl⟩,rfl⟩
     subst hv1
     refine⟨_,_,hd, ?_⟩
     rw[show(ρ c).off+(i*s+o)=(ρ c).off+i*s+o by omega]
     have hex:∀j,∃y,∀x,rows[i][j]?=some x→w.cell? ⟨(ρ c).blk,(ρ c).off+i*s+j,none⟩=some y∧Den1 w (owns B ρ h) ρ h x y:=λj=>by
      cases hj:rows[i][j]? with
      | none=>exact⟨undef,λx hx=>by cases hx⟩
      | some x =>
        obtain⟨y,a1,a3⟩:=h6 i rows[i] j x (zE hi) hj
        exact⟨y,λx' hx'=>by cases hx';exact⟨cellAt _ _ cs _ _ j y h2 (by rwa [Nat.add_assoc]),a3.den1⟩⟩
     exact key rows[i] o _ _ (λj=>Classical.choose (hex j)) (λj x hx=>Classical.choose_spec (hex j) x hx) v0 hv0
   | _=>rw[hc] at hl;cases hl
 | iptr row o =>
   simp only[q3t] at hl
   have hd':Imm w (owns B ρ h) (.iptr row o) u:=hd
   cases hd' with
   | iptr _ _ blk off cs h1 h2 h3 h4 =>
     obtain⟨v0,hv0,hv1⟩:∃v0,(bif agg then(qdm row o sz).map V.agg else row[o]?)=some v0∧v0=v:=by
      cases agg<;>simp only[cond_true,cond_false,zM,Prod.mk.injEq] at hl ⊢
      ·obtain⟨x,hx,rfl,_⟩:=hl;exact⟨x,hx,rfl⟩
      ·obtain⟨x,hx,rfl,_⟩:=hl;exact⟨.agg x,⟨x,hx,rfl⟩,rfl⟩
     subst hv1
     exact⟨_,_,rfl,key row o blk off cs (λj x hx=>⟨h3 j x hx,(h4 j x hx).den1⟩) v0 hv0⟩
 | _=>simp[q3t] at hl
theorem q1b (b:Nat):∀(vs:List Value) (o:Nat) (w:World),(w.setCells b o vs).os=w.os∧(w.setCells b o vs).tape=w.tape∧(w.setCells b o vs).output=w.output ∧
 (w.setCells b o vs).heap.size=w.heap.size∧∀k,k≠b→(w.setCells b o vs).heap[k]?=w.heap[k]?
 | [],o,w=>⟨rfl,rfl,rfl,rfl,λ_ _=>rfl⟩
 | v::r,o,w=>by
   obtain⟨h1,h2,h3,h4,h5⟩:=q1b b r (o+1) (w.setCell ⟨b,o,none⟩ v)
   exact⟨h1,h2,h3,h4.trans (by simp),λk hk=>(h5 k hk).trans (Below.heap_setCell w _ v k hk)⟩
theorem q1a (b ty:Nat) (fr:Nat×Nat):∀(vs:List Value) (o:Nat) (w:World) (cs:Array Value),w.heap[b]?=some (.cells cs ty fr)→o+vs.length≤cs.size →
 ∃cs':Array Value,(w.setCells b o vs).heap[b]?=some (.cells cs' ty fr)∧cs'.size=cs.size∧∀j,cs'[j]?=if o≤j∧j<o+vs.length then vs[j - o]? else cs[j]?
 | [],o,w,cs,h,hl=>⟨cs,h,rfl,λj=>by rw[if_neg (by simp only[zN];omega)]⟩
 | v::r,o,w,cs,h,hl=>by
   have h':(w.setCell ⟨b,o,none⟩ v).heap[b]?=some (.cells (cs.setIfInBounds o v) ty fr):=by
    simp[World.setCell,Array.getElem?_modify,h]
   obtain⟨cs',h1,h2,h3⟩:=q1a b ty fr r (o+1) _ _ h' (by simp only[zC,Array.size_setIfInBounds] at hl ⊢;omega)
   refine⟨cs',h1,by simpa using h2,λj=>?_⟩
   rw[h3 j]
   simp only[zC] at hl ⊢
   by_cases hj:j=o
   ·subst hj
    rw[if_neg (by omega),if_pos (by omega),Nat.sub_self]
    have:j<cs.size:=by omega
    simp[this]
   ·by_cases hj2:o+1≤j∧j<o+1+r.length
    ·rw[if_pos hj2,if_pos (by omega),show j - o=(j - (o+1))+1 by omega]
     simp
    ·rw[if_neg hj2,if_neg (by omega),Array.getElem?_setIfInBounds_ne (Ne.symm hj)]
end
def Runs (P:Program) (o:Oper) (a:Act) (w:World) (u:Value) (w':World):Prop :=
 (execOp a.eval o).run P w=.ok (.value u) w'∨((execOp a.eval o).run P w=.ok .skip w'∧u=undef)
section
variable {P:Program} {G:Glob} {n:Nat} {B:Base} {ρ:Nat→Loc} {st:St} {a:Act} {w:World}
def OpOk (P:Program) (B:Base) (ρ:Nat→Loc) (st:St) (a:Act) (w:World) (o:Oper) (v:V) (up:List (Nat×Hs)):Prop :=
 ∃u w' ρ',Runs P o a w u w'∧Turns B ρ st.h w ρ' (upH st.h up) w'∧Den w' (owns B ρ' (upH st.h up)) ρ' (upH st.h up) v u
theorem OpOk.pure (r:RelR n B ρ st a w) {o:Oper} {v:V} {u:Value} (hr:(execOp a.eval o).run P w=.ok (.value u) w) (hd:Den w (owns B ρ st.h) ρ st.h v u):OpOk P B ρ st a w o v [] :=
 ⟨u,w,ρ,.inl hr,Turns.refl r.mem,hd⟩
theorem qf3 {op:IOp} {d:Option Nat} {t:Nat→V} {h:Nat→Hs} {v:V} {up:List (Nat×Hs)} {tc:List Nat} (he:((q0k op t).map λv=>(v,([]:List (Nat×Hs)),([]:List Nat)))=some (v,up,tc)) :
 q0k op t=some v∧up=[]∧tc=[]:=by
 obtain⟨x,hx,he⟩:=Option.map_eq_some_iff.1 he
 simp only[Prod.mk.injEq] at he
 exact⟨by rw[hx,he.1],he.2.1.symm,he.2.2.symm⟩
theorem qjs (r:RelR n B ρ st a w) {o:Oper} {x:Operand} (ho:o.op=.move x∨o.op=.assign x) {y:Opd} (hx:q03 x=some y):OpOk P B ρ st a w o (ev st.t y) [] :=
 .pure r (u:=a.eval x) (by rcases ho with ho|ho<;>(unfold execOp;simp only[ho];rfl)) (q0n r hx)
theorem qtn (r:RelR n B ρ st a w) {o:Oper} {c x y:Operand} (ho:o.op=.pick c x y) {c' x' y':Opd} (hc:q03 c=some c') (hx:q03 x=some x') (hy:q03 y=some y') {b:Bool} (hb:ev st.t c'=.bool b) :
 OpOk P B ρ st a w o (bif b then ev st.t x' else ev st.t y') []:=by
 have h1:=q0n r hc
 rw[hb] at h1
 have h1:=q3g h1
 refine .pure r (u:=if b then a.eval x else a.eval y) ?_ ?_
 ·unfold execOp;simp only[ho,h1,asBool];cases b<;>simp
 ·cases b
  ·exact q0n r hy
  ·exact q0n r hx
theorem q8r {t:TypeId} {zero:List V} (h:qdi P t=some zero):∃i z,P.info? t=some i∧i.zero=some z∧z.cells.toList.mapM qd9=some zero:=by
 unfold qdi at h
 obtain⟨z,hz,h⟩:=Option.bind_eq_some_iff.1 h
 obtain⟨i,hi,hz⟩:=Option.bind_eq_some_iff.1 hz
 exact⟨i,z,hi,hz,h⟩
theorem q33 {α β:Type} {f:α→Option β}:∀ {xs:List α} {ys:List β},xs.mapM f=some ys→ys.length=xs.length∧∀(j:Nat) x y,xs[j]?=some x→ys[j]?=some y→f x=some y
 | [],ys,h=>by simp at h;subst h;exact⟨rfl,λj x y hx=>by simp at hx⟩
 | x::xs,ys,h=>by
   simp only[List.mapM_cons,Option.bind_eq_bind,zB,Option.pure_def,zS] at h
   obtain⟨y,hy,ys',hys,rfl⟩:=h
   obtain⟨hl,hd⟩:=q33 hys
   refine⟨by simp[hl],λj a b ha hb=>?_⟩
   cases j with
   | zero =>
     simp only[List.getElem?_cons_zero,zS] at ha hb
     subst ha;subst hb;exact hy
   | succ j =>
     simp only[List.getElem?_cons_succ] at ha hb
     exact hd j a b ha hb
theorem q0t {α:Type} {s:Hs} {x:Option α} {y:α} (h:q24 s x=some y):s=.fresh∧x=some y:=by
 cases s<;>simp_all[q24]
theorem qnz (hB:BaseOk G B) (r:RelR n B ρ st a w) {o:Oper} {e:TypeId} (ho:o.op=.alloc e) {zero:List V} (hz:qdi P e=some zero) {c:Nat} (hf:st.h c=.fresh) :
 OpOk P B ρ st a w o (.pv c 0) [(c,.var e zero)]:=by
 obtain⟨i,z,hi,hz0,hm⟩:=q8r hz
 obtain⟨hl,hg⟩:=q33 hm
 obtain⟨ρ',ht,hd⟩:=qby hB r.mem (c:=c) (ty:=e) (row:=zero) (us:=z.cells.toList) hf hl.symm (λj v u hv hu=>by
  have:=q5t (w:=w) (O:=owns B ρ st.h) (hg j u v hu hv)
  exact⟨this.one,this.den1⟩)
 refine⟨_,_,ρ',.inl ?_,ht,hd⟩
 unfold execOp
 simp[ho,Instr.alloc,zeroValue,typeInfo,hi,hz0,newVar,newRow]
theorem qxx (hB:BaseOk G B) (r:RelR n B ρ st a w) {o:Oper} {e:TypeId} {x:Operand} (ho:o.op=.box e x) {y:Opd} (hx:q03 x=some y) {c:Nat} (hf:st.h c=.fresh)
 (h1:(q05 (ev st.t y)).all V.one=true):OpOk P B ρ st a w o (.pv c 0) [(c,.var e (q05 (ev st.t y)))]:=by
 obtain⟨us,hc,hl,ho1,hd⟩:=q4k h1 (q0n r hx)
 obtain⟨ρ',ht,hd'⟩:=qby hB r.mem (c:=c) (ty:=e) (row:=q05 (ev st.t y)) (us:=us) hf hl (λj v u hv hu=>⟨ho1 u (List.mem_of_getElem? hu),hd j v u hv hu⟩)
 refine⟨_,_,ρ',.inl ?_,ht,hd'⟩
 unfold execOp
 simp[ho,Instr.box,newVar,newRow,hc]
theorem ok_ld (r:RelR n B ρ st a w) {o:Oper} {t:TypeId} {x:Operand} (ho:o.op=.load t x) {y:Opd} (hx:q03 x=some y) {sz:Nat} {agg:Bool} (hs:q8c P t=some sz) (ha:qf5 P t=some agg)
 {v:V} {tc:List Nat} (hl:q3t st.h sz agg (ev st.t y)=some (v,tc)):OpOk P B ρ st a w o v []:=by
 obtain⟨A,b,hu,hv⟩:=qai r.mem (q0n r hx) hl
 obtain⟨i,hi,hsz⟩:=Option.map_eq_some_iff.1 hs
 obtain⟨d,hd,hagg⟩:=Option.map_eq_some_iff.1 ha
 cases agg with
 | true =>
   obtain⟨fs,us,rfl,hfl,hul,hr,hden⟩:=hv
   refine .pure r (u:=.agg us.toArray) ?_ ⟨us,rfl,by omega,hden⟩
   unfold execOp
   simp only[ho,hu]
   have:=run_loadAt_mid (P:=P) w A b t us d hr hd (by cases d<;>first|rfl|(simp at hagg)) (by simp[hi,hsz,hul])
   simp only[Sem.run_bind,this,Result.andThen_ok,Sem.run_pure]
 | false =>
   obtain⟨y',hc,hden⟩:=hv
   refine .pure r (u:=y') ?_ ?_
   ·unfold execOp
    simp only[ho,hu]
    have hagg':(isAgg t).run P w=.ok false w:=by
     unfold isAgg
     rw[Sem.run_bind,run_underlying hd w]
     cases d<;>simp_all
    simp[Instr.loadAt,Instr.sureAddr,loadVar,hagg',hc]
   ·have:v.one=true∨v=.undef:=by
     have hone:∀x:V,(∃y,Den1 w (owns B ρ st.h) ρ st.h x y)→x.one=true∨x=.undef:=λx ⟨y,hy⟩=>by
      cases x<;>first|exact .inl rfl|exact .inr rfl|(cases hy;done)
     exact hone v ⟨y',hden⟩
    exact hden.up this
theorem j0q (hB:BaseOk G B) (r:RelR n B ρ st a w) {o:Oper} {t:TypeId} {x y:Operand} (ho:o.op=.store t x y) {x' y':Opd} (hx:q03 x=some x') (hy:q03 y=some y') {sz:Nat} (hs:q8c P t=some sz)
 {up:List (Nat×Hs)} {tc:List Nat} (hst:q4c st.h sz (ev st.t x') (ev st.t y')=some (up,tc)):OpOk P B ρ st a w o (.tup []) up:=by
 obtain⟨i,hi,hsz⟩:=Option.map_eq_some_iff.1 hs
 have hdx:=q0n r hx
 have hdy:=q0n r hy
 revert hst hdx hdy
 generalize ev st.t x'=p
 generalize ev st.t y'=q
 intro hst hdx hdy
 unfold q4c at hst
 split at hst
 case isFalse=>cases hst
 rename_i hlen
 have store_run:∀(b off:Nat) (cs:Array Value) ty (us:List Value),a.eval x=.pointer (some ⟨b,off,none⟩)→w.heap[b]?=some (.cells cs ty (0,0))→off+us.length≤cs.size→(a.eval y).cells=us.toArray→us.length=sz→(∀u∈us,u.oneCell'=true) →
  Runs P o a w undef (w.setCells b off us):=λb off cs ty us hu hh hle hcells hul hone=>by
  have hcell:∀j,j<us.length→(w.cell? ⟨b,off+0+j,none⟩).isSome=true:=λj hj=>by
   have:off+j<cs.size:=by omega
   simp[World.cell?,hh,this]
  have hfr:∀j,j<us.length→w.frozen? ⟨b,off+0+j,none⟩=false:=λj hj=>by simp[World.frozen?,hh]
  have hrun:=run_storeCells_cells (P:=P) b off us 0 w hcell hfr hone
  refine .inr ⟨?_,rfl⟩
  unfold execOp
  simp only[ho,hu]
  have hsz2:(a.eval y).cells.size=i.size:=by rw[hcells];simp[hul,hsz]
  simp only[Nat.add_zero] at hrun
  have hlist:(a.eval y).cells.toList=us:=by rw[hcells]
  simp[Instr.storeAt,Instr.sureAddr,storeVar,sizeOf,typeInfo,hi,hsz2,hlist,hrun]
 cases p with
 | pv c off =>
   simp only at hst
   cases hc:st.h c with
   | var ty row =>
     rw[hc] at hst
     simp only at hst
     split at hst
     case isFalse=>cases hst
     rename_i hcond
     simp only[zS,Prod.mk.injEq] at hst
     obtain⟨rfl,rfl⟩:=hst
     obtain⟨us,h1,h2,h3,h4⟩:=q4k hcond.1 hdy
     simp only[Den,Den2,Den1,Den0,hc] at hdx
     have hch:=r.mem.chunk c
     rw[hc] at hch
     obtain⟨hnil,cs,hh,hsize,hcells⟩:=hch
     have hle:(ρ c).off+off+us.length≤cs.size:=by omega
     obtain⟨k1,k2,k3,k4,k5⟩:=q1b (ρ c).blk us ((ρ c).off+off) w
     obtain⟨cs',m1,m2,m3⟩:=q1a (ρ c).blk ty (0,0) us ((ρ c).off+off) w cs hh hle
     refine⟨undef,_,ρ,store_run _ _ cs ty us hdx hh hle h1 (by omega) h3,r.mem.write hB (by rw[hc];rfl) hnil k1 k2 k3 k4 k5 ?_ (λO' h' hd1 _=>?_),⟨[],rfl,rfl,λj v x hv=>by simp at hv⟩⟩
     ·rw[hc];exact .inr (.inr ⟨rfl,.inr (.inl ⟨ty,row,ty,_,rfl,rfl⟩)⟩)
     ·refine⟨hnil,cs',m1, ?_,λj v hv=>?_⟩
      ·simp only[qa9,zA,List.length_take,List.length_drop];omega
      ·rw[m3]
       unfold qa9 at hv
       by_cases hj:j<off
       ·rw[if_neg (by omega)]
        rw[List.getElem?_append_left (by simp;omega),List.getElem?_append_left (by simp;omega),List.getElem?_take_of_lt hj] at hv
        obtain⟨u,a1,a2,a3⟩:=hcells j v hv
        exact⟨u,a1,a2,hd1 _ _ a3⟩
       ·by_cases hj2:j<off+us.length
        ·rw[if_pos (by omega)]
         rw[List.getElem?_append_left (by simp;omega),List.getElem?_append_right (by simp;omega)] at hv
         simp only[List.length_take] at hv
         rw[show min off row.length=off by omega] at hv
         rw[show(ρ c).off+j - ((ρ c).off+off)=j - off by omega]
         have hjl:j - off<us.length:=by omega
         exact⟨us[j - off],zE hjl,h3 _ (List.getElem_mem hjl),hd1 _ _ (h4 _ _ _ hv (zE hjl))⟩
        ·rw[if_neg (by omega)]
         rw[List.getElem?_append_right (by simp;omega)] at hv
         simp only[zA,List.length_take,List.getElem?_drop] at hv
         rw[show off+(q05 q).length+(j - (min off row.length+(q05 q).length))=j by omega] at hv
         obtain⟨u,a1,a2,a3⟩:=hcells j v hv
         exact⟨u,a1,a2,hd1 _ _ a3⟩
   | _=>rw[hc] at hst;cases hst
 | pa c k off =>
   simp only at hst
   cases hc:st.h c with
   | arr ty s rows =>
     rw[hc] at hst
     simp only at hst
     split at hst
     case isFalse=>cases hst
     rename_i hcond
     simp only[zS,Prod.mk.injEq] at hst
     obtain⟨rfl,rfl⟩:=hst
     have hone:(q05 q).all V.one=true:=by
      simp only[List.all_eq_true] at hcond ⊢
      intro x hx
      have:=hcond.1 x hx
      cases x<;>first|rfl|(simp[V.closed] at this)
     obtain⟨us,h1,h2,h3,h4⟩:=q4k hone hdy
     simp only[Den,Den2,Den1,Den0,hc] at hdx
     obtain⟨hk,hdx⟩:=hdx
     have hch:=r.mem.chunk c
     rw[hc] at hch
     rcases hch with⟨_,hn,_⟩|⟨hnil,cs,hh,hsize,hcap,hrl,hcells⟩
     ·subst hn;simp at hk
     have hks:k*s+s≤(ρ c).cap*s:=by
      have:(k+1)*s≤(ρ c).cap*s:=Nat.mul_le_mul_right s (by omega)
      rw[Nat.add_mul,Nat.one_mul] at this;exact this
     have hle:(ρ c).off+(k*s+off)+us.length≤cs.size:=by omega
     obtain⟨k1,k2,k3,k4,k5⟩:=q1b (ρ c).blk us ((ρ c).off+(k*s+off)) w
     obtain⟨cs',m1,m2,m3⟩:=q1a (ρ c).blk ty (0,0) us ((ρ c).off+(k*s+off)) w cs hh hle
     have hrow:(rows.getD k [])=rows[k]:=by simp[List.getD,hk]
     have hrowl:rows[k].length=s:=hrl _ (List.getElem_mem hk)
     refine⟨undef,_,ρ,store_run _ _ cs ty us hdx hh hle h1 (by omega) h3,r.mem.write hB (by rw[hc];rfl) hnil k1 k2 k3 k4 k5 ?_ (λO' h' _ hi1=>?_),⟨[],rfl,rfl,λj v x hv=>by simp at hv⟩⟩
     ·rw[hc];exact .inr (.inr ⟨rfl,.inr (.inr ⟨ty,s,rows,_,rfl,rfl,by simp⟩)⟩)
     ·refine .inr ⟨hnil,cs',m1,by rw[m2];exact hsize,by simpa using hcap,λx hx=>?_,λi' x j v hx hv=>?_⟩
      ·rcases List.mem_or_eq_of_mem_set hx with hx|hx
       ·exact hrl x hx
       ·subst hx
        rw[hrow]
        simp only[qa9,zA,List.length_take,List.length_drop];omega
      ·rw[m3]
       by_cases hik:i'=k
       ·subst hik
        rw[List.getElem?_set_self hk] at hx
        simp only[zS] at hx
        subst hx
        rw[hrow] at hv
        have hjs:j<s:=by
         have:=(List.getElem?_eq_some_iff.1 hv).1
         simp only[qa9,zA,List.length_take,List.length_drop] at this;omega
        unfold qa9 at hv
        by_cases hj:j<off
        ·rw[if_neg (by omega)]
         rw[List.getElem?_append_left (by simp;omega),List.getElem?_append_left (by simp;omega),List.getElem?_take_of_lt hj] at hv
         obtain⟨u,a1,a2⟩:=hcells i' rows[i'] j v (zE hk) hv
         exact⟨u,a1,hi1 _ _ a2⟩
        ·by_cases hj2:j<off+us.length
         ·rw[if_pos (by omega)]
          rw[List.getElem?_append_left (by simp;omega),List.getElem?_append_right (by simp;omega)] at hv
          simp only[List.length_take] at hv
          rw[show min off rows[i'].length=off by omega] at hv
          rw[show(ρ c).off+(i'*s+j) - ((ρ c).off+(i'*s+off))=j - off by omega]
          have hjl:j - off<us.length:=by omega
          have hcl:v.closed=true:=by
           have h5:=hcond.1
           simp only[List.all_eq_true] at h5
           exact h5 v (List.mem_of_getElem? hv)
          exact⟨us[j - off],zE hjl,hi1 _ _ (q3n hcl (h4 _ _ _ hv (zE hjl)))⟩
         ·rw[if_neg (by omega)]
          rw[List.getElem?_append_right (by simp;omega)] at hv
          simp only[zA,List.length_take,List.getElem?_drop] at hv
          rw[show off+(q05 q).length+(j - (min off rows[i'].length+(q05 q).length))=j by omega] at hv
          obtain⟨u,a1,a2⟩:=hcells i' rows[i'] j v (zE hk) hv
          exact⟨u,a1,hi1 _ _ a2⟩
       ·rw[List.getElem?_set_ne (Ne.symm hik)] at hx
        have hil:i'<rows.length:=(List.getElem?_eq_some_iff.1 hx).1
        have hjs:j<s:=by
         have h6:=hrl x (List.mem_of_getElem? hx)
         have:=(List.getElem?_eq_some_iff.1 hv).1
         omega
        have hap:¬((ρ c).off+(k*s+off)≤(ρ c).off+(i'*s+j)∧(ρ c).off+(i'*s+j)<(ρ c).off+(k*s+off)+us.length):=by
         rcases Nat.lt_or_gt_of_ne hik with hlt|hgt
         ·have:(i'+1)*s≤k*s:=Nat.mul_le_mul_right s hlt
          rw[Nat.add_mul,Nat.one_mul] at this;omega
         ·have:(k+1)*s≤i'*s:=Nat.mul_le_mul_right s hgt
          rw[Nat.add_mul,Nat.one_mul] at this;omega
        rw[if_neg hap]
        obtain⟨u,a1,a2⟩:=hcells i' x j v hx hv
        exact⟨u,a1,hi1 _ _ a2⟩
   | _=>rw[hc] at hst;cases hst
 | _=>simp at hst
end
section
variable {P:Program} {G:Glob} {n:Nat} {B:Base} {ρ:Nat→Loc} {st:St} {a:Act} {w:World}
theorem qty {O:Nat→Prop} {h:Nat→Hs} {c k:Nat} {u:Value} (hd:Den w O ρ h (.own c k) u):∃A cap,u=.slice A k cap:=Den0.shape (w:=w) (O:=O) (ρ:=ρ) (h:=h) (v:=.own c k) hd
theorem qmn {O:Nat→Prop} {h:Nat→Hs} {c i k:Nat} {u:Value} (hd:Den w O ρ h (.view c i k) u):∃A cap,u=.slice A k cap:=Den0.shape (w:=w) (O:=O) (ρ:=ρ) (h:=h) (v:=.view c i k) hd
theorem qq0 {O:Nat→Prop} {h:Nat→Hs} {c k:Nat} {u:Value} (hd:Den w O ρ h (.pv c k) u):∃A,u=.pointer (some A):=Den0.shape (w:=w) (O:=O) (ρ:=ρ) (h:=h) (v:=.pv c k) hd
theorem qpe {O:Nat→Prop} {h:Nat→Hs} {c i k:Nat} {u:Value} (hd:Den w O ρ h (.pa c i k) u):∃A,u=.pointer (some A):=Den0.shape (w:=w) (O:=O) (ρ:=ρ) (h:=h) (v:=.pa c i k) hd
theorem qsp {t:TypeId} {ms:Array (String×TypeId)} (hu:P.underlying t=some (.interface ms)) (ng:Bool) :
 (binOp (if ng then .neq else .eql) t .nilIface .nilIface).run P w=.ok (.bool (!ng)) w:=by
 have h:∀d:Nat,(Op.equalIn (d+1) t .nilIface .nilIface).run P w=.ok true w:=λd=>by
  simp[Op.equalIn,run_underlying hu]
 have h':(Op.equal t .nilIface .nilIface).run P w=.ok true w:=h 9999
 cases ng
 ·simp only[Bool.false_eq_true,if_false,binOp];simp[h']
 ·simp only[if_true,binOp];simp[h']
theorem qno {t u:TypeId} {x:Value} {ms:Array (String×TypeId)} (hu:P.underlying t=some (.interface ms)) (ng:Bool) :
 (binOp (if ng then .neq else .eql) t (.iface u x) .nilIface).run P w=.ok (.bool ng) w:=by
 have h:∀d:Nat,(Op.equalIn (d+1) t (.iface u x) .nilIface).run P w=.ok false w:=λd=>by
  simp[Op.equalIn,run_underlying hu]
 have h':(Op.equal t (.iface u x) .nilIface).run P w=.ok false w:=h 9999
 cases ng
 ·simp only[Bool.false_eq_true,if_false,binOp];simp[h']
 ·simp only[if_true,binOp];simp[h']
theorem qta (r:RelR n B ρ st a w) {o:Oper} {x:Operand} (ho:o.op=.nilCheck x) {y:Opd} (hx:q03 x=some y) {v:V} (hp:q0k (.nilc y) st.t=some v):OpOk P B ρ st a w o v []:=by
 have hd:=q0n r hx
 simp only[q0k] at hp
 have run:(∃p,a.eval x=.pointer (some p))∨(∃f vs,a.eval x=.func (.func f) #[] vs)→(execOp a.eval o).run P w=.ok (.value (a.eval x)) w:=by
  rintro(⟨p,hp⟩|⟨f,vs,hp⟩)<;>(unfold execOp;simp[ho,hp])
 revert hp hd
 generalize ev st.t y=q
 intro hp hd
 cases q<;>simp only[reduceCtorEq,zS] at hp
 case pv c k =>
  subst hp
  exact .pure r (run (.inl (qq0 hd))) hd
 case pa c i k =>
  subst hp
  exact .pure r (run (.inl (qpe hd))) hd
 case iptr row k =>
  subst hp
  exact .pure r (run (.inl (qo9 hd))) hd
 case fn f caps =>
  subst hp
  have hd':=hd
  obtain⟨vs,hu,_⟩:=hd'
  exact .pure r (run (.inr ⟨f,_,hu⟩)) hd
theorem qpn (r:RelR n B ρ st a w) {o:Oper} {op:BinOp} {t t':TypeId} {x y:Operand} (ho:o.op=.binOp op t x y t') {x' y':Opd} (hx:q03 x=some x') (hy:q03 y=some y')
 {v:V} (hp:q72 op (ev st.t x') (ev st.t y')=some v):OpOk P B ρ st a w o v []:=by
 obtain⟨u,h1,h2,_⟩:=qqe (P:=P) t op _ _ _ _ hp (q0n r hx) (q0n r hy) (O':=owns B ρ st.h)
 have hg:(eqGuard op t x y (a.eval x) (a.eval y)).run P w=.ok () w:=by
  have hdx:=q0n r hx
  have hdy:=q0n r hy
  revert hp hdx hdy
  generalize ev st.t x'=X
  generalize ev st.t y'=Y
  intro hp hdx hdy
  cases X<;>cases Y<;>simp only[q72,reduceCtorEq] at hp
  case int.int=>rw[q1w hdx,q1w hdy];cases op<;>simp[eqGuard]
  case str.str=>rw[q4w hdx,q4w hdy];cases op<;>simp[eqGuard]
 refine .pure r (u:=u) ?_ h2
 unfold execOp
 simp only[ho,Sem.run_bind,hg,Result.andThen_ok,h1,Sem.run_pure]
theorem qwk (r:RelR n B ρ st a w) {o:Oper} {op:BinOp} {t t':TypeId} {x y:Operand} (ho:o.op=.binOp op t x y t') {x' y':Opd} (hx:q03 x=some x') (hy:q03 y=some y') (hu:P.underlying t=some .bool)
 {ng:Bool} (hop:op=if ng then .neq else .eql) {v:V} (hp:q0k (.beq ng x' y') st.t=some v):OpOk P B ρ st a w o v []:=by
 have hdx:=q0n r hx
 have hdy:=q0n r hy
 simp only[q0k] at hp
 revert hp hdx hdy
 generalize ev st.t x'=X
 generalize ev st.t y'=Y
 intro hp hdx hdy
 cases X<;>cases Y<;>simp only[reduceCtorEq,zS] at hp
 case bool.bool p q =>
  subst hp
  refine .pure r (u:=.bool (ng ^^ (p==q))) ?_ (Imm.bool _)
  unfold execOp
  cases ng<;>simp only[hop,Bool.false_eq_true,if_false,if_true] at ho ⊢
  ·simp[ho,q3g hdx,q3g hdy,eqGuard,run_eql_bool w t p q hu]
  ·simp[ho,q3g hdx,q3g hdy,eqGuard,run_neq_bool w t p q hu]
theorem j14 (r:RelR n B ρ st a w) {o:Oper} {op:BinOp} {t t':TypeId} {x:Operand} (ho:o.op=.binOp op t x (.const .nilIface) t') {x':Opd} (hx:q03 x=some x') {ms:Array (String×TypeId)} (hu:P.underlying t=some (.interface ms))
 {ng:Bool} (hop:op=if ng then .neq else .eql) {v:V} (hp:q0k (.isn ng x') st.t=some v):OpOk P B ρ st a w o v []:=by
 have hdx:=q0n r hx
 simp only[q0k] at hp
 revert hp hdx
 generalize ev st.t x'=X
 intro hp hdx
 cases X<;>simp only[reduceCtorEq,zS] at hp
 case nile =>
  subst hp
  refine .pure r (u:=.bool (!ng)) ?_ (Imm.bool _)
  unfold execOp
  have hg:(eqGuard op t x (.const .nilIface) .nilIface .nilIface).run P w=.ok () w:=by subst hop;cases ng<;>simp[eqGuard]
  have ec:a.eval (.const .nilIface)=.nilIface:=rfl
  have h2:(binOp op t .nilIface .nilIface).run P w=.ok (.bool (!ng)) w:=by subst hop;exact qsp hu ng
  simp only[ho,qfe hdx,ec,Sem.run_bind,hg,Result.andThen_ok,h2,Sem.run_pure]
 case erre =>
  subst hp
  obtain⟨ti,vi,hu'⟩:=qmw hdx
  refine .pure r (u:=.bool ng) ?_ (Imm.bool _)
  unfold execOp
  have hg:(eqGuard op t x (.const .nilIface) (.iface ti vi) .nilIface).run P w=.ok () w:=by subst hop;cases ng<;>simp[eqGuard]
  have ec:a.eval (.const .nilIface)=.nilIface:=rfl
  have h2:(binOp op t (.iface ti vi) .nilIface).run P w=.ok (.bool ng) w:=by subst hop;exact qno hu ng
  simp only[ho,hu',ec,Sem.run_bind,hg,Result.andThen_ok,h2,Sem.run_pure]
theorem ok_un (r:RelR n B ρ st a w) {o:Oper} {op:UnOp} {t:TypeId} {x:Operand} (ho:o.op=.unOp op t x) {y:Opd} (hx:q03 x=some y) {v:V} (hp:q0k (.un op y) st.t=some v):OpOk P B ρ st a w o v []:=by
 have hd:=q0n r hx
 cases op<;>simp only[q0k] at hp
 case not =>
  split at hp
  ·rename_i b hb
   rw[hb] at hd
   cases hp
   refine .pure r (u:=.bool (!b)) ?_ (Imm.bool _)
   unfold execOp
   simp[ho,q3g hd,Op.unary]
  ·cases hp
 case neg =>
  split at hp
  ·rename_i k m hb
   rw[hb] at hd
   cases hp
   refine .pure r (u:=.int k (k.wrap (0 - m))) ?_ (Imm.int _ _)
   unfold execOp
   simp[ho,q1w hd,Op.unary,Op.intArith]
  ·cases hp
 all_goals cases hp
theorem qz5 (r:RelR n B ρ st a w) {o:Oper} {s d:TypeId} {x:Operand} (ho:o.op=.convert s d x) {ks k:IntKind} (hs:P.underlying s=some (.int ks)) (hd:P.underlying d=some (.int k)) {y:Opd} (hx:q03 x=some y)
 {v:V} (hp:q0k (.cvi k y) st.t=some v):OpOk P B ρ st a w o v []:=by
 have hdx:=q0n r hx
 simp only[q0k] at hp
 split at hp
 ·rename_i k' m hb
  rw[hb] at hdx
  cases hp
  refine .pure r (u:=.int k (k.wrap m)) ?_ (Imm.int _ _)
  unfold execOp
  simp[ho,q1w hdx,convert,run_underlying hs,run_underlying hd,Conv.intToInt]
 ·cases hp
theorem quz (r:RelR n B ρ st a w) {o:Oper} {s d:TypeId} {x:Operand} (ho:o.op=.convert s d x) (hs:P.underlying s=some .string) (hd:P.underlying d=some .string) {y:Opd} (hx:q03 x=some y)
 {b:List UInt8} (hb:ev st.t y=.str b):OpOk P B ρ st a w o (.str b) []:=by
 have hdx:=q0n r hx
 rw[hb] at hdx
 refine .pure r (u:=.string (mkStr b)) ?_ (Imm.str _)
 unfold execOp
 simp[ho,q4w hdx,convert,run_underlying hs,run_underlying hd]
theorem qyb (r:RelR n B ρ st a w) {o:Oper} {f:FuncId} {caps:Array Operand} (ho:o.op=.makeFunc (.func f) #[] caps) {ys:List Opd} (hx:caps.toList.mapM q03=some ys) {v:V}
 (hp:q0k (.mkf f ys) st.t=some v):OpOk P B ρ st a w o v []:=by
 simp only[q0k] at hp
 split at hp
 case isFalse=>cases hp
 rename_i hone
 simp only[zS] at hp
 subst hp
 obtain⟨hl,hd⟩:=qbc r hx
 refine .pure r (u:=.func (.func f) #[] (caps.map a.eval)) ?_ ?_
 ·unfold execOp;simp[ho,Instr.makeFunc]
 ·refine⟨caps.toList.map a.eval,by congr 1;apply Array.ext';simp,by simp[hl],λj v x hv hx=>?_⟩
  have h1:=hd j v x hv hx
  simp only[List.getElem?_map,zM] at hv
  obtain⟨y,hy,rfl⟩:=hv
  simp only[List.all_eq_true,Bool.and_eq_true,Bool.not_eq_true'] at hone
  obtain⟨k2,k1⟩:=hone y (List.mem_of_getElem? hy)
  exact(Den1.lo k1).1 (q93 k2 h1)
theorem qw6 (r:RelR n B ρ st a w) {o:Oper} {x:Operand} {k:Nat} (ho:o.op=.extract x k) {y:Opd} (hx:q03 x=some y) {v:V} (hp:q0k (.ext y k) st.t=some v):OpOk P B ρ st a w o v []:=by
 have hdx:=q0n r hx
 simp only[q0k] at hp
 split at hp
 ·rename_i vs hb
  rw[hb] at hdx
  obtain⟨us,hu,hl,hd⟩:=hdx
  have hk:k<us.length:=by rw[hl];exact(List.getElem?_eq_some_iff.1 hp).1
  have h2:=hd k v us[k] hp (zE hk)
  refine .pure r (u:=us[k]) ?_ ?_
  ·unfold execOp
   simp[ho,hu,Instr.extract,hk]
  ·cases v<;>first|exact h2|(cases h2;done)
 ·cases hp
theorem qwz (r:RelR n B ρ st a w) {o:Oper} {x:Operand} {t:TypeId} (ho:o.op=.call { callee:=.builtin .len,args:=#[x],argTypes:=#[t] }) {y:Opd} (hx:q03 x=some y)
 {e:TypeId} (hu:P.underlying t=some (.slice e)) {v:V} (hp:q0k (.len y) st.t=some v):OpOk P B ρ st a w o v []:=by
 have hd:=q0n r hx
 simp only[q0k] at hp
 have key:∃A m cap,a.eval x=.slice A m cap∧v=.int .i64 m:=by
  revert hp hd
  generalize ev st.t y=q
  intro hp hd
  cases q<;>simp only[qtp,reduceCtorEq,zS] at hp
  case nils=>exact⟨_,0,_,q3w hd,by rw[←hp];rfl⟩
  case sl sz rows=>obtain⟨A,cap,hu,_⟩:=qpd hd;exact⟨A,_,cap,hu,hp.symm⟩
  case own c k=>obtain⟨A,cap,hu⟩:=qty hd;exact⟨A,_,cap,hu,hp.symm⟩
  case view c i k=>obtain⟨A,cap,hu⟩:=qmn hd;exact⟨A,_,cap,hu,hp.symm⟩
 obtain⟨A,m,cap,hu',rfl⟩:=key
 refine .pure r (u:=.int .i64 m) ?_ (Imm.int _ _)
 unfold execOp
 simp[ho,hu',resolve,invoke,builtin,Builtin.len_,run_underlying hu,goInt]
theorem qr1 (r:RelR n B ρ st a w) {o:Oper} {x:Operand} {t:TypeId} (ho:o.op=.call { callee:=.builtin .len,args:=#[x],argTypes:=#[t] }) {y:Opd} (hx:q03 x=some y)
 (hu:P.underlying t=some .string) {v:V} (hp:q0k (.lens y) st.t=some v):OpOk P B ρ st a w o v []:=by
 have hd:=q0n r hx
 simp only[q0k] at hp
 revert hp hd
 generalize ev st.t y=q
 intro hp hd
 cases q<;>simp only[qma,reduceCtorEq,zS] at hp
 subst hp
 rename_i s
 refine .pure r (u:=.int .i64 s.length) ?_ (Imm.int _ _)
 unfold execOp
 simp[ho,q4w hd,resolve,invoke,builtin,Builtin.len_,run_underlying hu,goInt,q2a]
theorem ok_mn (r:RelR n B ρ st a w) {o:Oper} {x y:Operand} {ts:Array TypeId} (ho:o.op=.call { callee:=.builtin .min,args:=#[x,y],argTypes:=ts }) {x' y':Opd} (hx:q03 x=some x') (hy:q03 y=some y')
 {v:V} (hp:q0k (.mn x' y') st.t=some v):OpOk P B ρ st a w o v []:=by
 have hdx:=q0n r hx
 have hdy:=q0n r hy
 simp only[q0k] at hp
 revert hp hdx hdy
 generalize ev st.t x'=X
 generalize ev st.t y'=Y
 intro hp hdx hdy
 cases X<;>cases Y<;>simp only[reduceCtorEq] at hp
 case int.int k p k' q =>
  split at hp
  case isFalse=>cases hp
  rename_i hk
  subst hk
  simp only[zS] at hp
  subst hp
  refine .pure r (u:=.int k (min p q)) ?_ (Imm.int _ _)
  unfold execOp
  have:(if q<p then q else p)=min p q:=by omega
  simp[ho,q1w hdx,q1w hdy,resolve,invoke,builtin,Builtin.min_,Builtin.min2,this]
theorem ok_mx (r:RelR n B ρ st a w) {o:Oper} {x y:Operand} {ts:Array TypeId} (ho:o.op=.call { callee:=.builtin .max,args:=#[x,y],argTypes:=ts }) {x' y':Opd} (hx:q03 x=some x') (hy:q03 y=some y')
 {v:V} (hp:q0k (.mx x' y') st.t=some v):OpOk P B ρ st a w o v []:=by
 have hdx:=q0n r hx
 have hdy:=q0n r hy
 simp only[q0k] at hp
 revert hp hdx hdy
 generalize ev st.t x'=X
 generalize ev st.t y'=Y
 intro hp hdx hdy
 cases X<;>cases Y<;>simp only[reduceCtorEq] at hp
 case int.int k p k' q =>
  split at hp
  case isFalse=>cases hp
  rename_i hk
  subst hk
  simp only[zS] at hp
  subst hp
  refine .pure r (u:=.int k (max p q)) ?_ (Imm.int _ _)
  unfold execOp
  have:(if p<q then q else p)=max p q:=by omega
  simp[ho,q1w hdx,q1w hdy,resolve,invoke,builtin,Builtin.max_,Builtin.max2,this]
theorem j27 (r:RelR n B ρ st a w) {o:Oper} {t:TypeId} {x:Operand} {k:Nat} (ho:o.op=.fieldAddr t x k) {fs:Array Field} (hu:P.underlying t=some (.struct fs)) {f:Field} (hf:fs[k]?=some f) {sz:Nat} (hs:q8c P f.type=some sz) (h0:0<sz)
 {y:Opd} (hx:q03 x=some y) {v:V} (hp:q0k (.fad f.offset y) st.t=some v):OpOk P B ρ st a w o v []:=by
 have hd:=q0n r hx
 obtain⟨i,hi,hsz⟩:=Option.map_eq_some_iff.1 hs
 have run:∀A,a.eval x=.pointer (some A)→(execOp a.eval o).run P w=.ok (.value (.pointer (some (A.add f.offset)))) w:=λA hA=>by
  unfold execOp
  have hne:¬i.size=0:=by omega
  simp[ho,hA,Instr.fieldAt,run_underlying hu,hf,Instr.sureAddr,fieldPlace,sizeOf,typeInfo,hi,hne]
 simp only[q0k] at hp
 revert hp hd
 generalize ev st.t y=q
 intro hp hd
 cases q<;>simp only[reduceCtorEq,zS] at hp
 case pv c k' =>
  subst hp
  have hsh:=qq0 hd
  obtain⟨A,hA⟩:=hsh
  refine .pure r (run A hA) ?_
  simp only[Den,Den2,Den1,Den0] at hd ⊢
  split at hd
  ·exact hd.elim
  ·rw[hA] at hd
   injection hd with hd
   injection hd with hd
   subst hd
   rw[Addr.add_mid,Nat.add_assoc]
  ·exact⟨_,rfl⟩
 case pa c i' k' =>
  subst hp
  have hsh:=qpe hd
  obtain⟨A,hA⟩:=hsh
  refine .pure r (run A hA) ?_
  simp only[Den,Den2,Den1,Den0] at hd ⊢
  split at hd
  ·exact hd.elim
  ·obtain⟨hl,hd⟩:=hd
   rw[hA] at hd
   injection hd with hd
   injection hd with hd
   subst hd
   refine⟨hl, ?_⟩
   rw[Addr.add_mid,Nat.add_assoc,Nat.add_assoc]
  ·exact⟨_,rfl⟩
 case iptr row k' =>
  subst hp
  have hd':Imm w (owns B ρ st.h) (.iptr row k') (a.eval x):=hd
  generalize hX:a.eval x=X at hd'
  cases hd' with
  | iptr _ _ blk off cs h1 h2 h3 h4 =>
    refine .pure r (run _ hX) ?_
    rw[Addr.add_mid,Nat.add_assoc]
    exact Imm.iptr row (k'+f.offset) blk off cs h1 h2 h3 h4
theorem qxd (r:RelR n B ρ st a w) {o:Oper} {t:TypeId} {x i:Operand} (ho:o.op=.index t x i) (hu:P.underlying t=some .string) {x' i':Opd} (hx:q03 x=some x') (hi:q03 i=some i')
 {v:V} (hp:q0k (.idx x' i') st.t=some v):OpOk P B ρ st a w o v []:=by
 have hdx:=q0n r hx
 have hdi:=q0n r hi
 simp only[q0k] at hp
 revert hp hdx hdi
 generalize ev st.t x'=X
 generalize ev st.t i'=I
 intro hp hdx hdi
 cases X<;>cases I<;>simp only[reduceCtorEq] at hp
 case str.int s k m =>
  obtain⟨hr,hp⟩:=q04 hp
  simp only[zS] at hp
  subst hp
  have hlt:m.toNat<s.length:=by omega
  refine .pure r (u:=.int .u8 ((s.getD m.toNat 0).toNat:Int)) ?_ (Imm.int _ _)
  unfold execOp
  have hsz:m.toNat<(mkStr s).size:=by rw[q2a];exact hlt
  have hget:(mkStr s)[m.toNat]'hsz=s[m.toNat]:=by
   simp[mkStr];rfl
  have hrun:=run_index_string (P:=P) w t (mkStr s) k m hu
  rw[dif_pos ⟨hr.1,by rw[q2a];exact hr.2⟩] at hrun
  simp only[ho,q4w hdx,q1w hdi,Sem.run_bind,hrun,Result.andThen_ok,Sem.run_pure]
  rw[hget]
  have e:s.getD m.toNat 0=s[m.toNat]:=by rw[List.getD_eq_getElem?_getD,zE hlt];rfl
  rw[e]
theorem qa1 (isS:Bool) (len cap:Nat) {lo hi:Option Operand} {lo' hi':Option Opd} (r:RelR n B ρ st a w) (hlo:qhm q03 lo=some lo') (hhi:qhm q03 hi=some hi') {l u:Int} {m:Nat}
 (hl:loV (lo'.map (ev st.t))=some l) (hu:hiV len (hi'.map (ev st.t))=some u) (h0:0≤l) (h1:l≤u) (h2:u≤m) (hm:m≤cap) (hlen:len≤cap) :
 (Instr.sliceBounds isS len cap (lo.map a.eval) (hi.map a.eval) none).run P w=.ok (l.toNat,u.toNat,cap) w:=by
 have hb:∀(x:Operand) (x':Opd) (k:Int) (y:Nat) code,q03 x=some x'→(∃kd,ev st.t x'=.int kd k)→0≤k→k≤y→(Instr.sliceBound (a.eval x) y code).run P w=.ok k.toNat w:=λx x' k y code hx he h0 h1=>by
  obtain⟨kd,he⟩:=he
  have hd:=q0n r hx
  rw[he] at hd
  simp[Instr.sliceBound,q1w hd,asIntOf,h0,h1]
 have hH:(∃z z',hi=some z∧q03 z=some z'∧∃kd,ev st.t z'=.int kd u)∨(hi=none∧u=len):=by
  cases hi with
  | none =>
    simp only[qhm,zS] at hhi
    subst hhi
    simp only[Option.map_none,hiV,zS] at hu
    exact .inr ⟨rfl,hu.symm⟩
  | some z =>
    simp only[qhm,zM] at hhi
    obtain⟨z',hz,rfl⟩:=hhi
    simp only[Option.map_some] at hu
    refine .inl ⟨z,z',rfl,hz, ?_⟩
    cases he:ev st.t z'<;>rw[he] at hu<;>simp only[hiV,reduceCtorEq,zS] at hu
    subst hu
    exact⟨_,rfl⟩
 have hL:(∃z z',lo=some z∧q03 z=some z'∧∃kd,ev st.t z'=.int kd l)∨(lo=none∧l=0):=by
  cases lo with
  | none =>
    simp only[qhm,zS] at hlo
    subst hlo
    simp only[Option.map_none,loV,zS] at hl
    exact .inr ⟨rfl,hl.symm⟩
  | some z =>
    simp only[qhm,zM] at hlo
    obtain⟨z',hz,rfl⟩:=hlo
    simp only[Option.map_some] at hl
    refine .inl ⟨z,z',rfl,hz, ?_⟩
    cases he:ev st.t z'<;>rw[he] at hl<;>simp only[loV,reduceCtorEq,zS] at hl
    subst hl
    exact⟨_,rfl⟩
 unfold Instr.sliceBounds
 rcases hH with⟨z,z',rfl,hz,hzu⟩|⟨rfl,hue⟩
 ·have e1:=hb z z' u cap (if isS then .sliceAcap else .sliceAlen) hz hzu (by omega) (by omega)
  rcases hL with⟨y,y',rfl,hy,hyl⟩|⟨rfl,rfl⟩
  ·have e2:=hb y y' l u.toNat .sliceB hy hyl h0 (by omega)
   simp[e1,e2]
  ·simp[e1]
 ·have hun:u.toNat=len:=by omega
  rcases hL with⟨y,y',rfl,hy,hyl⟩|⟨rfl,rfl⟩
  ·have e2:=hb y y' l len .sliceB hy hyl h0 (by omega)
   simp[e2,hun]
  ·simp[hun]
theorem qxw (r:RelR n B ρ st a w) {o:Oper} {t:TypeId} {x:Operand} {lo hi:Option Operand} (ho:o.op=.slice t x lo hi none) (hu:P.underlying t=some .string) {x':Opd} (hx:q03 x=some x') {lo' hi':Option Opd}
 (hlo:qhm q03 lo=some lo') (hhi:qhm q03 hi=some hi') {v:V} (hp:q0k (.sls x' lo' hi') st.t=some v):OpOk P B ρ st a w o v []:=by
 have hdx:=q0n r hx
 simp only[q0k] at hp
 revert hp hdx
 generalize ev st.t x'=X
 intro hp hdx
 cases X<;>simp only[reduceCtorEq] at hp
 rename_i s
 split at hp
 case h_2=>cases hp
 rename_i l u hl hu'
 obtain⟨⟨h0,h1,h2⟩,hp⟩:=q04 hp
 simp only[zS] at hp
 subst hp
 refine .pure r (u:=.string (mkStr ((s.take u.toNat).drop l.toNat))) ?_ (Imm.str _)
 have hb:=qa1 (P:=P) false s.length s.length r hlo hhi hl hu' h0 h1 h2 (Nat.le_refl _) (Nat.le_refl _)
 rw[←q2a s] at hb
 unfold execOp
 simp only[ho,Option.map_none,q4w hdx,Instr.sliceAt,Sem.run_bind,run_underlying hu,Result.andThen_ok,Instr.slice]
 simp only[Option.isSome_none,Bool.false_eq_true,if_false,Sem.run_bind,Sem.run_pure,Result.andThen_ok]
 rw[hb]
 simp[qbg]
theorem j1z (r:RelR n B ρ st a w) {o:Oper} {t e:TypeId} {x:Operand} {lo hi:Option Operand} (ho:o.op=.slice t x lo hi none) (hu:P.underlying t=some (.slice e)) {sz:Nat} (hs:q8c P e=some sz) {x':Opd} (hx:q03 x=some x') {lo' hi':Option Opd}
 (hlo:qhm q03 lo=some lo') (hhi:qhm q03 hi=some hi') {v:V} {up:List (Nat×Hs)} {tc:List Nat} (hp:q2s (.slv sz x' lo' hi') o.dst st.t st.h=some (v,up,tc)):OpOk P B ρ st a w o v up:=by
 have hdx:=q0n r hx
 obtain⟨ie,hie,hsz⟩:=Option.map_eq_some_iff.1 hs
 have run:∀A len cap (l u:Int) (m:Nat),a.eval x=.slice A len cap→loV (lo'.map (ev st.t))=some l→hiV len (hi'.map (ev st.t))=some u→0≤l→l≤u→u≤m→m≤cap→len≤cap →
  (execOp a.eval o).run P w=.ok (.value (.slice (if cap=l.toNat then A else A.map (·.add (l.toNat*sz))) (u.toNat - l.toNat) (cap - l.toNat))) w:=λA len cap l u m hA hl hu' h0 h1 h2 h3 h4=>by
  have hb:=qa1 (P:=P) true len cap r hlo hhi hl hu' h0 h1 h2 h3 h4
  unfold execOp
  simp only[ho,Option.map_none,hA,Instr.sliceAt,Sem.run_bind,run_underlying hu,Result.andThen_ok,Instr.slice,hb,Sem.run_pure,sizeOf,typeInfo,run_program,hie,hsz]
 simp only[q2s] at hp
 revert hp hdx
 generalize ev st.t x'=X
 intro hp hdx
 cases X<;>simp only[reduceCtorEq] at hp
 case nils =>
  split at hp
  case h_2=>cases hp
  rename_i l u hl hu'
  obtain⟨⟨rfl,rfl⟩,hp⟩:=q04 hp
  simp only[zS,Prod.mk.injEq] at hp
  obtain⟨rfl,rfl,rfl⟩:=hp
  refine .pure r (run none 0 0 0 0 0 (q3w hdx) hl hu' (by omega) (by omega) (by omega) (by omega) (by omega)) ?_
  exact Imm.esl sz _ _
 case sl s rows =>
  split at hp
  case h_2=>cases hp
  rename_i l u hl hu'
  split at hp
  case isFalse=>cases hp
  rename_i hse
  obtain⟨⟨h0,h1,h2⟩,hp⟩:=q04 hp
  simp only[zS,Prod.mk.injEq] at hp
  obtain⟨rfl,rfl,rfl⟩:=hp
  subst hse
  obtain⟨A,cap,hA,hcap⟩:=qpd hdx
  have hlen:((rows.take u.toNat).drop l.toNat).length=u.toNat - l.toNat:=by
   rw[List.length_drop,List.length_take];omega
  refine .pure r (run A rows.length cap l u rows.length hA hl hu' h0 h1 h2 hcap hcap) ?_
  rw[←hlen]
  by_cases hz:l=u
  ·have hnil:(rows.take u.toNat).drop l.toNat=[]:=List.eq_nil_of_length_eq_zero (by rw[hlen];omega)
   rw[hnil]
   exact Imm.esl _ _ _
  ·have hd':Imm w (owns B ρ st.h) (.sl s rows) (a.eval x):=hdx
   rw[hA] at hd'
   have hpos:0<rows.length:=by omega
   generalize hX:Value.slice A rows.length cap=X at hd'
   cases hd' with
   | esl=>simp at hpos
   | sl _ _ blk off cap' cs k1 k2 k3 k4 k5 k6 k7 =>
     injection hX with hX1 hX2 hX3
     subst hX1;subst hX3
     rw[if_neg (by omega)]
     simp only[Option.map_some,Addr.add_mid]
     refine Imm.sl s _ blk (off+l.toNat*s) (cap - l.toNat) (λi j=>cs (l.toNat+i) j) k1 k2 (by omega) (λrr hrr=>k4 rr (List.mem_of_mem_take (List.mem_of_mem_drop hrr))) (by omega) ?_ ?_
     ·intro i rr j v hr hv
      have hr':rows[l.toNat+i]?=some rr:=by
       rw[List.getElem?_drop] at hr
       rw[List.getElem?_take] at hr
       split at hr
       ·exact hr
       ·cases hr
      have:=k6 _ rr j v hr' hv
      rwa [show off+((l.toNat+i)*s+j)=off+l.toNat*s+(i*s+j) by rw[Nat.add_mul];omega] at this
     ·intro i rr j v hr hv
      have hr':rows[l.toNat+i]?=some rr:=by
       rw[List.getElem?_drop] at hr
       rw[List.getElem?_take] at hr
       split at hr
       ·exact hr
       ·cases hr
      exact k7 _ rr j v hr' hv
 case own c k =>
  cases hc:st.h c<;>rw[hc] at hp<;>simp only[reduceCtorEq] at hp
  rename_i ty s rows
  split at hp
  case h_2=>cases hp
  rename_i l u hl hu'
  split at hp
  case isFalse=>cases hp
  rename_i hse
  obtain⟨⟨h0,h1,h2,h3⟩,hp⟩:=q04 hp
  simp only[zS,Prod.mk.injEq] at hp
  obtain⟨rfl,rfl,rfl⟩:=hp
  subst hse
  have hch:=r.mem.chunk c
  simp only[Den,Den2,Den1,Den0,hc] at hdx
  rw[hc] at hch
  have hkc:k≤(ρ c).cap:=by
   rcases hch with⟨_,hr,_⟩|⟨_,cs,_,_,hcap,_⟩
   ·rw[hr] at h3;simp at h3;omega
   ·omega
  refine⟨_,w,ρ,.inl (run _ k (ρ c).cap l u k hdx hl hu' h0 h1 h2 hkc hkc),Turns.refl r.mem, ?_⟩
  simp only[qiq,Den,Den2,Den1,Den0,hc]
  refine⟨_,_,rfl,by omega,λhpos=>?_,λhnil=>⟨rfl,by omega,by simp only[Loc.addr,hnil,Bool.false_eq_true,if_false,Option.map_some,Addr.add_mid];split<;>rfl⟩⟩
  rcases hch with⟨_,hr,_⟩|⟨hnil,cs,_,_,hcap,_⟩
  ·rw[hr] at h3;simp at h3;omega
  ·refine⟨by omega,hnil, ?_⟩
   rw[if_neg (by omega)]
   simp[Loc.addr,hnil,Addr.add_mid]
end
theorem qga (off:Nat):∀(us:List Value) (k:Nat) (cells:Array Value),off+k+us.length≤cells.size →
 ((us.zipIdx k).foldl (λcs (c:Value×Nat)=>cs.setIfInBounds (off+c.2) c.1) cells).size=cells.size ∧
 ∀m,((us.zipIdx k).foldl (λcs (c:Value×Nat)=>cs.setIfInBounds (off+c.2) c.1) cells)[m]?=if off+k≤m∧m<off+k+us.length then us[m - (off+k)]? else cells[m]?
 | [],k,cells,_=>⟨rfl,λm=>by rw[if_neg (by simp only[zN];omega)];rfl⟩
 | u::us,k,cells,h=>by
   simp only[zC] at h
   obtain⟨h1,h2⟩:=qga off us (k+1) (cells.setIfInBounds (off+k) u) (by simp only[Array.size_setIfInBounds];omega)
   simp only[List.zipIdx_cons,List.foldl_cons,zC]
   refine⟨by rw[h1];simp,λm=>?_⟩
   rw[h2 m]
   by_cases hm:m=off+k
   ·subst hm
    rw[if_neg (by omega),if_pos (by omega),Nat.sub_self]
    have:off+k<cells.size:=by omega
    simp[this]
   ·by_cases hm2:off+(k+1)≤m∧m<off+(k+1)+us.length
    ·rw[if_pos hm2,if_pos (by omega),show m - (off+k)=(m - (off+(k+1)))+1 by omega]
     simp
    ·rw[if_neg hm2,if_neg (by omega),Array.getElem?_setIfInBounds_ne (Ne.symm hm)]
theorem qcm (place:Nat→Option (Nat×Nat)) (cells:Array Value) (i off sz:Nat) (v:Value) (us:List Value) (hp:place i=some (off,sz)) (hc:v.cells=us.toArray) (hl:us.length=sz) (hle:off+sz≤cells.size) (rest:List (Nat×Value)) :
 ∃cells':Array Value,Instr.fill place cells ((i,v)::rest)=Instr.fill place cells' rest∧cells'.size=cells.size ∧
  ∀m,cells'[m]?=if off≤m∧m<off+sz then us[m - off]? else cells[m]?:=by
 obtain⟨h1,h2⟩:=qga off us 0 cells (by omega)
 refine⟨_, ?_,h1,λm=>by have:=h2 m;simpa[hl] using this⟩
 have hsz:v.cells.size=sz:=by rw[hc];simpa using hl
 have hcond:¬(v.cells.size≠sz∨off+v.cells.size>cells.size):=by rw[hsz];omega
 simp only[Instr.fill,hp]
 rw[if_neg (by simpa using hcond)]
 congr 1
 rw[←Array.foldl_toList,Array.toList_zipIdx,hc]
theorem q9c (sz:Nat):∀(us:List (List Value)) (k:Nat) (qs:List (Nat×Value)) (cells:Array Value),qs.length=us.length →
 (∀(j:Nat) q u,qs[j]?=some q→us[j]?=some u→q.1=k+j∧q.2.cells=u.toArray∧u.length=sz)→(k+us.length)*sz≤cells.size →
 ∃cells',Instr.fill (λi=>some (i*sz,sz)) cells qs=some cells'∧cells'.size=cells.size∧(∀m,m<k*sz→cells'[m]?=cells[m]?) ∧
  ∀(j:Nat) u,us[j]?=some u→∀i,i<sz→cells'[(k+j)*sz+i]?=u[i]?
 | [],k,qs,cells,hl,_,_=>by
   have:qs=[]:=List.eq_nil_of_length_eq_zero (by simpa using hl)
   subst this
   exact⟨cells,rfl,rfl,λ_ _=>rfl,λj u h=>by simp at h⟩
 | u::us,k,[],cells,hl,_,_=>by simp at hl
 | u::us,k,(i,v)::qs,cells,hl,hq,hsz=>by
   obtain⟨h1,h2,h3⟩:=hq 0 (i,v) u rfl rfl
   simp only[Nat.add_zero] at h1 h2
   subst h1
   have e1:(i+(us.length+1))*sz=i*sz+sz+us.length*sz:=by rw[Nat.add_mul,Nat.add_mul];omega
   have hle:i*sz+sz≤cells.size:=by simp only[zC] at hsz;omega
   obtain⟨c1,k1,k2,k3⟩:=qcm (λi=>some (i*sz,sz)) cells i (i*sz) sz v u rfl h2 h3 hle qs
   obtain⟨c2,m1,m2,m3,m4⟩:=q9c sz us (i+1) qs c1 (by simpa using hl) (λj q u' hj hu=>by
    have:=hq (j+1) q u' (by simpa using hj) (by simpa using hu)
    rwa [show i+(j+1)=i+1+j by omega] at this) (by rw[k2];simp only[zC] at hsz;rwa [show i+1+us.length=i+(us.length+1) by omega])
   refine⟨c2,k1.trans m1,m2.trans k2,λm hm=>?_,λj u' hu' ii hii=>?_⟩
   ·have e2:(i+1)*sz=i*sz+sz:=by rw[Nat.add_mul];omega
    rw[m3 m (by omega),k3 m,if_neg (by omega)]
   ·cases j with
    | zero =>
      simp only[List.getElem?_cons_zero,zS] at hu'
      subst hu'
      have e2:(i+1)*sz=i*sz+sz:=by rw[Nat.add_mul];omega
      simp only[Nat.add_zero]
      rw[m3 _ (by omega),k3,if_pos (by omega),show i*sz+ii - i*sz=ii by omega]
    | succ j =>
      simp only[List.getElem?_cons_succ] at hu'
      have:=m4 j u' hu' ii hii
      rwa [show i+1+j=i+(j+1) by omega] at this
section
variable {P:Program} {G:Glob} {n:Nat} {B:Base} {ρ:Nat→Loc} {st:St} {a:Act} {w:World}
theorem qfu {O:Nat→Prop} {h:Nat→Hs} (place:Nat→Option (Nat×Nat)):∀(ps:List (Nat×Nat×V)) (qs:List (Nat×Value)) (row row':List V) (cells:Array Value),
 ps.length=qs.length→(∀(j:Nat) p q,ps[j]?=some p→qs[j]?=some q→place q.1=some (p.1,p.2.1)∧Den w O ρ h p.2.2 q.2) →
 cells.size=row.length→(∀(j:Nat) v u,row[j]?=some v→cells[j]?=some u→Den1 w O ρ h v u)→q82 row ps=some row'→(∀p,p∈ps→(q05 p.2.2).all V.one=true) →
 ∃cells',Instr.fill place cells qs=some cells'∧cells'.size=row'.length∧∀(j:Nat) v u,row'[j]?=some v→cells'[j]?=some u→Den1 w O ρ h v u
 | [],qs,row,row',cells,hl,_,hs,hd,hf,_=>by
   have:qs=[]:=List.eq_nil_of_length_eq_zero (by simpa using hl.symm)
   subst this
   simp only[q82,zS] at hf
   subst hf
   exact⟨cells,rfl,hs,hd⟩
 | (off,sz,v)::ps,[],row,row',cells,hl,_,hs,hd,hf,_=>by simp at hl
 | (off,sz,v)::ps,(i,u)::qs,row,row',cells,hl,hp,hs,hd,hf,ho=>by
   simp only[q82] at hf
   split at hf
   case isFalse=>cases hf
   rename_i hc
   obtain⟨hpl,hden⟩:=hp 0 (off,sz,v) (i,u) rfl rfl
   simp only at hpl hden
   obtain⟨us,k1,k2,k3,k4⟩:=q4k (ho (off,sz,v) (by simp)) hden
   simp only at k2
   obtain⟨cells',h1,h2,h3⟩:=qcm place cells i off sz u us hpl k1 (by omega) (by omega) qs
   rw[h1]
   refine qfu place ps qs _ row' cells' (by simpa using hl) (λj p q hj hq=>hp (j+1) p q (by simpa using hj) (by simpa using hq)) ?_ ?_ hf (λp hp=>ho p (by simp[hp]))
   ·rw[h2,hs];simp only[qa9,zA,List.length_take,List.length_drop];omega
   ·intro j x y hx hy
    rw[h3 j] at hy
    unfold qa9 at hx
    by_cases hj:j<off
    ·rw[if_neg (by omega)] at hy
     rw[List.getElem?_append_left (by simp;omega),List.getElem?_append_left (by simp;omega),List.getElem?_take_of_lt hj] at hx
     exact hd j x y hx hy
    ·by_cases hj2:j<off+sz
     ·rw[if_pos (by omega)] at hy
      rw[List.getElem?_append_left (by simp;omega),List.getElem?_append_right (by simp;omega)] at hx
      simp only[List.length_take] at hx
      rw[show min off row.length=off by omega] at hx
      exact k4 _ _ _ hx hy
     ·rw[if_neg (by omega)] at hy
      rw[List.getElem?_append_right (by simp;omega)] at hx
      simp only[zA,List.length_take,List.getElem?_drop] at hx
      rw[show off+(q05 v).length+(j - (min off row.length+(q05 v).length))=j by omega] at hx
      exact hd j x y hx hy
theorem qo2 (r:RelR n B ρ st a w) {o:Oper} {t:TypeId} {parts:Array (Nat×Operand)} (ho:o.op=.build t parts) {zero:List V} (hz:qdi P t=some zero) {io:IOp} (hio:qu6 P t zero parts.toList=some io)
 {v:V} (hp:q0k io st.t=some v):OpOk P B ρ st a w o v []:=by
 obtain⟨i,z,hi,hz0,hm⟩:=q8r hz
 obtain⟨hzl,hzg⟩:=q33 hm
 unfold qu6 at hio
 cases hu:P.underlying t with
 | none=>rw[hu] at hio;cases hio
 | some d =>
   rw[hu] at hio
   cases d<;>simp only[reduceCtorEq] at hio
   rename_i fs
   simp only[Option.bind_eq_bind,zB,zS] at hio
   obtain⟨places,hpl,ps,hps,rfl⟩:=hio
   obtain⟨hpsl,hpsg⟩:=q33 hps
   simp only[q0k] at hp
   split at hp
   case isFalse=>cases hp
   rename_i hone
   simp only[zM] at hp
   obtain⟨row',hf,rfl⟩:=hp
   have hq:∀(j:Nat) p q,(ps.map λp=>(p.1,p.2.1,ev st.t p.2.2))[j]?=some p→((parts.toList.map λp=>(p.1,a.eval p.2)))[j]?=some q →
    (λk=>places.toArray[k]?) q.1=some (p.1,p.2.1)∧Den w (owns B ρ st.h) ρ st.h p.2.2 q.2:=λj p q hj hq=>by
    simp only[List.getElem?_map,zM] at hj hq
    obtain⟨p0,hp0,rfl⟩:=hj
    obtain⟨q0,hq0,rfl⟩:=hq
    have:=hpsg j q0 p0 hq0 hp0
    simp only[zB,zS] at this
    obtain⟨fl,hfl,x,hx,rfl⟩:=this
    exact⟨by simpa using hfl,q0n r hx⟩
   have hzd:∀(j:Nat) v u,zero[j]?=some v→z.cells[j]?=some u→Den1 w (owns B ρ st.h) ρ st.h v u:=λj v u hv hu=>(q5t (hzg j u v (by simpa using hu) hv)).den1
   obtain⟨cells',hfill,hcl,hcd⟩:=qfu (w:=w) (ρ:=ρ) (O:=owns B ρ st.h) (h:=st.h) (λk=>places.toArray[k]?) _ _ zero row' z.cells (by simp[hpsl]) hq (by rw[hzl];simp) hzd hf (λp hp=>by
    simp only[List.mem_map] at hp
    obtain⟨p0,hp0,rfl⟩:=hp
    simp only[List.all_eq_true] at hone
    exact List.all_eq_true.2 (hone p0 hp0))
   refine .pure r (u:=.agg cells') ?_ ⟨cells'.toList,by simp,by simpa using hcl,λj v u hv hu=>hcd j v u hv (by simpa using hu)⟩
   unfold execOp
   have hb:P.built t ((parts.map λ(x:Nat×Operand)=>(x.1,a.eval x.2)).toList)=some cells':=by
    unfold Program.built
    simp only[hi,hu,hz0]
    have:(fs.toList.mapM λf=>(P.info? f.type).map λi=>(f.offset,i.size))=some places:=hpl
    rw[this]
    simp only[Array.toList_map]
    exact hfill
   have hrun:=run_build w t _ cells' hb
   simp only[ho,Sem.run_bind]
   rw[hrun]
   rfl
theorem qsz (h:Nat→Hs) (v:V) (hc:(z0V h v).closed=true):v.one=true:=by
 unfold z0V at hc
 split at hc
 ·rfl
 ·cases v<;>first|rfl|(simp[V.closed] at hc)
theorem qgg (v:V) (hc:v.closed=true):v.one=true:=by
 cases v<;>first|rfl|(simp[V.closed] at hc)
theorem qt7 {w:World} {O:Nat→Prop} {ρ:Nat→Loc} {h:Nat→Hs} (v:V) (u:Value) (hc:(z0V h v).closed=true) (hd:Den1 w O ρ h v u):Imm w O (z0V h v) u:=by
 unfold z0V at hc ⊢
 split at hc
 ·split at hc
  ·rename_i c _ ty sz rows hh
   have hd':u=(ρ c).sl 0:=by simpa[Den1,Den0,hh] using hd
   subst hd'
   exact .esl _ _ _
  ·simp[V.closed] at hc
 ·exact q3n hc hd
theorem qpp (hB:BaseOk G B) (r:RelR n B ρ st a w) {o:Oper} {t:TypeId} {len:Nat} {parts:Array (Nat×Operand)} (ho:o.op=.buildSlice t len parts) {e:TypeId} (he:q3q P t=some e) {sz:Nat} (hs:q8c P e=some sz)
 (hrange:parts.toList.map (·.1)=List.range len) (h0:0<sz) (hbig:len*sz≤16777216) (hz:((P.info? e).bind (·.zero)).isSome=true) {xs:List Opd} (hx:(parts.toList.mapM λp=>q03 p.2)=some xs)
 {c:Nat} (hf:st.h c=.fresh) (g:V→V) (hg1:∀v,(g v).closed=true→v.one=true) (hg2:∀v u,(g v).closed=true→Den1 w (owns B ρ st.h) ρ st.h v u→Imm w (owns B ρ st.h) (g v) u)
 (hxs:xs.all (λx=>decide ((q05 (ev st.t x)).length=sz)&&((q05 (ev st.t x)).map g).all V.closed)=true) :
 OpOk P B ρ st a w o (.own c xs.length) [(c,.arr e sz (xs.map λx=>(q05 (ev st.t x)).map g))]:=by
 obtain⟨ie,hie,hsz⟩:=Option.map_eq_some_iff.1 hs
 rw[hie,Option.bind_some] at hz
 obtain⟨z,hz⟩:=Option.isSome_iff_exists.1 hz
 obtain⟨hxl,hxg⟩:=q33 hx
 have hpl:parts.toList.length=len:=by have:=congrArg List.length hrange;simpa using this
 have hxlen:xs.length=len:=hxl.trans hpl
 have hu:P.underlying t=some (.slice e):=by
  unfold q3q at he
  obtain⟨d,hd,he⟩:=Option.bind_eq_some_iff.1 he
  cases d<;>simp only[reduceCtorEq,zS] at he
  subst he;exact hd
 simp only[List.all_eq_true,Bool.and_eq_true,decide_eq_true_eq] at hxs
 have hone:∀x,x∈xs→(q05 (ev st.t x)).all V.one=true:=λx hx=>by
  have:=(hxs x hx).2
  simp only[List.all_eq_true]
  intro y hy
  exact hg1 y (this (g y) (List.mem_map_of_mem hy))
 have hrow:∀(j:Nat),j<len→∃us:List Value,us.length=sz∧(∀q,(parts.toList)[j]?=some q→(a.eval q.2).cells=us.toArray)∧(∀x∈us,x.oneCell'=true) ∧
  ∀x,xs[j]?=some x→∀(i:Nat) v u,(q05 (ev st.t x))[i]?=some v→us[i]?=some u→Imm w (owns B ρ st.h) (g v) u:=λj hj=>by
  have hj1:j<xs.length:=by omega
  have hj2:j<parts.toList.length:=by omega
  have hx1:xs[j]?=some xs[j]:=zE hj1
  have hx2:parts.toList[j]?=some parts.toList[j]:=zE hj2
  have hm:=List.getElem_mem hj1
  obtain⟨us,k1,k2,k3,k4⟩:=q4k (hone _ hm) (q0n r (hxg j _ _ hx2 hx1))
  refine⟨us,by rw[k2];exact(hxs _ hm).1,λq hq=>?_,k3,λx hx i v u hv hu=>?_⟩
  ·rw[hx2] at hq;cases hq;exact k1
  ·rw[hx1] at hx;cases hx
   have hcl:=(hxs _ hm).2
   exact hg2 v u (hcl (g v) (List.mem_map_of_mem (List.mem_of_getElem? hv))) (k4 i v u hv hu)
 let us:List (List Value):=(List.range len).map λj=>if h:j<len then Classical.choose (hrow j h) else []
 have hus:∀(j:Nat) (h:j<len),us[j]?=some (Classical.choose (hrow j h)):=λj h=>by
  simp only[us,List.getElem?_map,List.getElem?_range h,Option.map_some,dif_pos h]
 have husl:us.length=len:=by simp[us]
 let zc:Array Value:=(Array.range (len*sz)).map λi=>z.cells[i % z.cells.size]!
 obtain⟨cells',hfill,hcs,_,hcells⟩:=q9c sz us 0 (parts.toList.map λq=>(q.1,a.eval q.2)) zc (by simp[husl,hpl]) (λj q u hq huj=>by
  have hj:j<len:=by rw[←husl];exact(List.getElem?_eq_some_iff.1 huj).1
  rw[hus j hj] at huj
  simp only[zS] at huj
  subst huj
  obtain⟨k1,k2,k3,k4⟩:=Classical.choose_spec (hrow j hj)
  simp only[List.getElem?_map,zM] at hq
  obtain⟨q0,hq0,rfl⟩:=hq
  refine⟨?_,k2 q0 hq0,k1⟩
  have h5:(parts.toList.map (·.1))[j]?=some q0.1:=by simp[hq0]
  rw[hrange,List.getElem?_range hj] at h5
  simp only[zS] at h5
  simp only;omega) (by simp[zc,husl])
 have hcsz:cells'.size=len*sz:=by rw[hcs];simp[zc]
 have hrun:(execOp a.eval o).run P w=.ok (.value (.slice (some ⟨w.heap.size,0,none⟩) len len)) (w.alloc (.cells cells' e)):=by
  unfold execOp
  have hbig':¬(2^24<len*ie.size):=by rw[hsz];omega
  by_cases h00:len=0
  ·subst h00
   have hp0:parts.toList=[]:=List.eq_nil_of_length_eq_zero hpl
   have hc0:cells'=#[]:=Array.eq_empty_of_size_eq_zero (by rw[hcsz];simp)
   subst hc0
   have hp0':parts=#[]:=by apply Array.ext';simpa using hp0
   simp[ho,Instr.buildSlice,run_underlying hu,sizeOf,typeInfo,hie,newRow,hp0',Instr.fill,Array.range_zero']
  ·have h01:¬(len*ie.size=0):=by rw[hsz];exact Nat.ne_of_gt (Nat.mul_pos (by omega) h0)
   have hfill':Instr.fill (λi=>some (i*ie.size,ie.size)) ((Array.range (len*ie.size)).map λi=>z.cells[i % z.cells.size]!) (parts.toList.map λ(x:Nat×Operand)=>(x.1,a.eval x.2))=some cells':=by
    rw[hsz];exact hfill
   simp only[ho,Instr.buildSlice,Sem.run_bind,run_underlying hu,Result.andThen_ok,sizeOf,typeInfo,run_program,hie,Sem.run_pure,hbig',if_false,h01,zeroValue,hz,Array.toList_map,gt_iff_lt]
   rw[hfill']
   simp[newRow]
 obtain⟨ρ',ht,hd⟩:=q6y hB r.mem (c:=c) (ty:=e) (sz:=sz) (cap:=len) (k:=len) (rows:=xs.map λx=>(q05 (ev st.t x)).map g) (cs:=cells') (w':=w.alloc (.cells cells' e)) hf
  ⟨rfl,rfl,rfl,by simp,λb hb=>q1k w _ b hb⟩ (blk:=w.heap.size) (Nat.le_refl _) (q1s w _) (by omega) (by simp[hxlen]) (λx hx=>by
    simp only[List.mem_map] at hx
    obtain⟨y,hy,rfl⟩:=hx
    simpa using(hxs y hy).1) (λi x j v hx hv=>by
    simp only[List.getElem?_map,zM] at hx
    obtain⟨y,hy,rfl⟩:=hx
    simp only[List.getElem?_map,zM] at hv
    obtain⟨v,hv,rfl⟩:=hv
    have hi:i<len:=by rw[←hxlen];exact(List.getElem?_eq_some_iff.1 hy).1
    have hj:j<sz:=by rw[←(hxs y (List.mem_of_getElem? hy)).1];exact(List.getElem?_eq_some_iff.1 hv).1
    obtain⟨k1,k2,k3,k4⟩:=Classical.choose_spec (hrow i hi)
    have hc:=hcells i _ (hus i hi) j hj
    rw[zZ] at hc
    have hju:j<(Classical.choose (hrow i hi)).length:=by omega
    exact⟨_,by rw[hc];exact zE hju,k4 y hy j v _ hv (zE hju)⟩)
 exact⟨_,_,ρ',.inl hrun,ht,by rw[hxlen];exact hd⟩
theorem j11 (hB:BaseOk G B) (r:RelR n B ρ st a w) {o:Oper} {t:TypeId} {cap:Operand} (ho:o.op=.makeSlice t (.const (.int .i64 0)) cap) {e:TypeId} (he:q3q P t=some e) {i:TypeInfo} (hi:P.info? e=some i)
 (h0:0<i.size) (hby:i.bytes≤100000) (hz:i.zero.isSome=true) {y:Opd} (hx:q03 cap=some y) {k:IntKind} {m:Int} (hm:ev st.t y=.int k m) (hm0:0≤m) (hm1:m≤2000000) {c:Nat} (hf:st.h c=.fresh) :
 OpOk P B ρ st a w o (.own c 0) [(c,.arr e i.size [])]:=by
 obtain⟨z,hz⟩:=Option.isSome_iff_exists.1 hz
 have hu:P.underlying t=some (.slice e):=by
  unfold q3q at he
  obtain⟨d,hd,he⟩:=Option.bind_eq_some_iff.1 he
  cases d<;>simp only[reduceCtorEq,zS] at he
  subst he;exact hd
 have hd:=q0n r hx
 rw[hm] at hd
 have hb:(i.bytes:Int)*m≤281474976710656:=by
  have h1:(i.bytes:Int)*m≤100000*2000000:=Int.mul_le_mul (by omega) hm1 hm0 (by omega)
  omega
 have hrun:=run_make (P:=P) w t e i z hu hi hz .i64 k 0 m (by omega) hm0 hb (by omega)
 obtain⟨ρ',ht,hdn⟩:=q6y hB r.mem (c:=c) (ty:=e) (sz:=i.size) (cap:=m.toNat) (k:=0) (rows:=[]) (cs:=madeCells z.cells (m.toNat*i.size)) (w':=w.alloc (.cells (madeCells z.cells (m.toNat*i.size)) e)) hf
  ⟨rfl,rfl,rfl,by simp,λb hb=>q1k w _ b hb⟩ (blk:=w.heap.size) (Nat.le_refl _) (q1s w _) (by simp[madeCells]) (by simp) (λx hx=>by simp at hx) (λi x j v hx=>by simp at hx)
 refine⟨_,_,ρ',.inl ?_,ht,hdn⟩
 unfold execOp
 have e0:a.eval (.const (.int .i64 0))=.int .i64 0:=rfl
 simp only[ho,e0,q1w hd,Sem.run_bind,hrun,Result.andThen_ok,Sem.run_pure]
 rfl
theorem j09 (hB:BaseOk G B) (r:RelR n B ρ st a w) {o:Oper} {t:TypeId} {len cap:Operand} (hsame:qr6 len cap=true) (ho:o.op=.makeSlice t len cap) {e:TypeId} (he:q3q P t=some e) {i:TypeInfo} (hi:P.info? e=some i)
 (h0:0<i.size) (hby:i.bytes≤100000) {zero:List V} (hzv:qdi P e=some zero) (hzl:zero.length=i.size) {y:Opd} (hx:q03 len=some y) {k:IntKind} {m:Int} (hm:ev st.t y=.int k m) (hm0:0≤m) (hm1:m≤2000000) {c:Nat} (hf:st.h c=.fresh) :
 OpOk P B ρ st a w o (.own c m.toNat) [(c,.arr e i.size (List.replicate m.toNat zero))]:=by
 obtain rfl:len=cap:=by
  unfold qr6 at hsame
  split at hsame
  ·simp only[decide_eq_true_eq] at hsame;rw[hsame]
  ·cases hsame
 obtain⟨i',z,hi',hz,hmz⟩:=q8r hzv
 rw[hi] at hi'
 cases hi'
 obtain⟨hzl2,hzg⟩:=q33 hmz
 have hzs:z.cells.size=i.size:=by rw[←hzl,hzl2];simp
 have hu:P.underlying t=some (.slice e):=by
  unfold q3q at he
  obtain⟨d,hd,he⟩:=Option.bind_eq_some_iff.1 he
  cases d<;>simp only[reduceCtorEq,zS] at he
  subst he;exact hd
 have hd:=q0n r hx
 rw[hm] at hd
 have hb:(i.bytes:Int)*m≤281474976710656:=by
  have h1:(i.bytes:Int)*m≤100000*2000000:=Int.mul_le_mul (by omega) hm1 hm0 (by omega)
  omega
 have hrun:=run_make (P:=P) w t e i z hu hi hz k k m m hm0 (Int.le_refl _) hb (by omega)
 obtain⟨ρ',ht,hdn⟩:=q6y hB r.mem (c:=c) (ty:=e) (sz:=i.size) (cap:=m.toNat) (k:=m.toNat) (rows:=List.replicate m.toNat zero) (cs:=madeCells z.cells (m.toNat*i.size)) (w':=w.alloc (.cells (madeCells z.cells (m.toNat*i.size)) e)) hf
  ⟨rfl,rfl,rfl,by simp,λb hb=>q1k w _ b hb⟩ (blk:=w.heap.size) (Nat.le_refl _) (q1s w _) (by simp[madeCells]) (by simp) (λx hx=>by rw[(List.mem_replicate.1 hx).2];exact hzl) (λq x j v hx hv=>by
    have hq:q<m.toNat:=by have:=(List.getElem?_eq_some_iff.1 hx).1;simpa using this
    obtain rfl:=(List.mem_replicate.1 (List.mem_of_getElem? hx)).2
    have hj:j<i.size:=by rw[←hzl];exact(List.getElem?_eq_some_iff.1 hv).1
    have hjz:j<z.cells.size:=by omega
    have hju:z.cells.toList[j]?=some z.cells[j]:=by simp[hjz]
    refine⟨z.cells[j], ?_,q5t (hzg j _ _ hju hv)⟩
    have hlt:q*i.size+j<m.toNat*i.size:=by
     have:(q+1)*i.size≤m.toNat*i.size:=Nat.mul_le_mul_right _ hq
     rw[Nat.add_mul,Nat.one_mul] at this
     omega
    have hmod:(q*i.size+j) % z.cells.size=j:=by rw[hzs,Nat.mul_comm,Nat.mul_add_mod,Nat.mod_eq_of_lt hj]
    simp only[madeCells,Array.getElem?_map]
    rw[Array.getElem?_range,if_pos hlt]
    simp only[Option.map_some,hmod]
    rw[getElem!_pos z.cells j hjz])
 refine⟨_,_,ρ',.inl ?_,ht,hdn⟩
 unfold execOp
 simp only[ho,q1w hd,Sem.run_bind,hrun,Result.andThen_ok,Sem.run_pure]
theorem qcj {e:TypeId} (h:quc P e=true):P.underlying e=some (.int .u8)∧q8c P e=some 1:=by
 unfold quc at h
 split at h
 ·rename_i hu;exact⟨hu,by simpa using h⟩
 ·cases h
theorem qsm (w':World) {O:Nat→Prop} (blk:Nat) (cs:Array Value) (cap:Nat) (b:List UInt8) {e:TypeId} {fr:Nat×Nat} (hblk:w'.heap[blk]?=some (.cells cs e fr))
 (hcs:∀(i:Nat) c,b[i]?=some c→cs[i]?=some (.int .u8 (c.toNat:Int))) (hO:¬O blk) (hcap:b.length≤cap) :
 Imm w' O (.sl 1 (b.map λc=>[.int .u8 (c.toNat:Int)])) (.slice (some ⟨blk,0,none⟩) b.length cap):=by
 have hlen:(b.map λc=>[V.int .u8 (c.toNat:Int)]).length=b.length:=by simp
 by_cases hb:b=[]
 ·subst hb
  exact Imm.esl 1 _ _
 ·have hpos:0<b.length:=List.length_pos_iff.2 hb
  have key:∀(i:Nat) rr (j:Nat) v,(b.map λc=>[V.int .u8 (c.toNat:Int)])[i]?=some rr→rr[j]?=some v→∃c,b[i]?=some c∧j=0∧v=.int .u8 (c.toNat:Int):=λi rr j v hr hv=>by
   simp only[List.getElem?_map,zM] at hr
   obtain⟨c,hc,rfl⟩:=hr
   cases j with
   | zero=>simp only[List.getElem?_cons_zero,zS] at hv;exact⟨c,hc,rfl,hv.symm⟩
   | succ j=>simp at hv
  have:=Imm.sl (w:=w') (O:=O) 1 (b.map λc=>[V.int .u8 (c.toNat:Int)]) blk 0 cap (λi _=>.int .u8 ((b.getD i 0).toNat:Int)) hO (q2c hblk) (by simpa using hpos) (λrr hr=>by
   simp only[List.mem_map] at hr
   obtain⟨c,_,rfl⟩:=hr;rfl) (by simpa using hcap) (λi rr j v hr hv=>by
    obtain⟨c,hc,rfl,rfl⟩:=key i rr j v hr hv
    have hgd:b.getD i 0=c:=by rw[List.getD_eq_getElem?_getD,hc];rfl
    simp only[World.cell?,hblk,Option.isSome_none,Bool.false_eq_true,if_false,zZ,Nat.mul_one,Nat.add_zero,hgd]
    exact hcs i c hc) (λi rr j v hr hv=>by
    obtain⟨c,hc,rfl,rfl⟩:=key i rr j v hr hv
    have hgd:b.getD i 0=c:=by rw[List.getD_eq_getElem?_getD,hc];rfl
    rw[hgd]
    exact Imm.int _ _)
  rwa [hlen] at this
theorem j2e (hB:BaseOk G B) (r:RelR n B ρ st a w) {o:Oper} {s d e:TypeId} {x:Operand} (ho:o.op=.convert s d x) (hs:P.underlying s=some .string) (hd:P.underlying d=some (.slice e)) (he:quc P e=true)
 {y:Opd} (hx:q03 x=some y) {b:List UInt8} (hv:ev st.t y=.str b):OpOk P B ρ st a w o (.sl 1 (b.map λc=>[.int .u8 (c.toNat:Int)])) []:=by
 obtain⟨he,_⟩:=qcj he
 have hdx:=q0n r hx
 rw[hv] at hdx
 have hrun:=run_bytes_of_string (P:=P) w s d e (mkStr b) hs hd he
 have hcap:b.length≤grownCap w (mkStr b).size 0 e:=by
  rw[q2a]
  unfold grownCap Question.cut
  exact Nat.le_add_right _ _
 have hcs:∀(i:Nat) c,b[i]?=some c→(bytesRow (mkStr b) (grownCap w (mkStr b).size 0 e))[i]?=some (.int .u8 (c.toNat:Int)):=λi c hc=>by
  have hi:i<b.length:=(List.getElem?_eq_some_iff.1 hc).1
  unfold bytesRow
  rw[Array.getElem?_append_left (by simp[mkStr];exact hi)]
  simp[mkStr,hc]
 rw[q2a] at hrun
 have hbl:=q2a b
 revert hrun hcap hcs
 rw[hbl]
 generalize bytesRow (mkStr b) (grownCap w b.length 0 e)=cs
 generalize grownCap w b.length 0 e=cap
 intro hrun hcap hcs
 have hg:=r.mem.garbage (w':=w.drew.alloc (.cells cs e (cs.size,cs.size+1))) hB rfl rfl rfl (by simp) (λk hk=>q1k _ _ k hk)
 refine⟨_,_,ρ,.inl (by unfold execOp;simp only[ho,q4w hdx,Sem.run_bind,hrun,Result.andThen_ok,Sem.run_pure];rfl),hg, ?_⟩
 simp only[qiq]
 have hO:¬owns B ρ st.h w.heap.size:=λho=>by
  rcases ho with ho|⟨c,h1,h2,h3⟩
  ·have:=r.mem.ext_lt hB _ ho;omega
  ·have:=r.mem.blk_lt h1 h2;omega
 exact qsm _ w.heap.size cs cap b (q1s w.drew _) hcs hO hcap
end
section
variable {P:Program} {G:Glob} {n:Nat} {B:Base} {ρ:Nat→Loc} {h:Nat→Hs} {w w':World}
theorem q7g (b off:Nat) (cs:Array Value) (ty:TypeId) (fr:Nat×Nat) (j:Nat) (u:Value) (hb:w.heap[b]?=some (.cells cs ty fr)) (hu:cs[off+j]?=some u):w.cell? ⟨b,off+j,none⟩=some u:=by
 simp[World.cell?,hb,hu]
theorem qb9 (r:RelH B ρ h w) {v:V} {u:Value} (hd:Den w (owns B ρ h) ρ h v u) {sz:Nat} {rows:List (List V)} {tc:List Nat} (hr:q4a h sz v=some (rows,tc)) :
 ∃A cap,u=.slice A rows.length cap∧rows.length≤cap∧(∀x,x∈rows→x.length=sz)∧(0<rows.length→∃blk off,A=some ⟨blk,off,none⟩∧blk<w.heap.size ∧
  ∀(i:Nat) x (j:Nat) y,rows[i]?=some x→x[j]?=some y→∃z,w.cell? ⟨blk,off+(i*sz+j),none⟩=some z∧Imm w (owns B ρ h) y z):=by
 cases v<;>simp only[q4a,reduceCtorEq] at hr
 case nils =>
  simp only[zS,Prod.mk.injEq] at hr
  obtain⟨rfl,rfl⟩:=hr
  exact⟨none,0,q3w hd,Nat.le_refl _,λx hx=>by simp at hx,λh=>by simp at h⟩
 case sl s rows' =>
  split at hr
  case isFalse=>cases hr
  rename_i hs
  subst hs
  simp only[zS,Prod.mk.injEq] at hr
  obtain⟨rfl,rfl⟩:=hr
  have hd':Imm w (owns B ρ h) (.sl s rows') u:=hd
  cases hd' with
  | esl _ A cap=>exact⟨A,cap,rfl,Nat.zero_le _,λx hx=>by simp at hx,λh=>by simp at h⟩
  | sl _ _ blk off cap cs h1 h2 h3 h4 h5 h6 h7=>exact⟨_,cap,rfl,h5,h4,λ_=>⟨blk,off,rfl,h2,λi x j y hx hy=>⟨_,h6 i x j y hx hy,h7 i x j y hx hy⟩⟩⟩
 case own c k =>
  cases hc:h c<;>rw[hc] at hr<;>simp only[reduceCtorEq] at hr
  rename_i ty s rows'
  split at hr
  case isFalse=>cases hr
  rename_i hs
  subst hs
  obtain⟨hk,hr⟩:=q04 hr
  simp only[zS,Prod.mk.injEq] at hr
  obtain⟨rfl,rfl⟩:=hr
  simp only[Den,Den2,Den1,Den0,hc] at hd
  have hch:=r.chunk c
  rw[hc] at hch
  have hlen:(rows'.take k).length=k:=by rw[List.length_take];omega
  rw[hlen]
  rcases hch with⟨hnil,rfl,hcap⟩|⟨hnil,cs,hh,h3,h4,h5,h6⟩
  ·simp at hk;subst hk
   exact⟨_,_,hd,Nat.zero_le _,λx hx=>by simp at hx,λh=>by omega⟩
  ·refine⟨_,_,hd,by omega,λx hx=>h5 x (List.mem_of_mem_take hx),λhpos=>⟨(ρ c).blk,(ρ c).off,by simp[Loc.addr,hnil],q2c hh,λi x j y hx hy=>?_⟩⟩
   have hx':rows'[i]?=some x:=by
    rw[List.getElem?_take] at hx
    split at hx
    ·exact hx
    ·cases hx
   obtain⟨z,a1,a2⟩:=h6 i x j y hx' hy
   exact⟨z,q7g _ _ cs _ _ _ z hh a1,a2⟩
 case view c o k =>
  cases hc:h c<;>rw[hc] at hr<;>simp only[reduceCtorEq] at hr
  rename_i ty s rows'
  split at hr
  case isFalse=>cases hr
  rename_i hs
  subst hs
  obtain⟨hk,hr⟩:=q04 hr
  simp only[zS,Prod.mk.injEq] at hr
  obtain⟨rfl,rfl⟩:=hr
  simp only[Den,Den2,Den1,Den0,hc] at hd
  obtain⟨A,cap,hu,hcap,hA,_⟩:=hd
  have hch:=r.chunk c
  rw[hc] at hch
  have hlen:((rows'.drop o).take k).length=k:=by rw[List.length_take,List.length_drop];omega
  rw[hlen]
  rcases hch with⟨hnil,rfl,hcap'⟩|⟨hnil,cs,hh,h3,h4,h5,h6⟩
  ·simp at hk
   obtain⟨rfl,rfl⟩:=hk
   exact⟨_,_,hu,Nat.zero_le _,λx hx=>by simp at hx,λh=>by omega⟩
  ·refine⟨_,_,hu,hcap,λx hx=>h5 x (List.mem_of_mem_drop (List.mem_of_mem_take hx)),λhpos=>⟨(ρ c).blk,(ρ c).off+o*s,(hA hpos).2.2,q2c hh,λi x j y hx hy=>?_⟩⟩
   have hx':rows'[o+i]?=some x:=by
    rw[List.getElem?_take] at hx
    split at hx
    ·rwa [List.getElem?_drop] at hx
    ·cases hx
   obtain⟨z,a1,a2⟩:=h6 _ x j y hx' hy
   refine⟨z, ?_,a2⟩
   have:=q7g _ _ cs _ _ _ z hh a1
   rwa [show(ρ c).off+((o+i)*s+j)=(ρ c).off+o*s+(i*s+j) by rw[Nat.add_mul];omega] at this
theorem q5j {rows:List (List V)} {sz blk off:Nat} {O:Nat→Prop} (hl:∀x,x∈rows→x.length=sz)
 (hc:∀(i:Nat) x (j:Nat) y,rows[i]?=some x→x[j]?=some y→∃z,w.cell? ⟨blk,off+(i*sz+j),none⟩=some z∧Imm w O y z) :
 ∃us:List Value,us.length=rows.length*sz∧(∀(j:Nat) u,us[j]?=some u→w.cell? ((⟨blk,off,none⟩:Addr).add j)=some u)∧(∀u,u∈us→u.oneCell'=true) ∧
  ∀(i:Nat) x (j:Nat) y,rows[i]?=some x→x[j]?=some y→∃z,us[i*sz+j]?=some z∧Imm w O y z:=by
 have hex:∀j,∃u,∀i x k y,j=i*sz+k→rows[i]?=some x→x[k]?=some y→w.cell? ⟨blk,off+j,none⟩=some u:=λj=>by
  cases hj:w.cell? ⟨blk,off+j,none⟩ with
  | some u=>exact⟨u,λ_ _ _ _ _ _ _=>rfl⟩
  | none =>
    refine⟨undef,λi x k y hjk hx hy=>?_⟩
    obtain⟨z,hz,_⟩:=hc i x k y hx hy
    subst hjk
    rw[hz] at hj;cases hj
 have place:∀j,j<rows.length*sz→∃x y,rows[j / sz]?=some x∧x[j % sz]?=some y:=λj hj=>by
  have hsz:0<sz:=by
   rcases Nat.eq_zero_or_pos sz with h0|h0
   ·subst h0;simp at hj
   ·exact h0
  have h1:j / sz<rows.length:=Nat.div_lt_of_lt_mul (by rwa [Nat.mul_comm])
  have h2:j % sz<(rows[j / sz]).length:=by rw[hl _ (List.getElem_mem h1)];exact Nat.mod_lt _ hsz
  exact⟨rows[j / sz],rows[j / sz][j % sz],zE h1,zE h2⟩
 have hdm:∀j,j=j / sz*sz+j % sz:=λj=>by rw[Nat.mul_comm];exact(Nat.div_add_mod j sz).symm
 refine⟨(List.range (rows.length*sz)).map λj=>Classical.choose (hex j),by simp,λj u hu=>?_,λu hu=>?_,λi x j y hx hy=>?_⟩
 ·simp only[List.getElem?_map,zM] at hu
  obtain⟨j',hj',rfl⟩:=hu
  have hjl:j<rows.length*sz:=by have:=(List.getElem?_eq_some_iff.1 hj').1;simpa using this
  rw[List.getElem?_range hjl] at hj'
  simp only[zS] at hj'
  subst hj'
  obtain⟨x,y,hx,hy⟩:=place j hjl
  rw[Addr.add_mid]
  exact Classical.choose_spec (hex j) _ x _ y (hdm j) hx hy
 ·simp only[List.mem_map,List.mem_range] at hu
  obtain⟨j,hj,rfl⟩:=hu
  obtain⟨x,y,hx,hy⟩:=place j hj
  have h1:=Classical.choose_spec (hex j) _ x _ y (hdm j) hx hy
  obtain⟨z,hz,hi⟩:=hc _ x _ y hx hy
  rw[←hdm j] at hz
  rw[Option.some.inj (h1.symm.trans hz)];exact hi.one
 ·obtain⟨z,hz,hi⟩:=hc i x j y hx hy
  have hj:j<sz:=by rw[←hl x (List.mem_of_getElem? hx)];exact(List.getElem?_eq_some_iff.1 hy).1
  have hi':i<rows.length:=(List.getElem?_eq_some_iff.1 hx).1
  have hlt:i*sz+j<rows.length*sz:=by
   have:(i+1)*sz≤rows.length*sz:=Nat.mul_le_mul_right sz hi'
   rw[Nat.add_mul,Nat.one_mul] at this;omega
  refine⟨z, ?_,hi⟩
  simp only[List.getElem?_map,List.getElem?_range hlt,Option.map_some,zS]
  have h1:=Classical.choose_spec (hex (i*sz+j)) i x j y rfl hx hy
  exact Option.some.inj (h1.symm.trans hz)
theorem RelH.shift (hB:BaseOk G B) (r:RelH B ρ h w) {c c':Nat} {s:Hs} (hl:(h c).live=true) (hf:h c'=.fresh)
 (hos:w'.os=w.os) (htape:w'.tape=w.tape) (hout:w'.output=w.output) (hsz:w'.heap.size=w.heap.size) (hk:∀b,((ρ c).nil=true∨b≠(ρ c).blk)→w'.heap[b]?=w.heap[b]?)
 (hc:∀O' ρ' h',(∀v u,Imm w (owns B ρ h) v u→Imm w' O' v u)→OwnC w' O' ρ' h' (ρ c) s) :
 Turns B ρ h w (upρ ρ c' (ρ c)) (upH h [(c,.dead),(c',s)]) w':=by
 have hne:c'≠c:=λe=>by rw[e] at hf;rw[hf] at hl;cases hl
 have hst:∀x,HStep (ρ x) (h x) (upρ ρ c' (ρ c) x) (upH h [(c,.dead),(c',s)] x):=λx=>by
  by_cases hx:x=c
  ·subst hx;exact .inr (.inl ⟨λe=>(by rw[e] at hl;cases hl),by simp[upH]⟩)
  ·by_cases hx':x=c'
   ·subst hx';exact .inl hf
   ·simp only[upH,upρ,if_neg hx,if_neg hx'];exact HStep.refl _ _
 have key:∀z,z≠c'→(upH h [(c,.dead),(c',s)] z).live=true→(h z).live=true∧z≠c:=λz hz hzl=>by
  by_cases e:z=c
  ·subst e;simp[upH,Hs.live] at hzl
  ·simp only[upH,if_neg e,if_neg hz] at hzl;exact⟨hzl,e⟩
 refine r.turn hos htape hout (by omega) (λb hb=>?_) hst (r.ext_lt hB) (λx h1 h2=>?_) (λx y hx hy nx ny he=>?_) (λhimm x=>?_)
 ·by_cases hn:(ρ c).nil=true
  ·exact .inl (hk b (.inl hn))
  ·by_cases hb':b=(ρ c).blk
   ·exact .inr ⟨c,hl,by simpa using hn,hb'.symm⟩
   ·exact .inl (hk b (.inr hb'))
 ·by_cases hx:x=c'
  ·subst hx
   simp only[upρ,if_true] at h2 ⊢
   exact .inl ⟨c,hl,h2,rfl⟩
  ·simp only[upρ,if_neg hx] at h2 ⊢
   exact .inl ⟨x,(key x hx h1).1,h2,rfl⟩
 ·by_cases ex:x=c'<;>by_cases ey:y=c'
  ·rw[ex,ey]
  ·exfalso
   subst ex
   simp only[upρ,if_true,if_neg ey] at nx ny he
   exact(key y ey hy).2 (r.sep c y hl (key y ey hy).1 nx ny he).symm
  ·exfalso
   subst ey
   simp only[upρ,if_true,if_neg ex] at nx ny he
   exact(key x ex hx).2 (r.sep x c (key x ex hx).1 hl nx ny he)
  ·simp only[upρ,if_neg ex,if_neg ey] at nx ny he
   exact r.sep x y (key x ex hx).1 (key y ey hy).1 nx ny he
 ·by_cases hx:x=c
  ·subst hx;simp only[upH,if_true];trivial
  ·by_cases hx':x=c'
   ·subst hx'
    simp only[upH,upρ,if_neg hx,if_true]
    exact hc _ _ _ himm
   ·simp only[upH,upρ,if_neg hx,if_neg hx']
    cases hlx:(h x).live
    ·exact OwnC.not_live hlx
    ·exact(r.chunk x).mono himm hst (λhn=>hk _ (by
      by_cases hnc:(ρ c).nil=true
      ·exact .inl hnc
      ·exact .inr λhe=>hx (r.sep x c hlx hl hn (by simpa using hnc) he)))
end
section
variable {P:Program} {G:Glob} {n:Nat} {B:Base} {ρ:Nat→Loc} {st:St} {a:Act} {w:World}
theorem qzi (r:RelR n B ρ st a w) {o:Oper} {s d e:TypeId} {x:Operand} (ho:o.op=.convert s d x) (hs:P.underlying s=some (.slice e)) (hd:P.underlying d=some .string) (he:quc P e=true)
 {y:Opd} (hx:q03 x=some y) {rows:List (List V)} {tc:List Nat} (hr:q4a st.h 1 (ev st.t y)=some (rows,tc)) {b:List UInt8} (hb:q4m rows=some b):OpOk P B ρ st a w o (.str b) []:=by
 obtain⟨he,_⟩:=qcj he
 obtain⟨A,cap,hu,hcap,hl,hA⟩:=qb9 r.mem (q0n r hx) hr
 have hconv:=run_convert_bytes_string (P:=P) w s d e A rows.length cap hs he hd
 have hns:∀(rows:List (List V)) b,q4m rows=some b→∃ns:List Int,rows=ns.map (λm=>[V.int .u8 m])∧b=ns.map λm=>UInt8.ofNat m.toNat:=by
  intro rows
  induction rows with
  | nil=>intro b hb;simp only[q4m,zS] at hb;subst hb;exact⟨[],rfl,rfl⟩
  | cons x rs ih =>
    intro b hb
    unfold q4m at hb
    split at hb
    ·cases ‹_=[]›
    ·rename_i m r' heq
     simp only[List.cons.injEq] at heq
     obtain⟨rfl,rfl⟩:=heq
     obtain⟨b',hb',rfl⟩:=Option.map_eq_some_iff.1 hb
     obtain⟨ns,h1,h2⟩:=ih b' hb'
     exact⟨m::ns,by simp[h1],by simp[h2]⟩
    ·cases hb
 obtain⟨ns,hrn,hbn⟩:=hns rows b hb
 have push:∀(ns:List Int) (acc:List UInt8),ns.foldl (λr m=>r.push (UInt8.ofNat m.toNat)) (mkStr acc)=mkStr (acc++ns.map λm=>UInt8.ofNat m.toNat):=by
  intro ns
  induction ns with
  | nil=>intro acc;simp
  | cons m ns ih =>
    intro acc
    have:(mkStr acc).push (UInt8.ofNat m.toNat)=mkStr (acc++[UInt8.ofNat m.toNat]):=by
     apply ByteArray.ext;simp[mkStr,ByteArray.push]
    simp only[List.foldl_cons,this,ih,List.map_cons,List.append_assoc,List.cons_append,List.nil_append]
 have hrun:(Conv.bytesToString (.slice A rows.length cap)).run P w=.ok (.string (mkStr b)) w:=by
  by_cases hz:rows=[]
  ·subst hz
   have:ns=[]:=by cases ns with|nil=>rfl|cons m ns=>simp at hrn
   subst this
   subst hbn
   cases A with
   | none=>simp[Conv.bytesToString];rfl
   | some A =>
     have:=run_bytesToString (P:=P) w A 0 cap [] (by simp[loadCells,loadCellsFrom])
     exact this
  ·obtain⟨blk,off,rfl,_,hc⟩:=hA (List.length_pos_iff.2 hz)
   have hload:(loadCells ⟨blk,off,none⟩ rows.length).run P w=.ok (ns.map (Value.int .u8)).toArray w:=by
    have h1:=run_loadCells_list (P:=P) w ⟨blk,off,none⟩ (ns.map (Value.int .u8)) (λj v hv=>by
     simp only[List.getElem?_map,zM] at hv
     obtain⟨m,hm,rfl⟩:=hv
     obtain⟨z,h2,h3⟩:=hc j [V.int .u8 m] 0 (.int .u8 m) (by rw[hrn];simp[hm]) rfl
     rw[q5l h3] at h2
     rw[Addr.add_mid]
     simpa using h2)
    rwa [show(ns.map (Value.int .u8)).length=rows.length by rw[hrn];simp] at h1
   have:=run_bytesToString (P:=P) w ⟨blk,off,none⟩ rows.length cap ns hload
   rw[this]
   have h0:ByteArray.empty=mkStr []:=rfl
   rw[h0,push ns [],hbn]
   rfl
 refine .pure r (u:=.string (mkStr b)) ?_ (Imm.str _)
 unfold execOp
 simp only[ho,hu,Sem.run_bind,hconv,hrun,Result.andThen_ok,Sem.run_pure]
theorem q3l {t e:TypeId} (he:q3q P t=some e):P.underlying t=some (.slice e):=by
 unfold q3q at he
 obtain⟨d,hd,he⟩:=Option.bind_eq_some_iff.1 he
 cases d<;>simp only[reduceCtorEq,zS] at he
 subst he;exact hd
theorem j01 (r:RelR n B ρ st a w) {o:Oper} {t e:TypeId} {x i:Operand} (ho:o.op=.indexAddr t x i) (he:q3q P t=some e) {sz:Nat} (hs:q8c P e=some sz) {x' i':Opd} (hx:q03 x=some x') (hi:q03 i=some i')
 {v:V} {up:List (Nat×Hs)} {tc:List Nat} (hp:q2s (.iad sz x' i') o.dst st.t st.h=some (v,up,tc)):OpOk P B ρ st a w o v up:=by
 have hu:=q3l he
 obtain⟨ie,hie,hsz⟩:=Option.map_eq_some_iff.1 hs
 have hdx:=q0n r hx
 have hdi:=q0n r hi
 have run:∀(A:Addr) len cap kd (m:Int),a.eval x=.slice (some A) len cap→a.eval i=.int kd m→0≤m→m<len→(execOp a.eval o).run P w=.ok (.value (.pointer (some (A.add (m.toNat*sz))))) w:=λA len cap kd m hA hI h0 h1=>by
  unfold execOp
  simp[ho,hA,hI,Instr.indexAt,asIntOf,run_underlying hu,h0,h1,sizeOf,typeInfo,hie,hsz]
 simp only[q2s] at hp
 revert hp hdx hdi
 generalize ev st.t x'=X
 generalize ev st.t i'=I
 intro hp hdx hdi
 cases X<;>cases I<;>simp only[reduceCtorEq] at hp
 case sl.int s rows kd m =>
  split at hp
  case isFalse=>cases hp
  rename_i hse
  subst hse
  obtain⟨⟨h0,h1⟩,hp⟩:=q04 hp
  simp only[zS,Prod.mk.injEq] at hp
  obtain⟨rfl,rfl,rfl⟩:=hp
  have hd':Imm w (owns B ρ st.h) (.sl s rows) (a.eval x):=hdx
  generalize hX:a.eval x=X at hd'
  cases hd' with
  | esl=>simp at h1;omega
  | sl _ _ blk off cap cs k1 k2 k3 k4 k5 k6 k7 =>
    have hm:m.toNat<rows.length:=by omega
    have hrow:rows.getD m.toNat []=rows[m.toNat]:=by rw[List.getD_eq_getElem?_getD,zE hm];rfl
    refine .pure r (run _ _ _ _ _ hX (q1w hdi) h0 h1) ?_
    rw[Addr.add_mid,hrow]
    exact Imm.iptr _ 0 blk (off+m.toNat*s) (λj=>cs m.toNat j) k1 k2 (λj v hv=>by
     have:=k6 m.toNat _ j v (zE hm) hv
     rwa [←Nat.add_assoc] at this) (λj v hv=>k7 m.toNat _ j v (zE hm) hv)
 case own.int c k kd m =>
  cases hc:st.h c<;>rw[hc] at hp<;>simp only[reduceCtorEq] at hp
  rename_i ty s rows
  split at hp
  case isFalse=>cases hp
  rename_i hse
  subst hse
  obtain⟨⟨h0,h1,h2⟩,hp⟩:=q04 hp
  simp only[zS,Prod.mk.injEq] at hp
  obtain⟨rfl,rfl,rfl⟩:=hp
  simp only[Den,Den2,Den1,Den0,hc] at hdx
  have hch:=r.mem.chunk c
  rw[hc] at hch
  rcases hch with⟨hnil,rfl,hcap⟩|⟨hnil,cs,hh,h3,h4,h5,h6⟩
  ·simp at h2;omega
  ·have hA:a.eval x=.slice (some ⟨(ρ c).blk,(ρ c).off,none⟩) k (ρ c).cap:=by rw[hdx];simp[Loc.sl,Loc.addr,hnil]
   refine .pure r (run _ _ _ _ _ hA (q1w hdi) h0 h1) ?_
   rw[Addr.add_mid]
   simp only[Den,Den2,Den1,Den0,hc]
   exact⟨by omega,by rw[Nat.add_zero]⟩
 case view.int c off0 k kd m =>
  cases hc:st.h c<;>rw[hc] at hp<;>simp only[reduceCtorEq] at hp
  case var ty row =>
   obtain⟨⟨h0,h1,h2⟩,hp⟩:=q04 hp
   simp only[zS,Prod.mk.injEq] at hp
   obtain⟨rfl,rfl,rfl⟩:=hp
   simp only[Den,Den2,Den1,Den0,hc] at hdx
   refine .pure r (run _ _ _ _ _ hdx.2 (q1w hdi) h0 h1) ?_
   rw[Addr.add_mid]
   simp only[Den,Den2,Den1,Den0,hc]
  rename_i ty s rows
  split at hp
  case isFalse=>cases hp
  rename_i hse
  subst hse
  obtain⟨⟨h0,h1,h2⟩,hp⟩:=q04 hp
  simp only[zS,Prod.mk.injEq] at hp
  obtain⟨rfl,rfl,rfl⟩:=hp
  simp only[Den,Den2,Den1,Den0,hc] at hdx
  obtain⟨A,cap,hA,hcap,hA2,_⟩:=hdx
  obtain⟨_,_,rfl⟩:=hA2 (by omega)
  refine .pure r (run _ _ _ _ _ hA (q1w hdi) h0 h1) ?_
  rw[Addr.add_mid]
  simp only[Den,Den2,Den1,Den0,hc]
  exact⟨by omega,by rw[Nat.add_zero,Nat.add_mul,Nat.add_assoc]⟩
end
section
variable {P:Program} {G:Glob} {n:Nat} {B:Base} {ρ:Nat→Loc} {st:St} {a:Act} {w:World}
theorem qfz {h:Nat→Hs} {c c':Nat} {x y:Hs} (hne:c≠c'):upH (upH h [(c,x)]) [(c',y)]=upH h [(c,x),(c',y)]:=by
 funext k
 simp only[upH]
 by_cases h1:k=c<;>by_cases h2:k=c'<;>simp_all
theorem j2g (hB:BaseOk G B) (r:RelR n B ρ st a w) {o:Oper} {t ty:TypeId} {x y:Operand} (ho:o.op=.call { callee:=.builtin .append,args:=#[x,y],argTypes:=#[t,t] }) {e:TypeId} (he:q3q P t=some e)
 {i:TypeInfo} (hi:P.info? e=some i) {z:Value} (hz:i.zero=some z) (h0:0<i.size) (hzs:z.cells.size=i.size) (hby:i.bytes≤100000) {x' y':Opd} (hx:q03 x=some x') (hy:q03 y=some y') {d:Nat}
 {v:V} {up:List (Nat×Hs)} {tc:List Nat} (hp:qit st.h e i.size d (ev st.t x') (ev st.t y')=some (v,up,tc)):OpOk P B ρ st a w o v up:=by
 have hu:=q3l he
 have hdx:=q0n r hx
 have hdy:=q0n r hy
 revert hp hdx hdy
 generalize ev st.t x'=X
 generalize ev st.t y'=Y
 intro hp hdx hdy
 unfold qit at hp
 cases hr:q4a st.h i.size Y with
 | none=>rw[hr] at hp;cases hp
 | some ry =>
 obtain⟨ys,tcy⟩:=ry
 rw[hr] at hp
 simp only at hp
 have hp0:=q0t hp
 clear hp
 obtain⟨hf,hp⟩:=hp0
 obtain⟨A,cy,huy,hcy,hly,hAy⟩:=qb9 r.mem hdy hr
 have hsrc:∃us:List Value,us.length=ys.length*i.size∧(0<ys.length→∃A0,A=some A0∧∀(j:Nat) u,us[j]?=some u→w.cell? (A0.add j)=some u)∧(∀u,u∈us→u.oneCell'=true) ∧
  ∀(k:Nat) x (j:Nat) y,ys[k]?=some x→x[j]?=some y→∃z,us[k*i.size+j]?=some z∧Imm w (owns B ρ st.h) y z:=by
  by_cases hpos:0<ys.length
  ·obtain⟨blk,off,rfl,_,hc⟩:=hAy hpos
   obtain⟨us,h1,h2,h3,h4⟩:=q5j hly hc
   exact⟨us,h1,λ_=>⟨_,rfl,h2⟩,h3,h4⟩
  ·have:ys=[]:=List.eq_nil_of_length_eq_zero (by omega)
   subst this
   exact⟨[],by simp,λh=>absurd h hpos,λu hu=>by simp at hu,λk x j y hx=>by simp at hx⟩
 obtain⟨us,hul,husrc,huone,hucells⟩:=hsrc
 have exec:∀(X':Value) v' w',a.eval x=X'→(Builtin.append_ #[t,t] o.type #[X',.slice A ys.length cy]).run P w=.ok v' w'→(execOp a.eval o).run P w=.ok (.value v') w':=λX' v' w' hX hr=>by
  unfold execOp
  simp[ho,hX,huy,resolve,invoke,builtin,hr]
 have fresh_row:∀(m:Nat) (olds:List Value) (rows:List (List V)) (h':Nat→Hs),RelH B ρ h' w→(∀v u,Imm w (owns B ρ st.h) v u→Imm w (owns B ρ h') v u)→h' (nm d)=.fresh→rows.length=m→olds.length=m*i.size→(∀x,x∈rows→x.length=i.size) →
  (∀(k:Nat) x (j:Nat) y,rows[k]?=some x→x[j]?=some y→∃z,olds[k*i.size+j]?=some z∧Imm w (owns B ρ st.h) y z) →
  ∀cap,m+ys.length≤cap→∃ρ',Turns B ρ h' w ρ' (upH h' [(nm d,.arr e i.size (rows++ys))]) (w.drew.alloc (.cells (olds.toArray++us.toArray++Builtin.zeroCells z.cells (cap - (m+ys.length))) e)) ∧
   Den (w.drew.alloc (.cells (olds.toArray++us.toArray++Builtin.zeroCells z.cells (cap - (m+ys.length))) e)) (owns B ρ' (upH h' [(nm d,.arr e i.size (rows++ys))])) ρ' (upH h' [(nm d,.arr e i.size (rows++ys))])
    (.own (nm d) (m+ys.length)) (.slice (some ⟨w.heap.size,0,none⟩) (m+ys.length) cap):=λm olds rows h' rh hO hfr hrm hol hrl hrc cap hcap=>by
  have hzc:(Builtin.zeroCells z.cells (cap - (m+ys.length))).size=(cap - (m+ys.length))*i.size:=by simp[Builtin.zeroCells,hzs]
  have hcl:(olds.toArray++us.toArray++Builtin.zeroCells z.cells (cap - (m+ys.length))).size=cap*i.size:=by
   simp only[Array.size_append,List.size_toArray,hzc,hol,hul]
   rw[←Nat.add_mul,←Nat.add_mul]
   congr 1;omega
  refine q6y hB rh (rows:=rows++ys) (w':=w.drew.alloc (.cells (olds.toArray++us.toArray++Builtin.zeroCells z.cells (cap - (m+ys.length))) e)) hfr ⟨rfl,rfl,rfl,by simp,λb hb=>q1k w.drew _ b hb⟩ (blk:=w.heap.size) (Nat.le_refl _) (q1s w.drew _) hcl (by simp;omega)
   (λx hx=>by
     rcases List.mem_append.1 hx with hx|hx
     ·exact hrl x hx
     ·exact hly x hx) (λk x j y hx hy=>?_)
  by_cases hk:k<rows.length
  ·rw[List.getElem?_append_left hk] at hx
   obtain⟨z',h1,h2⟩:=hrc k x j y hx hy
   have hlt:=(List.getElem?_eq_some_iff.1 h1).1
   refine⟨z', ?_,hO _ _ h2⟩
   rw[Array.getElem?_append_left (by simp;omega),Array.getElem?_append_left (by simp;omega)]
   simpa using h1
  ·rw[List.getElem?_append_right (by omega)] at hx
   obtain⟨z',h1,h2⟩:=hucells _ x j y hx hy
   have hlt:=(List.getElem?_eq_some_iff.1 h1).1
   refine⟨z', ?_,hO _ _ h2⟩
   have e1:k*i.size=m*i.size+(k - rows.length)*i.size:=by
    rw[←Nat.add_mul,hrm];congr 1;omega
   rw[Array.getElem?_append_left (by simp;omega),Array.getElem?_append_right (by simp;omega)]
   simp only[List.size_toArray,hol]
   rw[show k*i.size+j - m*i.size=(k - rows.length)*i.size+j by omega]
   simpa using h1
 cases X<;>simp only[reduceCtorEq] at hp
 case nils =>
  obtain⟨hbig,hp⟩:=q04 hp
  simp only[zS,Prod.mk.injEq] at hp
  obtain⟨rfl,rfl,rfl⟩:=hp
  by_cases hpos:0<ys.length
  ·obtain⟨A0,rfl,hcells⟩:=husrc hpos
   have hrun:=run_append_nil (P:=P) (w:=w) t o.type e i z hu hi hz A0 ys.length cy us hul hcells hpos (by omega) (by
    have:ys.length*i.bytes≤2000000*100000:=Nat.mul_le_mul hbig hby
    omega)
   have hgc:ys.length≤grownCap w ys.length 0 e:=by unfold grownCap Question.cut;exact Nat.le_add_right _ _
   obtain⟨ρ',ht,hd⟩:=fresh_row 0 [] [] st.h r.mem (λ_ _ h=>h) hf rfl (by simp) (λx hx=>by simp at hx) (λk x j y hx=>by simp at hx) (grownCap w ys.length 0 e) (by omega)
   simp only[zZ,List.nil_append] at ht hd
   refine⟨_,_,ρ',.inl (exec _ _ _ (q3w hdx) hrun), ?_, ?_⟩
   ·simpa using ht
   ·simpa using hd
  ·have hnil:ys=[]:=List.eq_nil_of_length_eq_zero (by omega)
   subst hnil
   have hus:us=[]:=List.eq_nil_of_length_eq_zero (by simpa using hul)
   have hrun:(Builtin.append_ #[t,t] o.type #[.slice none 0 0,.slice A 0 cy]).run P w=.ok (.slice none 0 0) w:=by
    cases A with
    | none=>simp[Builtin.append_,run_underlying hu,sizeOf,typeInfo,hi,Builtin.lenOf,Builtin.firstCells]
    | some A0=>simp[Builtin.append_,run_underlying hu,sizeOf,typeInfo,hi,Builtin.lenOf,Builtin.firstCells,loadCells,loadCellsFrom]
   have ht:=r.mem.alloc hB (w':=w) (c:=nm d) (s:=.arr e i.size []) (l:=⟨true,0,0,0⟩) rfl rfl rfl (Nat.le_refl _) (λ_ _=>rfl) hf (λh=>by cases h) (λ_ _ _ _ _=>.inl ⟨rfl,rfl,rfl⟩)
   refine⟨_,w,_,.inl (exec _ _ _ (q3w hdx) hrun),ht, ?_⟩
   simp[Den,Den2,Den1,Den0,upH,upρ,Loc.sl,Loc.addr]
 case own c k =>
  cases hc:st.h c<;>rw[hc] at hp<;>simp only[reduceCtorEq] at hp
  rename_i ty' s rows
  split at hp
  case isFalse=>cases hp
  rename_i hs
  obtain⟨rfl,rfl⟩:=hs
  obtain⟨⟨hrk,hbig⟩,hp⟩:=q04 hp
  simp only[zS,Prod.mk.injEq] at hp
  obtain⟨rfl,rfl,rfl⟩:=hp
  simp only[Den,Den2,Den1,Den0,hc] at hdx
  have hch:=r.mem.chunk c
  rw[hc] at hch
  have hne:c≠nm d:=λe=>by rw[e,hf] at hc;cases hc
  by_cases hroom:k+ys.length≤(ρ c).cap
  ·
   rcases hch with⟨hnil,rfl,hcap⟩|⟨hnil,cs,hh,h3,h4,h5,h6⟩
   ·simp at hrk
    subst hrk
    have hys:ys=[]:=List.eq_nil_of_length_eq_zero (by omega)
    subst hys
    have hX:a.eval x=.slice none 0 0:=by rw[hdx];simp[Loc.sl,Loc.addr,hnil,hcap]
    have hrun:(Builtin.append_ #[t,t] o.type #[.slice none 0 0,.slice A 0 cy]).run P w=.ok (.slice none 0 0) w:=by
     cases A with
     | none=>simp[Builtin.append_,run_underlying hu,sizeOf,typeInfo,hi,Builtin.lenOf,Builtin.firstCells]
     | some A0=>simp[Builtin.append_,run_underlying hu,sizeOf,typeInfo,hi,Builtin.lenOf,Builtin.firstCells,loadCells,loadCellsFrom]
    have ht:=r.mem.shift hB (w':=w) (c:=c) (c':=nm d) (s:=.arr ty' i.size ([]++[])) (by rw[hc];rfl) hf rfl rfl rfl rfl (λ_ _=>rfl) (λ_ _ _ _=>.inl ⟨hnil,rfl,hcap⟩)
    refine⟨_,w,_,.inl (exec _ _ _ hX hrun),ht, ?_⟩
    simp[Den,Den2,Den1,Den0,upH,upρ,Loc.sl,Loc.addr,hnil,hcap,Ne.symm hne]
   ·have hX:a.eval x=.slice (some ⟨(ρ c).blk,(ρ c).off,none⟩) k (ρ c).cap:=by rw[hdx];simp[Loc.sl,Loc.addr,hnil]
    have hmul:(k+ys.length)*i.size≤(ρ c).cap*i.size:=Nat.mul_le_mul_right _ hroom
    rw[Nat.add_mul] at hmul
    have hle:(ρ c).off+k*i.size+us.length≤cs.size:=by omega
    have hstore:=run_storeCells_cells (P:=P) (ρ c).blk ((ρ c).off+k*i.size) us 0 w (λj hj=>by
     have:(ρ c).off+k*i.size+j<cs.size:=by omega
     simp[World.cell?,hh,this]) (λj hj=>by simp[World.frozen?,hh]) huone
    have hrun:(Builtin.append_ #[t,t] o.type #[.slice (some ⟨(ρ c).blk,(ρ c).off,none⟩) k (ρ c).cap,.slice A ys.length cy]).run P w=.ok (.slice (some ⟨(ρ c).blk,(ρ c).off,none⟩) (k+ys.length) (ρ c).cap) (w.setCells (ρ c).blk ((ρ c).off+k*i.size) us):=by
     have hfc:(Builtin.firstCells i.size ys.length (.slice A ys.length cy)).run P w=.ok us.toArray w:=by
      by_cases hpos:0<ys.length
      ·obtain⟨A0,rfl,hcells⟩:=husrc hpos
       exact run_firstCells_some (P:=P) w i.size ys.length A0 _ cy us hul hcells
      ·have h00:ys.length=0:=by omega
       have hus:us=[]:=List.eq_nil_of_length_eq_zero (by rw[hul,h00];simp)
       subst hus
       rw[h00]
       cases A with
       | none=>simp[Builtin.firstCells]
       | some A0=>simp[Builtin.firstCells,loadCells,loadCellsFrom]
     simp only[Nat.add_zero] at hstore
     simp[Builtin.append_,run_underlying hu,sizeOf,typeInfo,hi,Builtin.lenOf,hroom,hfc,Addr.add_mid,hstore]
    obtain⟨k1,k2,k3,k4,k5⟩:=q1b (ρ c).blk us ((ρ c).off+k*i.size) w
    obtain⟨cs',m1,m2,m3⟩:=q1a (ρ c).blk ty' (0,0) us ((ρ c).off+k*i.size) w cs hh hle
    have ht:=r.mem.shift hB (w':=w.setCells (ρ c).blk ((ρ c).off+k*i.size) us) (c:=c) (c':=nm d) (s:=.arr ty' i.size (rows++ys)) (by rw[hc];rfl) hf k1 k2 k3 k4 (λb hb=>by
     rcases hb with hb|hb
     ·rw[hnil] at hb;cases hb
     ·exact k5 b hb) (λO' ρ' h' himm=>by
     refine .inr ⟨hnil,cs',m1,by rw[m2];exact h3,by simp;omega,λx hx=>?_,λk' x j y hx hy=>?_⟩
     ·rcases List.mem_append.1 hx with hx|hx
      ·exact h5 x hx
      ·exact hly x hx
     ·rw[m3]
      by_cases hk:k'<rows.length
      ·rw[List.getElem?_append_left hk] at hx
       obtain⟨u,a1,a2⟩:=h6 k' x j y hx hy
       have hj:j<i.size:=by rw[←h5 x (List.mem_of_getElem? hx)];exact(List.getElem?_eq_some_iff.1 hy).1
       have:(k'+1)*i.size≤k*i.size:=Nat.mul_le_mul_right _ (by omega)
       rw[Nat.add_mul,Nat.one_mul] at this
       rw[if_neg (by omega)]
       exact⟨u,a1,himm _ _ a2⟩
      ·rw[List.getElem?_append_right (by omega)] at hx
       obtain⟨z',b1,b2⟩:=hucells _ x j y hx hy
       have hlt:=(List.getElem?_eq_some_iff.1 b1).1
       have e1:k'*i.size=k*i.size+(k' - rows.length)*i.size:=by
        rw[←Nat.add_mul];congr 1;omega
       rw[if_pos (by omega),show(ρ c).off+(k'*i.size+j) - ((ρ c).off+k*i.size)=(k' - rows.length)*i.size+j by omega]
       exact⟨z',b1,himm _ _ b2⟩)
    refine⟨_,_,_,.inl (exec _ _ _ hX hrun),ht, ?_⟩
    simp[Den,Den2,Den1,Den0,upH,upρ,Loc.sl,Loc.addr,hnil,Ne.symm hne]
  ·
   have hdrop:=r.mem.drop hB (c:=c) (by rw[hc];simp)
   have hgc:k+ys.length≤grownCap w (k+ys.length) (ρ c).cap ty':=by unfold grownCap Question.cut;exact Nat.le_add_right _ _
   have hbytes:(k+ys.length)*i.bytes≤2000000*100000:=Nat.mul_le_mul hbig hby
   have hpos:0<ys.length:=by
    have:k≤(ρ c).cap:=by
     rcases hch with⟨_,rfl,_⟩|⟨_,cs,_,_,h4,_⟩
     ·simp at hrk;omega
     ·omega
    omega
   obtain⟨A0,rfl,hcells⟩:=husrc hpos
   have hold:∃olds:List Value,olds.length=k*i.size∧(∀(k':Nat) x (j:Nat) y,rows[k']?=some x→x[j]?=some y→∃z,olds[k'*i.size+j]?=some z∧Imm w (owns B ρ st.h) y z)∧(∀x,x∈rows→x.length=i.size) ∧
    (Builtin.append_ #[t,t] o.type #[(ρ c).sl k,.slice (some A0) ys.length cy]).run P w =
      .ok (.slice (some ⟨w.heap.size,0,none⟩) (k+ys.length) (grownCap w (k+ys.length) (ρ c).cap ty')) (w.drew.alloc (.cells (olds.toArray++us.toArray++Builtin.zeroCells z.cells (grownCap w (k+ys.length) (ρ c).cap ty' - (k+ys.length))) ty')):=by
    rcases hch with⟨hnil,rfl,hcap⟩|⟨hnil,cs,hh,h3,h4,h5,h6⟩
    ·simp at hrk
     subst hrk
     have hrun:=run_append_nil (P:=P) (w:=w) t o.type ty' i z hu hi hz A0 ys.length cy us hul hcells hpos (by omega) (by simp only[zZ] at hbytes;omega)
     refine⟨[],by simp,λk' x j y hx=>by simp at hx,λx hx=>by simp at hx, ?_⟩
     simp only[Loc.sl,Loc.addr,hnil,if_true,hcap,zZ]
     simpa using hrun
    ·obtain⟨olds,b1,b2,b3,b4⟩:=q5j (w:=w) (rows:=rows) (sz:=i.size) (blk:=(ρ c).blk) (off:=(ρ c).off) (O:=owns B ρ st.h) h5 (λi' x j y hx hy=>by
      obtain⟨u,c1,c2⟩:=h6 i' x j y hx hy
      exact⟨u,q7g _ _ cs _ _ _ u hh c1,c2⟩)
     rw[hrk] at b1
     have hrun:=run_append_grow (P:=P) (w:=w) t o.type ty' i z hu hi hz ⟨(ρ c).blk,(ρ c).off,none⟩ k (ρ c).cap olds b1 b2 A0 ys.length cy us hul hcells (by omega) (by omega) (growslice_fits (by omega) (by omega))
     refine⟨olds,b1,b4,h5, ?_⟩
     simp only[Loc.sl,Loc.addr,hnil,Bool.false_eq_true,if_false]
     exact hrun
   obtain⟨olds,d1,d2,d3,hrun⟩:=hold
   obtain⟨ρ',ht,hd⟩:=fresh_row k olds rows (upH st.h [(c,.dead)]) hdrop.rel hdrop.imm (by simp only[upH];rw[if_neg (Ne.symm hne)];exact hf) hrk d1 d3 d2 _ hgc
   rw[qfz hne] at ht hd
   exact⟨_,_,ρ',.inl (exec _ _ _ hdx hrun),hdrop.trans ht,hd⟩
theorem q4h (w:World) (t tx ty e:TypeId) (i:TypeInfo) (ht:P.underlying t=some (.slice e)) (hi:P.info? e=some i) (base:Option Addr) (sLen sCap:Nat) (hle:sLen≤sCap) (x:Value) (hs:Src P i.size tx x 0 [] w) :
 (Builtin.append_ #[t,tx] ty #[.slice base sLen sCap,x]).run P w=.ok (.slice base sLen sCap) w:=by
 rcases hs.kind with⟨e',hk⟩|hk<;>cases base<;>simp[Builtin.append_,run_underlying ht,run_underlying hk,sizeOf,typeInfo,hi,hs.len,hle,hs.cells,storeCells]
theorem qvm (hB:BaseOk G B) (r:RelR n B ρ st a w) {o:Oper} {t u:TypeId} {x y:Operand} (ho:o.op=.call { callee:=.builtin .append,args:=#[x,y],argTypes:=#[t,u] }) {e:TypeId} (he:q3q P t=some e) (hustr:P.underlying u=some .string)
 {i:TypeInfo} (hi:P.info? e=some i) {z:Value} (hz:i.zero=some z) (h1z:i.size=1) (hzs:z.cells.size=i.size) (hby:i.bytes≤100000) {x' y':Opd} (hx:q03 x=some x') (hy:q03 y=some y') {d:Nat}
 {v:V} {up:List (Nat×Hs)} {tc:List Nat} (hp:qqr st.h e d (ev st.t x') (ev st.t y')=some (v,up,tc)):OpOk P B ρ st a w o v up:=by
 have hu:=q3l he
 have hdx:=q0n r hx
 have hdy:=q0n r hy
 revert hp hdx hdy
 generalize ev st.t x'=X
 generalize ev st.t y'=Y
 intro hp hdx hdy
 have h0:0<i.size:=by omega
 cases Y<;>simp only[qqr,reduceCtorEq] at hp
 rename_i s
 have huy:a.eval y=.string (mkStr s):=q5n hdy
 obtain⟨ys,hysd⟩:∃ys,ys=s.map λb=>[V.int .u8 (b.toNat:Int)]:=⟨_,rfl⟩
 rw[←hysd] at hp
 replace hp:qit st.h e i.size d X (.sl i.size ys)=some (v,up,tc):=by rw[h1z];exact hp
 unfold qit at hp
 simp only[q4a,if_true] at hp
 have hp0:=q0t hp
 clear hp
 obtain⟨hf,hp⟩:=hp0
 have hly:∀x,x∈ys→x.length=i.size:=λx hx=>by
  rw[hysd] at hx
  obtain⟨b,_,rfl⟩:=List.mem_map.1 hx
  rw[h1z];rfl
 obtain⟨us,husd⟩:∃us,us=byteCells (mkStr s):=⟨_,rfl⟩
 have husm:us=s.map λb=>Value.int .u8 (b.toNat:Int):=by rw[husd];simp[byteCells,mkStr]
 have hul:us.length=ys.length*i.size:=by rw[husm,hysd,h1z];simp
 have hsrcw:Src P i.size u (.string (mkStr s)) ys.length us w:=by
  have h:=Src.ofString (P:=P) w hustr (mkStr s)
  rw[←husd] at h
  have hz1:(mkStr s).size=ys.length:=by rw[hysd];simp[mkStr,ByteArray.size]
  rw[hz1] at h
  rw[h1z]
  exact h
 have huone:∀u,u∈us→u.oneCell'=true:=hsrcw.one
 have hucells:∀(k:Nat) x (j:Nat) y,ys[k]?=some x→x[j]?=some y→∃z,us[k*i.size+j]?=some z∧Imm w (owns B ρ st.h) y z:=λk x j y hx hy=>by
  rw[hysd,List.getElem?_map] at hx
  cases hb:s[k]? with
  | none=>rw[hb] at hx;cases hx
  | some b =>
    rw[hb] at hx
    cases hx
    match j,hy with
    | 0,hy =>
      cases hy
      exact⟨.int .u8 (b.toNat:Int),by rw[husm,h1z,Nat.mul_one,Nat.add_zero,List.getElem?_map,hb];rfl,Imm.int _ _⟩
    | j+1,hy=>simp at hy
 clear husd husm hysd
 have exec:∀(X':Value) v' w',a.eval x=X'→(Builtin.append_ #[t,u] o.type #[X',.string (mkStr s)]).run P w=.ok v' w'→(execOp a.eval o).run P w=.ok (.value v') w':=λX' v' w' hX hr=>by
  unfold execOp
  simp[ho,hX,huy,resolve,invoke,builtin,hr]
 have fresh_row:∀(m:Nat) (olds:List Value) (rows:List (List V)) (h':Nat→Hs),RelH B ρ h' w→(∀v u,Imm w (owns B ρ st.h) v u→Imm w (owns B ρ h') v u)→h' (nm d)=.fresh→rows.length=m→olds.length=m*i.size→(∀x,x∈rows→x.length=i.size) →
  (∀(k:Nat) x (j:Nat) y,rows[k]?=some x→x[j]?=some y→∃z,olds[k*i.size+j]?=some z∧Imm w (owns B ρ st.h) y z) →
  ∀cap,m+ys.length≤cap→∃ρ',Turns B ρ h' w ρ' (upH h' [(nm d,.arr e i.size (rows++ys))]) (w.drew.alloc (.cells (olds.toArray++us.toArray++Builtin.zeroCells z.cells (cap - (m+ys.length))) e)) ∧
   Den (w.drew.alloc (.cells (olds.toArray++us.toArray++Builtin.zeroCells z.cells (cap - (m+ys.length))) e)) (owns B ρ' (upH h' [(nm d,.arr e i.size (rows++ys))])) ρ' (upH h' [(nm d,.arr e i.size (rows++ys))])
    (.own (nm d) (m+ys.length)) (.slice (some ⟨w.heap.size,0,none⟩) (m+ys.length) cap):=λm olds rows h' rh hO hfr hrm hol hrl hrc cap hcap=>by
  have hzc:(Builtin.zeroCells z.cells (cap - (m+ys.length))).size=(cap - (m+ys.length))*i.size:=by simp[Builtin.zeroCells,hzs]
  have hcl:(olds.toArray++us.toArray++Builtin.zeroCells z.cells (cap - (m+ys.length))).size=cap*i.size:=by
   simp only[Array.size_append,List.size_toArray,hzc,hol,hul]
   rw[←Nat.add_mul,←Nat.add_mul]
   congr 1;omega
  refine q6y hB rh (rows:=rows++ys) (w':=w.drew.alloc (.cells (olds.toArray++us.toArray++Builtin.zeroCells z.cells (cap - (m+ys.length))) e)) hfr ⟨rfl,rfl,rfl,by simp,λb hb=>q1k w.drew _ b hb⟩ (blk:=w.heap.size) (Nat.le_refl _) (q1s w.drew _) hcl (by simp;omega)
   (λx hx=>by
     rcases List.mem_append.1 hx with hx|hx
     ·exact hrl x hx
     ·exact hly x hx) (λk x j y hx hy=>?_)
  by_cases hk:k<rows.length
  ·rw[List.getElem?_append_left hk] at hx
   obtain⟨z',h1,h2⟩:=hrc k x j y hx hy
   have hlt:=(List.getElem?_eq_some_iff.1 h1).1
   refine⟨z', ?_,hO _ _ h2⟩
   rw[Array.getElem?_append_left (by simp;omega),Array.getElem?_append_left (by simp;omega)]
   simpa using h1
  ·rw[List.getElem?_append_right (by omega)] at hx
   obtain⟨z',h1,h2⟩:=hucells _ x j y hx hy
   have hlt:=(List.getElem?_eq_some_iff.1 h1).1
   refine⟨z', ?_,hO _ _ h2⟩
   have e1:k*i.size=m*i.size+(k - rows.length)*i.size:=by
    rw[←Nat.add_mul,hrm];congr 1;omega
   rw[Array.getElem?_append_left (by simp;omega),Array.getElem?_append_right (by simp;omega)]
   simp only[List.size_toArray,hol]
   rw[show k*i.size+j - m*i.size=(k - rows.length)*i.size+j by omega]
   simpa using h1
 cases X<;>simp only[reduceCtorEq] at hp
 case nils =>
  obtain⟨hbig,hp⟩:=q04 hp
  simp only[zS,Prod.mk.injEq] at hp
  obtain⟨rfl,rfl,rfl⟩:=hp
  by_cases hpos:0<ys.length
  ·have hrun:=run_append_grow_src (P:=P) w t u o.type e i z hu hi hz none 0 0 [] (run_firstCells_none w.drew i.size 0 0 0) (.string (mkStr s)) ys.length us hsrcw (by omega) (by omega) (growslice_fits (by omega) (by
    have:ys.length*i.bytes≤2000000*100000:=Nat.mul_le_mul hbig hby
    rw[zZ]
    omega))
   simp only[zZ,List.nil_append] at hrun
   have hgc:ys.length≤grownCap w ys.length 0 e:=by unfold grownCap Question.cut;exact Nat.le_add_right _ _
   obtain⟨ρ',ht,hd⟩:=fresh_row 0 [] [] st.h r.mem (λ_ _ h=>h) hf rfl (by simp) (λx hx=>by simp at hx) (λk x j y hx=>by simp at hx) (grownCap w ys.length 0 e) (by omega)
   simp only[zZ,List.nil_append] at ht hd
   refine⟨_,_,ρ',.inl (exec _ _ _ (q3w hdx) hrun), ?_, ?_⟩
   ·simpa using ht
   ·simpa using hd
  ·have hnil:ys=[]:=List.eq_nil_of_length_eq_zero (by omega)
   subst hnil
   have hus:us=[]:=List.eq_nil_of_length_eq_zero (by simpa using hul)
   have hrun:(Builtin.append_ #[t,u] o.type #[.slice none 0 0,.string (mkStr s)]).run P w=.ok (.slice none 0 0) w :=
    q4h w t u o.type _ i hu hi none 0 0 (Nat.le_refl _) _ (by have hus0:us=[]:=List.eq_nil_of_length_eq_zero (by simpa using hul);rw[hus0] at hsrcw;exact hsrcw)
   have ht:=r.mem.alloc hB (w':=w) (c:=nm d) (s:=.arr e i.size []) (l:=⟨true,0,0,0⟩) rfl rfl rfl (Nat.le_refl _) (λ_ _=>rfl) hf (λh=>by cases h) (λ_ _ _ _ _=>.inl ⟨rfl,rfl,rfl⟩)
   refine⟨_,w,_,.inl (exec _ _ _ (q3w hdx) hrun),ht, ?_⟩
   simp[Den,Den2,Den1,Den0,upH,upρ,Loc.sl,Loc.addr]
 case own c k =>
  cases hc:st.h c<;>rw[hc] at hp<;>simp only[reduceCtorEq] at hp
  rename_i ty' s rows
  split at hp
  case isFalse=>cases hp
  rename_i hs
  obtain⟨rfl,rfl⟩:=hs
  obtain⟨⟨hrk,hbig⟩,hp⟩:=q04 hp
  simp only[zS,Prod.mk.injEq] at hp
  obtain⟨rfl,rfl,rfl⟩:=hp
  simp only[Den,Den2,Den1,Den0,hc] at hdx
  have hch:=r.mem.chunk c
  rw[hc] at hch
  have hne:c≠nm d:=λe=>by rw[e,hf] at hc;cases hc
  by_cases hroom:k+ys.length≤(ρ c).cap
  ·
   rcases hch with⟨hnil,rfl,hcap⟩|⟨hnil,cs,hh,h3,h4,h5,h6⟩
   ·simp at hrk
    subst hrk
    have hys:ys=[]:=List.eq_nil_of_length_eq_zero (by omega)
    subst hys
    have hX:a.eval x=.slice none 0 0:=by rw[hdx];simp[Loc.sl,Loc.addr,hnil,hcap]
    have hrun:(Builtin.append_ #[t,u] o.type #[.slice none 0 0,.string (mkStr s)]).run P w=.ok (.slice none 0 0) w :=
     q4h w t u o.type _ i hu hi none 0 0 (Nat.le_refl _) _ (by have hus0:us=[]:=List.eq_nil_of_length_eq_zero (by simpa using hul);rw[hus0] at hsrcw;exact hsrcw)
    have ht:=r.mem.shift hB (w':=w) (c:=c) (c':=nm d) (s:=.arr ty' i.size ([]++[])) (by rw[hc];rfl) hf rfl rfl rfl rfl (λ_ _=>rfl) (λ_ _ _ _=>.inl ⟨hnil,rfl,hcap⟩)
    refine⟨_,w,_,.inl (exec _ _ _ hX hrun),ht, ?_⟩
    simp[Den,Den2,Den1,Den0,upH,upρ,Loc.sl,Loc.addr,hnil,hcap,Ne.symm hne]
   ·have hX:a.eval x=.slice (some ⟨(ρ c).blk,(ρ c).off,none⟩) k (ρ c).cap:=by rw[hdx];simp[Loc.sl,Loc.addr,hnil]
    have hmul:(k+ys.length)*i.size≤(ρ c).cap*i.size:=Nat.mul_le_mul_right _ hroom
    rw[Nat.add_mul] at hmul
    have hle:(ρ c).off+k*i.size+us.length≤cs.size:=by omega
    have hrun:=run_append_room_src (P:=P) w t u o.type ty' i hu hi (ρ c).blk (ρ c).off k (ρ c).cap (.string (mkStr s)) ys.length us hsrcw hroom (λj hj=>by
     have:(ρ c).off+k*i.size+j<cs.size:=by omega
     simp[World.cell?,hh,this]) (λj hj=>by simp[World.frozen?,hh])
    obtain⟨k1,k2,k3,k4,k5⟩:=q1b (ρ c).blk us ((ρ c).off+k*i.size) w
    obtain⟨cs',m1,m2,m3⟩:=q1a (ρ c).blk ty' (0,0) us ((ρ c).off+k*i.size) w cs hh hle
    have ht:=r.mem.shift hB (w':=w.setCells (ρ c).blk ((ρ c).off+k*i.size) us) (c:=c) (c':=nm d) (s:=.arr ty' i.size (rows++ys)) (by rw[hc];rfl) hf k1 k2 k3 k4 (λb hb=>by
     rcases hb with hb|hb
     ·rw[hnil] at hb;cases hb
     ·exact k5 b hb) (λO' ρ' h' himm=>by
     refine .inr ⟨hnil,cs',m1,by rw[m2];exact h3,by simp;omega,λx hx=>?_,λk' x j y hx hy=>?_⟩
     ·rcases List.mem_append.1 hx with hx|hx
      ·exact h5 x hx
      ·exact hly x hx
     ·rw[m3]
      by_cases hk:k'<rows.length
      ·rw[List.getElem?_append_left hk] at hx
       obtain⟨u,a1,a2⟩:=h6 k' x j y hx hy
       have hj:j<i.size:=by rw[←h5 x (List.mem_of_getElem? hx)];exact(List.getElem?_eq_some_iff.1 hy).1
       have:(k'+1)*i.size≤k*i.size:=Nat.mul_le_mul_right _ (by omega)
       rw[Nat.add_mul,Nat.one_mul] at this
       rw[if_neg (by omega)]
       exact⟨u,a1,himm _ _ a2⟩
      ·rw[List.getElem?_append_right (by omega)] at hx
       obtain⟨z',b1,b2⟩:=hucells _ x j y hx hy
       have hlt:=(List.getElem?_eq_some_iff.1 b1).1
       have e1:k'*i.size=k*i.size+(k' - rows.length)*i.size:=by
        rw[←Nat.add_mul];congr 1;omega
       rw[if_pos (by omega),show(ρ c).off+(k'*i.size+j) - ((ρ c).off+k*i.size)=(k' - rows.length)*i.size+j by omega]
       exact⟨z',b1,himm _ _ b2⟩)
    refine⟨_,_,_,.inl (exec _ _ _ hX hrun),ht, ?_⟩
    simp[Den,Den2,Den1,Den0,upH,upρ,Loc.sl,Loc.addr,hnil,Ne.symm hne]
  ·
   have hdrop:=r.mem.drop hB (c:=c) (by rw[hc];simp)
   have hgc:k+ys.length≤grownCap w (k+ys.length) (ρ c).cap ty':=by unfold grownCap Question.cut;exact Nat.le_add_right _ _
   have hbytes:(k+ys.length)*i.bytes≤2000000*100000:=Nat.mul_le_mul hbig hby
   have hpos:0<ys.length:=by
    have:k≤(ρ c).cap:=by
     rcases hch with⟨_,rfl,_⟩|⟨_,cs,_,_,h4,_⟩
     ·simp at hrk;omega
     ·omega
    omega
   have hold:∃olds:List Value,olds.length=k*i.size∧(∀(k':Nat) x (j:Nat) y,rows[k']?=some x→x[j]?=some y→∃z,olds[k'*i.size+j]?=some z∧Imm w (owns B ρ st.h) y z)∧(∀x,x∈rows→x.length=i.size) ∧
    (Builtin.append_ #[t,u] o.type #[(ρ c).sl k,.string (mkStr s)]).run P w =
      .ok (.slice (some ⟨w.heap.size,0,none⟩) (k+ys.length) (grownCap w (k+ys.length) (ρ c).cap ty')) (w.drew.alloc (.cells (olds.toArray++us.toArray++Builtin.zeroCells z.cells (grownCap w (k+ys.length) (ρ c).cap ty' - (k+ys.length))) ty')):=by
    rcases hch with⟨hnil,rfl,hcap⟩|⟨hnil,cs,hh,h3,h4,h5,h6⟩
    ·simp at hrk
     subst hrk
     have hrun:=run_append_grow_src (P:=P) w t u o.type ty' i z hu hi hz none 0 0 [] (run_firstCells_none w.drew i.size 0 0 0) (.string (mkStr s)) ys.length us hsrcw (by omega) (by omega) (growslice_fits (by omega) (by simp only[zZ] at hbytes ⊢;omega))
     refine⟨[],by simp,λk' x j y hx=>by simp at hx,λx hx=>by simp at hx, ?_⟩
     simp only[Loc.sl,Loc.addr,hnil,if_true,hcap,zZ]
     simpa using hrun
    ·obtain⟨olds,b1,b2,b3,b4⟩:=q5j (w:=w) (rows:=rows) (sz:=i.size) (blk:=(ρ c).blk) (off:=(ρ c).off) (O:=owns B ρ st.h) h5 (λi' x j y hx hy=>by
      obtain⟨u,c1,c2⟩:=h6 i' x j y hx hy
      exact⟨u,q7g _ _ cs _ _ _ u hh c1,c2⟩)
     rw[hrk] at b1
     have hrun:=run_append_grow_src (P:=P) w t u o.type ty' i z hu hi hz (some ⟨(ρ c).blk,(ρ c).off,none⟩) k (ρ c).cap olds (run_firstCells_some w.drew i.size k ⟨(ρ c).blk,(ρ c).off,none⟩ k (ρ c).cap olds b1 (by simpa using b2)) (.string (mkStr s)) ys.length us hsrcw (by omega) (by omega) (growslice_fits (by omega) (by omega))
     rw[show(olds++us).toArray=olds.toArray++us.toArray by simp] at hrun
     refine⟨olds,b1,b4,h5, ?_⟩
     simp only[Loc.sl,Loc.addr,hnil,Bool.false_eq_true,if_false]
     exact hrun
   obtain⟨olds,d1,d2,d3,hrun⟩:=hold
   obtain⟨ρ',ht,hd⟩:=fresh_row k olds rows (upH st.h [(c,.dead)]) hdrop.rel hdrop.imm (by simp only[upH];rw[if_neg (Ne.symm hne)];exact hf) hrk d1 d3 d2 _ hgc
   rw[qfz hne] at ht hd
   exact⟨_,_,ρ',.inl (exec _ _ _ hdx hrun),hdrop.trans ht,hd⟩
end
def hdEq:Kd→V→V→Option Bool
 | .i,.int k a,.int k' b=>if k=k' then some (decide (a=b)) else none
 | .b,.bool a,.bool b=>some (a==b)
 | .s,.str a,.str b=>some (decide (a=b))
 | _,_,_=>none
theorem qg1 (k:Kd) (ks:List Kd) (x y:V) (xs ys:List V):eqR (k::ks) (x::xs) (y::ys)=(hdEq k x y).bind λb=>(eqR ks xs ys).map (b&&·):=by
 cases k<;>cases x<;>cases y<;>first|rfl|(simp only[eqR,hdEq];split<;>rfl)
theorem qkj {k:Kd} {ks:List Kd} {xs ys:List V} {r:Bool} (h:eqR (k::ks) xs ys=some r):∃x xs' y ys' b r',xs=x::xs'∧ys=y::ys'∧hdEq k x y=some b∧eqR ks xs' ys'=some r'∧r=(b&&r'):=by
 cases xs with
 | nil=>cases k<;>cases ys<;>simp[eqR] at h
 | cons x xs =>
   cases ys with
   | nil=>cases k<;>cases x<;>simp[eqR] at h
   | cons y ys =>
     rw[qg1] at h
     obtain⟨b,hb,h⟩:=Option.bind_eq_some_iff.1 h
     obtain⟨r',hr,rfl⟩:=Option.map_eq_some_iff.1 h
     exact⟨x,xs,y,ys,b,r',rfl,rfl,hb,hr,rfl⟩
theorem q9u:∀(k1 k2:List Kd) (xs ys:List V) (r:Bool),eqR (k1++k2) xs ys=some r →
 ∃r1 r2,eqR k1 (xs.take k1.length) (ys.take k1.length)=some r1∧eqR k2 (xs.drop k1.length) (ys.drop k1.length)=some r2∧r=(r1&&r2)
 | [],k2,xs,ys,r,h=>⟨true,r,by simp[eqR],by simpa using h,by simp⟩
 | k::k1,k2,xs,ys,r,h=>by
   obtain⟨x,xs',y,ys',b,r',rfl,rfl,hb,hr,rfl⟩:=qkj h
   obtain⟨r1,r2,h2,h3,rfl⟩:=q9u k1 k2 xs' ys' r' hr
   exact⟨b&&r1,r2,by simp[qg1,hb,h2],by simpa using h3,by simp[Bool.and_assoc]⟩
theorem q5o:∀(ks:List Kd) (xs ys:List V) (r:Bool),eqR ks xs ys=some r→xs.length=ks.length∧ys.length=ks.length
 | [],xs,ys,r,h=>by cases xs<;>cases ys<;>simp_all[eqR]
 | k::ks,xs,ys,r,h=>by
   obtain⟨x,xs',y,ys',b,r',rfl,rfl,hb,hr,rfl⟩:=qkj h
   obtain⟨a1,a2⟩:=q5o ks xs' ys' r' hr
   exact⟨by simp[a1],by simp[a2]⟩
section
variable {P:Program} {w:World} {O:Nat→Prop} {ρ:Nat→Loc} {h:Nat→Hs}
def q8u (P:Program) (t:TypeId) (us:List Value):Value:=match P.underlying t with
 | some (.struct _)=>.agg us.toArray
 | _=>us.headD undef
theorem qf8 (t:TypeId) (us:List Value) (off k:Nat) (hs:q8c P t=some k) (hle:off+k≤us.length) (hk:(∃fs,P.underlying t=some (.struct fs))∨(k=1∧∃d,P.underlying t=some d∧(match d with|.struct _|.array _ _=>true|_=>false)=false)) :
 (part t us.toArray off).run P w=.ok (q8u P t ((us.drop off).take k)) w:=by
 obtain⟨i,hi,hsz⟩:=Option.map_eq_some_iff.1 hs
 rcases hk with⟨fs,hu⟩|⟨rfl,d,hu,hd⟩
 ·have hagg:(isAgg t).run P w=.ok true w:=by unfold isAgg;rw[Sem.run_bind,run_underlying hu w];rfl
  simp[part,hagg,sizeOf,typeInfo,hi,hsz,q8u,hu,List.extract_eq_take_drop]
 ·have hagg:(isAgg t).run P w=.ok false w:=by
   unfold isAgg;rw[Sem.run_bind,run_underlying hu w]
   cases d<;>simp_all
  have hlt:off<us.length:=by omega
  have hp:q8u P t ((us.drop off).take 1)=us[off]:=by
   unfold q8u
   rw[hu]
   rw[List.drop_eq_getElem_cons hlt]
   cases d<;>first|rfl|(simp at hd)
  rw[hp]
  simp[part,hagg,hlt]
theorem qhl:∀(n:Nat) (t:TypeId) (ks:List Kd),q5i P n t=some ks→q8c P t=some ks.length∧((∃fs,P.underlying t=some (.struct fs))∨(ks.length=1∧∃d,P.underlying t=some d∧(match d with|.struct _|.array _ _=>true|_=>false)=false))
 | 0,t,ks,h=>by simp[q5i] at h
 | n+1,t,ks,h=>by
   unfold q5i at h
   split at h
   ·rename_i hu;split at h<;>simp only[reduceCtorEq,zS] at h;subst h;exact⟨‹_›,.inr ⟨rfl,_,hu,rfl⟩⟩
   ·rename_i hu;split at h<;>simp only[reduceCtorEq,zS] at h;subst h;exact⟨‹_›,.inr ⟨rfl,_,hu,rfl⟩⟩
   ·rename_i hu;split at h<;>simp only[reduceCtorEq,zS] at h;subst h;exact⟨‹_›,.inr ⟨rfl,_,hu,rfl⟩⟩
   ·rename_i fs hu
    split at h
    ·obtain⟨ks',_,h⟩:=Option.bind_eq_some_iff.1 h
     split at h<;>simp only[reduceCtorEq,zS] at h
     subst h
     exact⟨‹_›,.inl ⟨fs,hu⟩⟩
    ·cases h
   ·cases h
theorem qeu:∀(n:Nat) (t:TypeId) (ks:List Kd),q5i P n t=some ks→∀(d:Nat),n≤d→∀(xs ys:List V) (us vs:List Value) (r:Bool),us.length=xs.length→vs.length=ys.length →
 (∀(j:Nat) x u,xs[j]?=some x→us[j]?=some u→Den1 w O ρ h x u)→(∀(j:Nat) x u,ys[j]?=some x→vs[j]?=some u→Den1 w O ρ h x u)→eqR ks xs ys=some r →
 (Op.equalIn d t (q8u P t us) (q8u P t vs)).run P w=.ok r w
 | 0,t,ks,hk,_,_,_,_,_,_,_,_,_,_,_,_=>by simp[q5i] at hk
 | n+1,t,ks,hk,0,hnd,_,_,_,_,_,_,_,_,_,_=>by omega
 | n+1,t,ks,hk,d+1,hnd,xs,ys,us,vs,r,hu,hv,hdu,hdv,he=>by
   unfold q5i at hk
   have one:∀(kd:Kd),ks=[kd]→∃x y u v,xs=[x]∧ys=[y]∧us=[u]∧vs=[v]∧Den1 w O ρ h x u∧Den1 w O ρ h y v:=λkd hks=>by
    subst hks
    obtain⟨l1,l2⟩:=q5o _ _ _ _ he
    simp only[zC,zN] at l1 l2
    obtain⟨x,rfl⟩:=List.length_eq_one_iff.1 l1
    obtain⟨y,rfl⟩:=List.length_eq_one_iff.1 l2
    obtain⟨u,rfl⟩:=List.length_eq_one_iff.1 hu
    obtain⟨v,rfl⟩:=List.length_eq_one_iff.1 hv
    exact⟨x,y,u,v,rfl,rfl,rfl,rfl,hdu 0 x u rfl rfl,hdv 0 y v rfl rfl⟩
   split at hk
   ·rename_i k hut
    split at hk<;>simp only[reduceCtorEq,zS] at hk
    subst hk
    obtain⟨x,y,u,v,rfl,rfl,rfl,rfl,h1,h2⟩:=one _ rfl
    cases x<;>cases y<;>simp only[eqR,reduceCtorEq] at he
    split at he
    case isFalse=>cases he
    rename_i hkk
    subst hkk
    simp only[Option.map_some,Bool.and_true,zS] at he
    subst he
    have e1:=q5l h1
    have e2:=q5l h2
    subst e1;subst e2
    simp only[q8u,hut,List.headD_cons]
    rename_i k1 m1 m2
    have:(m1==m2)=decide (m1=m2):=by by_cases e:m1=m2<;>simp[e]
    simp[Op.equalIn,run_underlying hut,this]
   ·rename_i hut
    split at hk<;>simp only[reduceCtorEq,zS] at hk
    subst hk
    obtain⟨x,y,u,v,rfl,rfl,rfl,rfl,h1,h2⟩:=one _ rfl
    cases x<;>cases y<;>simp only[eqR,reduceCtorEq] at he
    simp only[Option.map_some,Bool.and_true,zS] at he
    subst he
    have e1:=q6s h1
    have e2:=q6s h2
    subst e1;subst e2
    simp only[q8u,hut,List.headD_cons]
    rw[run_equalIn_bool' w d t _ _ hut]
   ·rename_i hut
    split at hk<;>simp only[reduceCtorEq,zS] at hk
    subst hk
    obtain⟨x,y,u,v,rfl,rfl,rfl,rfl,h1,h2⟩:=one _ rfl
    cases x<;>cases y<;>simp only[eqR,reduceCtorEq] at he
    simp only[Option.map_some,Bool.and_true,zS] at he
    subst he
    have e1:=q5n h1
    have e2:=q5n h2
    subst e1;subst e2
    simp only[q8u,hut,List.headD_cons]
    rw[run_equalIn_string w d t _ _ hut,q3y,q3y]
    rename_i s1 s2
    have:(s1==s2)=decide (s1=s2):=by by_cases e:s1=s2<;>simp[e]
    rw[this]
   ·rename_i fs hut
    split at hk
    case isFalse=>cases hk
    rename_i hst
    obtain⟨ks',hkl,hk⟩:=Option.bind_eq_some_iff.1 hk
    split at hk<;>simp only[reduceCtorEq,zS] at hk
    subst hk
    have hfs:P.fieldsOf t=fs:=by simp[Program.fieldsOf,hut]
    simp only[q8u,hut]
    rw[run_equalIn_struct w d t _ _ (by rw[hfs];exact hut) hst,hfs]
    have key:∀(l:List Field) (acc:List Kd) (rest:List Kd) (r:Bool),q7o (q5i P n) l acc=some ks'→ks'=acc++rest→eqR rest (xs.drop acc.length) (ys.drop acc.length)=some r →
     (Op.eqFields d us.toArray vs.toArray l).run P w=.ok r w:=by
     intro l
     induction l with
     | nil =>
       intro acc rest r hl hks hr
       simp only[q7o,zS] at hl
       subst hl
       have:rest=[]:=by simpa using hks
       subst this
       have hr':r=true:=by
        generalize xs.drop acc.length=p at hr
        generalize ys.drop acc.length=q at hr
        cases p<;>cases q<;>simp[eqR] at hr
        exact hr
       subst hr'
       rfl
     | cons f l ih =>
       intro acc rest r hl hks hr
       simp only[q7o] at hl
       split at hl
       case isFalse=>cases hl
       rename_i hnm
       obtain⟨kf,hkf,hl⟩:=Option.bind_eq_some_iff.1 hl
       have hpre:∀(l:List Field) (acc:List Kd),q7o (q5i P n) l acc=some ks'→∃t,ks'=acc++t:=by
        intro l
        induction l with
        | nil=>intro acc h;simp only[q7o,zS] at h;exact⟨[],by simp[h]⟩
        | cons f l ih =>
          intro acc h
          simp only[q7o] at h
          split at h
          case isFalse=>cases h
          obtain⟨k,_,h⟩:=Option.bind_eq_some_iff.1 h
          obtain⟨t,ht⟩:=ih _ h
          exact⟨k++t,by rw[ht];simp⟩
       obtain⟨t',ht'⟩:=hpre l _ hl
       have hrest:rest=kf++t':=by
        rw[hks,List.append_assoc] at ht'
        exact List.append_cancel_left ht'
       subst hrest
       obtain⟨r1,r2,h1,h2,rfl⟩:=q9u kf t' _ _ _ hr
       obtain⟨ksz,kform⟩:=qhl n f.type kf hkf
       obtain⟨lx,ly⟩:=q5o _ _ _ _ hr
       simp only[List.length_drop,zA] at lx ly
       have hkl2:=congrArg List.length hks
       simp only[zA] at hkl2
       obtain⟨tx,ty⟩:=q5o _ _ _ _ he
       have pu:=qf8 (P:=P) (w:=w) f.type us acc.length kf.length ksz (by omega) (by
        rcases kform with k|k
        ·exact .inl k
        ·exact .inr k)
       have pv:=qf8 (P:=P) (w:=w) f.type vs acc.length kf.length ksz (by omega) (by
        rcases kform with k|k
        ·exact .inl k
        ·exact .inr k)
       have take_drop:∀ {α:Type} (l:List α) (j:Nat) x,((l.drop acc.length).take kf.length)[j]?=some x→l[acc.length+j]?=some x:=λl j x hx=>by
        rw[List.getElem?_take] at hx
        split at hx
        ·rwa [List.getElem?_drop] at hx
        ·cases hx
       have heq:=qeu n f.type kf hkf d (by omega) _ _ ((us.drop acc.length).take kf.length) ((vs.drop acc.length).take kf.length) r1 (by simp only[List.length_take,List.length_drop];omega) (by simp only[List.length_take,List.length_drop];omega)
        (λj x u hx hu=>hdu _ x u (take_drop _ j x hx) (take_drop _ j u hu)) (λj x u hx hu=>hdv _ x u (take_drop _ j x hx) (take_drop _ j u hu)) h1
       have hih:=ih (acc++kf) t' r2 hl (by rw[ht']) (by simpa[List.drop_drop] using h2)
       simp only[Op.eqFields]
       rw[if_pos hnm.1]
       simp only[Sem.run_bind,hnm.2,pu,pv,Result.andThen_ok,heq]
       cases r1
       ·simp
       ·simp[hih]
    exact key fs.toList [] ks' r hkl (by simp) (by simpa using he)
   ·cases hk
end
section
variable {P:Program} {G:Glob} {n:Nat} {B:Base} {ρ:Nat→Loc} {st:St} {a:Act} {w:World}
theorem qvq (r:RelR n B ρ st a w) {o:Oper} {op:BinOp} {t t':TypeId} {x y:Operand} (ho:o.op=.binOp op t x y t') {x' y':Opd} (hx:q03 x=some x') (hy:q03 y=some y') {fs:Array Field} (hu:P.underlying t=some (.struct fs))
 (hg:P.eqGuardType P.depth t=false) {ks:List Kd} (hk:q5i P 6 t=some ks) {ng:Bool} (hop:op=if ng then .neq else .eql) {v:V} (hp:q0k (.eqs ng ks x' y') st.t=some v):OpOk P B ρ st a w o v []:=by
 have hdx:=q0n r hx
 have hdy:=q0n r hy
 simp only[q0k] at hp
 revert hp hdx hdy
 generalize ev st.t x'=X
 generalize ev st.t y'=Y
 intro hp hdx hdy
 cases X<;>cases Y<;>simp only[reduceCtorEq] at hp
 rename_i xs ys
 obtain⟨b,hb,rfl⟩:=Option.map_eq_some_iff.1 hp
 obtain⟨us,hux,hlx,hdx⟩:=hdx
 obtain⟨vs,hvy,hly,hdy⟩:=hdy
 have heq:=qeu (w:=w) 6 t ks hk 10000 (by omega) xs ys us vs b hlx hly hdx hdy hb
 simp only[q8u,hu] at heq
 refine .pure r (u:=.bool (ng ^^ b)) ?_ (Imm.bool _)
 unfold execOp
 have hgd:=run_eqGuard_agg (P:=P) w op t x y us.toArray vs.toArray hg
 simp only[ho,hux,hvy,Sem.run_bind,hgd,Result.andThen_ok]
 subst hop
 cases ng
 ·simp only[Bool.false_eq_true,if_false]
  rw[run_eql_struct,heq]
  simp
 ·simp only[if_true]
  rw[run_neq_struct,heq]
  simp
end
section
variable {P:Program} {G:Glob} {n:Nat} {B:Base} {ρ:Nat→Loc} {st:St} {a:Act} {w:World}
theorem q1i {o:Oper} {io:IOp} {v:V} {up:List (Nat×Hs)} {tc:List Nat} (he:q2s io o.dst st.t st.h=some (v,up,tc))
 (h:q0k io st.t=some v→OpOk P B ρ st a w o v []) (hq:q2s io o.dst st.t st.h=(q0k io st.t).map λv=>(v,([]:List (Nat×Hs)),([]:List Nat)):=by rfl):OpOk P B ρ st a w o v up:=by
 rw[hq] at he
 obtain⟨h1,rfl,rfl⟩:=qf3 (d:=none) (h:=st.h) he
 exact h h1
theorem q87 {op:BinOp} {f:Bool→IOp} {io:IOp} (h:eqD op f=some io):∃ng,op=(if ng then .neq else .eql)∧io=f ng:=by
 cases op<;>simp only[eqD,zS,reduceCtorEq] at h
 ·exact⟨false,rfl,h.symm⟩
 ·exact⟨true,rfl,h.symm⟩
theorem qh6 {t:TypeId} (h:qqk P t=true):P.underlying t=some .string:=by
 unfold qqk at h
 split at h
 ·assumption
 ·cases h
theorem q71 {α:Type} {x y:Array α} (h:x.toList=y.toList):x=y:=Array.toList_inj.1 h
theorem qgi {x:Operand} (h:qmt x=true):x=.const (.int .i64 0):=by
 unfold qmt at h
 split at h
 ·simp only[decide_eq_true_eq] at h;subst h;rfl
 ·cases h
theorem qg3 (hB:BaseOk G B) (r:RelR n B ρ st a w) {o:Oper} {io:IOp} (hd:qe5 P o=some io) {v:V} {up:List (Nat×Hs)} {tc:List Nat} (he:q2s io o.dst st.t st.h=some (v,up,tc)):OpOk P B ρ st a w o v up:=by
 unfold qe5 at hd
 split at hd
 ·rename_i c ho
  obtain⟨callee,args,ts⟩:=c
  unfold qbx at hd
  simp only at hd
  split at hd
  ·rename_i b
   unfold qye at hd
   split at hd
   ·rename_i x t hargs hts
    obtain rfl:=q71 (y:=#[x]) hargs
    obtain rfl:=q71 (y:=#[t]) hts
    simp only[Option.bind_eq_bind,zB] at hd
    obtain⟨y,hy,hd⟩:=hd
    unfold qud at hd
    split at hd
    ·rename_i hu
     simp only[zS] at hd;subst hd
     exact q1i he λhp=>qr1 r ho hy hu hp
    ·rename_i e hu
     simp only[zS] at hd;subst hd
     exact q1i he λhp=>qwz r ho hy hu hp
    ·cases hd
   ·rename_i x y hargs
    obtain rfl:=q71 (y:=#[x,y]) hargs
    simp only[Option.bind_eq_bind,zB,zS] at hd
    obtain⟨x',hx,y',hy,rfl⟩:=hd
    exact q1i he λhp=>ok_mn r ho hx hy hp
   ·rename_i x y hargs
    obtain rfl:=q71 (y:=#[x,y]) hargs
    simp only[Option.bind_eq_bind,zB,zS] at hd
    obtain⟨x',hx,y',hy,rfl⟩:=hd
    exact q1i he λhp=>ok_mx r ho hx hy hp
   ·rename_i x y t u hargs hts
    obtain rfl:=q71 (y:=#[x,y]) hargs
    obtain rfl:=q71 (y:=#[t,u]) hts
    unfold qv3 at hd
    split at hd
    case isFalse =>
     split at hd
     ·rename_i hu
      simp only[Option.bind_eq_bind,zB] at hd
      obtain⟨e,hel,i,hi,z,hz,hd⟩:=hd
      split at hd
      case isFalse=>cases hd
      rename_i hc
      obtain⟨h1,h2,h3⟩:=hc
      simp only[Option.bind_eq_bind,zB,zS] at hd
      obtain⟨x',hx,y',hy,rfl⟩:=hd
      simp only[q2s] at he
      cases hds:o.dst with
      | none=>rw[hds] at he;cases he
      | some d =>
        rw[hds] at he
        exact qvm hB r (t:=t) (u:=u) ho hel hu hi hz h1 h2 h3 hx hy he
     ·cases hd
    rename_i htu
    subst htu
    simp only[Option.bind_eq_bind,zB] at hd
    obtain⟨e,hel,i,hi,z,hz,hd⟩:=hd
    split at hd
    case isFalse=>cases hd
    rename_i hc
    obtain⟨h1,h2,h3⟩:=hc
    simp only[Option.bind_eq_bind,zB,zS] at hd
    obtain⟨x',hx,y',hy,rfl⟩:=hd
    simp only[q2s] at he
    cases hds:o.dst with
    | none=>rw[hds] at he;cases he
    | some d =>
      rw[hds] at he
      exact j2g hB r (ty:=t) ho hel hi hz h1 h2 h3 hx hy he
   ·cases hd
  ·split at hd
   case isFalse=>cases hd
   simp only[Option.bind_eq_bind,zB,zS] at hd
   obtain⟨ys,_,rfl⟩:=hd
   simp[q2s,q0k] at he
  ·simp only[Option.bind_eq_bind,zB,zS] at hd
   obtain⟨ys,_,rfl⟩:=hd
   simp[q2s,q0k] at he
  ·cases hd
 rename_i hop0
 obtain⟨io',hd2,hnc⟩:=Option.bind_eq_some_iff.1 hd
 clear hd
 have hd:=hd2
 clear hd2
 obtain rfl:io'=io:=by
  cases hc:io'.isCall<;>rw[hc] at hnc<;>simp at hnc
  exact hnc
 clear hnc
 unfold digO at hd
 split at hd
 ·
  rename_i x ho
  obtain⟨y,hy,rfl⟩:=Option.map_eq_some_iff.1 hd
  exact q1i he λhp=>by
   simp only[q0k,zS] at hp;subst hp
   exact qjs r (.inl ho) hy
 ·rename_i x ho
  obtain⟨y,hy,rfl⟩:=Option.map_eq_some_iff.1 hd
  exact q1i he λhp=>by
   simp only[q0k,zS] at hp;subst hp
   exact qjs r (.inr ho) hy
 ·rename_i c x y ho
  simp only[Option.bind_eq_bind,zB,zS] at hd
  obtain⟨c',hc,x',hx,y',hy,rfl⟩:=hd
  exact q1i he λhp=>by
   simp only[q0k] at hp
   split at hp
   ·rename_i b hb
    simp only[zS] at hp;subst hp
    exact qtn r ho hc hx hy hb
   ·cases hp
 ·rename_i e ho
  simp only[Option.bind_eq_bind,zB,zS] at hd
  obtain⟨z,hz,rfl⟩:=hd
  simp only[q2s] at he
  cases hds:o.dst with
  | none=>rw[hds] at he;cases he
  | some d =>
    rw[hds] at he
    obtain⟨hf,he⟩:=q0t he
    simp only[zS,Prod.mk.injEq] at he
    obtain⟨rfl,rfl,rfl⟩:=he
    exact qnz hB r ho hz hf
 ·rename_i e x ho
  simp only[Option.bind_eq_bind,zB,zS] at hd
  obtain⟨y,hy,rfl⟩:=hd
  simp only[q2s] at he
  cases hds:o.dst with
  | none=>rw[hds] at he;cases he
  | some d =>
    rw[hds] at he
    obtain⟨hf,he⟩:=q0t he
    split at he
    case isFalse=>cases he
    rename_i h1
    simp only[zS,Prod.mk.injEq] at he
    obtain⟨rfl,rfl,rfl⟩:=he
    exact qxx hB r ho hy hf h1
 ·rename_i t parts ho
  simp only[Option.bind_eq_bind,zB] at hd
  obtain⟨z,hz,hio⟩:=hd
  have hio2:=hio
  unfold qu6 at hio
  cases hu:P.underlying t with
  | none=>rw[hu] at hio;cases hio
  | some d =>
    rw[hu] at hio
    cases d<;>simp only[reduceCtorEq] at hio
    simp only[Option.bind_eq_bind,zB,zS] at hio
    obtain⟨places,_,ps,_,rfl⟩:=hio
    exact q1i he λhp=>qo2 r ho hz hio2 hp
 ·rename_i t len parts ho
  simp only[Option.bind_eq_bind,zB] at hd
  obtain⟨e,hel,sz,hs,hd⟩:=hd
  split at hd
  case isFalse=>cases hd
  rename_i hc
  obtain⟨h1,h2,h3,h4⟩:=hc
  simp only[Option.bind_eq_bind,zB,zS] at hd
  obtain⟨xs,hxs,rfl⟩:=hd
  simp only[q2s] at he
  cases hds:o.dst with
  | none=>rw[hds] at he;cases he
  | some d =>
    rw[hds] at he
    obtain⟨hf,he⟩:=q0t he
    split at he
    case isTrue h5 =>
     simp only[zS,Prod.mk.injEq] at he
     obtain⟨rfl,rfl,rfl⟩:=he
     have:=qpp hB r ho hel hs h1 h2 h3 h4 hxs hf id qgg (λv u hc hd=>q3n hc hd) (by simpa using h5)
     simpa using this
    case isFalse =>
     split at he
     case isFalse=>cases he
     rename_i h5
     simp only[zS,Prod.mk.injEq] at he
     obtain⟨rfl,rfl,rfl⟩:=he
     exact qpp hB r ho hel hs h1 h2 h3 h4 hxs hf (z0V st.h) (qsz st.h) (λv u hc hd=>qt7 v u hc hd) h5
 ·rename_i t x ho
  simp only[Option.bind_eq_bind,zB,zS] at hd
  obtain⟨sz,hs,ag,ha,y,hy,rfl⟩:=hd
  simp only[q2s] at he
  obtain⟨⟨v0,tc0⟩,hl,he⟩:=Option.map_eq_some_iff.1 he
  simp only[Prod.mk.injEq] at he
  obtain⟨rfl,rfl,rfl⟩:=he
  exact ok_ld r ho hy hs ha hl
 ·rename_i t x y ho
  simp only[Option.bind_eq_bind,zB,zS] at hd
  obtain⟨sz,hs,x',hx,y',hy,rfl⟩:=hd
  simp only[q2s] at he
  obtain⟨⟨up0,tc0⟩,hl,he⟩:=Option.map_eq_some_iff.1 he
  simp only[Prod.mk.injEq] at he
  obtain⟨rfl,rfl,rfl⟩:=he
  exact j0q hB r ho hx hy hs hl
 ·rename_i x ho
  simp only[Option.bind_eq_bind,zB,zS] at hd
  obtain⟨y,hy,rfl⟩:=hd
  exact q1i he λhp=>qta r ho hy hp
 ·rename_i op t x y t' ho
  simp only[Option.bind_eq_bind,zB] at hd
  obtain⟨x',hx,y',hy,hd⟩:=hd
  unfold binD at hd
  split at hd
  ·simp only[zS] at hd;subst hd
   exact q1i he λhp=>qpn r ho hx hy hp
  ·simp only[zS] at hd;subst hd
   exact q1i he λhp=>qpn r ho hx hy hp
  ·rename_i hu
   obtain⟨ng,hop,rfl⟩:=q87 hd
   exact q1i he λhp=>qwk r ho hx hy hu hop hp
  ·rename_i fs hu
   split at hd
   case isFalse=>cases hd
   rename_i hg
   obtain⟨ks,hk,hd⟩:=Option.bind_eq_some_iff.1 hd
   obtain⟨ng,hop,rfl⟩:=q87 hd
   exact q1i he λhp=>qvq r ho hx hy hu hg hk hop hp
  ·rename_i ms hu
   split at hd
   ·obtain⟨ng,hop,rfl⟩:=q87 hd
    exact q1i he λhp=>j14 r ho hx hu hop hp
   ·cases hd
  ·cases hd
 ·rename_i op t x ho
  simp only[Option.bind_eq_bind,zB,zS] at hd
  obtain⟨y,hy,rfl⟩:=hd
  exact q1i he λhp=>ok_un r ho hy hp
 ·rename_i s d x ho
  simp only[Option.bind_eq_bind,zB] at hd
  obtain⟨y,hy,hd⟩:=hd
  unfold cvD at hd
  split at hd
  ·rename_i ks k hs hdd
   simp only[zS] at hd;subst hd
   exact q1i he λhp=>qz5 r ho hs hdd hy hp
  ·rename_i hs hdd
   simp only[zS] at hd;subst hd
   refine q1i he λhp=>?_
   simp only[q0k] at hp
   split at hp
   ·rename_i b hb
    simp only[zS] at hp;subst hp
    exact quz r ho hs hdd hy hb
   ·cases hp
  ·rename_i e hs hdd
   split at hd
   case isFalse=>cases hd
   rename_i hu8
   simp only[zS] at hd;subst hd
   simp only[q2s] at he
   split at he
   ·rename_i b hb
    obtain⟨_,he⟩:=q04 he
    simp only[zS,Prod.mk.injEq] at he
    obtain⟨rfl,rfl,rfl⟩:=he
    exact j2e hB r ho hs hdd hu8 hy hb
   ·cases he
  ·rename_i e hs hdd
   split at hd
   case isFalse=>cases hd
   rename_i hu8
   simp only[zS] at hd;subst hd
   simp only[q2s] at he
   split at he
   ·rename_i rows tcr hr
    obtain⟨b,hb,he⟩:=Option.map_eq_some_iff.1 he
    simp only[Prod.mk.injEq] at he
    obtain⟨rfl,rfl,rfl⟩:=he
    exact qzi r ho hs hdd hu8 hy hr hb
   ·cases he
  ·cases hd
 ·rename_i f first caps ho
  unfold mkD at hd
  split at hd
  ·rename_i f' hfirst
   simp only[Option.bind_eq_bind,zB,zS] at hd
   obtain⟨ys,hys,rfl⟩:=hd
   have h0:first=#[]:=q71 hfirst
   subst h0
   exact q1i he λhp=>qyb r ho hys hp
  ·cases hd
 ·rename_i t len cap ho
  split at hd
  case isFalse =>
   split at hd
   case isFalse=>cases hd
   rename_i hsame
   simp only[Option.bind_eq_bind,zB] at hd
   obtain⟨e,hel,i,hi,z,hz,c,hc,hd⟩:=hd
   split at hd
   case isFalse=>cases hd
   rename_i hcond
   obtain⟨h1,h2,h3⟩:=hcond
   simp only[zS] at hd;subst hd
   simp only[q2s] at he
   split at he
   ·rename_i dd k m hds hm
    obtain⟨hf,he⟩:=q0t he
    obtain⟨⟨h4,h5⟩,he⟩:=q04 he
    simp only[zS,Prod.mk.injEq] at he
    obtain⟨rfl,rfl,rfl⟩:=he
    exact j09 hB r hsame ho hel hi h1 h2 hz h3 hc hm h4 h5 hf
   ·cases he
  rename_i hz
  obtain rfl:=qgi hz
  simp only[Option.bind_eq_bind,zB] at hd
  obtain⟨e,hel,i,hi,c,hc,hd⟩:=hd
  split at hd
  case isFalse=>cases hd
  rename_i hcond
  obtain⟨h1,h2,h3,_⟩:=hcond
  simp only[zS] at hd;subst hd
  simp only[q2s] at he
  split at he
  ·rename_i dd k m hds hm
   obtain⟨hf,he⟩:=q0t he
   obtain⟨⟨h4,h5⟩,he⟩:=q04 he
   simp only[zS,Prod.mk.injEq] at he
   obtain⟨rfl,rfl,rfl⟩:=he
   exact j11 hB r ho hel hi h1 h2 h3 hc hm h4 h5 hf
  ·cases he
 ·rename_i t x lo hi mx ho
  split at hd
  case isFalse=>cases hd
  rename_i hmx
  obtain rfl:mx=none:=by cases mx<;>simp at hmx ⊢
  simp only[Option.bind_eq_bind,zB] at hd
  obtain⟨x',hx,lo',hlo,hi',hhi,hd⟩:=hd
  unfold slD at hd
  split at hd
  ·rename_i hu
   simp only[zS] at hd;subst hd
   exact q1i he λhp=>qxw r ho hu hx hlo hhi hp
  ·rename_i e hu
   simp only[Option.bind_eq_bind,zB,zS] at hd
   obtain⟨sz,hs,rfl⟩:=hd
   exact j1z r ho hu hs hx hlo hhi he
  ·cases hd
 ·rename_i t x k ho
  simp only[Option.bind_eq_bind,zB] at hd
  obtain⟨y,hy,hd⟩:=hd
  unfold fadD at hd
  split at hd
  ·rename_i fs hu
   simp only[Option.bind_eq_bind,zB] at hd
   obtain⟨f,hf,sz,hs,hd⟩:=hd
   split at hd
   case isFalse=>cases hd
   rename_i h0
   simp only[zS] at hd;subst hd
   exact q1i he λhp=>j27 r ho hu hf hs h0 hy hp
  ·cases hd
 ·rename_i t x i ho
  simp only[Option.bind_eq_bind,zB,zS] at hd
  obtain⟨e,hel,sz,hs,x',hx,i',hi,rfl⟩:=hd
  exact j01 r ho hel hs hx hi he
 ·rename_i t x i ho
  split at hd
  case isFalse=>cases hd
  rename_i hst
  simp only[Option.bind_eq_bind,zB,zS] at hd
  obtain⟨x',hx,i',hi,rfl⟩:=hd
  exact q1i he λhp=>qxd r ho (qh6 hst) hx hi hp
 ·rename_i x k ho
  simp only[Option.bind_eq_bind,zB,zS] at hd
  obtain⟨y,hy,rfl⟩:=hd
  exact q1i he λhp=>qw6 r ho hy hp
 ·cases hd
theorem qd5 {o:Oper} {io:IOp} (h:qe5 P o=some io) (hio:io.isCall=true):∃c,o.op=.call c∧qbx P c=some io:=by
 unfold qe5 at h
 split at h
 ·exact⟨_,by assumption,h⟩
 ·obtain⟨io',_,h⟩:=Option.bind_eq_some_iff.1 h
  cases hc:io'.isCall with
  | true=>rw[hc] at h;cases h
  | false=>rw[hc] at h;simp only[cond_false,zS] at h;subst h;rw[hc] at hio;cases hio
theorem qh2 {c:Call} {f:FuncId} {xs:List Opd} (h:qbx P c=some (.call f xs)):c.callee=.value (.func f)∧entr P f=true∧c.args.toList.mapM q03=some xs:=by
 unfold qbx at h
 split at h
 ·exfalso
  unfold qye at h
  split at h
  ·simp only[Option.bind_eq_bind,zB,qud] at h
   obtain⟨_,_,h⟩:=h
   split at h<;>simp at h
  ·simp[zB] at h
  ·simp[zB] at h
  ·unfold qv3 at h
   split at h
   ·simp only[Option.bind_eq_bind,zB] at h
    obtain⟨_,_,_,_,_,_,h⟩:=h
    split at h
    ·simp[zB] at h
    ·cases h
   ·split at h
    ·simp only[Option.bind_eq_bind,zB] at h
     obtain⟨_,_,_,_,_,_,h⟩:=h
     split at h
     ·simp[zB] at h
     ·cases h
    ·cases h
  ·cases h
 ·rename_i g hc
  split at h
  case isFalse=>cases h
  rename_i he
  simp only[Option.bind_eq_bind,zB,zS,IOp.call.injEq] at h
  obtain⟨ys,hy,rfl,rfl⟩:=h
  exact⟨hc,he,hy⟩
 ·simp[zB] at h
 ·cases h
theorem qjc {c:Call} {x:Opd} {xs:List Opd} (h:qbx P c=some (.cal x xs)):∃n,c.callee=.value (.tmp n)∧x=.t n∧c.args.toList.mapM q03=some xs:=by
 unfold qbx at h
 split at h
 ·exfalso
  unfold qye at h
  split at h
  ·simp only[Option.bind_eq_bind,zB,qud] at h
   obtain⟨_,_,h⟩:=h
   split at h<;>simp at h
  ·simp[zB] at h
  ·simp[zB] at h
  ·unfold qv3 at h
   split at h
   ·simp only[Option.bind_eq_bind,zB] at h
    obtain⟨_,_,_,_,_,_,h⟩:=h
    split at h
    ·simp[zB] at h
    ·cases h
   ·split at h
    ·simp only[Option.bind_eq_bind,zB] at h
     obtain⟨_,_,_,_,_,_,h⟩:=h
     split at h
     ·simp[zB] at h
     ·cases h
    ·cases h
  ·cases h
 ·split at h
  case isFalse=>cases h
  simp[zB] at h
 ·rename_i n hc
  simp only[Option.bind_eq_bind,zB,zS,IOp.cal.injEq] at h
  obtain⟨ys,hy,rfl,rfl⟩:=h
  exact⟨n,hc,rfl,hy⟩
 ·cases h
end
section
variable {P:Program} {G:Glob} {n:Nat} {B:Base} {ρ:Nat→Loc} {st:St} {a:Act} {w:World} {h:Nat→Hs}
theorem qdy (hB:BaseOk G B) (r:RelH B ρ h w) {c ty off:Nat} {row qs:List V} {us:List Value} (hc:h c=.var ty row) (hul:us.length=qs.length) (hcond:off+qs.length≤row.length) (h3:∀u,u∈us→u.oneCell'=true)
 (h4:∀(j:Nat) x y,qs[j]?=some x→us[j]?=some y→Den1 w (owns B ρ h) ρ h x y) :
 ∃cs,w.heap[(ρ c).blk]?=some (.cells cs ty (0,0))∧(ρ c).off=0∧cs.size=row.length∧Turns B ρ h w ρ (upH h [(c,.var ty (qa9 row off qs))]) (w.setCells (ρ c).blk ((ρ c).off+off) us):=by
 have hch:=r.chunk c
 rw[hc] at hch
 obtain⟨hnil,cs,hh,hsize,hcells⟩:=hch
 have hle:(ρ c).off+off+us.length≤cs.size:=by omega
 obtain⟨k1,k2,k3,k4,k5⟩:=q1b (ρ c).blk us ((ρ c).off+off) w
 obtain⟨cs',m1,m2,m3⟩:=q1a (ρ c).blk ty (0,0) us ((ρ c).off+off) w cs hh hle
 refine⟨cs,hh,hsize.1,hsize.2.symm,r.write hB (by rw[hc];rfl) hnil k1 k2 k3 k4 k5 ?_ (λO' h' hd1 _=>?_)⟩
 ·rw[hc];exact .inr (.inr ⟨rfl,.inr (.inl ⟨ty,row,ty,_,rfl,rfl⟩)⟩)
 ·refine⟨hnil,cs',m1, ?_,λj v hv=>?_⟩
  ·simp only[qa9,zA,List.length_take,List.length_drop];omega
  ·rw[m3]
   unfold qa9 at hv
   by_cases hj:j<off
   ·rw[if_neg (by omega)]
    rw[List.getElem?_append_left (by simp;omega),List.getElem?_append_left (by simp;omega),List.getElem?_take_of_lt hj] at hv
    obtain⟨u,a1,a2,a3⟩:=hcells j v hv
    exact⟨u,a1,a2,hd1 _ _ a3⟩
   ·by_cases hj2:j<off+us.length
    ·rw[if_pos (by omega)]
     rw[List.getElem?_append_left (by simp;omega),List.getElem?_append_right (by simp;omega)] at hv
     simp only[List.length_take] at hv
     rw[show min off row.length=off by omega] at hv
     rw[show(ρ c).off+j - ((ρ c).off+off)=j - off by omega]
     have hjl:j - off<us.length:=by omega
     exact⟨us[j - off],zE hjl,h3 _ (List.getElem_mem hjl),hd1 _ _ (h4 _ _ _ hv (zE hjl))⟩
    ·rw[if_neg (by omega)]
     rw[List.getElem?_append_right (by simp;omega)] at hv
     simp only[zA,List.length_take,List.getElem?_drop] at hv
     rw[show off+qs.length+(j - (min off row.length+qs.length))=j by omega] at hv
     obtain⟨u,a1,a2,a3⟩:=hcells j v hv
     exact⟨u,a1,a2,hd1 _ _ a3⟩
theorem qfs (hB:BaseOk G B) (r:RelH B ρ h w) {c ty k cap:Nat} {row:List V} {us:List Value} (hf:h c=.fresh) (hk:k≤cap) (hl:us.length=row.length)
 (hd:∀(j:Nat) v u,row[j]?=some v→us[j]?=some u→u.oneCell'=true∧Den1 w (owns B ρ h) ρ h v u) :
 ∃ρ',Turns B ρ h w ρ' (upH h [(c,.var ty row)]) (w.alloc (.cells us.toArray ty)) ∧
  Den (w.alloc (.cells us.toArray ty)) (owns B ρ' (upH h [(c,.var ty row)])) ρ' (upH h [(c,.var ty row)]) (.view c cap k) (.slice (some ⟨w.heap.size,0,none⟩) k cap):=by
 obtain⟨ρ',ht,hp⟩:=qby hB r (ty:=ty) hf hl hd
 refine⟨ρ',ht, ?_⟩
 have e:upH h [(c,.var ty row)] c=.var ty row:=by simp[upH]
 simp only[Den,Den2,Den1,Den0,e] at hp ⊢
 refine⟨hk, ?_⟩
 simp only[Value.pointer.injEq,zS,Addr.mk.injEq,and_true] at hp
 obtain⟨h1,h2⟩:=hp
 rw[←h1]
 have:(ρ' c).off=0:=by omega
 rw[this]
theorem qxn (hB:BaseOk G B) (r:RelR n B ρ st a w) {o:Oper} {t:TypeId} {cap:Operand} (ho:o.op=.makeSlice t (.const (.int .i64 0)) cap) {e:TypeId} (he:q3q P t=some e) {i:TypeInfo} (hi:P.info? e=some i)
 (h0:0<i.size) (hby:i.bytes≤100000) {z:Value} (hz:i.zero=some z) (hzs:z.cells.size=i.size) (hzo:z.cells.toList.all Value.oneCell'=true) {y:Opd} (hx:q03 cap=some y) {k:IntKind} {m:Int} (hm:ev st.t y=.int k m) (hm0:0≤m) (hm1:m≤2000000)
 {c:Nat} (hf:st.h c=.fresh):OpOk P B ρ st a w o (.view c m.toNat 0) [(c,.var e (List.replicate (m.toNat*i.size) .undef))]:=by
 have hu:=q3l he
 have hd:=q0n r hx
 rw[hm] at hd
 have hb:(i.bytes:Int)*m≤281474976710656:=by
  have h1:(i.bytes:Int)*m≤100000*2000000:=Int.mul_le_mul (by omega) hm1 hm0 (by omega)
  omega
 have hrun:=run_make (P:=P) w t e i z hu hi hz .i64 k 0 m (by omega) hm0 hb (by omega)
 obtain⟨ρ',ht,hdn⟩:=qfs hB r.mem (c:=c) (ty:=e) (k:=0) (cap:=m.toNat) (row:=List.replicate (m.toNat*i.size) .undef) (us:=(madeCells z.cells (m.toNat*i.size)).toList) hf (Nat.zero_le _) (by simp[madeCells]) (λj v u hv hu=>by
  have hv':=List.mem_of_getElem? hv
  obtain rfl:=(List.mem_replicate.1 hv').2
  refine⟨?_,trivial⟩
  simp only[madeCells,Array.toList_map,List.getElem?_map,zM] at hu
  obtain⟨q,_,rfl⟩:=hu
  have hlt:q % z.cells.size<z.cells.size:=Nat.mod_lt _ (by omega)
  rw[List.all_eq_true] at hzo
  refine hzo _ ?_
  rw[getElem!_pos z.cells _ hlt]
  exact Array.getElem_mem_toList hlt)
 refine⟨_,_,ρ',.inl ?_,ht,hdn⟩
 unfold execOp
 have e0:a.eval (.const (.int .i64 0))=.int .i64 0:=rfl
 simp only[ho,e0,q1w hd,Sem.run_bind,hrun,Result.andThen_ok,Sem.run_pure]
 rfl
theorem qjb {sz:Nat} (h0:0<sz):∀(l:List (List V)),(∀x,x∈l→x.length=sz)→∀q,l.flatten[q]?=(l[q / sz]?).bind λx=>x[q % sz]?
 | [],_,q=>by simp
 | x::l,hl,q=>by
   have hx:=hl x List.mem_cons_self
   by_cases hq:q<sz
   ·rw[List.flatten_cons,List.getElem?_append_left (by omega),Nat.div_eq_of_lt hq,Nat.mod_eq_of_lt hq];rfl
   ·rw[List.flatten_cons,List.getElem?_append_right (by omega),qjb h0 l (λy hy=>hl y (List.mem_cons_of_mem _ hy)),hx]
    obtain⟨p,rfl⟩:∃p,q=p+sz:=⟨q - sz,by omega⟩
    rw[Nat.add_sub_cancel,Nat.add_div_right _ h0,Nat.add_mod_right]
    rfl
theorem j0k (hB:BaseOk G B) (r:RelR n B ρ st a w) {o:Oper} {t:TypeId} {len:Nat} {parts:Array (Nat×Operand)} (ho:o.op=.buildSlice t len parts) {e:TypeId} (he:q3q P t=some e) {sz:Nat} (hs:q8c P e=some sz)
 (hrange:parts.toList.map (·.1)=List.range len) (h0:0<sz) (hbig:len*sz≤16777216) (hz:((P.info? e).bind (·.zero)).isSome=true) {xs:List Opd} (hx:(parts.toList.mapM λp=>q03 p.2)=some xs)
 {c:Nat} (hf:st.h c=.fresh) (hxs:xs.all (λx=>decide ((q05 (ev st.t x)).length=sz)&&(q05 (ev st.t x)).all V.one)=true) :
 OpOk P B ρ st a w o (.view c xs.length xs.length) [(c,.var e (xs.flatMap λx=>q05 (ev st.t x)))]:=by
 obtain⟨ie,hie,hsz⟩:=Option.map_eq_some_iff.1 hs
 rw[hie,Option.bind_some] at hz
 obtain⟨z,hz⟩:=Option.isSome_iff_exists.1 hz
 obtain⟨hxl,hxg⟩:=q33 hx
 have hpl:parts.toList.length=len:=by have:=congrArg List.length hrange;simpa using this
 have hxlen:xs.length=len:=hxl.trans hpl
 have hu:=q3l he
 simp only[List.all_eq_true,Bool.and_eq_true,decide_eq_true_eq] at hxs
 have hone:∀x,x∈xs→(q05 (ev st.t x)).all V.one=true:=λx hx=>by
  simp only[List.all_eq_true]
  exact(hxs x hx).2
 have hrow:∀(j:Nat),j<len→∃us:List Value,us.length=sz∧(∀q,(parts.toList)[j]?=some q→(a.eval q.2).cells=us.toArray)∧(∀x∈us,x.oneCell'=true) ∧
  ∀x,xs[j]?=some x→∀(i:Nat) v u,(q05 (ev st.t x))[i]?=some v→us[i]?=some u→Den1 w (owns B ρ st.h) ρ st.h v u:=λj hj=>by
  have hj1:j<xs.length:=by omega
  have hj2:j<parts.toList.length:=by omega
  have hx1:xs[j]?=some xs[j]:=zE hj1
  have hx2:parts.toList[j]?=some parts.toList[j]:=zE hj2
  have hm:=List.getElem_mem hj1
  obtain⟨us,k1,k2,k3,k4⟩:=q4k (hone _ hm) (q0n r (hxg j _ _ hx2 hx1))
  refine⟨us,by rw[k2];exact(hxs _ hm).1,λq hq=>?_,k3,λx hx i v u hv hu=>?_⟩
  ·rw[hx2] at hq;cases hq;exact k1
  ·rw[hx1] at hx;cases hx
   exact k4 i v u hv hu
 let us:List (List Value):=(List.range len).map λj=>if h:j<len then Classical.choose (hrow j h) else []
 have hus:∀(j:Nat) (h:j<len),us[j]?=some (Classical.choose (hrow j h)):=λj h=>by
  simp only[us,List.getElem?_map,List.getElem?_range h,Option.map_some,dif_pos h]
 have husl:us.length=len:=by simp[us]
 let zc:Array Value:=(Array.range (len*sz)).map λi=>z.cells[i % z.cells.size]!
 obtain⟨cells',hfill,hcs,_,hcells⟩:=q9c sz us 0 (parts.toList.map λq=>(q.1,a.eval q.2)) zc (by simp[husl,hpl]) (λj q u hq huj=>by
  have hj:j<len:=by rw[←husl];exact(List.getElem?_eq_some_iff.1 huj).1
  rw[hus j hj] at huj
  simp only[zS] at huj
  subst huj
  obtain⟨k1,k2,k3,k4⟩:=Classical.choose_spec (hrow j hj)
  simp only[List.getElem?_map,zM] at hq
  obtain⟨q0,hq0,rfl⟩:=hq
  refine⟨?_,k2 q0 hq0,k1⟩
  have h5:(parts.toList.map (·.1))[j]?=some q0.1:=by simp[hq0]
  rw[hrange,List.getElem?_range hj] at h5
  simp only[zS] at h5
  simp only;omega) (by simp[zc,husl])
 have hcsz:cells'.size=len*sz:=by rw[hcs];simp[zc]
 have hrun:(execOp a.eval o).run P w=.ok (.value (.slice (some ⟨w.heap.size,0,none⟩) len len)) (w.alloc (.cells cells' e)):=by
  unfold execOp
  have hbig':¬(2^24<len*ie.size):=by rw[hsz];omega
  by_cases h00:len=0
  ·subst h00
   have hp0:parts.toList=[]:=List.eq_nil_of_length_eq_zero hpl
   have hc0:cells'=#[]:=Array.eq_empty_of_size_eq_zero (by rw[hcsz];simp)
   subst hc0
   have hp0':parts=#[]:=by apply Array.ext';simpa using hp0
   simp[ho,Instr.buildSlice,run_underlying hu,sizeOf,typeInfo,hie,newRow,hp0',Instr.fill,Array.range_zero']
  ·have h01:¬(len*ie.size=0):=by rw[hsz];exact Nat.ne_of_gt (Nat.mul_pos (by omega) h0)
   have hfill':Instr.fill (λi=>some (i*ie.size,ie.size)) ((Array.range (len*ie.size)).map λi=>z.cells[i % z.cells.size]!) (parts.toList.map λ(x:Nat×Operand)=>(x.1,a.eval x.2))=some cells':=by
    rw[hsz];exact hfill
   simp only[ho,Instr.buildSlice,Sem.run_bind,run_underlying hu,Result.andThen_ok,sizeOf,typeInfo,run_program,hie,Sem.run_pure,hbig',if_false,h01,zeroValue,hz,Array.toList_map,gt_iff_lt]
   rw[hfill']
   simp[newRow]
 have hfl:∀x,x∈(xs.map λx=>q05 (ev st.t x))→x.length=sz:=λx hx=>by
  simp only[List.mem_map] at hx
  obtain⟨y,hy,rfl⟩:=hx
  exact(hxs y hy).1
 have hrl:(xs.flatMap λx=>q05 (ev st.t x)).length=len*sz:=by
  rw[List.flatMap_def,List.length_flatten]
  rw[show(xs.map λx=>q05 (ev st.t x)).map List.length=List.replicate len sz by
   rw[←hxlen]
   apply List.eq_replicate_iff.2
   refine⟨by simp,λb hb=>?_⟩
   obtain⟨x,hx,rfl⟩:=List.mem_map.1 hb
   exact hfl x hx]
  simp
 obtain⟨ρ',ht,hd⟩:=qfs hB r.mem (c:=c) (ty:=e) (k:=len) (cap:=len) (row:=xs.flatMap λx=>q05 (ev st.t x)) (us:=cells'.toList) hf (Nat.le_refl _) (by rw[hrl];simpa using hcsz) (λq v u hv hu=>by
  rw[List.flatMap_def,qjb h0 _ hfl] at hv
  obtain⟨x,hx,hv⟩:=Option.bind_eq_some_iff.1 hv
  simp only[List.getElem?_map,zM] at hx
  obtain⟨y,hy,rfl⟩:=hx
  have hi:q / sz<len:=by rw[←hxlen];exact(List.getElem?_eq_some_iff.1 hy).1
  obtain⟨k1,k2,k3,k4⟩:=Classical.choose_spec (hrow (q / sz) hi)
  have hc:=hcells (q / sz) _ (hus _ hi) (q % sz) (Nat.mod_lt _ h0)
  rw[zZ,Nat.mul_comm,Nat.div_add_mod] at hc
  have hu':cells'[q]?=some u:=by simpa using hu
  rw[hu'] at hc
  exact⟨k3 u (List.mem_of_getElem? hc.symm),k4 y hy _ v u hv hc.symm⟩)
 rw[Array.toArray_toList] at ht hd
 exact⟨_,_,ρ',.inl hrun,ht,by rw[hxlen];exact hd⟩
theorem qyg (hB:BaseOk G B) (r:RelR n B ρ st a w) {o:Oper} {t:TypeId} {x y:Operand} (ho:o.op=.call { callee:=.builtin .append,args:=#[x,y],argTypes:=#[t,t] }) {e:TypeId} (he:q3q P t=some e)
 {i:TypeInfo} (hi:P.info? e=some i) {x' y':Opd} (hx:q03 x=some x') (hy:q03 y=some y')
 {v:V} {up:List (Nat×Hs)} {tc:List Nat} (hp:qub st.h i.size (ev st.t x') (ev st.t y')=some (v,up,tc)):OpOk P B ρ st a w o v up:=by
 have hu:=q3l he
 have hdx:=q0n r hx
 have hdy:=q0n r hy
 revert hp hdx hdy
 generalize ev st.t x'=X
 generalize ev st.t y'=Y
 intro hp hdx hdy
 cases X<;>simp only[qub,reduceCtorEq] at hp
 rename_i c cap k
 cases Y<;>simp only[reduceCtorEq] at hp
 rename_i c' cap' m
 cases hc:st.h c<;>cases hc':st.h c'<;>rw[hc,hc'] at hp<;>simp only[reduceCtorEq] at hp
 rename_i ty row ty' row'
 split at hp
 case isFalse=>cases hp
 rename_i hne
 obtain⟨hne,hm0⟩:=hne
 obtain⟨⟨hroom,hcap,hm,hone⟩,hp⟩:=q04 hp
 simp only[zS,Prod.mk.injEq] at hp
 obtain⟨rfl,rfl,rfl⟩:=hp
 simp only[Den,Den2,Den1,Den0,hc] at hdx
 simp only[Den,Den2,Den1,Den0,hc'] at hdy
 have hch:=r.mem.chunk c'
 rw[hc'] at hch
 obtain⟨hnil',cs',hh',⟨hoff',hsize'⟩,hcells'⟩:=hch
 have husm:∀u,u∈cs'.toList→u.oneCell'=true:=λu hu=>by
  obtain⟨j,hj⟩:=List.getElem?_of_mem hu
  have hjl:j<row'.length:=by rw[hsize'];simpa using(List.getElem?_eq_some_iff.1 hj).1
  obtain⟨u',a1,a2,_⟩:=hcells' j _ (zE hjl)
  rw[hoff',zZ] at a1
  have:cs'[j]?=some u:=by simpa using hj
  rw[this] at a1
  cases a1
  exact a2
 have hmul:(k+m)*i.size≤cap*i.size:=Nat.mul_le_mul_right _ hroom
 rw[Nat.add_mul] at hmul
 obtain⟨cs,hh,hoff,hsize,ht⟩:=qdy hB r.mem (off:=k*i.size) (qs:=row') (us:=cs'.toList) hc (by simpa using hsize'.symm) (by omega) husm (λj v u hv hu=>by
  obtain⟨u',a1,_,a3⟩:=hcells' j v hv
  rw[hoff',zZ] at a1
  have:cs'[j]?=some u:=by simpa using hu
  rw[this] at a1
  cases a1
  exact a3)
 have hstore:=run_storeCells_cells (P:=P) (ρ c).blk ((ρ c).off+k*i.size) cs'.toList 0 w (λj hj=>by
  have:(ρ c).off+k*i.size+j<cs.size:=by simp at hj;omega
  simp[World.cell?,hh,this]) (λj hj=>by simp[World.frozen?,hh]) husm
 have hfc:(Builtin.firstCells i.size m (.slice (some ⟨(ρ c').blk,(ρ c').off,none⟩) m cap')).run P w=.ok cs'.toList.toArray w :=
  run_firstCells_some (P:=P) w i.size m ⟨(ρ c').blk,(ρ c').off,none⟩ _ cap' cs'.toList (by simp;omega) (λj u hj=>by
   have hj':cs'[j]?=some u:=by simpa using hj
   rw[hoff',Addr.add_mid]
   exact q7g _ _ cs' _ _ _ u hh' (by simpa using hj'))
 have hrun:(Builtin.append_ #[t,t] o.type #[.slice (some ⟨(ρ c).blk,(ρ c).off,none⟩) k cap,.slice (some ⟨(ρ c').blk,(ρ c').off,none⟩) m cap']).run P w=.ok (.slice (some ⟨(ρ c).blk,(ρ c).off,none⟩) (k+m) cap) (w.setCells (ρ c).blk ((ρ c).off+k*i.size) cs'.toList):=by
  simp only[Nat.add_zero] at hstore
  simp only[Array.toArray_toList] at hfc
  simp[Builtin.append_,run_underlying hu,sizeOf,typeInfo,hi,Builtin.lenOf,hroom,hfc,Addr.add_mid,hstore]
 refine⟨.slice (some ⟨(ρ c).blk,(ρ c).off,none⟩) (k+m) cap,_,ρ,.inl ?_,ht, ?_⟩
 ·unfold execOp
  simp[ho,hdx.2,hdy.2,resolve,invoke,builtin,hrun]
 ·simp only[Den,Den2,Den1,Den0,upH,if_true]
  exact⟨hroom,trivial⟩
theorem qsr {op:BinOp} {f:Bool→IOp} {io:IOp} (hf:∀b,(f b).toN=f b) (h:eqD op f=some io):io.toN=io:=by
 obtain⟨ng,_,rfl⟩:=q87 h
 exact hf ng
theorem j0m {op:BinOp} {t:TypeId} {y:Operand} {x' y':Opd} {io:IOp} (h:binD P op t y x' y'=some io):io.toN=io:=by
 unfold binD at h
 split at h
 ·cases h;rfl
 ·cases h;rfl
 ·exact qsr (λ_=>rfl) h
 ·split at h
  ·obtain⟨ks,_,h⟩:=Option.bind_eq_some_iff.1 h
   exact qsr (λ_=>rfl) h
  ·cases h
 ·split at h
  ·exact qsr (λ_=>rfl) h
  ·cases h
 ·cases h
theorem cvD_N {s d:TypeId} {x:Opd} {io:IOp} (h:cvD P s d x=some io):io.toN=io:=by
 unfold cvD at h
 split at h
 ·cases h;rfl
 ·cases h;rfl
 ·split at h<;>cases h
  rfl
 ·split at h<;>cases h
  rfl
 ·cases h
theorem mkD_N {f:Fn} {first caps:Array Operand} {io:IOp} (h:mkD f first caps=some io):io.toN=io:=by
 unfold mkD at h
 split at h
 ·obtain⟨q,_,h⟩:=Option.bind_eq_some_iff.1 h
  cases h;rfl
 ·cases h
theorem slD_N {t:TypeId} {x:Opd} {lo hi:Option Opd} {io:IOp} (h:slD P t x lo hi=some io):io.toN=io:=by
 unfold slD at h
 split at h
 ·cases h;rfl
 ·obtain⟨q,_,h⟩:=Option.bind_eq_some_iff.1 h
  cases h;rfl
 ·cases h
theorem qxz {t:TypeId} {k:Nat} {x:Opd} {io:IOp} (h:fadD P t k x=some io):io.toN=io:=by
 unfold fadD at h
 split at h
 ·obtain⟨f,_,h⟩:=Option.bind_eq_some_iff.1 h
  obtain⟨sz,_,h⟩:=Option.bind_eq_some_iff.1 h
  split at h<;>cases h
  rfl
 ·cases h
theorem j0l {t:TypeId} {z:List V} {ps:List (Nat×Operand)} {io:IOp} (h:qu6 P t z ps=some io):io.toN=io:=by
 unfold qu6 at h
 split at h
 ·obtain⟨f,_,h⟩:=Option.bind_eq_some_iff.1 h
  obtain⟨q,_,h⟩:=Option.bind_eq_some_iff.1 h
  cases h;rfl
 ·cases h
theorem qvt {t:TypeId} {x:Opd} {io:IOp} (h:qud P t x=some io):io.toN=io:=by
 unfold qud at h
 split at h<;>cases h<;>rfl
theorem quw {op:Op} {io:IOp} (h:digO P op=some io):io.toN=io ∨
 (∃t len parts e sz xs,op=.buildSlice t len parts∧io=.bsl e sz xs∧q3q P t=some e∧q8c P e=some sz∧parts.toList.map (·.1)=List.range len∧0<sz∧len*sz≤16777216∧((P.info? e).bind (·.zero)).isSome=true∧(parts.toList.mapM λp=>q03 p.2)=some xs) ∨
 (∃t cap e i z y,op=.makeSlice t (.const (.int .i64 0)) cap∧io=.mks e i.size y∧q3q P t=some e∧P.info? e=some i∧0<i.size∧i.bytes≤100000∧i.zero=some z∧z.cells.size=i.size∧z.cells.toList.all Value.oneCell'=true∧q03 cap=some y):=by
 unfold digO at h
 split at h
 case h_7 t len parts =>
  obtain⟨e,he,h⟩:=Option.bind_eq_some_iff.1 h
  obtain⟨sz,hs,h⟩:=Option.bind_eq_some_iff.1 h
  split at h
  case isFalse=>cases h
  rename_i hc
  obtain⟨xs,hx,h⟩:=Option.bind_eq_some_iff.1 h
  cases h
  exact .inr (.inl ⟨t,len,parts,e,sz,xs,rfl,rfl,he,hs,hc.1,hc.2.1,hc.2.2.1,hc.2.2.2,hx⟩)
 case h_15 t len cap =>
  split at h
  case isFalse =>
   split at h
   case isFalse=>cases h
   simp only[Option.bind_eq_bind,zB] at h
   obtain⟨e,_,i,_,z,_,c,_,h⟩:=h
   split at h<;>cases h
   exact .inl rfl
  rename_i hl
  obtain rfl:len=.const (.int .i64 0):=by
   unfold qmt at hl
   split at hl
   ·simp only[decide_eq_true_eq] at hl;rw[hl]
   ·cases hl
  obtain⟨e,he,h⟩:=Option.bind_eq_some_iff.1 h
  obtain⟨i,hi,h⟩:=Option.bind_eq_some_iff.1 h
  obtain⟨y,hy,h⟩:=Option.bind_eq_some_iff.1 h
  split at h
  case isFalse=>cases h
  rename_i hc
  obtain⟨h1,h2,h3,h4⟩:=hc
  cases h
  obtain⟨z,hz⟩:=Option.isSome_iff_exists.1 h3
  simp only[hz,Option.map_some,Option.getD_some,Bool.and_eq_true,decide_eq_true_eq] at h4
  exact .inr (.inr ⟨t,cap,e,i,z,y,rfl,rfl,he,hi,h1,h2,hz,h4.1,h4.2,hy⟩)
 all_goals first
  | (simp only[Option.bind_eq_bind,zB,zM,zS] at h
     repeat' (obtain⟨_,_,h⟩:=h)
     first|exact .inl rfl|(subst h;exact .inl rfl)|exact .inl (j0l h)|exact .inl (j0m h)|exact .inl (cvD_N h)|exact .inl (qxz h))
  | exact .inl (mkD_N h)
  | (split at h
     ·simp only[Option.bind_eq_bind,zB,zS] at h
      repeat' (obtain⟨_,_,h⟩:=h)
      first|exact .inl rfl|(subst h;exact .inl rfl)|exact .inl (slD_N h)
     ·cases h)
  | cases h
theorem qsq {c:Call} {io:IOp} (h:qbx P c=some io):io.toN=io ∨
 (∃x y t e i x' y',c={ callee:=.builtin .append,args:=#[x,y],argTypes:=#[t,t] }∧io=.app e i.size x' y'∧q3q P t=some e∧P.info? e=some i∧q03 x=some x'∧q03 y=some y'):=by
 obtain⟨callee,args,ts⟩:=c
 unfold qbx at h
 simp only at h
 split at h
 ·rename_i b
  unfold qye at h
  split at h
  ·obtain⟨y,_,h⟩:=Option.bind_eq_some_iff.1 h
   exact .inl (qvt h)
  ·obtain⟨x,_,h⟩:=Option.bind_eq_some_iff.1 h
   obtain⟨y,_,h⟩:=Option.bind_eq_some_iff.1 h
   cases h;exact .inl rfl
  ·obtain⟨x,_,h⟩:=Option.bind_eq_some_iff.1 h
   obtain⟨y,_,h⟩:=Option.bind_eq_some_iff.1 h
   cases h;exact .inl rfl
  ·rename_i x y t u hargs hts
   obtain rfl:=q71 (y:=#[x,y]) hargs
   obtain rfl:=q71 (y:=#[t,u]) hts
   unfold qv3 at h
   split at h
   ·rename_i htu
    subst htu
    obtain⟨e,he,h⟩:=Option.bind_eq_some_iff.1 h
    obtain⟨i,hi,h⟩:=Option.bind_eq_some_iff.1 h
    obtain⟨z,hz,h⟩:=Option.bind_eq_some_iff.1 h
    split at h
    case isFalse=>cases h
    obtain⟨x',hx,h⟩:=Option.bind_eq_some_iff.1 h
    obtain⟨y',hy,h⟩:=Option.bind_eq_some_iff.1 h
    cases h
    exact .inr ⟨x,y,t,e,i,x',y',rfl,rfl,he,hi,hx,hy⟩
   ·split at h
    ·obtain⟨e,he,h⟩:=Option.bind_eq_some_iff.1 h
     obtain⟨i,hi,h⟩:=Option.bind_eq_some_iff.1 h
     obtain⟨z,hz,h⟩:=Option.bind_eq_some_iff.1 h
     split at h
     case isFalse=>cases h
     obtain⟨x',hx,h⟩:=Option.bind_eq_some_iff.1 h
     obtain⟨y',hy,h⟩:=Option.bind_eq_some_iff.1 h
     cases h
     exact .inl rfl
    ·cases h
  ·cases h
 ·split at h
  ·obtain⟨xs,_,h⟩:=Option.bind_eq_some_iff.1 h
   cases h;exact .inl rfl
  ·cases h
 ·obtain⟨xs,_,h⟩:=Option.bind_eq_some_iff.1 h
  cases h;exact .inl rfl
 ·cases h
theorem qjy {N:Bool} (hB:BaseOk G B) (r:RelR n B ρ st a w) {o:Oper} {io:IOp} (hd:qe5 P o=some io) {v:V} {up:List (Nat×Hs)} {tc:List Nat} (he:q2s (io.asN N) o.dst st.t st.h=some (v,up,tc)):OpOk P B ρ st a w o v up:=by
 cases N with
 | false=>exact qg3 hB r hd he
 | true =>
   simp only[IOp.asN,cond_true] at he
   by_cases hN:io.toN=io
   ·rw[hN] at he
    exact qg3 hB r hd he
   unfold qe5 at hd
   split at hd
   ·rename_i c ho
    rcases qsq hd with h|⟨x,y,t,e,i,x',y',rfl,rfl,h1,h2,h3,h4⟩
    ·exact absurd h hN
    ·simp only[IOp.toN,q2s] at he
     exact qyg hB r ho h1 h2 h3 h4 he
   ·rename_i op _
    obtain⟨io',hio,hd⟩:=Option.bind_eq_some_iff.1 hd
    have hio':io'=io:=by
     cases hic:io'.isCall<;>rw[hic] at hd
     ·simpa using hd
     ·cases hd
    subst hio'
    rcases quw hio with h|⟨t,len,parts,e,sz,xs,ho,rfl,h1,h2,h3,h4,h5,h6,h7⟩|⟨t,cap,e,i,z,y,ho,rfl,h1,h2,h3,h4,h5,h6,h7,h8⟩
    ·exact absurd h hN
    ·simp only[IOp.toN,q2s] at he
     cases hds:o.dst with
     | none=>rw[hds] at he;cases he
     | some d =>
       rw[hds] at he
       obtain⟨hf,he⟩:=q0t he
       split at he
       case isFalse=>cases he
       rename_i hxs
       simp only[zS,Prod.mk.injEq] at he
       obtain⟨rfl,rfl,rfl⟩:=he
       exact j0k hB r ho h1 h2 h3 h4 h5 h6 h7 hf hxs
    ·simp only[IOp.toN,q2s] at he
     split at he
     ·rename_i dd k m hds hm
      obtain⟨hf,he⟩:=q0t he
      obtain⟨⟨h9,h10⟩,he⟩:=q04 he
      simp only[zS,Prod.mk.injEq] at he
      obtain⟨rfl,rfl,rfl⟩:=he
      exact qxn hB r ho h1 h2 h3 h4 h5 h6 h7 h8 hm h9 h10 hf
     ·cases he
end
def DenArgs (w:World) (O:Nat→Prop) (ρ:Nat→Loc) (h:Nat→Hs) (vs:List V) (us:List Value):Prop :=
 us.length=vs.length∧∀(j:Nat) v u,vs[j]?=some v→us[j]?=some u→Den w O ρ h v u
structure CallS (P:Program) (G:Glob) (f:FuncId) (vs:List V) (h:Nat→Hs) (post:V→List (Nat×Hs)→Prop) (tc wr:List Nat):Prop where
 en:entr P f=true
 ne:∃v up,post v up
 wri:∀v up,post v up→∀x,x∈up→x.1∈wr
 sub:∀c,c∈wr→c∈tc
 run:∀h':Nat→Hs,(∀c,c∈tc→h' c=h c)→∀B ρ w us,BaseOk G B→RelH B ρ h' w→DenArgs w (owns B ρ h') ρ h' vs us →
  Calls P f us.toArray w λe w'=>∃u v up ρ',e=.returned u∧post v up∧Turns B ρ h' w ρ' (upH h' up) w'∧Den w' (owns B ρ' (upH h' up)) ρ' (upH h' up) v u
def CallV (P:Program) (G:Glob) (f:FuncId) (vs:List V) (d:Option Nat) (st:St) (K:St→List Nat→List Nat→Prop):Prop :=
 ∃post tc wr,CallS P G f vs st.h post tc wr∧∀v up,post v up→K (st.app d v up) tc wr
def gd (g:Option (Nat×Bool)) (t:Nat→V):Option Bool:=match g with
 | none=>some true
 | some (n,b)=>match t n with
   | .bool c=>some (c==b)
   | .tup []=>some false
   | _=>none
def qc0 {α:Type} (o:Option α) (K:α→Prop):Prop:=match o with
 | some x=>K x
 | none=>False
def q65 (g:Option Bool) (y n:Prop):Prop:=match g with
 | some true=>y
 | some false=>n
 | none=>False
def doV (P:Program) (G:Glob) (o:IOper) (st:St) (K:St→List Nat→List Nat→Prop):Prop :=
 match o.op with
 | .call f xs=>CallV P G f (xs.map (ev st.t)) o.d st K
 | .cal x xs=>match ev st.t x with
   | .fn f caps=>CallV P G f (xs.map (ev st.t)++caps) o.d st K
   | _=>False
 | op=>qc0 (q2s op o.d st.t st.h) λr=>K (st.app o.d r.1 r.2.1) r.2.2 (r.2.1.map Prod.fst)
def q3d (P:Program) (G:Glob) (o:IOper) (st:St) (K:St→List Nat→List Nat→Prop):Prop :=
 q65 (gd o.g st.t) (doV P G o st K) (K (st.app o.d (.tup []) []) [] [])
def qhn (P:Program) (G:Glob):List IOper→St→(St→Prop)→Prop
 | [],st,K=>K st
 | o::os,st,K=>q3d P G o st λst' _ _=>qhn P G os st' K
def qpw (a b:List Nat):Bool:=a.all λx=>!b.contains x
def chk (bef:List Nat) (i:Nat) (tc wr:List Nat) (tr:List (Nat×List Nat×List Nat)):Bool :=
 tr.all λe=>Nat.testBit (bef.getD i 0) e.1||(qpw e.2.2 tc&&qpw wr e.2.1)
def qcz (P:Program) (G:Glob) (bef:List Nat):List (Nat×IOper)→St→List (Nat×List Nat×List Nat)→(St→Prop)→Prop
 | [],st,_,K=>K st
 | (i,o)::os,st,tr,K=>q3d P G o st λst' tc wr=>chk bef i tc wr tr=true∧qcz P G bef os st' ((i,tc,wr)::tr) K
inductive IC where
 | skip
 | reg (ops:List IOper)
 | drw (bef:List Nat) (ops:List (Nat×IOper))
 | seq (a b:IC)
 | cond (x:Opd) (a b:IC)
 | block (id:Nat) (b:IC)
 | loop (b:IC)
 | exit (id:Nat)
 | ret
 deriving Inhabited
inductive Ex where
 | normal
 | exit (id:Nat)
 | ret
def St.le (G:Glob) (pin:Nat) (s s':St):Prop:=∀n B ρ a w,B.pin=pin→BaseOk G B→RelR n B ρ s a w→∃ρ',RelR n B ρ' s' a w
def exN (K:St→Prop) (Q:Ex→St→Prop):Ex→St→Prop
 | .normal,s=>K s
 | e,s=>Q e s
def exB (id:Nat) (Q:Ex→St→Prop):Ex→St→Prop
 | .exit i,s=>if i=id then Q .normal s else Q (.exit i) s
 | e,s=>Q e s
def LoopI (G:Glob) (pin:Nat) (body:(Ex→St→Prop)→St→Prop) (Q:Ex→St→Prop) (st:St):Prop :=
 ∃(I:Nat→St→Prop) (k:Nat) (s0:St),st.le G pin s0∧I k s0∧∀k s,I k s→body (exN (λs'=>∃m s'',m<k∧s'.le G pin s''∧I m s'') Q) s
def qej (v:V) (y n:Prop):Prop:=match v with
 | .bool true=>y
 | .bool false=>n
 | _=>False
def wpI (P:Program) (G:Glob) (pin:Nat):IC→(Ex→St→Prop)→St→Prop
 | .skip,Q,st=>Q .normal st
 | .reg ops,Q,st=>qhn P G ops st (Q .normal)
 | .drw bef ops,Q,st=>qcz P G bef ops st [] (Q .normal)
 | .seq a b,Q,st=>wpI P G pin a (exN (wpI P G pin b Q) Q) st
 | .cond x a b,Q,st=>qej (ev st.t x) (wpI P G pin a Q st) (wpI P G pin b Q st)
 | .block id b,Q,st=>wpI P G pin b (exB id Q) st
 | .loop b,Q,st=>LoopI G pin (wpI P G pin b) Q st
 | .exit id,Q,st=>Q (.exit id) st
 | .ret,Q,st=>Q .ret st
def okD (n:Nat):Option Nat→Bool
 | some d=>decide (d<n)
 | none=>true
def ql3 (n:Nat) (ops:Array Oper):Option (Nat×Bool)→Option (Option (Nat×Bool))
 | none=>some none
 | some (j,b)=>((ops[j]?).bind (·.dst)).bind λd=>if d<n then some (some (d,b)) else none
def q54 (N:Bool) (P:Program) (n:Nat) (ops:Array Oper) (o:Oper):Option IOper :=
 (qe5 P o).bind λop=>(ql3 n ops o.guard).bind λg=>if okD n o.dst=true then some ⟨o.dst,g,op.asN N⟩ else none
def qe9:Opd→List Nat
 | .t n=>[n]
 | .c _=>[]
def optU:Option Opd→List Nat
 | none=>[]
 | some x=>qe9 x
def IOp.uses:IOp→List Nat
 | .mv x|.box _ x|.ld _ _ x|.nilc x|.isn _ x|.un _ x|.cvi _ x|.cvs x|.s2b x|.b2s x|.mks _ _ x|.mkn _ _ x|.mkl _ _ _ x|.fad _ x|.ext x _|.len x|.lens x=>qe9 x
 | .pick a b c=>qe9 a++qe9 b++qe9 c
 | .alloc _ _=>[]
 | .build _ ps=>ps.flatMap λp=>qe9 p.2.2
 | .bsl _ _ xs|.bsn _ _ xs|.mkf _ xs|.call _ xs=>xs.flatMap qe9
 | .sto _ x y|.bin _ x y|.beq _ x y|.eqs _ _ x y|.iad _ x y|.idx x y|.app _ _ x y|.aps _ x y|.apn _ x y|.mn x y|.mx x y=>qe9 x++qe9 y
 | .sls x l h|.slv _ x l h=>qe9 x++optU l++optU h
 | .cal x xs=>qe9 x++xs.flatMap qe9
def IOper.uses (o:IOper):List Nat:=o.op.uses++(match o.g with|some (n,_)=>[n]|none=>[])
def IOper.isCall (o:IOper):Bool:=match o.op with
 | .call ..|.cal ..=>true
 | _=>false
def qap (x y:IOper):Bool :=
 (match x.d with
  | some d=>!y.uses.contains d&&y.d != some d
  | none=>true) &&
 (match y.d with
  | some d=>!x.uses.contains d
  | none=>true)&&!(x.isCall&&y.isCall)
def qbr (bef:List Nat) (l:List (Nat×IOper)):Bool :=
 l.all λy=>l.all λx=>decide (y.1≤x.1)||Nat.testBit (bef.getD y.1 0) x.1||qap x.2 y.2
def qte (bef:List Nat) (ops:List Oper):Bool :=
 ops.zipIdx.all λo=>(o.1.after.toList.all λe=>!Region.binds .any e||(decide (e.on<o.2)&&Nat.testBit (bef.getD o.2 0) e.on)) &&
  (List.range o.2).all λj=>!Nat.testBit (bef.getD o.2 0) j||o.1.after.toList.any λe=>Region.binds .any e&&(decide (e.on=j)||(decide (j<e.on)&&Nat.testBit (bef.getD e.on 0) j))
def qc1 (N:Bool) (P:Program) (n:Nat):Code→Option IC
 | .skip=>some .skip
 | .region _ ops draw=>do
   let l ←ops.toList.mapM (q54 N P n ops)
   if draw then
    let bef:=(Region.before ops).toList
    let l':=(List.range l.length).zip l
    if P.follows .mixedOrders=true∧qte bef ops.toList=true∧qbr bef l'=true then some (.drw bef l') else none
   else some (.reg l)
 | .seq a b=>do some (.seq (←qc1 N P n a) (←qc1 N P n b))
 | .cond c a b=>do some (.cond (←q03 c) (←qc1 N P n a) (←qc1 N P n b))
 | .block id b=>do some (.block id (←qc1 N P n b))
 | .loop b=>do some (.loop (←qc1 N P n b))
 | .exit id=>some (.exit id)
 | .ret=>some .ret
 | _=>none
end Go.Proofs.YtpnekhiejecipaaGreatDoor.VL
