/- Part 3 of the proof: the walk over values, the plain model, contracts of the functions of the program. -/
import Derived.Test.YtiegngjdjheebaaGreatDoorZ02
import Derived.Test.YtiegngjdjheebaaGreatDoorChecked
import Derived.Shelf.LaysC
import Derived.Shelf.LaysM
import Derived.Shelf.Strings.Builder1
import Derived.Shelf.Small.Wraps
import Derived.Shelf.Strconv.Itoa3
import Derived.Shelf.Strconv.Clone
import Derived.Shelf.Strings.Cut
import Derived.Shelf.Strings.Split
import Derived.Test.YtiegngjdjheebaaGreatDoorProg
import Derived.OwnWalk
import Derived.WalkKit
import Derived.Deep.LoopGhost
import Derived.Lib.Walk
import Derived.Lib.SliceRun
import Derived.Shelf.Strings.OnBuilder
import Derived.Deep.RegionLaw
import Derived.Sort.WalkB12
import Derived.Shelf.Strconv.AtoiAll
set_option linter.all false
namespace Go.Proofs.YtiegngjdjheebaaGreatDoor.M
structure StepI (K:List Conv→Door→Prop) (N:List Conv→Door→Pk→Prop):Prop where
 say:∀(w:World) c up port n m p,WI w→K w.convs w.door→c∈w.convs→(up=false→port=portOf w.door.map c.ins)→say c up port n m=some p→N w.convs w.door p
 str:∀(w:World) p,WI w→K w.convs w.door→stranger w p=true→N w.convs w.door p
 pass:∀(w:World) p,WI w→K w.convs w.door→NetP w.convs p→N w.convs w.door p→(p.to.door=true∨p.frm.inside=true) →
  K w.convs (dPass w.door p).1∧(∀q,(dPass w.door p).2=some q→N w.convs (dPass w.door p).1 q)∧∀q,NetP w.convs q→N w.convs w.door q→N w.convs (dPass w.door p).1 q
 hear:∀(w:World) p i b c,WI w→K w.convs w.door→NetP w.convs p→N w.convs w.door p→¬(p.to.door=true∨p.frm.inside=true)→hostIx w p=some (i,b)→w.convs[i]?=some c →
  K (w.convs.set i (hear c b p).1) w.door∧(∀q,(hear c b p).2=some q→N (w.convs.set i (hear c b p).1) w.door q)∧∀q,NetP w.convs q→N w.convs w.door q→N (w.convs.set i (hear c b p).1) w.door q
structure SI (K:List Conv→Door→Prop) (N:List Conv→Door→Pk→Prop) (w:World):Prop where
 wi:WI w
 k:K w.convs w.door
 n:∀p∈w.nets,N w.convs w.door p
variable {K:List Conv→Door→Prop} {N:List Conv→Door→Pk→Prop}
theorem SI.erase {w:World} (h:SI K N w) (k:Nat):SI K N { w with nets:=w.nets.eraseIdx k }:=⟨h.wi.erase k,h.k,fun p hp=>h.n p (List.mem_of_mem_eraseIdx hp)⟩
theorem SI.carry {w:World} {p:Pk} (S:StepI K N) (h:SI K N w) (hp:NetP w.convs p) (hn:N w.convs w.door p):SI K N (carry w p).1∧∀q,(carry w p).2=some q→NetP (carry w p).1.convs q∧N (carry w p).1.convs (carry w p).1.door q:=by
 obtain⟨h1,h2⟩:=carry_ok h.wi hp
 suffices hh:K (M.carry w p).1.convs (M.carry w p).1.door∧(∀q∈(M.carry w p).1.nets,N (M.carry w p).1.convs (M.carry w p).1.door q)∧∀q,(M.carry w p).2=some q→N (M.carry w p).1.convs (M.carry w p).1.door q from
  ⟨⟨h1,hh.1,hh.2.1⟩,fun q hq=>⟨h2 q hq,hh.2.2 q hq⟩⟩
 clear h1 h2
 unfold M.carry
 split
 ·rename_i hc
  obtain⟨p1,p2,p3⟩:=S.pass w p h.wi h.k hp hn (by simpa using hc)
  exact⟨p1,fun q hq=>p3 q (h.wi.net q hq) (h.n q hq),p2⟩
 ·rename_i hc
  split
  ·exact⟨h.k,h.n,fun q hq=>by cases hq⟩
  ·rename_i i b hb
   obtain⟨c,hcv,_⟩:=hostIx_at hb
   simp only[hcv]
   obtain⟨p1,p2,p3⟩:=S.hear w p i b c h.wi h.k hp hn (by simpa using hc) hb hcv
   exact⟨p1,fun q hq=>p3 q (h.wi.net q hq) (h.n q hq),p2⟩
theorem SI.send {w:World} {o:Option Pk} (h:SI K N w) (hp:∀p,o=some p→NetP w.convs p∧N w.convs w.door p):SI K N (send w o):=by
 refine⟨send_ok h.wi fun p e=>(hp p e).1, ?_, ?_⟩<;>unfold M.send<;>cases o with
 | none=>first|exact h.k|exact h.n
 | some p =>
   simp only
   split<;>first|exact h.k|exact h.n|skip
   all_goals intro q hq
   all_goals rcases List.mem_append.1 hq with hq|hq
   all_goals first
    | exact h.n q hq
    | (simp only[List.mem_singleton] at hq;subst hq;exact(hp _ rfl).2)
theorem SI.sayW {w:World} (S:StepI K N) (h:SI K N w) {up:Bool} {a b c:Int} {p:Pk} (hs:sayW w up a b c=some p):N w.convs w.door p:=by
 unfold M.sayW at hs
 split at hs
 ·split at hs
  ·rename_i cv hcv
   exact S.say w cv up _ b c p h.wi h.k (List.mem_of_getElem? hcv) (fun hu=>by subst hu;rfl) hs
  ·cases hs
 ·cases hs
theorem SI.wDo {w:World} (S:StepI K N) (h:SI K N w) (e:Ev):SI K N (wDo w e):=by
 unfold M.wDo
 simp only
 split
 ·exact h.send fun p hp=>⟨sayW_net h.wi hp,h.sayW S hp⟩
 split
 ·exact h.send fun p hp=>⟨sayW_net h.wi hp,h.sayW S hp⟩
 split
 ·split
  ·split
   ·rename_i p hp
    obtain⟨h1,h2⟩:=(h.erase e.a.toNat).carry S (h.wi.net p (List.mem_of_getElem? hp)) (h.n p (List.mem_of_getElem? hp))
    exact h1.send h2
   ·exact h
  ·exact h
 split
 ·split
  ·exact h.erase _
  ·exact h
 split
 ·split
  ·exact h.send fun p hp=>⟨h.wi.net p (List.mem_of_getElem? hp),h.n p (List.mem_of_getElem? hp)⟩
  ·exact h
 split
 ·split
  ·rename_i hs
   exact h.send fun p hp=>by cases hp;exact⟨stranger_net hs,S.str w _ h.wi h.k hs⟩
  ·exact h
 ·exact h
theorem SI.play {w:World} (S:StepI K N) (h:SI K N w):∀es:List Ev,SI K N (es.foldl M.wDo w)
 | []=>h
 | e::es=>SI.play S (h.wDo S e) es
theorem SI.through (S:StepI K N):∀(n:Nat) {w:World} {o:Option Pk},SI K N w→(∀p,o=some p→NetP w.convs p∧N w.convs w.door p)→SI K N (through n w o)
 | 0,_,_,h,_=>h
 | _+1,_,none,h,_=>h
 | n+1,_,some p,h,ho=>by
   obtain⟨h1,h2⟩:=h.carry S (ho p rfl).1 (ho p rfl).2
   exact SI.through S n h1 h2
def Apart (cs:List Conv):Prop:=∀(i j:Nat) c d,cs[i]?=some c→cs[j]?=some d→(c.ins=d.ins∨c.out=d.out)→i=j
theorem together_apart {cs:List Conv} (h:together cs=true):Apart cs:=by
 have key:∀(i j:Nat) c d,i<j→cs[i]?=some c→cs[j]?=some d→¬(c.ins=d.ins∨c.out=d.out):=by
  intro i j c d hij hi hj
  obtain⟨hl,rfl⟩:=List.getElem?_eq_some_iff.1 hj
  have:=(together_iff.1 h).2 j hl
  rw[okConv_i hl,Bool.and_eq_true,Bool.not_eq_true'] at this
  have hm:c∈cs.take j:=List.mem_iff_getElem?.2 ⟨i,by rw[List.getElem?_take,if_pos hij];exact hi⟩
  have:=List.any_eq_false.1 this.2 c hm
  simpa using this
 intro i j c d hi hj he
 rcases Nat.lt_trichotomy i j with h1|h1|h1
 ·exact absurd he (key i j c d h1 hi hj)
 ·exact h1
 ·exact absurd (he.imp Eq.symm Eq.symm) (key j i d c h1 hj hi)
theorem Apart.set {cs:List Conv} (h:Apart cs) {i:Nat} {c x:Conv} (hi:cs[i]?=some c) (h1:x.ins=c.ins) (h2:x.out=c.out):Apart (cs.set i x):=by
 have hl:=(List.getElem?_eq_some_iff.1 hi).1
 have key:∀(j:Nat) y,(cs.set i x)[j]?=some y→∃z,cs[j]?=some z∧y.ins=z.ins∧y.out=z.out:=by
  intro j y hy
  by_cases hij:i=j
  ·subst hij
   rw[List.getElem?_set_self hl] at hy;cases hy
   exact⟨c,hi,h1,h2⟩
  ·rw[List.getElem?_set_ne hij] at hy
   exact⟨y,hy,rfl,rfl⟩
 intro j k a b ha hb he
 obtain⟨a',ha',e1,e2⟩:=key j a ha
 obtain⟨b',hb',e3,e4⟩:=key k b hb
 exact h j k a' b' ha' hb' (by rw[←e1,←e2,←e3,←e4];exact he)
theorem newConvs_got:∀ {cs ns:List Conv},newConvs cs=some ns→∀c∈ns,c.upGot=[]∧c.downGot=[]∧c.upAck=0∧c.downAck=0
 | [],ns,h,c,hc=>by cases h;cases hc
 | a::cs,ns,h,c,hc=>by
   simp only[newConvs] at h
   split at h
   ·rename_i n ns' h1 h2
    cases h
    rcases List.mem_cons.1 hc with rfl|hc
    ·unfold convNew at h1
     split at h1
     ·cases h1;exact⟨rfl,rfl,rfl,rfl⟩
     ·cases h1
    ·exact newConvs_got h2 c hc
   ·cases h
theorem worldNew_is {cs:List Conv} {w:World} (h:worldNew cs=some w):together w.convs=true∧newConvs cs=some w.convs∧w.door=.zero∧w.nets=[]:=by
 unfold worldNew at h
 split at h
 ·rename_i ns hn
  split at h
  ·rename_i ht
   cases h
   exact⟨ht,hn,rfl,rfl⟩
  ·cases h
 ·cases h
theorem worldPlay_is {cs:List Conv} {es:List Ev} {w:World} (h:worldPlay cs es=some w):∃w0,worldNew cs=some w0∧es.length≤60∧w=es.foldl wDo w0:=by
 unfold worldPlay at h
 split at h
 ·rename_i w0 h0
  split at h
  ·rename_i hl
   cases h
   exact⟨w0,h0,hl,rfl⟩
  ·cases h
 ·cases h
theorem play_si {cs:List Conv} {es:List Ev} {w:World} (S:StepI K N) (h0:∀w0:World,worldNew cs=some w0→K w0.convs w0.door) (h:worldPlay cs es=some w):SI K N w:=by
 obtain⟨w0,h1,_,rfl⟩:=worldPlay_is h
 obtain⟨_,_,_,hn⟩:=worldNew_is h1
 exact SI.play S ⟨worldNew_ok h1,h0 w0 h1,by rw[hn];intro p hp;cases hp⟩ es
theorem hostIx_is {w:World} {p:Pk} {i:Nat} {b:Bool} {c:Conv} (h:hostIx w p=some (i,b)) (hc:w.convs[i]?=some c) :
 (bif b then p.to=c.ins∧p.frm=c.out else p.to=c.out∧p.frm.door=true∧p.frm.p=portOf w.door.map c.ins):=by
 unfold hostIx at h
 split at h
 ·rename_i k hk
  split at h
  ·rename_i d hd
   cases h
   rw[hc] at hd;cases hd
   obtain⟨hlt,hp,_⟩:=List.findIdx?_eq_some_iff_getElem.1 hk
   have:w.convs[i]=c:=by
    have:=zE hlt
    rw[hc] at this;cases this;rfl
   rw[this] at hp
   simp only[Bool.or_eq_true,Bool.and_eq_true,decide_eq_true_eq] at hp
   by_cases h1:p.to=c.ins∧p.frm=c.out
   ·simp[h1]
   ·have:(decide (p.to=c.ins)&&decide (p.frm=c.out))=false:=by
     simpa using h1
    rw[this]
    rcases hp with hp|hp
    ·exact absurd hp h1
    ·exact⟨hp.1.1,hp.1.2,hp.2⟩
  ·cases h
 ·cases h
theorem hear_grows (c:Conv) (b:Bool) (p:Pk):(∃x,(hear c b p).1.upGot=c.upGot++x)∧(∃x,(hear c b p).1.downGot=c.downGot++x)∧c.upAck≤(hear c b p).1.upAck∧c.downAck≤(hear c b p).1.downAck:=by
 have key:∀(g:B) (n:Int) (t:B),∃x,(behind g n t).1=g++x:=by
  intro g n t
  unfold behind
  split
  ·exact⟨[],by simp⟩
  ·split
   ·exact⟨[],by simp⟩
   ·exact⟨_,rfl⟩
 unfold hear
 cases b<;>simp only[cond_true,cond_false]<;>split
 ·split
  ·exact⟨⟨[],by simp⟩,⟨[],by simp⟩,Int.le_refl _,Int.le_max_left _ _⟩
  ·exact⟨key _ _ _,⟨[],by simp⟩,Int.le_refl _,Int.le_refl _⟩
 ·exact⟨⟨[],by simp⟩,⟨[],by simp⟩,Int.le_refl _,Int.le_refl _⟩
 ·split
  ·exact⟨⟨[],by simp⟩,⟨[],by simp⟩,Int.le_max_left _ _,Int.le_refl _⟩
  ·exact⟨⟨[],by simp⟩,key _ _ _,Int.le_refl _,Int.le_refl _⟩
 ·exact⟨⟨[],by simp⟩,⟨[],by simp⟩,Int.le_refl _,Int.le_refl _⟩
theorem mOut_pre (m:List Pair) (e:E):∃x,(mOut m e).1=m++x:=by
 unfold mOut
 split
 ·exact⟨[],by simp⟩
 ·split
  ·exact⟨[],by simp⟩
  ·exact⟨_,rfl⟩
theorem turn_pre (m:List Pair) (p:Pc) (s:B) (out:Bool):∃x,(turn m p s out).1=m++x:=by
 unfold turn
 cases out
 ·exact⟨[],by simp⟩
 ·simp only[cond_true,pieceOut]
  split
  ·have:=mOut_pre m p.e
   split
   ·rename_i h;rw[h] at this;exact this
   ·exact⟨[],by simp⟩
  ·exact⟨[],by simp⟩
theorem turned_pre:∀(l:List Pc) (m:List Pair) (s:B) (out:Bool),∃x,(turned m l s out).1=m++x
 | [],m,s,out=>⟨[],by simp[turned]⟩
 | p::l,m,s,out=>by
   obtain⟨x,hx⟩:=turn_pre m p (s.take p.size) out
   obtain⟨y,hy⟩:=turned_pre l (turn m p (s.take p.size) out).1 (s.drop p.size) out
   exact⟨x++y,by simp only[turned];rw[hy,hx,List.append_assoc]⟩
theorem put_pre (m:List Pair) (s:Strm) (n:Int) (t:B) (out:Bool):∃x,(put m s n t out).1=m++x:=by
 unfold put
 split
 ·exact turned_pre _ _ _ _
 ·exact⟨[],by simp⟩
theorem portOf_app {m x:List Pair} {e:E} (h:portOf m e≠0):portOf (m++x) e=portOf m e:=by
 unfold portOf at h ⊢
 rw[List.find?_append]
 cases hf:m.find? fun p=>decide (p.ins=e) with
 | none=>rw[hf] at h;exact absurd rfl h
 | some p=>rfl
theorem put_port {m:List Pair} {s:Strm} {n:Int} {t:B} {out:Bool} {e:E} (h:portOf m e≠0):portOf (put m s n t out).1 e=portOf m e:=by
 obtain⟨x,hx⟩:=put_pre m s n t out
 rw[hx];exact portOf_app h
theorem portOf_door {m:List Pair} {e:E} (hm:mapOk m=true) (h:portOf m e≠0):(⟨9,portOf m e⟩:E).door=true:=by
 obtain⟨hp,_⟩:=mapOk_ports hm
 have h1:=mOut_found (fun p h=>(hp p h).1) h
 have:=mOut_door (e:=e) hm (by rw[h1])
 rw[h1] at this
 exact this
theorem dPass_is {cs:List Conv} {d:Door} {p q:Pk} (hd:doorOk d=true) (hp:NetP cs p) (h:(dPass d p).2=some q) :
 (p.outward=true∧q.frm=⟨9,portOf (dPass d p).1.map p.frm⟩∧q.frm.door=true∧q.to=p.to∧q.kind=p.kind) ∨
 (p.inward=true∧q.frm=p.frm∧q.to.inside=true∧insideOf d.map p.to.p=some q.to∧q.kind=p.kind∧(flowIx d.flows q.to q.frm).isSome=true):=by
 unfold dPass at h ⊢
 split at h
 ·rename_i ho
  have ho':=ho
  rw[if_pos ho]
  simp only[Pk.outward,Bool.and_eq_true] at ho
  left
  cases hok:(openR d p.frm p.to).2.2 with
  | false=>rw[dOut_no hok] at h;cases h
  | true =>
    have hx:=openR_ok hd ho.1 ho.2 hok
    rw[dOut_yes hok hx.kl] at h ⊢
    obtain⟨_,_,h2,h3,h4⟩:=outK_P hx.ok hx.kl hp.pk h
    have hmap:=hx.map
    have hport:=hx.port
    have hmp:portOf (outK (openR d p.frm p.to).1 (openR d p.frm p.to).2.1 p).1.map p.frm=portOf (openR d p.frm p.to).1.map p.frm:=by
     unfold outK
     split
     ·split<;>rfl
     ·split
      ·rfl
      ·have hf:(openR d p.frm p.to).1.flows[(openR d p.frm p.to).2.1]?=some (Flw.at (openR d p.frm p.to).1 (openR d p.frm p.to).2.1):=by simp[Flw.at,List.getD,hx.kl]
       exact put_port hport
    have hdr:(⟨9,portOf (openR d p.frm p.to).1.map p.frm⟩:E).door=true:=portOf_door hmap hport
    exact⟨ho',by rw[h2,hmp],by rw[h2];exact hdr,h3,h4⟩
 ·rename_i hno
  rw[if_neg hno]
  split at h
  ·rename_i hi
   have hi':=hi
   simp only[Pk.inward,Bool.and_eq_true] at hi
   right
   cases h1:insideOf d.map p.to.p with
   | none=>rw[dIn_no1 h1] at h;cases h
   | some i =>
     cases h2:flowIx d.flows i p.frm with
     | none=>rw[dIn_no2 h1 h2] at h;cases h
     | some k =>
       obtain⟨hk,he⟩:=dIn_yes h1 h2
       rw[he] at h
       obtain⟨_,h4,h5,h6⟩:=inK_P hd hk hp.pk h
       exact⟨hi',h4,by rw[h5];exact insideOf_ok (doorOk_iff.1 hd).1 h1,by rw[h5],h6,by rw[h5,h4,h2];rfl⟩
  ·cases h
theorem hear_at {c:Conv} {b:Bool} {p q:Pk} (h:(hear c b p).2=some q):q.at_=(bif b then(hear c b p).1.downGot.length else(hear c b p).1.upGot.length:Nat):=by
 revert h
 unfold hear
 cases b<;>simp only[cond_true,cond_false]<;>split
 ·split<;>(intro h;cases h)
  rfl
 ·intro h;cases h
 ·split<;>(intro h;cases h)
  rfl
 ·intro h;cases h
theorem mem_set_or {cs:List Conv} {i:Nat} {x y:Conv} (h:y∈cs.set i x):y∈cs∨y=x:=List.mem_or_eq_of_mem_set h
def SmS (s:Strm):Prop:=∀p∈s.parts,5*p.text.length≤6*p.size.toNat
theorem name_56 {e:E} (h:e.any=true):5≤(name e).length∧(name e).length≤6:=by
 have key:∀e∈ends,5≤(name e).length∧(name e).length≤6:=by decide
 exact key e (E.any_iff.1 h)
theorem nameAt_any {s:B} {e:E} (h:nameAt s=some e):e.any=true:=by
 unfold nameAt at h
 split at h
 ·cases h
 ·split at h
  ·unfold endRead at h
   exact E.any_iff.2 (List.mem_of_find?_eq_some h)
  ·cases h
theorem pcK_named:∀(n:Nat) (s:B),∀q∈pcK n s,q.named=true→5≤q.size
 | 0,s,q,hq,_=>by simp[pcK] at hq
 | n+1,[],q,hq,_=>by simp[pcK] at hq
 | n+1,c::r,q,hq,hn=>by
   rw[pcK] at hq
   split at hq
   ·rename_i e he
    rcases List.mem_cons.1 hq with rfl|hq
    ·exact(name_56 (nameAt_any he)).1
    ·exact pcK_named n _ q hq hn
   ·rcases List.mem_cons.1 hq with rfl|hq
    ·cases hn
    ·exact pcK_named n _ q hq hn
theorem turn_sm {m:List Pair} (hm:mapOk m=true) (p:Pc) (s:B) (out:Bool) (hp:p.named=true→5≤p.size) (hs:s.length≤p.size):5*(turn m p s out).2.length≤6*p.size:=by
 unfold turn
 cases out
 ·simp only[cond_false,pieceIn]
  split
  ·rename_i h
   simp only[Bool.and_eq_true] at h
   split
   ·rename_i e he
    have:=(name_56 (inside_any (insideOf_ok hm he))).2
    have:=hp h.1
    omega
   ·omega
  ·omega
 ·simp only[cond_true,pieceOut]
  split
  ·rename_i h
   simp only[Bool.and_eq_true] at h
   split
   ·rename_i x port he
    have hd:=mOut_door (e:=p.e) hm (by rw[he])
    rw[he] at hd
    have:=(name_56 (door_any hd)).2
    have:=hp h.1
    simp only at *;omega
   ·simp only;omega
  ·simp only;omega
theorem turned_sm:∀ {l:List Pc} {m:List Pair} {s:B} {out:Bool},mapOk m=true→(∀q∈l,q.named=true→5≤q.size)→∀p∈mkParts l (turned m l s out).2,5*p.text.length≤6*p.size.toNat
 | [],m,s,out,_,_,p,hp=>by simp[mkParts] at hp
 | q::l,m,s,out,hm,hq,p,hp=>by
   simp only[turned,mkParts] at hp
   rcases List.mem_cons.1 hp with rfl|hp
   ·have:=turn_sm hm q (s.take q.size) out (hq q (by simp)) (by simp;omega)
    simpa using this
   ·exact turned_sm (turn_mapOk hm q _ out) (fun x hx=>hq x (by simp[hx])) p hp
theorem put_sm {m:List Pair} {s:Strm} {n:Int} {t:B} {out:Bool} (hm:mapOk m=true) (hs:SmS s):SmS (put m s n t out).2.1:=by
 unfold put
 split
 ·intro p hp
  simp only at hp
  rcases List.mem_append.1 hp with hp|hp
  ·exact hs p hp
  ·refine turned_sm hm (fun q hq=>?_) p hp
   exact pcK_named _ _ q (List.mem_of_mem_drop hq)
 ·exact hs
theorem sOut_65 {s:Strm} (hs:SmS s) (hok:strmOk s=true):5*(sOut s).length≤6*s.inn.length:=by
 have key:∀l:List Part,(∀p∈l,5*p.text.length≤6*p.size.toNat)→5*(l.flatMap (·.text)).length≤6*doneP l:=by
  intro l
  induction l with
  | nil=>intro _;simp[doneP]
  | cons p l ih =>
    intro h
    have h1:=h p (by simp)
    have h2:=ih fun q hq=>h q (by simp[hq])
    rw[doneP_cons]
    simp only[List.flatMap_cons,zA]
    omega
 have h1:=key s.parts hs
 have h2:=(strmOk_done hok).1
 have h4:(body s.inn).length≤s.inn.length:=by simp[body]
 show 5*(s.parts.flatMap (·.text)).length≤6*s.inn.length
 omega
theorem sOut_sm {s:Strm} (hs:SmS s) (hok:strmOk s=true):(sOut s).length≤80:=by
 have h1:=sOut_65 hs hok
 have h3:=(strmOk_B hok).1
 omega
def DoorS (d:Door):Prop:=∀f∈d.flows,SmS f.up∧SmS f.down
theorem dOut_sm {d:Door} {p:Pk} (hd:doorOk d=true) (h:p.outward=true) (hs:DoorS d):DoorS (dOut d p).1:=by
 simp only[Pk.outward,Bool.and_eq_true] at h
 have hz:SmS .zero:=fun p hp=>by cases hp
 cases hok:(openR d p.frm p.to).2.2 with
 | false=>rw[dOut_no hok];exact hs
 | true =>
   have hx:=openR_ok hd h.1 h.2 hok
   rw[dOut_yes hok hx.kl]
   have hxs:DoorS (openR d p.frm p.to).1:=by
    unfold openR openF
    split
    ·rename_i ho
     split at ho
     ·cases ho;exact hs
     ·split at ho
      ·split at ho
       ·cases ho
        intro f hf
        rcases List.mem_append.1 hf with hf|hf
        ·exact hs f hf
        ·simp only[List.mem_singleton] at hf;subst hf;exact⟨hz,hz⟩
       ·cases ho
      ·cases ho
    ·exact hs
   have hf:(openR d p.frm p.to).1.flows[(openR d p.frm p.to).2.1]?=some (Flw.at (openR d p.frm p.to).1 (openR d p.frm p.to).2.1):=by simp[Flw.at,List.getD,hx.kl]
   unfold outK
   split
   ·split<;>exact hxs
   ·split
    ·exact hxs
    ·intro f hf2
     simp only at hf2
     have hat:=hxs _ (List.mem_of_getElem? hf)
     rcases List.mem_or_eq_of_mem_set hf2 with hf2|rfl
     ·exact hxs f hf2
     ·exact⟨put_sm hx.map hat.1,hat.2⟩
theorem dIn_sm {d:Door} {p:Pk} (hd:doorOk d=true) (hs:DoorS d):DoorS (dIn d p).1:=by
 cases h1:insideOf d.map p.to.p with
 | none=>rw[dIn_no1 h1];exact hs
 | some i =>
   cases h2:flowIx d.flows i p.frm with
   | none=>rw[dIn_no2 h1 h2];exact hs
   | some k =>
     obtain⟨hk,he⟩:=dIn_yes h1 h2
     rw[he]
     have hf:d.flows[k]?=some (Flw.at d k):=by simp[Flw.at,List.getD,hk]
     unfold inK
     split
     ·split<;>exact hs
     ·split
      ·exact hs
      ·intro f hf2
       simp only at hf2
       have hat:=hs _ (List.mem_of_getElem? hf)
       rcases List.mem_or_eq_of_mem_set hf2 with hf2|rfl
       ·exact hs f hf2
       ·exact⟨hat.1,put_sm (doorOk_iff.1 hd).1 hat.2⟩
theorem dPass_sm {d:Door} {p:Pk} (hd:doorOk d=true) (hs:DoorS d):DoorS (dPass d p).1:=by
 unfold dPass
 split
 ·rename_i h;exact dOut_sm hd h hs
 ·split
  ·exact dIn_sm hd hs
  ·exact hs
theorem pkOk_mk {p:Pk} (h1:p.frm.any=true) (h2:p.to.any=true) (h3:0≤p.at_∧p.at_≤99) (hp:PkP p) (h4:p.kind=1→p.text≠[]):pkOk p=true:=by
 simp only[pkOk,h1,h2,within_iff.2 h3,Bool.true_and,Bool.or_eq_true,Bool.and_eq_true,decide_eq_true_eq]
 rcases hp.kd with h|h
 ·left
  refine⟨⟨h,hp.tx.resolve_left (by omega)⟩, ?_⟩
  have:=h4 h
  cases ht:p.text with
  | nil=>exact absurd ht this
  | cons=>rfl
 ·right
  exact⟨h,by rw[hp.ack h];rfl⟩
theorem sendOn_ne {was is:Strm} {p q:Pk} (h:sendOn was is p=some q):q.text≠[]:=by
 have h1:=forP_le (l:=is.parts) p.at_
 have h2:=toR_le was is p
 have e:sendOn was is p=if forP is.parts p.at_≥toR was is p then none else if toR was is p - forP is.parts p.at_≤40 then some { p with at_:=forP is.parts p.at_,text:=((sOut is).take (toR was is p).toNat).drop (forP is.parts p.at_).toNat } else none:=rfl
 rw[e] at h
 generalize forP is.parts p.at_=a at *
 generalize toR was is p=b at *
 split at h
 ·cases h
 ·split at h
  ·cases h
   intro hn
   have:=congrArg List.length hn
   simp only[List.length_drop,List.length_take,zN] at this
   omega
  ·cases h
theorem sendOn_at {was is:Strm} {p q:Pk} (h:sendOn was is p=some q):0≤q.at_∧q.at_≤(sOut is).length:=by
 have h1:=forP_le (l:=is.parts) p.at_
 have e:sendOn was is p=if forP is.parts p.at_≥toR was is p then none else if toR was is p - forP is.parts p.at_≤40 then some { p with at_:=forP is.parts p.at_,text:=((sOut is).take (toR was is p).toNat).drop (forP is.parts p.at_).toNat } else none:=rfl
 rw[e] at h
 split at h
 ·cases h
 ·split at h
  ·cases h;exact h1
  ·cases h
theorem backP_done {l:List Part} (h:∀p∈l,1≤p.size):∀n,backP l n≤(doneP l:Int):=by
 induction l with
 | nil=>intro n;simp[backP,doneP]
 | cons p l ih =>
   intro n
   have h1:=h p (by simp)
   have h2:=ih (fun q hq=>h q (by simp[hq])) (n - p.text.length)
   rw[doneP_cons]
   simp only[backP]
   split<;>omega
theorem outK_at {x:Door} {k:Nat} {p q:Pk} (hd:doorOk x=true) (hs:DoorS x) (hk:k<x.flows.length) (hp:PkP p) (h:(outK x k p).2=some q):(0≤q.at_∧q.at_≤99)∧(q.kind=1→q.text≠[]):=by
 have hf:x.flows[k]?=some (Flw.at x k):=by simp[Flw.at,List.getD,hk]
 obtain⟨_,_,hu,hdn,_⟩:=flow_at hd hf
 obtain⟨hs1,hs2⟩:=hs _ (List.mem_of_getElem? hf)
 unfold outK at h
 split at h
 ·split at h
  ·cases h
  ·cases h
   have hb:=strmOk_B hdn
   have h1:=backP_P (fun p hp=>(hb.2.2 p hp).1) hb.2.1 p.at_
   have h2:=backP_done (fun p hp=>(hb.2.2 p hp).1.1) p.at_
   have h3:=(strmOk_done hdn).1
   have h4:(body (Flw.at x k).down.inn).length≤(Flw.at x k).down.inn.length:=by simp[body]
   have:=hb.1
   exact⟨by simp only;omega,fun h=>by cases h⟩
 ·rename_i hkd
  split at h
  ·cases h
  ·obtain⟨p1,p2⟩:=put_ok (out:=true) (doorOk_iff.1 hd).1 hu (hp.tx.resolve_left hkd) hp.at_.1
   simp only[zM] at h
   obtain⟨q',hq,rfl⟩:=h
   have h1:=sendOn_at hq
   have h2:=sOut_sm (put_sm (out:=true) (n:=p.at_) (t:=p.text) (doorOk_iff.1 hd).1 hs1) p2
   have hne:=sendOn_ne hq
   exact⟨by simp only;omega,fun _=>hne⟩
theorem inK_at {x:Door} {k:Nat} {i:E} {p q:Pk} (hd:doorOk x=true) (hs:DoorS x) (hk:k<x.flows.length) (hp:PkP p) (h:(inK x k i p).2=some q):(0≤q.at_∧q.at_≤99)∧(q.kind=1→q.text≠[]):=by
 have hf:x.flows[k]?=some (Flw.at x k):=by simp[Flw.at,List.getD,hk]
 obtain⟨_,_,hu,hdn,_⟩:=flow_at hd hf
 obtain⟨hs1,hs2⟩:=hs _ (List.mem_of_getElem? hf)
 unfold inK at h
 split at h
 ·split at h
  ·cases h
  ·cases h
   have hb:=strmOk_B hu
   have h1:=backP_P (fun p hp=>(hb.2.2 p hp).1) hb.2.1 p.at_
   have h2:=backP_done (fun p hp=>(hb.2.2 p hp).1.1) p.at_
   have h3:=(strmOk_done hu).1
   have h4:(body (Flw.at x k).up.inn).length≤(Flw.at x k).up.inn.length:=by simp[body]
   have:=hb.1
   exact⟨by simp only;omega,fun h=>by cases h⟩
 ·rename_i hkd
  split at h
  ·cases h
  ·obtain⟨p1,p2⟩:=put_ok (out:=false) (doorOk_iff.1 hd).1 hdn (hp.tx.resolve_left hkd) hp.at_.1
   simp only[zM] at h
   obtain⟨q',hq,rfl⟩:=h
   have h1:=sendOn_at hq
   have h2:=sOut_sm (put_sm (out:=false) (n:=p.at_) (t:=p.text) (doorOk_iff.1 hd).1 hs2) p2
   have hne:=sendOn_ne hq
   exact⟨by simp only;omega,fun _=>hne⟩
theorem openR_sm {d:Door} {i o:E} (hs:DoorS d):DoorS (openR d i o).1:=by
 have hz:SmS .zero:=fun p hp=>by cases hp
 unfold openR openF
 split
 ·rename_i ho
  split at ho
  ·cases ho;exact hs
  ·split at ho
   ·split at ho
    ·cases ho
     intro f hf
     rcases List.mem_append.1 hf with hf|hf
     ·exact hs f hf
     ·simp only[List.mem_singleton] at hf;subst hf;exact⟨hz,hz⟩
    ·cases ho
   ·cases ho
 ·exact hs
theorem dPass_at {cs:List Conv} {d:Door} {p q:Pk} (hd:doorOk d=true) (hs:DoorS d) (hp:NetP cs p) (h:(dPass d p).2=some q):pkOk q=true:=by
 have his:=dPass_is hd hp h
 have hqp:=(dPass_P hd hp h).pk
 have hat:(0≤q.at_∧q.at_≤99)∧(q.kind=1→q.text≠[]):=by
  unfold dPass at h
  split at h
  ·rename_i ho
   simp only[Pk.outward,Bool.and_eq_true] at ho
   cases hok:(openR d p.frm p.to).2.2 with
   | false=>rw[dOut_no hok] at h;cases h
   | true =>
     have hx:=openR_ok hd ho.1 ho.2 hok
     rw[dOut_yes hok hx.kl] at h
     exact outK_at hx.ok (openR_sm hs) hx.kl hp.pk h
  ·split at h
   ·cases h1:insideOf d.map p.to.p with
    | none=>rw[dIn_no1 h1] at h;cases h
    | some i =>
      cases h2:flowIx d.flows i p.frm with
      | none=>rw[dIn_no2 h1 h2] at h;cases h
      | some k =>
        obtain⟨hk,he⟩:=dIn_yes h1 h2
        rw[he] at h
        exact inK_at hd hs hk hp.pk h
   ·cases h
 refine pkOk_mk ?_ ?_ hat.1 hqp hat.2
 ·rcases his with⟨_,_,h2,_⟩|⟨h1,h2,_⟩
  ·exact door_any h2
  ·simp only[Pk.inward,Bool.and_eq_true] at h1
   rw[h2];simp[E.any,h1.1]
 ·rcases his with⟨h1,_,_,h3,_⟩|⟨_,_,h3,_⟩
  ·simp only[Pk.outward,Bool.and_eq_true] at h1
   rw[h3];simp[E.any,h1.2]
  ·exact inside_any h3
theorem dOut_keep {d:Door} {p:Pk}:∀g∈d.flows,∃f∈(dOut d p).1.flows,f.ins=g.ins∧f.out=g.out:=by
 have hin:∀g∈d.flows,∃f∈d.flows,f.ins=g.ins∧f.out=g.out:=fun f hf=>⟨f,hf,rfl,rfl⟩
 have hop:∀x k,openF d p.frm p.to=some (x,k)→∀g∈d.flows,g∈x.flows:=by
  intro x k h
  unfold openF at h
  split at h
  ·cases h;exact fun g hg=>hg
  ·split at h
   ·split at h
    ·cases h
     intro g hg
     simp[hg]
    ·cases h
   ·cases h
 unfold dOut
 split
 ·exact hin
 ·rename_i x k ho
  have hx:=hop x k ho
  split
  ·exact fun g hg=>⟨g,hx g hg,rfl,rfl⟩
  ·rename_i f hf
   split
   ·split<;>exact fun g hg=>⟨g,hx g hg,rfl,rfl⟩
   ·split
    ·exact fun g hg=>⟨g,hx g hg,rfl,rfl⟩
    ·intro g hg
     obtain⟨j,hj⟩:=List.mem_iff_getElem?.1 (hx g hg)
     have hl:=(List.getElem?_eq_some_iff.1 hf).1
     by_cases hkj:k=j
     ·subst hkj
      rw[hf] at hj;cases hj
      exact⟨_,List.mem_set hl _,rfl,rfl⟩
     ·exact⟨g,List.mem_iff_getElem?.2 ⟨j,by simp only;rw[List.getElem?_set_ne hkj];exact hj⟩,rfl,rfl⟩
theorem dIn_keep {d:Door} {p:Pk}:∀g∈d.flows,∃f∈(dIn d p).1.flows,f.ins=g.ins∧f.out=g.out:=by
 have hin:∀g∈d.flows,∃f∈d.flows,f.ins=g.ins∧f.out=g.out:=fun f hf=>⟨f,hf,rfl,rfl⟩
 unfold dIn
 split
 ·exact hin
 ·split
  ·exact hin
  ·rename_i k _
   split
   ·exact hin
   ·rename_i f hf
    split
    ·split<;>exact hin
    ·split
     ·exact hin
     ·intro g hg
      obtain⟨j,hj⟩:=List.mem_iff_getElem?.1 hg
      have hl:=(List.getElem?_eq_some_iff.1 hf).1
      by_cases hkj:k=j
      ·subst hkj
       rw[hf] at hj;cases hj
       exact⟨_,List.mem_set hl _,rfl,rfl⟩
      ·exact⟨g,List.mem_iff_getElem?.2 ⟨j,by simp only;rw[List.getElem?_set_ne hkj];exact hj⟩,rfl,rfl⟩
theorem dPass_keep {d:Door} {p:Pk}:∀g∈d.flows,∃f∈(dPass d p).1.flows,f.ins=g.ins∧f.out=g.out:=by
 unfold dPass
 split
 ·exact dOut_keep
 ·split
  ·exact dIn_keep
  ·exact fun f hf=>⟨f,hf,rfl,rfl⟩
def Has (d:Door) (i o:E):Prop:=∃f∈d.flows,f.ins=i∧f.out=o
theorem has_ix {d:Door} {i o:E}:(flowIx d.flows i o).isSome=true↔Has d i o:=by
 constructor
 ·intro h
  obtain⟨k,hk⟩:=Option.isSome_iff_exists.1 h
  obtain⟨f,hf,h1,h2,_⟩:=flowIx_some hk
  exact⟨f,List.mem_of_getElem? hf,h1,h2⟩
 ·rintro⟨f,hf,h1,h2⟩
  cases h:flowIx d.flows i o with
  | some k=>rfl
  | none =>
    have:=List.any_eq_false.1 (flowIx_none.1 h) f hf
    simp[sameF,h1,h2] at this
theorem has_pass {d:Door} {p:Pk} {i o:E} (h:Has d i o):Has (dPass d p).1 i o:=by
 obtain⟨f,hf,h1,h2⟩:=h
 obtain⟨g,hg,h3,h4⟩:=dPass_keep (p:=p) f hf
 exact⟨g,hg,by rw[h3,h1],by rw[h4,h2]⟩
def NetN (_:List Conv) (d:Door) (p:Pk):Prop:=pkOk p=true ∧
 ((p.frm.inside=true∧p.to.outside=true)∨(p.frm.door=true∧p.to.outside=true)∨(p.frm.outside=true∧p.to.door=true)∨(p.frm.outside=true∧p.to.inside=true∧Has d p.to p.frm))
theorem net_step:StepI (fun _ d=>DoorS d) NetN where
 say:=fun w c up port n m p hw hk hc hport hs=>by
  have hcv:=hw.cv c hc
  obtain⟨h1,h2,h3,h4,h5,h6,h7⟩:=say_P hcv hs
  have hcc:=convOk_iff.1 hcv
  have hne:p.text≠[]:=by
   rw[h5]
   intro hn
   have:=congrArg List.length hn
   simp only[List.length_take,List.length_drop,zN] at this
   omega
  have hlen:((bif up then c.up else c.down).length:Int)≤24:=by
   have:=convOk_B hcv
   cases up
   ·have:=this.down;simp only[cond_false];omega
   ·have:=this.up;simp only[cond_true];omega
  have hat:0≤p.at_∧p.at_≤99:=by rw[h4];omega
  cases up with
  | true =>
    simp only[cond_true] at h3
    refine⟨pkOk_mk ?_ ?_ hat h1 (fun _=>hne),.inl ⟨by rw[h3.1];exact hcc.1.1,by rw[h3.2];exact hcc.1.2.1⟩⟩
    ·rw[h3.1];exact inside_any hcc.1.1
    ·rw[h3.2];simp[E.any,hcc.1.2.1]
  | false =>
    simp only[cond_false] at h3
    have hd:(⟨9,port⟩:E).door=true:=E.door_iff.2 ⟨rfl,h3.2.2⟩
    refine⟨pkOk_mk ?_ ?_ hat h1 (fun _=>hne),.inr (.inr (.inl ⟨by rw[h3.1];exact hcc.1.2.1,by rw[h3.2.1];exact hd⟩))⟩
    ·rw[h3.1];simp[E.any,hcc.1.2.1]
    ·rw[h3.2.1];exact door_any hd
 str:=fun w p hw hk hs=>by
  simp only[stranger,Bool.and_eq_true,Pk.inward] at hs
  exact⟨hs.1.1,.inr (.inr (.inl hs.1.2))⟩
 pass:=fun w p hw hk hp hn _=>by
  refine⟨dPass_sm hw.door hk,fun q hq=>⟨dPass_at hw.door hk hp hq, ?_⟩,fun q _ hq=>⟨hq.1, ?_⟩⟩
  ·rcases dPass_is hw.door hp hq with⟨h1,_,h2,h3,_⟩|⟨h1,h2,h3,h4,_,h6⟩
   ·simp only[Pk.outward,Bool.and_eq_true] at h1
    exact .inr (.inl ⟨h2,by rw[h3];exact h1.2⟩)
   ·simp only[Pk.inward,Bool.and_eq_true] at h1
    exact .inr (.inr (.inr ⟨by rw[h2];exact h1.1,h3,has_pass (has_ix.1 h6)⟩))
  ·rcases hq.2 with h|h|h|h
   ·exact .inl h
   ·exact .inr (.inl h)
   ·exact .inr (.inr (.inl h))
   ·exact .inr (.inr (.inr ⟨h.1,h.2.1,has_pass h.2.2⟩))
 hear:=fun w p i b c hw hk hp hn hno hb hc=>by
  refine⟨hk,fun q hq=>?_,fun q _ h=>h⟩
  have hcm:=List.mem_of_getElem? hc
  have hcv:=hw.cv c hcm
  have hcc:=convOk_iff.1 hcv
  obtain⟨h1,h2,h3,h4,h5⟩:=hear_ans hcv hp.pk hq
  have hat:=hear_at hq
  have hB:=convOk_B (hear_ok (inward:=b) hcv hp.pk)
  have h99:0≤q.at_∧q.at_≤99:=by
   rw[hat]
   have:=hB.upGot
   have:=hB.downGot
   cases b<;>simp only[cond_true,cond_false]<;>omega
  cases b with
  | true =>
    simp only[cond_true] at h5
    refine⟨pkOk_mk ?_ ?_ h99 h1 (fun h=>by omega),.inl ⟨by rw[h3,h5.2];exact hcc.1.1,by rw[h4,h5.1];exact hcc.1.2.1⟩⟩
    ·rw[h3,h5.2];exact inside_any hcc.1.1
    ·rw[h4,h5.1];simp[E.any,hcc.1.2.1]
  | false =>
    simp only[cond_false] at h5
    refine⟨pkOk_mk ?_ ?_ h99 h1 (fun h=>by omega),.inr (.inr (.inl ⟨by rw[h3,h5.1];exact hcc.1.2.1,by rw[h4];exact h5.2⟩))⟩
    ·rw[h3,h5.1];simp[E.any,hcc.1.2.1]
    ·rw[h4];exact door_any h5.2
def cutAll (c:UInt8):B→List B
 | []=>[[]]
 | x::r=>if x=c then []::cutAll c r else match cutAll c r with
   | []=>[[x]]
   | h::t=>(x::h)::t
def decW:B→Int
 | [a]=>if figB a 48 then(a.toNat:Int) - 48 else -1
 | [a,b]=>if figB a 48&&figB b 48 then 10*((a.toNat:Int) - 48)+((b.toNat:Int) - 48) else -1
 | _ => -1
def wordAt (ws:List B) (k:Nat):Int:=match ws[k]? with
 | some t=>decW t
 | none => -1
def pktText (p:Pk):B:=if pkOk p then(if p.kind=2 then [97,99,107,32] else [100,97,116,97,32])++(p.frm.text++(32::(p.to.text++(32::(dec p.at_++(if p.kind=2 then [] else 32::p.text)))))) else []
def pktRead (t:B):Option Pk :=
 if 70<t.length then none else match cutAll 32 t with
  | [_,f,o,n]=>let p:Pk:=⟨2,(endRead f).getD .zero,(endRead o).getD .zero,decW n,[]⟩;if pktText p=t then some p else none
  | [_,f,o,n,x]=>let p:Pk:=⟨1,(endRead f).getD .zero,(endRead o).getD .zero,decW n,x⟩;if pktText p=t then some p else none
  | _=>none
def joinL (ls:List B):B:=ls.flatMap fun l=>l++[10]
def lineDo (w:World) (line:B):World×B :=
 let ws:=cutAll 32 line
 let h:=ws.headD []
 if h=[117,112] then(wDo w ⟨1,0,wordAt ws 1,wordAt ws 2,.zero⟩,[])
 else if h=[100,111,119,110] then(wDo w ⟨2,0,wordAt ws 1,wordAt ws 2,.zero⟩,[])
 else if h=[98,114,105,110,103] then(wDo w ⟨3,wordAt ws 1,0,0,.zero⟩,[])
 else if h=[108,111,115,101] then(wDo w ⟨4,wordAt ws 1,0,0,.zero⟩,[])
 else if h=[116,119,105,99,101] then(wDo w ⟨5,wordAt ws 1,0,0,.zero⟩,[])
 else if h=[102,111,114,103,101] then(match pktRead (line.drop 6) with
  | some p=>(wDo w ⟨6,0,0,0,p⟩,[])
  | none=>(w,[]))
 else if h=[99,97,108,109] then(round w,[])
 else if h=[109,97,112] then(w,joinL (w.door.map.map fun p=>dec p.port++(32::p.ins.text))++(decN w.door.map.length++[10]))
 else if h=[110,101,116,115] then(w,joinL (w.nets.map pktText)++(decN w.nets.length++[10]))
 else(w,[119,104,97,116,10])
def linesDo:World→List B→World×B
 | w,[]=>(w,[])
 | w,l::ls=>((linesDo (lineDo w l).1 ls).1,(lineDo w l).2++(linesDo (lineDo w l).1 ls).2)
def linesEnd (w:World):B:=match w.convs with
 | c::_=>[117,112,32]++(dec c.upAck++(32::(c.upGot++(10::([100,111,119,110,32]++(dec c.downAck++(32::(c.downGot++[10]))))))))
 | []=>[]
def lineConv (up down:B):Conv:=⟨⟨1,1⟩,⟨4,4⟩,up,down,0,0,[],[]⟩
def linesRun (up down text:B):B:=match worldNew [lineConv up down] with
 | none=>[110,111,32,119,111,114,108,100,10]
 | some w=>if 600<text.length then [116,111,111,32,108,111,110,103,10] else(linesDo w (cutAll 10 text).dropLast).2++linesEnd (linesDo w (cutAll 10 text).dropLast).1
theorem lines_none0:linesRun [64,49] [] []=[110,111,32,119,111,114,108,100,10]:=by decide +kernel
theorem lines_none1:linesRun [64,57,58,49,48,59] [] []=[110,111,32,119,111,114,108,100,10]:=by decide +kernel
theorem dOut_ext (d:Door) (p:Pk):(∃y,(dOut d p).1.map=d.map++y)∧d.flows.length≤(dOut d p).1.flows.length:=by
 have h0:(∃y,d.map=d.map++y)∧d.flows.length≤d.flows.length:=⟨⟨[],by simp⟩,Nat.le_refl _⟩
 have hop:∀x k,openF d p.frm p.to=some (x,k)→(∃y,x.map=d.map++y)∧d.flows.length≤x.flows.length:=by
  intro x k h
  unfold openF at h
  split at h
  ·cases h;exact h0
  ·split at h
   ·rename_i m port hm
    split at h
    ·cases h
     have:=mOut_pre d.map p.frm
     rw[hm] at this
     exact⟨this,by simp⟩
    ·cases h
   ·cases h
 unfold dOut
 split
 ·exact h0
 ·rename_i x k ho
  have hx:=hop x k ho
  split
  ·exact hx
  ·rename_i f hf
   split
   ·split<;>exact hx
   ·split
    ·exact hx
    ·rename_i m s hp
     obtain⟨⟨y,hy⟩,hl⟩:=hx
     obtain⟨z,hz⟩:=put_pre x.map f.up p.at_ p.text true
     rw[hp] at hz
     exact⟨⟨y++z,by simp only at hz ⊢;rw[hz,hy,List.append_assoc]⟩,by simpa using hl⟩
theorem dIn_ext (d:Door) (p:Pk):(dIn d p).1.map=d.map∧(dIn d p).1.flows.length=d.flows.length:=by
 unfold dIn
 split
 ·exact⟨rfl,rfl⟩
 ·split
  ·exact⟨rfl,rfl⟩
  ·split
   ·exact⟨rfl,rfl⟩
   ·split
    ·split<;>exact⟨rfl,rfl⟩
    ·split
     ·exact⟨rfl,rfl⟩
     ·exact⟨rfl,by simp⟩
structure CExt (c d:Conv):Prop where
 ins:d.ins=c.ins
 out:d.out=c.out
 up:d.up=c.up
 down:d.down=c.down
 upGot:∃x,d.upGot=c.upGot++x
 downGot:∃x,d.downGot=c.downGot++x
 upAck:c.upAck≤d.upAck
 downAck:c.downAck≤d.downAck
theorem CExt.refl (c:Conv):CExt c c:=⟨rfl,rfl,rfl,rfl,⟨[],by simp⟩,⟨[],by simp⟩,Int.le_refl _,Int.le_refl _⟩
theorem CExt.trans {a b c:Conv} (h:CExt a b) (g:CExt b c):CExt a c:=by
 obtain⟨x,hx⟩:=h.upGot
 obtain⟨y,hy⟩:=g.upGot
 obtain⟨x',hx'⟩:=h.downGot
 obtain⟨y',hy'⟩:=g.downGot
 exact⟨g.ins.trans h.ins,g.out.trans h.out,g.up.trans h.up,g.down.trans h.down,⟨x++y,by rw[hy,hx,List.append_assoc]⟩,⟨x'++y',by rw[hy',hx',List.append_assoc]⟩,Int.le_trans h.upAck g.upAck,Int.le_trans h.downAck g.downAck⟩
structure Ext (w v:World):Prop where
 map:∃y,v.door.map=w.door.map++y
 fl:w.door.flows.length≤v.door.flows.length
 len:v.convs.length=w.convs.length
 cv:∀(i:Nat) c d,w.convs[i]?=some c→v.convs[i]?=some d→CExt c d
theorem Ext.same {w v:World} (h1:v.convs=w.convs) (h2:v.door=w.door):Ext w v :=
 ⟨⟨[],by rw[h2];simp⟩,by rw[h2];exact Nat.le_refl _,by rw[h1],fun i c d hc hd=>by rw[h1,hc] at hd;cases hd;exact .refl _⟩
theorem Ext.trans {a b c:World} (h:Ext a b) (g:Ext b c):Ext a c:=by
 obtain⟨x,hx⟩:=h.map
 obtain⟨y,hy⟩:=g.map
 refine⟨⟨x++y,by rw[hy,hx,List.append_assoc]⟩,Nat.le_trans h.fl g.fl,g.len.trans h.len,fun i p q hp hq=>?_⟩
 have hl:i<b.convs.length:=by rw[h.len];exact(List.getElem?_eq_some_iff.1 hp).1
 exact(h.cv i p _ hp (zE hl)).trans (g.cv i _ q (zE hl) hq)
theorem carry_ext (w:World) (p:Pk):Ext w (carry w p).1:=by
 unfold carry
 split
 ·have h:(∃y,(dPass w.door p).1.map=w.door.map++y)∧w.door.flows.length≤(dPass w.door p).1.flows.length:=by
   unfold dPass
   split
   ·exact dOut_ext _ _
   ·split
    ·have:=dIn_ext w.door p
     exact⟨⟨[],by rw[this.1];simp⟩,by omega⟩
    ·exact⟨⟨[],by simp⟩,Nat.le_refl _⟩
  exact⟨h.1,h.2,rfl,fun i c d hc hd=>by simp only at hd;rw[hc] at hd;cases hd;exact .refl _⟩
 ·split
  ·exact .same rfl rfl
  ·rename_i i b hb
   split
   ·exact .same rfl rfl
   ·rename_i c hc
    refine⟨⟨[],by simp⟩,Nat.le_refl _,by simp,fun j x y hx hy=>?_⟩
    simp only at hy
    by_cases hij:i=j
    ·subst hij
     rw[hc] at hx;cases hx
     rw[List.getElem?_set_self (List.getElem?_eq_some_iff.1 hc).1] at hy;cases hy
     obtain⟨s1,s2,s3,s4⟩:=hear_same c b p
     obtain⟨g1,g2,g3,g4⟩:=hear_grows c b p
     exact⟨s1,s2,s3,s4,g1,g2,g3,g4⟩
    ·rw[List.getElem?_set_ne hij,hx] at hy;cases hy;exact .refl _
theorem send_ext (w:World) (o:Option Pk):Ext w (send w o):=by
 unfold send
 cases o with
 | none=>exact .same rfl rfl
 | some p=>simp only;split<;>exact .same rfl rfl
theorem wDo_ext (w:World) (e:Ev):Ext w (wDo w e):=by
 unfold wDo
 simp only
 split
 ·exact send_ext _ _
 split
 ·exact send_ext _ _
 split
 ·split
  ·split
   ·have h1:Ext w { w with nets:=w.nets.eraseIdx e.a.toNat }:=.same rfl rfl
    exact h1.trans ((carry_ext _ _).trans (send_ext _ _))
   ·exact .same rfl rfl
  ·exact .same rfl rfl
 split
 ·split<;>exact .same rfl rfl
 split
 ·split
  ·exact send_ext _ _
  ·exact .same rfl rfl
 split
 ·split
  ·exact send_ext _ _
  ·exact .same rfl rfl
 ·exact .same rfl rfl
theorem apart_together {cs:List Conv} (hc:∀c∈cs,convOk c=true) (hl:cs.length≤2) (h:Apart cs):together cs=true:=by
 refine together_iff.2 ⟨hl,fun i hi=>?_⟩
 rw[okConv_i hi,hc _ (List.getElem_mem hi),Bool.true_and,Bool.not_eq_true',List.any_eq_false]
 intro o ho
 obtain⟨j,hj⟩:=List.mem_iff_getElem?.1 ho
 rw[List.getElem?_take] at hj
 split at hj
 ·rename_i hji
  simp only[Bool.or_eq_true,decide_eq_true_eq]
  intro he
  have:=h j i o _ hj (zE hi) he
  omega
 ·cases hj
theorem flow_same {d:Door} (h:doorOk d=true) {f g:Flw} (hf:f∈d.flows) (hg:g∈d.flows) (h1:f.ins=g.ins) (h2:f.out=g.out):f=g:=by
 obtain⟨j,hj⟩:=List.mem_iff_getElem?.1 hf
 obtain⟨k,hk⟩:=List.mem_iff_getElem?.1 hg
 rcases Nat.lt_trichotomy j k with hlt|rfl|hlt
 ·exact absurd ⟨h1,h2⟩ (doorOk_apart h j k f g hlt hj hk)
 ·rw[hj] at hk;exact Option.some.inj hk
 ·exact absurd ⟨h1.symm,h2.symm⟩ (doorOk_apart h k j g f hlt hk hj)
def St (T:B) (q:Pk):Prop:=0≤q.at_∧q.at_.toNat≤T.length∧q.text <+: T.drop q.at_.toNat
theorem St.mono {T U:B} {q:Pk} (h:St T q) (hp:T <+: U):St U q:=by
 obtain⟨y,rfl⟩:=hp
 obtain⟨h0,h1,z,hz⟩:=h
 exact⟨h0,by simp;omega,z++y,by rw[←List.append_assoc,hz,List.drop_append_of_le_length h1]⟩
theorem behind_st {T g:B} {q:Pk} (hg:g <+: T) (hq:St T q):(behind g q.at_ q.text).1 <+: T:=by
 unfold behind
 split
 ·exact hg
 ·rename_i h1
  split
  ·exact hg
  ·rename_i h2
   obtain⟨y,rfl⟩:=hg
   obtain⟨h0,_,z,hz⟩:=hq
   simp only[Bool.or_eq_true,decide_eq_true_eq,not_or] at h1
   simp only
   rw[List.prefix_append_right_inj]
   have hle:q.at_.toNat≤g.length:=by omega
   rw[List.drop_append_of_le_length hle] at hz
   have:=congrArg (List.drop ((g.length:Int) - q.at_).toNat) hz
   rw[List.drop_append_of_le_length (by omega),List.drop_append_of_le_length (by rw[List.length_drop];omega),List.drop_drop] at this
   rw[List.drop_eq_nil_of_le (show g.length≤q.at_.toNat+((g.length:Int) - q.at_).toNat by omega)] at this
   exact⟨z,by simpa using this⟩
theorem sendOn_st {was is:Strm} {p q:Pk} (h:sendOn was is p=some q):St (sOut is) q∧q.kind=p.kind:=by
 have h1:=forP_le (l:=is.parts) p.at_
 have h2:=toR_le was is p
 have e:sendOn was is p=if forP is.parts p.at_≥toR was is p then none else if toR was is p - forP is.parts p.at_≤40 then some { p with at_:=forP is.parts p.at_,text:=((sOut is).take (toR was is p).toNat).drop (forP is.parts p.at_).toNat } else none:=rfl
 rw[e] at h
 generalize forP is.parts p.at_=a at *
 generalize toR was is p=b at *
 split at h
 ·cases h
 ·split at h
  ·cases h
   refine⟨⟨h1.1,by simp only;omega, ?_⟩,rfl⟩
   simp only
   rw[List.drop_take]
   exact List.take_prefix _ _
  ·cases h
theorem backP_mono {l:List Part} (h:∀p∈l,0≤p.size∧p.size≤6):∀ {i j:Int},i≤j→backP l i≤backP l j:=by
 induction l with
 | nil=>intro i j _;exact Int.le_refl _
 | cons p l ih =>
   intro i j hij
   have h1:=ih (fun q hq=>h q (by simp[hq])) (show i - p.text.length≤j - p.text.length by omega)
   have h2:=h p (by simp)
   have h3:=(backP_rng (l:=l) (fun q hq=>h q (by simp[hq])) (j - p.text.length)).1
   simp only[backP]
   split<;>split<;>omega
theorem backP_pre {l r:List Part} (h:∀p∈r,0≤p.size∧p.size≤6):∀ {n:Int},l <+: r→backP l n≤backP r n:=by
 induction l generalizing r with
 | nil=>intro n _;exact(backP_rng h n).1
 | cons p l ih =>
   intro n hp
   obtain⟨t,rfl⟩:=hp
   have h2:=h p (by simp)
   have h1:=ih (r:=l++t) (fun q hq=>h q (by simp at hq ⊢;exact .inr hq)) (n:=n - p.text.length) (List.prefix_append _ _)
   simp only[List.cons_append,backP]
   split<;>omega
theorem sOut_pre {s t:Strm} (h:s.parts <+: t.parts):sOut s <+: sOut t:=by
 obtain⟨y,hy⟩:=h
 simp only[sOut,←hy,List.flatMap_append]
 exact List.prefix_append _ _
structure Tr (c:Conv) (f:Flw):Prop where
 upIn:f.up.inn <+: c.up
 downIn:f.down.inn <+: c.down
 upGot:c.upGot <+: sOut f.up
 downGot:c.downGot <+: sOut f.down
 upAck:c.upAck≤backP f.up.parts c.upGot.length
 downAck:c.downAck≤backP f.down.parts c.downGot.length
def Of (f:Flw) (c:Conv):Prop:=f.ins=c.ins∧f.out=c.out
def TrK (cs:List Conv) (d:Door):Prop:=Apart cs∧∀c∈cs,(∀f∈d.flows,Of f c→Tr c f)∧((∀f∈d.flows,¬Of f c)→c.upGot=[]∧c.downGot=[]∧c.upAck=0∧c.downAck=0)
structure TrN (cs:List Conv) (d:Door) (p:Pk):Prop where
 up:p.kind=1→∀c∈cs,p.frm=c.ins→p.to=c.out→St c.up p
 down:p.kind=1→∀c∈cs,p.frm=c.out→p.to.door=true→St c.down p
 inn:p.kind=1→∀c∈cs,p.frm=c.out→p.to=c.ins→∃f∈d.flows,Of f c∧St (sOut f.down) p
 out:p.kind=1→p.frm.door=true→∃f∈d.flows,f.out=p.to∧portOf d.map f.ins=p.frm.p∧St (sOut f.up) p
 aUp:p.kind=2→∀c∈cs,p.frm=c.out→p.to.door=true→p.at_≤c.upGot.length
 aDown:p.kind=2→∀c∈cs,p.frm=c.ins→p.to=c.out→p.at_≤c.downGot.length
 aInn:p.kind=2→∀c∈cs,p.frm=c.out→p.to=c.ins→∃f∈d.flows,Of f c∧p.at_≤backP f.up.parts c.upGot.length
 aOut:p.kind=2→p.frm.door=true→∃f∈d.flows,f.out=p.to∧portOf d.map f.ins=p.frm.p∧∀c∈cs,Of f c→p.at_≤backP f.down.parts c.downGot.length
theorem put_parts (m:List Pair) (s:Strm) (n:Int) (t:B) (out:Bool):s.parts <+: (put m s n t out).2.1.parts∧(put m s n t out).2.1.inn=(bif (put m s n t out).2.2 then(behind s.inn n t).1 else s.inn):=by
 unfold put
 split
 ·exact⟨List.prefix_append _ _,rfl⟩
 ·exact⟨List.prefix_rfl,rfl⟩
theorem TrK.set {cs:List Conv} {x:Door} {m:List Pair} {k:Nat} {f g:Flw} (h:TrK cs x) (hf:x.flows[k]?=some f) (h1:g.ins=f.ins) (h2:g.out=f.out) (ht:∀c∈cs,Of f c→Tr c g):TrK cs ⟨m,x.flows.set k g⟩:=by
 have hl:=(List.getElem?_eq_some_iff.1 hf).1
 refine⟨h.1,fun c hc=>⟨fun u hu ho=>?_,fun hno=>(h.2 c hc).2 fun u hu ho=>?_⟩⟩
 ·rcases List.mem_or_eq_of_mem_set hu with hu|rfl
  ·exact(h.2 c hc).1 u hu ho
  ·exact ht c hc ⟨by rw[←h1];exact ho.1,by rw[←h2];exact ho.2⟩
 ·obtain⟨j,hj⟩:=List.mem_iff_getElem?.1 hu
  by_cases hkj:k=j
  ·subst hkj
   rw[hf] at hj;cases hj
   exact hno g (List.mem_set hl _) ⟨by rw[h1];exact ho.1,by rw[h2];exact ho.2⟩
  ·exact hno u (List.mem_iff_getElem?.2 ⟨j,by simp only;rw[List.getElem?_set_ne hkj];exact hj⟩) ho
theorem openR_tr {cs:List Conv} {d:Door} {i o:E} (h:TrK cs d):TrK cs (openR d i o).1:=by
 unfold openR openF
 split
 ·rename_i ho
  split at ho
  ·cases ho;exact h
  ·rename_i hix
   split at ho
   ·split at ho
    ·cases ho
     have hno:∀f∈d.flows,¬(f.ins=i∧f.out=o):=fun f hf hc=>by
      have:=List.any_eq_false.1 (flowIx_none.1 hix) f hf
      simp[sameF,hc.1,hc.2] at this
     refine⟨h.1,fun c hc=>⟨fun f hf hof=>?_,fun hn=>(h.2 c hc).2 fun f hf=>hn f (List.mem_append_left _ hf)⟩⟩
     rcases List.mem_append.1 hf with hf|hf
     ·exact(h.2 c hc).1 f hf hof
     ·simp only[List.mem_singleton] at hf
      subst hf
      obtain⟨e1,e2,e3,e4⟩:=(h.2 c hc).2 fun f hf hfo=>hno f hf ⟨by rw[hfo.1];exact hof.1.symm,by rw[hfo.2];exact hof.2.symm⟩
      exact⟨List.nil_prefix,List.nil_prefix,by rw[e1];exact List.nil_prefix,by rw[e2];exact List.nil_prefix,by rw[e3];simp[backP,Strm.zero],by rw[e4];simp[backP,Strm.zero]⟩
    ·cases ho
   ·cases ho
 ·exact h
def Gp (d x:Door):Prop:=∀f∈d.flows,∃g∈x.flows,g.ins=f.ins∧g.out=f.out∧f.up.parts <+: g.up.parts∧f.down.parts <+: g.down.parts
theorem Gp.refl (d:Door):Gp d d:=fun f hf=>⟨f,hf,rfl,rfl,List.prefix_rfl,List.prefix_rfl⟩
theorem set_gp {x:Door} {m:List Pair} {k:Nat} {f g:Flw} (hf:x.flows[k]?=some f) (h1:g.ins=f.ins) (h2:g.out=f.out) (h3:f.up.parts <+: g.up.parts) (h4:f.down.parts <+: g.down.parts):Gp x ⟨m,x.flows.set k g⟩:=fun u hu=>by
 obtain⟨j,hj⟩:=List.mem_iff_getElem?.1 hu
 have hl:=(List.getElem?_eq_some_iff.1 hf).1
 by_cases hkj:k=j
 ·subst hkj
  rw[hf] at hj;cases hj
  exact⟨g,List.mem_set hl _,h1,h2,h3,h4⟩
 ·exact⟨u,List.mem_iff_getElem?.2 ⟨j,by simp only;rw[List.getElem?_set_ne hkj];exact hj⟩,rfl,rfl,List.prefix_rfl,List.prefix_rfl⟩
theorem openR_sub {d:Door} {i o:E}:∀f∈d.flows,f∈(openR d i o).1.flows:=by
 unfold openR openF
 split
 ·rename_i ho
  split at ho
  ·cases ho;exact fun f hf=>hf
  ·split at ho
   ·split at ho
    ·cases ho;exact fun f hf=>List.mem_append_left _ hf
    ·cases ho
   ·cases ho
 ·exact fun f hf=>hf
theorem sizes {s:Strm} (h:strmOk s=true):∀p∈s.parts,0≤p.size∧p.size≤6:=fun p hp=>by have:=((strmOk_B h).2.2 p hp).1;omega
theorem dOut_tr {cs:List Conv} {d:Door} {p:Pk} (hd:doorOk d=true) (hp:PkP p) (hi:p.frm.inside=true) (ho:p.to.outside=true) (hk:TrK cs d) (hn:TrN cs d p) :
 TrK cs (dOut d p).1∧Gp d (dOut d p).1∧∀q,(dOut d p).2=some q→∃g∈(dOut d p).1.flows,g.ins=p.frm∧g.out=p.to∧(q.kind=1→St (sOut g.up) q)∧(q.kind=2→∀c∈cs,Of g c→q.at_≤backP g.down.parts c.downGot.length):=by
 cases hok:(openR d p.frm p.to).2.2 with
 | false=>rw[dOut_no hok];exact⟨hk,.refl _,fun q h=>by cases h⟩
 | true =>
   have hx:=openR_ok hd hi ho hok
   rw[dOut_yes hok hx.kl]
   have hk2:=openR_tr (i:=p.frm) (o:=p.to) hk
   have hsub:=openR_sub (d:=d) (i:=p.frm) (o:=p.to)
   generalize (openR d p.frm p.to).1=x at *
   generalize (openR d p.frm p.to).2.1=k at *
   have hgr:Gp d x:=fun f hf=>⟨f,hsub f hf,rfl,rfl,List.prefix_rfl,List.prefix_rfl⟩
   have hf:x.flows[k]?=some (Flw.at x k):=by simp[Flw.at,List.getD,hx.kl]
   have hfm:=List.mem_of_getElem? hf
   obtain⟨_,_,hu,hdn,_⟩:=flow_at hx.ok hf
   have hfi:(Flw.at x k).ins=p.frm:=hx.flow.1
   have hfo:(Flw.at x k).out=p.to:=hx.flow.2
   unfold outK
   split
   ·rename_i hk2'
    split
    ·exact⟨hk2,hgr,fun q h=>by cases h⟩
    ·refine⟨hk2,hgr,fun q h=>?_⟩
     cases h
     refine⟨_,hfm,hfi,hfo,fun h=>(by cases h),fun _ c hcm hof=>?_⟩
     refine backP_mono (sizes hdn) ?_
     exact hn.aDown hk2' c hcm (by rw[←hfi];exact hof.1) (by rw[←hfo];exact hof.2)
   ·rename_i hk2'
    have hk1:=hp.kd.resolve_right hk2'
    have hpp:=put_parts x.map (Flw.at x k).up p.at_ p.text true
    split
    ·exact⟨hk2,hgr,fun q h=>by cases h⟩
    ·rename_i hpt
     have hpt:(put x.map (Flw.at x k).up p.at_ p.text true).2.2=true:=by simpa using hpt
     rw[hpt,cond_true] at hpp
     have hdo:=(outK_ok (p:=p) hx.ok hx.kl hp).1
     have hstr:strmOk (put x.map (Flw.at x k).up p.at_ p.text true).2.1=true:=by
      unfold outK at hdo
      rw[if_neg hk2',if_neg (by rw[hpt];decide)] at hdo
      have:=flow_at hdo (k:=k) (f:={ Flw.at x k with up:=(put x.map (Flw.at x k).up p.at_ p.text true).2.1 }) (by simp[List.getElem?_set_self hx.kl])
      exact this.2.2.1
     have hsg:=set_gp (x:=x) (m:=(put x.map (Flw.at x k).up p.at_ p.text true).1) (g:={ Flw.at x k with up:=(put x.map (Flw.at x k).up p.at_ p.text true).2.1 }) hf rfl rfl hpp.1 List.prefix_rfl
     refine⟨hk2.set hf rfl rfl fun c hcm hof=>?_,fun f hfm=>hsg f (hsub f hfm),fun q h=>?_⟩
     ·have ht:=(hk2.2 c hcm).1 _ hfm hof
      refine⟨?_,ht.downIn,ht.upGot.trans (sOut_pre hpp.1),ht.downGot,Int.le_trans ht.upAck (backP_pre (sizes hstr) hpp.1),ht.downAck⟩
      simp only[hpp.2]
      exact behind_st ht.upIn (hn.up hk1 c hcm (by rw[←hfi];exact hof.1) (by rw[←hfo];exact hof.2))
     ·obtain⟨r,hr,rfl⟩:=Option.map_eq_some_iff.1 h
      obtain⟨s1,s2⟩:=sendOn_st hr
      exact⟨_,List.mem_set hx.kl _,hfi,hfo,fun _=>s1,fun h=>by simp only at h;rw[s2] at h;exact absurd h hk2'⟩
theorem dIn_tr {cs:List Conv} {d:Door} {p:Pk} (hd:doorOk d=true) (hp:PkP p) (hto:p.to.door=true) (hk:TrK cs d) (hn:TrN cs d p) :
 TrK cs (dIn d p).1∧Gp d (dIn d p).1∧∀q,(dIn d p).2=some q→∃g∈(dIn d p).1.flows,g.ins=q.to∧g.out=p.frm∧(q.kind=1→St (sOut g.down) q)∧(q.kind=2→∀c∈cs,Of g c→q.at_≤backP g.up.parts c.upGot.length):=by
 cases h1:insideOf d.map p.to.p with
 | none=>rw[dIn_no1 h1];exact⟨hk,.refl _,fun q h=>by cases h⟩
 | some i =>
   cases h2:flowIx d.flows i p.frm with
   | none=>rw[dIn_no2 h1 h2];exact⟨hk,.refl _,fun q h=>by cases h⟩
   | some k =>
     obtain⟨hkl,he⟩:=dIn_yes h1 h2
     obtain⟨f0,hf0,f1,f2,_⟩:=flowIx_some h2
     rw[he]
     have hf:d.flows[k]?=some (Flw.at d k):=by simp[Flw.at,List.getD,hkl]
     rw[hf] at hf0;cases hf0
     have hfm:=List.mem_of_getElem? hf
     obtain⟨_,_,hu,hdn,_⟩:=flow_at hd hf
     unfold inK
     split
     ·rename_i hk2
      split
      ·exact⟨hk,.refl _,fun q h=>by cases h⟩
      ·refine⟨hk,.refl _,fun q h=>?_⟩
       cases h
       refine⟨_,hfm,f1,f2,fun h=>(by cases h),fun _ c hcm hof=>?_⟩
       refine backP_mono (sizes hu) ?_
       exact hn.aUp hk2 c hcm (by rw[←f2];exact hof.2) hto
     ·rename_i hk2
      have hk1:=hp.kd.resolve_right hk2
      have hpp:=put_parts d.map (Flw.at d k).down p.at_ p.text false
      split
      ·exact⟨hk,.refl _,fun q h=>by cases h⟩
      ·rename_i hpt
       have hpt:(put d.map (Flw.at d k).down p.at_ p.text false).2.2=true:=by simpa using hpt
       rw[hpt,cond_true] at hpp
       have hdo:=(inK_ok (p:=p) (i:=i) hd hkl hp).1
       have hstr:strmOk (put d.map (Flw.at d k).down p.at_ p.text false).2.1=true:=by
        unfold inK at hdo
        rw[if_neg hk2,if_neg (by rw[hpt];decide)] at hdo
        have:=flow_at hdo (k:=k) (f:={ Flw.at d k with down:=(put d.map (Flw.at d k).down p.at_ p.text false).2.1 }) (by simp[List.getElem?_set_self hkl])
        exact this.2.2.2.1
       refine⟨hk.set hf rfl rfl fun c hcm hof=>?_,set_gp hf rfl rfl List.prefix_rfl hpp.1,fun q h=>?_⟩
       ·have ht:=(hk.2 c hcm).1 _ hfm hof
        refine⟨ht.upIn, ?_,ht.upGot,ht.downGot.trans (sOut_pre hpp.1),ht.upAck,Int.le_trans ht.downAck (backP_pre (sizes hstr) hpp.1)⟩
        simp only[hpp.2]
        exact behind_st ht.downIn (hn.down hk1 c hcm (by rw[←f2];exact hof.2) hto)
       ·obtain⟨r,hr,rfl⟩:=Option.map_eq_some_iff.1 h
        obtain⟨s1,s2⟩:=sendOn_st hr
        exact⟨_,List.mem_set hkl _,f1,f2,fun _=>s1,fun h=>by simp only at h;rw[s2] at h;exact absurd h hk2⟩
theorem portBack {m:List Pair} {e:E} (hm:mapOk m=true) (h:portOf m e≠0):insideOf m (portOf m e)=some e:=by
 unfold portOf at h ⊢
 cases hf:m.find? fun p=>decide (p.ins=e) with
 | none=>rw[hf] at h;exact absurd rfl h
 | some p =>
   have hp:=List.find?_some hf
   simp only[decide_eq_true_eq] at hp
   obtain⟨i,hi⟩:=List.getElem?_of_mem (List.mem_of_find?_eq_some hf)
   have hl:=(List.getElem?_eq_some_iff.1 hi).1
   have hpo:p.port=10+(i:Int):=by
    have h2:=hm
    simp only[mapOk,Bool.and_eq_true,decide_eq_true_eq,List.all_eq_true,List.mem_range] at h2
    have h3:=h2.1 i hl
    simp only[okPair,hi,Bool.and_eq_true,decide_eq_true_eq] at h3
    exact h3.1.1
   simp only
   rw[insideOf_at hm,dif_pos (by omega)]
   have:(p.port - 10).toNat=i:=by omega
   simp only[this]
   have:=zE hl
   rw[hi] at this;cases this
   rw[hp]
theorem portInj {m:List Pair} {a b:E} (hm:mapOk m=true) (h:portOf m a≠0) (he:portOf m a=portOf m b):a=b:=by
 have h1:=portBack hm h
 have h2:=portBack hm (by rw[←he];exact h)
 rw[he,h2] at h1
 exact(Option.some.inj h1).symm
theorem apart_one {cs:List Conv} (h:Apart cs) {a b:Conv} (ha:a∈cs) (hb:b∈cs) (he:a.ins=b.ins∨a.out=b.out):a=b:=by
 obtain⟨i,hi⟩:=List.mem_iff_getElem?.1 ha
 obtain⟨j,hj⟩:=List.mem_iff_getElem?.1 hb
 obtain rfl:=h i j a b hi hj he
 rw[hi] at hj;exact Option.some.inj hj
theorem in_out {e:E} (h1:e.inside=true) (h2:e.outside=true):False:=by have:=E.inside_iff.1 h1;have:=E.outside_iff.1 h2;omega
theorem in_door {e:E} (h1:e.inside=true) (h2:e.door=true):False:=by have:=E.inside_iff.1 h1;have:=E.door_iff.1 h2;omega
theorem out_door {e:E} (h1:e.outside=true) (h2:e.door=true):False:=by have:=E.outside_iff.1 h1;have:=E.door_iff.1 h2;omega
theorem TrN.odd {cs:List Conv} {d:Door} {p:Pk} (h1:∀c∈cs,p.frm≠c.ins) (h2:∀c∈cs,p.frm≠c.out) (h3:p.frm.door=true→False):TrN cs d p :=
 ⟨fun _ c hc h=>absurd h (h1 c hc),fun _ c hc h=>absurd h (h2 c hc),fun _ c hc h=>absurd h (h2 c hc),fun _ h=>(h3 h).elim,fun _ c hc h=>absurd h (h2 c hc),fun _ c hc h=>absurd h (h1 c hc),fun _ c hc h=>absurd h (h2 c hc),fun _ h=>(h3 h).elim⟩
theorem TrN.grow {cs:List Conv} {d x:Door} {q:Pk} (h:TrN cs d q) (hx:doorOk x=true) (hg:Gp d x) (hm:∃y,x.map=d.map++y):TrN cs x q:=by
 obtain⟨y,hy⟩:=hm
 have ok:∀g∈x.flows,strmOk g.up=true∧strmOk g.down=true:=fun g hgm=>by
  obtain⟨k,hk⟩:=List.mem_iff_getElem?.1 hgm
  obtain⟨_,_,h1,h2,_⟩:=flow_at hx hk
  exact⟨h1,h2⟩
 have hport:∀e:E,q.frm.door=true→portOf d.map e=q.frm.p→portOf x.map e=q.frm.p:=fun e hd he=>by
  rw[hy,portOf_app (by have:=E.door_iff.1 hd;omega),he]
 refine⟨h.up,h.down,fun a c b e f=>?_,fun a b=>?_,h.aUp,h.aDown,fun a c b e f=>?_,fun a b=>?_⟩
 ·obtain⟨u,hu,u1,u2⟩:=h.inn a c b e f
  obtain⟨v,hv,v1,v2,v3,v4⟩:=hg u hu
  exact⟨v,hv,⟨v1.trans u1.1,v2.trans u1.2⟩,u2.mono (sOut_pre v4)⟩
 ·obtain⟨u,hu,u1,u2,u3⟩:=h.out a b
  obtain⟨v,hv,v1,v2,v3,v4⟩:=hg u hu
  exact⟨v,hv,v2.trans u1,by rw[v1];exact hport _ b u2,u3.mono (sOut_pre v3)⟩
 ·obtain⟨u,hu,u1,u2⟩:=h.aInn a c b e f
  obtain⟨v,hv,v1,v2,v3,v4⟩:=hg u hu
  exact⟨v,hv,⟨v1.trans u1.1,v2.trans u1.2⟩,Int.le_trans u2 (backP_pre (sizes (ok v hv).1) v3)⟩
 ·obtain⟨u,hu,u1,u2,u3⟩:=h.aOut a b
  obtain⟨v,hv,v1,v2,v3,v4⟩:=hg u hu
  exact⟨v,hv,v2.trans u1,by rw[v1];exact hport _ b u2,fun c hc ho=>Int.le_trans (u3 c hc ⟨by rw[←v1];exact ho.1,by rw[←v2];exact ho.2⟩) (backP_pre (sizes (ok v hv).2) v4)⟩
theorem true_step:StepI TrK TrN where
 say:=fun w c up port n m p hw hk hc hport hs=>by
  have hcc:=fun x hx=>(convOk_iff.1 (hw.cv x hx)).1
  obtain⟨_,hk1,h3,h4,h5,h6⟩:=say_P (hw.cv c hc) hs
  have hst:St (bif up then c.up else c.down) p:=⟨by omega,by rw[h4];omega,by rw[h5,h4];exact List.take_prefix _ _⟩
  have no2:∀ {q:Prop},p.kind=2→q:=fun h=>by omega
  cases up with
  | true =>
    simp only[cond_true] at h3 hst
    have hin:p.frm.inside=true:=by rw[h3.1];exact(hcc c hc).1
    refine⟨fun _ x hx e _=>?_,fun _ x hx e=>?_,fun _ x hx e=>?_,fun _ e=>(in_door hin e).elim,fun h=>no2 h,fun h=>no2 h,fun h=>no2 h,fun h=>no2 h⟩
    ·obtain rfl:=apart_one hk.1 hc hx (.inl (by rw[←h3.1,e]))
     exact hst
    ·exact(in_out hin (by rw[e];exact(hcc x hx).2.1)).elim
    ·exact(in_out hin (by rw[e];exact(hcc x hx).2.1)).elim
  | false =>
    simp only[cond_false] at h3 hst
    have hou:p.frm.outside=true:=by rw[h3.1];exact(hcc c hc).2.1
    have hdo:p.to.door=true:=by rw[h3.2.1];exact E.door_iff.2 ⟨rfl,h3.2.2⟩
    refine⟨fun _ x hx e=>?_,fun _ x hx e _=>?_,fun _ x hx _ e=>?_,fun _ e=>(out_door hou e).elim,fun h=>no2 h,fun h=>no2 h,fun h=>no2 h,fun h=>no2 h⟩
    ·exact(in_out (by rw[e];exact(hcc x hx).1) hou).elim
    ·obtain rfl:=apart_one hk.1 hc hx (.inr (by rw[←h3.1,e]))
     exact hst
    ·exact(in_door (by rw[e];exact(hcc x hx).1) hdo).elim
 str:=fun w p hw hk hs=>by
  simp only[stranger,Bool.and_eq_true,Pk.inward,Bool.not_eq_true'] at hs
  refine .odd (fun c hc e=>in_out (convOk_iff.1 (hw.cv c hc)).1.1 (by rw[←e];exact hs.1.2.1)) (fun c hc e=>?_) fun h=>out_door hs.1.2.1 h
  have:=List.any_eq_false.1 hs.2 c hc
  simp[e] at this
 pass:=fun w p hw hk hp hn hpi=>by
  have hcc:=fun x hx=>(convOk_iff.1 (hw.cv x hx)).1
  have hext:∃y,(dPass w.door p).1.map=w.door.map++y:=by
   unfold dPass
   split
   ·exact(dOut_ext _ _).1
   ·split
    ·exact⟨[],by rw[(dIn_ext w.door p).1];simp⟩
    ·exact⟨[],by simp⟩
  have hdok:=(dPass_ok hw.door hp.pk).1
  by_cases hout:p.outward=true
  ·have ho:=hout
   simp only[Pk.outward,Bool.and_eq_true] at ho
   have e:dPass w.door p=dOut w.door p:=by unfold dPass;rw[if_pos hout]
   obtain⟨a,b,cq⟩:=dOut_tr hw.door hp.pk ho.1 ho.2 hk hn
   rw[←e] at a b cq
   refine⟨a,fun q hq=>?_,fun q _ hq=>hq.grow hdok b hext⟩
   rcases dPass_is hw.door hp hq with⟨_,h2,h3,h4,h5⟩|⟨h1,_⟩
   ·obtain⟨g,hg,g1,g2,g3,g4⟩:=cq q hq
    have n1:∀x∈w.convs,q.frm≠x.ins:=fun x hx e=>in_door (by rw[e];exact(hcc x hx).1) h3
    have n2:∀x∈w.convs,q.frm≠x.out:=fun x hx e=>out_door (by rw[e];exact(hcc x hx).2.1) h3
    have hpo:portOf (dPass w.door p).1.map g.ins=q.frm.p:=by rw[g1,h2]
    exact⟨fun _ x hx h=>absurd h (n1 x hx),fun _ x hx h=>absurd h (n2 x hx),fun _ x hx h=>absurd h (n2 x hx),fun k1 _=>⟨g,hg,by rw[g2,h4],hpo,g3 k1⟩,fun _ x hx h=>absurd h (n2 x hx),fun _ x hx h=>absurd h (n1 x hx),fun _ x hx h=>absurd h (n2 x hx),fun k2 _=>⟨g,hg,by rw[g2,h4],hpo,g4 k2⟩⟩
   ·simp only[Pk.inward,Bool.and_eq_true] at h1
    exact(in_out ho.1 h1.1).elim
  ·by_cases hin:p.inward=true
   ·have hi:=hin
    simp only[Pk.inward,Bool.and_eq_true] at hi
    have e:dPass w.door p=dIn w.door p:=by unfold dPass;rw[if_neg hout,if_pos hin]
    obtain⟨a,b,cq⟩:=dIn_tr hw.door hp.pk hi.2 hk hn
    rw[←e] at a b cq
    refine⟨a,fun q hq=>?_,fun q _ hq=>hq.grow hdok b hext⟩
    rcases dPass_is hw.door hp hq with⟨h1,_⟩|⟨_,h2,h3,_⟩
    ·exact absurd h1 hout
    ·obtain⟨g,hg,g1,g2,g3,g4⟩:=cq q hq
     have hou:q.frm.outside=true:=by rw[h2];exact hi.1
     have n1:∀x∈w.convs,q.frm≠x.ins:=fun x hx e=>in_out (by rw[e];exact(hcc x hx).1) hou
     have of:∀x:Conv,q.frm=x.out→q.to=x.ins→Of g x:=fun x a b=>⟨by rw[g1,b],by rw[g2,←h2,a]⟩
     exact⟨fun _ x hx h=>absurd h (n1 x hx),fun _ x _ _ h=>(in_door h3 h).elim,fun k1 x hx u v=>⟨g,hg,of x u v,g3 k1⟩,fun _ h=>(out_door hou h).elim,fun _ x _ _ h=>(in_door h3 h).elim,fun _ x hx h=>absurd h (n1 x hx),fun k2 x hx u v=>⟨g,hg,of x u v,g4 k2 x hx (of x u v)⟩,fun _ h=>(out_door hou h).elim⟩
   ·have e:dPass w.door p=(w.door,none):=by unfold dPass;rw[if_neg hout,if_neg hin]
    rw[e]
    exact⟨hk,fun q hq=>(by cases hq),fun q _ hq=>hq⟩
 hear:=fun w p i b c hw hk hp hn hno hb hc=>by
  have hcm:=List.mem_of_getElem? hc
  have hl:=(List.getElem?_eq_some_iff.1 hc).1
  have hcc:=fun x hx=>(convOk_iff.1 (hw.cv x hx)).1
  obtain⟨s1,s2,s3,s4⟩:=hear_same c b p
  obtain⟨⟨x,hx⟩,⟨y,hy⟩,_,_⟩:=hear_grows c b p
  have hbx:=hostIx_is hb hc
  have hk2:=hk.1.set hc s1 s2
  have hself:(hear c b p).1∈w.convs.set i (hear c b p).1:=List.mem_set hl _
  have hdm:=(doorOk_iff.1 hw.door).1
  have strok:∀g∈w.door.flows,strmOk g.up=true∧strmOk g.down=true:=fun g hgm=>by
   obtain⟨k,hk⟩:=List.mem_iff_getElem?.1 hgm
   obtain⟨_,_,h1,h2,_⟩:=flow_at hw.door hk
   exact⟨h1,h2⟩
  have hfl:∃f∈w.door.flows,Of f c∧Tr (hear c b p).1 f:=by
   have hup:=fun f (hf:f∈w.door.flows) (ho:Of f c)=>(hk.2 c hcm).1 f hf ho
   cases b with
   | true =>
     simp only[cond_true] at hbx
     by_cases k2:p.kind=2
     ·obtain⟨f,hf,ho,ha⟩:=hn.aInn k2 c hcm hbx.2 hbx.1
      refine⟨f,hf,ho, ?_⟩
      have t:=hup f hf ho
      have e:(hear c true p).1={ c with upAck:=max c.upAck (min p.at_ c.up.length) }:=by simp[hear,hbx,k2]
      rw[e]
      exact⟨t.upIn,t.downIn,t.upGot,t.downGot,by have:=t.upAck;simp only;omega,t.downAck⟩
     ·obtain⟨f,hf,ho,ha⟩:=hn.inn (hp.pk.kd.resolve_right k2) c hcm hbx.2 hbx.1
      refine⟨f,hf,ho, ?_⟩
      have t:=hup f hf ho
      have e:(hear c true p).1={ c with downGot:=(behind c.downGot p.at_ p.text).1 }:=by simp[hear,hbx,k2]
      rw[e] at hy ⊢
      simp only at hy
      refine⟨t.upIn,t.downIn,t.upGot,behind_st t.downGot ha,t.upAck, ?_⟩
      simp only[hy]
      exact Int.le_trans t.downAck (backP_mono (sizes (strok f hf).2) (by simp;omega))
   | false =>
     simp only[cond_false] at hbx
     have hof:∀f:Flw,f.out=p.to→portOf w.door.map f.ins=p.frm.p→Of f c:=fun f f1 f2 =>
      ⟨portInj hdm (by rw[f2];have:=E.door_iff.1 hbx.2.1;omega) (by rw[f2,hbx.2.2]),by rw[f1,hbx.1]⟩
     by_cases k2:p.kind=2
     ·obtain⟨f,hf,f1,f2,ha⟩:=hn.aOut k2 hbx.2.1
      have ho:=hof f f1 f2
      refine⟨f,hf,ho, ?_⟩
      have t:=hup f hf ho
      have ha:=ha c hcm ho
      have e:(hear c false p).1={ c with downAck:=max c.downAck (min p.at_ c.down.length) }:=by simp[hear,hbx,k2]
      rw[e]
      exact⟨t.upIn,t.downIn,t.upGot,t.downGot,t.upAck,by have:=t.downAck;simp only;omega⟩
     ·obtain⟨f,hf,f1,f2,ha⟩:=hn.out (hp.pk.kd.resolve_right k2) hbx.2.1
      have ho:=hof f f1 f2
      refine⟨f,hf,ho, ?_⟩
      have t:=hup f hf ho
      have e:(hear c false p).1={ c with upGot:=(behind c.upGot p.at_ p.text).1 }:=by simp[hear,hbx,k2]
      rw[e] at hx ⊢
      simp only at hx
      refine⟨t.upIn,t.downIn,behind_st t.upGot ha,t.downGot, ?_,t.downAck⟩
      simp only[hx]
      exact Int.le_trans t.upAck (backP_mono (sizes (strok f hf).1) (by simp;omega))
  obtain⟨f,hf,hof,htr⟩:=hfl
  have hof':∀g:Flw,Of g (hear c b p).1↔Of g c:=fun g=>by unfold Of;rw[s1,s2]
  refine⟨⟨hk2,fun c2 hc2=>?_⟩,fun q hq=>?_,fun q _ h=>?_⟩
  ·rcases mem_set_or hc2 with h6|rfl
   ·exact hk.2 c2 h6
   ·refine⟨fun g hg ho=>?_,fun hn=>absurd ((hof' f).2 hof) (hn f hf)⟩
    have ho:=(hof' g).1 ho
    have:g=f:=flow_same hw.door hg hf (by rw[ho.1,hof.1]) (by rw[ho.2,hof.2])
    subst this
    exact htr
  ·obtain⟨_,q2,q3,q4,q5⟩:=hear_ans (hw.cv c hcm) hp.pk hq
   have hat:=hear_at hq
   have no1:∀ {r:Prop},q.kind=1→r:=fun h=>by omega
   have hcc':∀x∈w.convs.set i (hear c b p).1,x.ins.inside=true∧x.out.outside=true:=fun x hx=>by
    rcases mem_set_or hx with h6|rfl
    ·exact⟨(hcc x h6).1,(hcc x h6).2.1⟩
    ·rw[s1,s2];exact⟨(hcc c hcm).1,(hcc c hcm).2.1⟩
   cases b with
   | true =>
     simp only[cond_true] at q5 hat
     have hin:q.frm.inside=true:=by rw[q3,q5.2];exact(hcc c hcm).1
     refine⟨fun h=>no1 h,fun h=>no1 h,fun h=>no1 h,fun h=>no1 h,fun _ x hx e=>?_,fun _ x hx e _=>?_,fun _ x hx e=>?_,fun _ e=>(in_door hin e).elim⟩
     ·exact(in_out hin (by rw[e];exact(hcc' x hx).2)).elim
     ·have:=apart_one hk2 hx hself (.inl (by rw[←e,q3,q5.2,s1]))
      rw[this,hat];omega
     ·exact(in_out hin (by rw[e];exact(hcc' x hx).2)).elim
   | false =>
     simp only[cond_false] at q5 hat
     have hou:q.frm.outside=true:=by rw[q3,q5.1];exact(hcc c hcm).2.1
     refine⟨fun h=>no1 h,fun h=>no1 h,fun h=>no1 h,fun h=>no1 h,fun _ x hx e _=>?_,fun _ x hx e=>?_,fun _ x hx _ e=>?_,fun _ e=>(out_door hou e).elim⟩
     ·have:=apart_one hk2 hx hself (.inr (by rw[←e,q3,q5.1,s2]))
      rw[this,hat];omega
     ·exact(in_out (by rw[e];exact(hcc' x hx).1) hou).elim
     ·exact(in_door (e:=q.to) (by rw[e];exact(hcc' x hx).1) (by rw[q4];exact q5.2)).elim
  ·have old:∀z∈w.convs.set i (hear c b p).1,∃o∈w.convs,z.ins=o.ins∧z.out=o.out∧z.up=o.up∧z.down=o.down∧o.upGot.length≤z.upGot.length∧o.downGot.length≤z.downGot.length:=fun z hz=>by
    rcases mem_set_or hz with h6|rfl
    ·exact⟨z,h6,rfl,rfl,rfl,rfl,Nat.le_refl _,Nat.le_refl _⟩
    ·exact⟨c,hcm,s1,s2,s3,s4,by rw[hx];simp,by rw[hy];simp⟩
   refine⟨fun k z hz e1 e2=>?_,fun k z hz e1 e2=>?_,fun k z hz e1 e2=>?_,h.out,fun k z hz e1 e2=>?_,fun k z hz e1 e2=>?_,fun k z hz e1 e2=>?_,fun k e1=>?_⟩
   ·obtain⟨o,ho,o1,o2,o3,o4,o5,o6⟩:=old z hz
    rw[o3];exact h.up k o ho (by rw[e1,o1]) (by rw[e2,o2])
   ·obtain⟨o,ho,o1,o2,o3,o4,o5,o6⟩:=old z hz
    rw[o4];exact h.down k o ho (by rw[e1,o2]) e2
   ·obtain⟨o,ho,o1,o2,o3,o4,o5,o6⟩:=old z hz
    obtain⟨u,hu,u1,u2⟩:=h.inn k o ho (by rw[e1,o2]) (by rw[e2,o1])
    exact⟨u,hu,⟨by rw[u1.1,o1],by rw[u1.2,o2]⟩,u2⟩
   ·obtain⟨o,ho,o1,o2,o3,o4,o5,o6⟩:=old z hz
    have:=h.aUp k o ho (by rw[e1,o2]) e2
    omega
   ·obtain⟨o,ho,o1,o2,o3,o4,o5,o6⟩:=old z hz
    have:=h.aDown k o ho (by rw[e1,o1]) (by rw[e2,o2])
    omega
   ·obtain⟨o,ho,o1,o2,o3,o4,o5,o6⟩:=old z hz
    obtain⟨u,hu,u1,u2⟩:=h.aInn k o ho (by rw[e1,o2]) (by rw[e2,o1])
    exact⟨u,hu,⟨by rw[u1.1,o1],by rw[u1.2,o2]⟩,Int.le_trans u2 (backP_mono (sizes (strok u hu).1) (by omega))⟩
   ·obtain⟨u,hu,u1,u2,u3⟩:=h.aOut k e1
    refine⟨u,hu,u1,u2,fun z hz hoz=>?_⟩
    obtain⟨o,ho,o1,o2,o3,o4,o5,o6⟩:=old z hz
    exact Int.le_trans (u3 o ho ⟨by rw[hoz.1,o1],by rw[hoz.2,o2]⟩) (backP_mono (sizes (strok u hu).2) (by omega))
theorem StepI.both {K1 K2:List Conv→Door→Prop} {N1 N2:List Conv→Door→Pk→Prop} (S:StepI K1 N1) (T:StepI K2 N2):StepI (fun cs d=>K1 cs d∧K2 cs d) (fun cs d p=>N1 cs d p∧N2 cs d p) where
 say:=fun w c up port n m p hw hk hc hp hs=>⟨S.say w c up port n m p hw hk.1 hc hp hs,T.say w c up port n m p hw hk.2 hc hp hs⟩
 str:=fun w p hw hk hs=>⟨S.str w p hw hk.1 hs,T.str w p hw hk.2 hs⟩
 pass:=fun w p hw hk hp hn hpi=>by
  obtain⟨a1,a2,a3⟩:=S.pass w p hw hk.1 hp hn.1 hpi
  obtain⟨b1,b2,b3⟩:=T.pass w p hw hk.2 hp hn.2 hpi
  exact⟨⟨a1,b1⟩,fun q hq=>⟨a2 q hq,b2 q hq⟩,fun q h hq=>⟨a3 q h hq.1,b3 q h hq.2⟩⟩
 hear:=fun w p i b c hw hk hp hn hno hb hc=>by
  obtain⟨a1,a2,a3⟩:=S.hear w p i b c hw hk.1 hp hn.1 hno hb hc
  obtain⟨b1,b2,b3⟩:=T.hear w p i b c hw hk.2 hp hn.2 hno hb hc
  exact⟨⟨a1,b1⟩,fun q hq=>⟨a2 q hq,b2 q hq⟩,fun q h hq=>⟨a3 q h hq.1,b3 q h hq.2⟩⟩
theorem carry_nets (w:World) (ns:List Pk) (p:Pk):carry { w with nets:=ns } p=({ (carry w p).1 with nets:=ns },(carry w p).2):=by
 have e:hostIx { w with nets:=ns } p=hostIx w p:=rfl
 unfold carry
 rw[e]
 by_cases h:(p.to.door||p.frm.inside)=true
 ·rw[if_pos h,if_pos h]
 ·rw[if_neg h,if_neg h]
  cases hostIx w p with
  | none=>rfl
  | some x =>
    obtain⟨i,b⟩:=x
    simp only
    cases w.convs[i]?<;>rfl
theorem through_nets:∀(n:Nat) (w:World) (ns:List Pk) (o:Option Pk),through n { w with nets:=ns } o={ through n w o with nets:=ns }
 | 0,_,_,_=>rfl
 | _+1,_,_,none=>rfl
 | n+1,w,ns,some p=>by
   simp only[through,carry_nets]
   exact through_nets n _ ns _
theorem through_keep (n:Nat) (w:World) (o:Option Pk):(through n w o).nets=w.nets:=congrArg (fun x=>x.nets) (through_nets n w w.nets o)
variable {K:List Conv→Door→Prop} {N:List Conv→Door→Pk→Prop}
theorem SI.drain (S:StepI K N):∀(l:List Pk) {w:World},w.nets=[]→SI K N { w with nets:=l }→SI K N (l.foldl (fun w p=>M.through 4 w (some p)) w)∧(l.foldl (fun w p=>M.through 4 w (some p)) w).nets=[]
 | [],w,hn,h=>by
   have e:({ w with nets:=[] }:World)=w:=by rw[←hn]
   rw[e] at h
   exact⟨h,hn⟩
 | p::l,w,hn,h=>by
   have h1:SI K N { w with nets:=l }:=h.erase 0
   have h2:=h1.through S 4 (o:=some p) fun q hq=>by
    cases hq
    exact⟨h.wi.net _ (List.mem_cons_self ..),h.n _ (List.mem_cons_self ..)⟩
   rw[through_nets] at h2
   rw[List.foldl_cons]
   exact SI.drain S l (by rw[through_keep,hn]) h2
theorem SI.sayRound (S:StepI K N) {w:World} (h:SI K N w) (i:Nat):SI K N (M.sayRound w i):=by
 unfold M.sayRound
 split
 ·exact h
 ·rename_i c hc
  have hcm:=List.mem_of_getElem? hc
  have h1:=h.through S 4 (o:=say c true 0 c.upAck 24) fun p hp=>⟨say_net hcm (h.wi.cv c hcm) hp,S.say w c true 0 _ _ p h.wi h.k hcm (fun h=>by cases h) hp⟩
  simp only
  split
  ·exact h1
  ·rename_i c1 hc1
   have hcm1:=List.mem_of_getElem? hc1
   exact h1.through S 4 fun p hp=>⟨say_net hcm1 (h1.wi.cv c1 hcm1) hp,S.say _ c1 false _ _ _ p h1.wi h1.k hcm1 (fun _=>rfl) hp⟩
theorem SI.says (S:StepI K N):∀(l:List Nat) {w:World},SI K N w→SI K N (l.foldl M.sayRound w)
 | [],_,h=>h
 | i::l,_,h=>SI.says S l (h.sayRound S i)
theorem SI.round (S:StepI K N) {w:World} (h:SI K N w):SI K N (M.round w):=SI.says S _ (SI.drain S w.nets (w:={ w with nets:=[] }) rfl h).1
theorem through_none:∀(n:Nat) (w:World),through n w none=w
 | 0,_=>rfl
 | _+1,_=>rfl
theorem through_ext:∀(n:Nat) (w:World) (o:Option Pk),Ext w (through n w o)
 | 0,_,_=>.same rfl rfl
 | _+1,_,none=>.same rfl rfl
 | n+1,w,some p=>(carry_ext w p).trans (through_ext n _ _)
theorem drain_ext:∀(l:List Pk) (w:World),Ext w (l.foldl (fun w p=>through 4 w (some p)) w)
 | [],_=>.same rfl rfl
 | _::l,w=>(through_ext 4 w _).trans (drain_ext l _)
theorem sayRound_ext (w:World) (i:Nat):Ext w (sayRound w i):=by
 unfold sayRound
 split
 ·exact .same rfl rfl
 ·simp only
  split
  ·exact through_ext 4 w _
  ·exact(through_ext 4 w _).trans (through_ext 4 _ _)
theorem says_ext:∀(l:List Nat) (w:World),Ext w (l.foldl sayRound w)
 | [],_=>.same rfl rfl
 | i::l,w=>(sayRound_ext w i).trans (says_ext l _)
theorem round_ext (w:World):Ext w (round w):=((Ext.same rfl rfl:Ext w { w with nets:=[] }).trans (drain_ext w.nets _)).trans (says_ext _ _)
def MuK (cs:List Conv) (d:Door):Prop:=Apart cs∧∀c∈cs,c.up=[]→∀f∈d.flows,¬Of f c
def MuN (cs:List Conv) (_:Door) (p:Pk):Prop:=∀c∈cs,c.up=[]→¬(p.frm=c.ins∧p.to=c.out)∧¬(p.frm=c.out∧p.to=c.ins)
theorem mute_step:StepI MuK MuN where
 say:=fun w c up port n m p hw hk hc hport hs x hx he=>by
  have hcc:=fun x hx=>(convOk_iff.1 (hw.cv x hx)).1
  obtain⟨_,_,h3,_,_,h6,_⟩:=say_P (hw.cv c hc) hs
  cases up with
  | true =>
    simp only[cond_true] at h3 h6
    refine⟨fun⟨e1,e2⟩=>?_,fun⟨e1,_⟩=>in_out (hcc c hc).1 (by rw[←h3.1,e1];exact(hcc x hx).2.1)⟩
    obtain rfl:=apart_one hk.1 hc hx (.inl (by rw[←h3.1,e1]))
    rw[he] at h6
    simp only[zN] at h6
    omega
  | false =>
    simp only[cond_false] at h3
    have hd:p.to.door=true:=by rw[h3.2.1];exact E.door_iff.2 ⟨rfl,h3.2.2⟩
    exact⟨fun⟨e1,_⟩=>in_out (hcc x hx).1 (by rw[←e1,h3.1];exact(hcc c hc).2.1),fun⟨_,e2⟩=>in_door (hcc x hx).1 (by rw[←e2];exact hd)⟩
 str:=fun w p hw hk hs x hx he=>by
  have hcc:=fun x hx=>(convOk_iff.1 (hw.cv x hx)).1
  simp only[stranger,Bool.and_eq_true,Pk.inward] at hs
  exact⟨fun⟨e1,_⟩=>in_out (hcc x hx).1 (by rw[←e1];exact hs.1.2.1),fun⟨_,e2⟩=>in_door (hcc x hx).1 (by rw[←e2];exact hs.1.2.2)⟩
 pass:=fun w p hw hk hp hn hpi=>by
  have hcc:=fun x hx=>(convOk_iff.1 (hw.cv x hx)).1
  refine⟨⟨hk.1,fun c hc he f hf ho=>?_⟩,fun q hq c hc he=>?_,fun q _ hq=>hq⟩
  ·have old:(∃g∈w.door.flows,f.ins=g.ins∧f.out=g.out)→False:=fun⟨g,hg,g1,g2⟩=>hk.2 c hc he g hg ⟨by rw[←g1];exact ho.1,by rw[←g2];exact ho.2⟩
   unfold dPass at hf
   split at hf
   ·rcases dOut_flows f hf with⟨e1,e2⟩|h
    ·exact(hn c hc he).1 ⟨by rw[←e1];exact ho.1,by rw[←e2];exact ho.2⟩
    ·exact old h
   ·split at hf
    ·exact old (dIn_flows f hf)
    ·exact old ⟨f,hf,rfl,rfl⟩
  ·rcases dPass_is hw.door hp hq with⟨_,_,h3,_⟩|⟨h1,h2,h3,_,_,h6⟩
   ·exact⟨fun⟨e1,_⟩=>in_door (hcc c hc).1 (by rw[←e1];exact h3),fun⟨e1,_⟩=>out_door (hcc c hc).2.1 (by rw[←e1];exact h3)⟩
   ·simp only[Pk.inward,Bool.and_eq_true] at h1
    refine⟨fun⟨e1,_⟩=>in_out (hcc c hc).1 (by rw[←e1,h2];exact h1.1),fun⟨e1,e2⟩=>?_⟩
    obtain⟨f,hf,f1,f2⟩:=has_ix.1 h6
    exact hk.2 c hc he f hf ⟨by rw[f1,e2],by rw[f2,e1]⟩
 hear:=fun w p i b c hw hk hp hn hno hb hc=>by
  have hcm:=List.mem_of_getElem? hc
  obtain⟨s1,s2,s3,s4⟩:=hear_same c b p
  have old:∀z∈w.convs.set i (hear c b p).1,∃o∈w.convs,z.ins=o.ins∧z.out=o.out∧z.up=o.up:=fun z hz=>by
   rcases mem_set_or hz with h6|rfl
   ·exact⟨z,h6,rfl,rfl,rfl⟩
   ·exact⟨c,hcm,s1,s2,s3⟩
  refine⟨⟨hk.1.set hc s1 s2,fun z hz he f hf ho=>?_⟩,fun q hq z hz he=>?_,fun q _ h z hz he=>?_⟩
  ·obtain⟨o,ho1,o1,o2,o3⟩:=old z hz
   exact hk.2 o ho1 (by rw[←o3];exact he) f hf ⟨by rw[←o1];exact ho.1,by rw[←o2];exact ho.2⟩
  ·obtain⟨o,ho1,o1,o2,o3⟩:=old z hz
   obtain⟨_,_,q3,q4,_⟩:=hear_ans (hw.cv c hcm) hp.pk hq
   obtain⟨n1,n2⟩:=hn o ho1 (by rw[←o3];exact he)
   rw[q3,q4,o1,o2]
   exact⟨fun⟨a,b⟩=>n2 ⟨b,a⟩,fun⟨a,b⟩=>n1 ⟨b,a⟩⟩
  ·obtain⟨o,ho1,o1,o2,o3⟩:=old z hz
   rw[o1,o2]
   exact h o ho1 (by rw[←o3];exact he)
def CK (cs:List Conv) (d:Door):Prop:=TrK cs d∧DoorS d∧MuK cs d
def CN (cs:List Conv) (d:Door) (p:Pk):Prop:=TrN cs d p∧NetN cs d p∧MuN cs d p
theorem calm_step:StepI CK CN:=true_step.both (net_step.both mute_step)
theorem play_calm {cs:List Conv} {es:List Ev} {w:World} (h:worldPlay cs es=some w):SI CK CN w:=play_si calm_step (fun w0 h0=>by
 obtain⟨h1,h2,h3,_⟩:=worldNew_is h0
 have hno:∀f∈w0.door.flows,False:=fun f hf=>by rw[h3] at hf;cases hf
 exact⟨⟨together_apart h1,fun c hc=>⟨fun f hf=>(hno f hf).elim,fun _=>newConvs_got h2 c hc⟩⟩,fun f hf=>(hno f hf).elim,together_apart h1,fun c hc he f hf=>(hno f hf).elim⟩) h
theorem si_ok {w:World} (h:SI CK CN w):worldOk w=true:=by
 simp only[worldOk,Bool.and_eq_true,decide_eq_true_eq,List.all_eq_true]
 exact⟨⟨⟨apart_together h.wi.cv h.wi.cl h.k.1.1,h.wi.door⟩,h.wi.nl⟩,fun p hp=>(h.n p hp).2.1.1⟩
def matchC (w:World) (p:Pk) (c:Conv):Bool:=(decide (p.to=c.ins)&&decide (p.frm=c.out))||(decide (p.to=c.out)&&p.frm.door&&decide (p.frm.p=portOf w.door.map c.ins))
def hostR (w:World) (p:Pk):World×Option Pk:=match hostIx w p with
 | none=>(w,none)
 | some (i,inward)=>match w.convs[i]? with
   | none=>(w,none)
   | some c=>({ w with convs:=w.convs.set i (hear c inward p).1 },(hear c inward p).2)
theorem carry_host {w:World} {p:Pk} (h:(p.to.door||p.frm.inside)=false):carry w p=hostR w p:=by
 unfold carry
 rw[if_neg (by simp[h])]
 rfl
theorem carry_door {w:World} {p:Pk} (h:(p.to.door||p.frm.inside)=true):carry w p=({ w with door:=(dPass w.door p).1 },(dPass w.door p).2):=by
 unfold carry
 rw[if_pos h]
theorem hostR_no {w:World} {p:Pk} (h:w.convs.any (matchC w p)=false):hostR w p=(w,none):=by
 have:w.convs.findIdx? (matchC w p)=none:=List.findIdx?_eq_none_iff.2 fun x hx=>by simpa using List.any_eq_false.1 h x hx
 have e:hostIx w p=none:=by
  unfold hostIx
  rw[show(w.convs.findIdx? fun c=>(decide (p.to=c.ins)&&decide (p.frm=c.out))||(decide (p.to=c.out)&&p.frm.door&&decide (p.frm.p=portOf w.door.map c.ins)))=none from this]
 unfold hostR
 rw[e]
theorem hostR_at {w:World} {p:Pk} {k:Nat} (hk:k<w.convs.length) (h:(w.convs.take k).any (matchC w p)=false) (hm:matchC w p w.convs[k]=true) :
 hostR w p=({ w with convs:=w.convs.set k (hear w.convs[k] (decide (p.to=w.convs[k].ins)&&decide (p.frm=w.convs[k].out)) p).1 },(hear w.convs[k] (decide (p.to=w.convs[k].ins)&&decide (p.frm=w.convs[k].out)) p).2):=by
 have:w.convs.findIdx? (matchC w p)=some k:=by
  refine List.findIdx?_eq_some_iff_getElem.2 ⟨hk,hm,fun j hj=>?_⟩
  have:=List.any_eq_false.1 h w.convs[j] (List.mem_iff_getElem?.2 ⟨j,by rw[List.getElem?_take,if_pos hj];exact zE _⟩)
  simpa using this
 have e:hostIx w p=some (k,decide (p.to=w.convs[k].ins)&&decide (p.frm=w.convs[k].out)):=by
  unfold hostIx
  rw[show(w.convs.findIdx? fun c=>(decide (p.to=c.ins)&&decide (p.frm=c.out))||(decide (p.to=c.out)&&p.frm.door&&decide (p.frm.p=portOf w.door.map c.ins)))=some k from this]
  simp only[zE hk]
 unfold hostR
 rw[e]
 simp only[zE hk]
theorem matchC_e (w:World) (p:Pk) (c:Conv):matchC w p c=((decide (p.to=c.ins)&&decide (p.frm=c.out))||(decide (p.to=c.out)&&p.frm.door&&decide (p.frm.p=portOf w.door.map c.ins))):=rfl
theorem cutAll_ne (c:UInt8):∀t:B,cutAll c t≠[]
 | []=>by simp[cutAll]
 | x::r=>by
   unfold cutAll
   split
   ·simp
   ·split<;>simp
theorem cutAll_cons {c x:UInt8} {r h:B} {t:List B} (hx:x≠c) (hr:cutAll c r=h::t):cutAll c (x::r)=(x::h)::t:=by
 rw[cutAll,if_neg hx,hr]
theorem cutAll_app (c:UInt8) (r:B):∀s:B,cutAll c (s++c::r)=cutAll c s++cutAll c r
 | []=>by simp[cutAll]
 | x::s=>by
   have ih:=cutAll_app c r s
   by_cases hx:x=c
   ·rw[List.cons_append,cutAll,if_pos hx,ih,cutAll,if_pos hx]
    rfl
   ·obtain⟨h,t,hs⟩:=List.exists_cons_of_ne_nil (cutAll_ne c s)
    rw[List.cons_append,cutAll_cons hx hs,cutAll_cons hx (h:=h) (t:=t++cutAll c r) (by rw[ih,hs];rfl)]
    rfl
theorem cutAll_one {c:UInt8}:∀ {l:B},c∉l→cutAll c l=[l]
 | [],_=>rfl
 | x::l,h=>by
   have ih:=cutAll_one (c:=c) (l:=l) fun hm=>h (List.mem_cons_of_mem _ hm)
   rw[cutAll_cons (fun e=>h (by simp[e])) ih]
def Ended (t:B):Prop:=t=[]∨∃s,t=s++[10]
theorem Ended.cut {t:B} (h:Ended t) (r:B):(cutAll 10 (t++r)).dropLast=(cutAll 10 t).dropLast++(cutAll 10 r).dropLast:=by
 rcases h with rfl|⟨s,rfl⟩
 ·simp[cutAll]
 ·have e1:s++[10]++r=s++10::r:=by simp
  rw[e1,cutAll_app,cutAll_app]
  rw[List.dropLast_append_of_ne_nil (cutAll_ne 10 r)]
  simp[cutAll]
theorem linesDo_app:∀(a b:List B) (w:World),linesDo w (a++b)=((linesDo (linesDo w a).1 b).1,(linesDo w a).2++(linesDo (linesDo w a).1 b).2)
 | [],b,w=>by simp[linesDo]
 | l::a,b,w=>by
   simp only[List.cons_append,linesDo]
   rw[linesDo_app a b]
   simp
theorem linesRun_more {up down t:B} {w:World} (hw:worldNew [lineConv up down]=some w) (ht:Ended t) (r:B) (hl:(t++r).length≤600) :
 linesRun up down (t++r)=(linesDo w (cutAll 10 t).dropLast).2++((linesDo (linesDo w (cutAll 10 t).dropLast).1 (cutAll 10 r).dropLast).2++linesEnd (linesDo (linesDo w (cutAll 10 t).dropLast).1 (cutAll 10 r).dropLast).1):=by
 unfold linesRun
 rw[hw]
 simp only
 rw[if_neg (by omega),ht.cut r,linesDo_app]
 simp
theorem linesRun_is {up down t:B} {w:World} (hw:worldNew [lineConv up down]=some w) (hl:t.length≤600):linesRun up down t=(linesDo w (cutAll 10 t).dropLast).2++linesEnd (linesDo w (cutAll 10 t).dropLast).1:=by
 unfold linesRun
 rw[hw]
 simp only
 rw[if_neg (by omega)]
def whatL:B:=[119,104,97,116]
def netsL:B:=[110,101,116,115]
def mapL:B:=[109,97,112]
theorem lineDo_what (w:World):lineDo w whatL=(w,[119,104,97,116,10]):=by
 have h:cutAll 32 whatL=[whatL]:=by decide
 unfold lineDo
 rw[h]
 rfl
theorem lineDo_nets (w:World):lineDo w netsL=(w,joinL (w.nets.map pktText)++(decN w.nets.length++[10])):=by
 have h:cutAll 32 netsL=[netsL]:=by decide
 unfold lineDo
 rw[h]
 rfl
theorem lineDo_map (w:World):lineDo w mapL=(w,joinL (w.door.map.map fun p=>dec p.port++(32::p.ins.text))++(decN w.door.map.length++[10])):=by
 have h:cutAll 32 mapL=[mapL]:=by decide
 unfold lineDo
 rw[h]
 rfl
theorem law_quiet {up down t:B} {w:World} (hw:worldNew [lineConv up down]=some w) (ht:Ended t) (hl:t.length≤580) :
 (linesRun up down (t++[119,104,97,116,10])).length=(linesRun up down t).length+5 ∧
 (linesRun up down (t++[119,104,97,116,10])).length<(linesRun up down (t++[110,101,116,115,10,119,104,97,116,10])).length ∧
 linesRun up down (t++[109,97,112,10,109,97,112,10])≠linesRun up down t:=by
 have c1:(cutAll 10 [119,104,97,116,10]).dropLast=[whatL]:=by decide
 have c2:(cutAll 10 [110,101,116,115,10,119,104,97,116,10]).dropLast=[netsL,whatL]:=by decide
 have c3:(cutAll 10 [109,97,112,10,109,97,112,10]).dropLast=[mapL,mapL]:=by decide
 rw[linesRun_more hw ht _ (by simp;omega),linesRun_more hw ht _ (by simp;omega),linesRun_more hw ht _ (by simp;omega),linesRun_is hw (by omega),c1,c2,c3]
 simp only[linesDo,lineDo_what,lineDo_nets,lineDo_map]
 refine⟨by simp only[zA,zC,zN];omega,by simp only[zA,zC,zN];omega,fun h=>?_⟩
 have:=congrArg List.length h
 simp only[zA,zC,zN] at this
 omega
theorem few {α:Type} [BEq α] [LawfulBEq α]:∀(l L:List α),l.Nodup→(∀x∈l,x∈L)→l.length≤L.length
 | [],_,_,_=>Nat.zero_le _
 | x::l,L,hn,h=>by
   rw[List.nodup_cons] at hn
   have hx:=h x (by simp)
   have:=few l (L.erase x) hn.2 fun y hy=>(List.mem_erase_of_ne (fun e=>hn.1 (by rw[←e];exact hy))).2 (h y (List.mem_cons_of_mem _ hy))
   rw[List.length_erase_of_mem hx] at this
   have:=List.length_pos_of_mem hx
   simp only[zC]
   omega
structure NetX (X:List (E×E)) (cs:List Conv) (p:Pk):Prop where
 pk:PkP p
 c:p.frm.inside=true→(∃c∈cs,p.frm=c.ins∧p.to=c.out)∨(p.frm,p.to)∈X
structure WX (X:List (E×E)) (w:World):Prop where
 cv:∀c∈w.convs,convOk c=true
 cl:w.convs.length≤2
 xl:X.length≤1
 door:doorOk w.door=true
 fl:∀f∈w.door.flows,(∃c∈w.convs,f.ins=c.ins∧f.out=c.out)∨(f.ins,f.out)∈X
 nl:w.nets.length≤10
 net:∀p∈w.nets,NetX X w.convs p
variable {X:List (E×E)}
theorem NetP.x {cs:List Conv} {p:Pk} (h:NetP cs p):NetX X cs p:=⟨h.pk,fun hi=>.inl (h.c hi)⟩
theorem WI.x {w:World} (h:WI w):WX [] w:=⟨h.cv,h.cl,by simp,h.door,fun f hf=>.inl (h.fl f hf),h.nl,fun p hp=>(h.net p hp).x⟩
theorem WX.flows3 {w:World} (h:WX X w):w.door.flows.length≤3:=by
 have hn:(w.door.flows.map fun f=>(f.ins,f.out)).Nodup:=by
  unfold List.Nodup
  rw[List.pairwise_iff_getElem]
  intro i j hi hj hij
  simp only[List.length_map] at hi hj
  simp only[List.getElem_map,ne_eq,Prod.mk.injEq]
  exact doorOk_apart h.door i j _ _ hij (zE hi) (zE hj)
 have:=few (w.door.flows.map fun f=>(f.ins,f.out)) (w.convs.map (fun c=>(c.ins,c.out))++X) hn fun x hx=>by
  obtain⟨f,hf,rfl⟩:=List.mem_map.1 hx
  rcases h.fl f hf with⟨c,hc,h1,h2⟩|hX
  ·exact List.mem_append_left _ (List.mem_map.2 ⟨c,hc,by rw[h1,h2]⟩)
  ·exact List.mem_append_right _ hX
 have h1:=h.cl
 have h2:=h.xl
 simp only[List.length_map,zA] at this
 omega
theorem conv_set {cs:List Conv} {i:Nat} {c x:Conv} (hi:cs[i]?=some c) (h1:x.ins=c.ins) (h2:x.out=c.out) {a b:E} (h:∃c∈cs,a=c.ins∧b=c.out):∃c∈cs.set i x,a=c.ins∧b=c.out:=by
 obtain⟨c',hc',h3,h4⟩:=h
 obtain⟨j,hj⟩:=List.mem_iff_getElem?.1 hc'
 by_cases hij:i=j
 ·subst hij
  rw[hi] at hj;cases hj
  have hl:=(List.getElem?_eq_some_iff.1 hi).1
  exact⟨x,List.mem_set hl x,by rw[h3,h1],by rw[h4,h2]⟩
 ·exact⟨c',List.mem_iff_getElem?.2 ⟨j,by rw[List.getElem?_set_ne hij];exact hj⟩,h3,h4⟩
theorem NetX.set {cs:List Conv} {i:Nat} {c x:Conv} {p:Pk} (hi:cs[i]?=some c) (h1:x.ins=c.ins) (h2:x.out=c.out) (h:NetX X cs p):NetX X (cs.set i x) p :=
 ⟨h.pk,fun hin=>(h.c hin).imp (conv_set hi h1 h2) id⟩
theorem WX.setC {w:World} (h:WX X w) {i:Nat} {c x:Conv} (hi:w.convs[i]?=some c) (h1:x.ins=c.ins) (h2:x.out=c.out) (hx:convOk x=true):WX X { w with convs:=w.convs.set i x }:=by
 refine⟨fun y hy=>?_,by simpa using h.cl,h.xl,h.door,fun f hf=>(h.fl f hf).imp (conv_set hi h1 h2) id,h.nl,fun p hp=>(h.net p hp).set hi h1 h2⟩
 rcases List.mem_or_eq_of_mem_set hy with hy|rfl
 ·exact h.cv y hy
 ·exact hx
theorem dPass_X {cs:List Conv} {d:Door} {p q:Pk} (hd:doorOk d=true) (hp:PkP p) (h:(dPass d p).2=some q):NetX X cs q:=by
 unfold dPass at h
 split at h
 ·rename_i ho
  simp only[Pk.outward,Bool.and_eq_true] at ho
  cases hok:(openR d p.frm p.to).2.2 with
  | false=>rw[dOut_no hok] at h;cases h
  | true =>
    have hx:=openR_ok hd ho.1 ho.2 hok
    rw[dOut_yes hok hx.kl] at h
    obtain⟨h1,h2,_⟩:=outK_P hx.ok hx.kl hp h
    exact⟨h1,fun hin=>by rw[h2] at hin;cases hin⟩
 ·split at h
  ·rename_i hi
   simp only[Pk.inward,Bool.and_eq_true] at hi
   cases h1:insideOf d.map p.to.p with
   | none=>rw[dIn_no1 h1] at h;cases h
   | some i =>
     cases h2:flowIx d.flows i p.frm with
     | none=>rw[dIn_no2 h1 h2] at h;cases h
     | some k =>
       obtain⟨hk,he⟩:=dIn_yes h1 h2
       rw[he] at h
       obtain⟨h3,h4,_⟩:=inK_P hd hk hp h
       exact⟨h3,fun hin=>by rw[h4,not_in_out hi.1] at hin;cases hin⟩
  ·cases h
theorem carry_X {w:World} {p:Pk} (h:WX X w) (hp:NetX X w.convs p):WX X (carry w p).1∧∀q,(carry w p).2=some q→NetX X (carry w p).1.convs q:=by
 unfold carry
 split
 ·refine⟨⟨h.cv,h.cl,h.xl,(dPass_ok h.door hp.pk).1,fun f hf=>?_,h.nl,h.net⟩,fun q hq=>dPass_X h.door hp.pk hq⟩
  simp only at hf
  unfold dPass at hf
  split at hf
  ·rename_i ho
   simp only[Pk.outward,Bool.and_eq_true] at ho
   rcases dOut_flows f hf with⟨h1,h2⟩|⟨g,hg,h1,h2⟩
   ·rw[h1,h2];exact hp.c ho.1
   ·rw[h1,h2];exact h.fl g hg
  ·split at hf
   ·obtain⟨g,hg,h1,h2⟩:=dIn_flows f hf
    rw[h1,h2];exact h.fl g hg
   ·exact h.fl f hf
 ·split
  ·exact⟨h,fun q hq=>by cases hq⟩
  ·rename_i i b hb
   obtain⟨c,hc,hbe⟩:=hostIx_at hb
   simp only[hc]
   have hcv:=h.cv c (List.mem_of_getElem? hc)
   obtain⟨s1,s2,_,_⟩:=hear_same c b p
   refine⟨h.setC hc s1 s2 (hear_ok hcv hp.pk),fun q hq=>?_⟩
   obtain⟨h1,h2,h3,h4,h5⟩:=hear_ans hcv hp.pk hq
   refine NetX.set hc s1 s2 ⟨h1,fun hin=>?_⟩
   have hcc:=convOk_iff.1 hcv
   cases b with
   | true=>exact .inl ⟨c,List.mem_of_getElem? hc,by rw[h3];exact h5.2,by rw[h4];exact h5.1⟩
   | false =>
     rw[h3] at hin
     simp only[cond_false] at h5
     rw[h5.1,not_in_out hcc.1.2.1] at hin
     cases hin
theorem WX.erase {w:World} (h:WX X w) (k:Nat):WX X { w with nets:=w.nets.eraseIdx k } :=
 ⟨h.cv,h.cl,h.xl,h.door,h.fl,by have:=List.length_eraseIdx_le w.nets k;have:=h.nl;simp only;omega,fun p hp=>h.net p (List.mem_of_mem_eraseIdx hp)⟩
theorem lineDo_si {K:List Conv→Door→Prop} {N:List Conv→Door→Pk→Prop} (S:StepI K N) {w:World} (h:SI K N w) (l:B):SI K N (lineDo w l).1:=by
 unfold lineDo
 simp only
 repeat' split
 all_goals first
  | exact h
  | (dsimp only;exact SI.wDo S h _)
  | (dsimp only;exact SI.round S h)
theorem linesDo_si {K:List Conv→Door→Prop} {N:List Conv→Door→Pk→Prop} (S:StepI K N):∀(ls:List B) {w:World},SI K N w→SI K N (linesDo w ls).1
 | [],_,h=>h
 | l::ls,_,h=>linesDo_si S ls (lineDo_si S h l)
theorem lineDo_ext (w:World) (l:B):Ext w (lineDo w l).1:=by
 unfold lineDo
 simp only
 repeat' split
 all_goals first
  | (dsimp only;exact wDo_ext _ _)
  | (dsimp only;exact round_ext _)
  | exact .same rfl rfl
theorem linesDo_ext:∀(ls:List B) (w:World),Ext w (linesDo w ls).1
 | [],_=>.same rfl rfl
 | l::ls,w=>(lineDo_ext w l).trans (linesDo_ext ls _)
theorem lines_calm {up down:B} {w:World} (hw:worldNew [lineConv up down]=some w) (ls:List B):SI CK CN (linesDo w ls).1 :=
 linesDo_si calm_step ls (play_calm (cs:=[lineConv up down]) (es:=[]) (by simp[worldPlay,hw]))
theorem lines_one {up down:B} {w:World} (hw:worldNew [lineConv up down]=some w) (ls:List B):(linesDo w ls).1.convs.length=1:=by
 rw[(linesDo_ext ls w).len]
 have h:=(worldNew_is hw).2.1
 unfold newConvs at h
 split at h
 ·rename_i h1 h2
  cases h2
  have:=Option.some.inj h
  rw[←this]
  rfl
 ·cases h
theorem decN_no (n:Nat) (h:n<100):(10:UInt8)∉decN n:=by
 have key:∀n:Fin 100,(10:UInt8)∉decN n:=by decide +kernel
 exact key ⟨n,h⟩
theorem okB_no {t:B} (h:t.all okB=true):(10:UInt8)∉t:=fun hm=>by
 have:=List.all_eq_true.1 h 10 hm
 revert this;decide
theorem linesEnd_is {w:World} {c:Conv} (hc:w.convs=[c]) (hok:convOk c=true):∃x y:B,linesEnd w=x++10::(([100,111,119,110]++y)++[10])∧(10:UInt8)∉[100,111,119,110]++y∧4≤x.length:=by
 have hB:=convOk_B hok
 have h2:=hB.downAck
 have h5:=hB.down
 have hg:=(convOk_iff.1 hok).2.2.2.2
 simp only[txOk,Bool.and_eq_true] at hg
 refine⟨[117,112,32]++(dec c.upAck++(32::c.upGot)),32::(dec c.downAck++(32::c.downGot)), ?_, ?_, ?_⟩
 ·unfold linesEnd
  rw[hc]
  simp
 ·have h1:=decN_no c.downAck.toNat (by omega)
  have h3:=okB_no hg.1
  simp only[List.mem_append,List.mem_cons,List.not_mem_nil,or_false,not_or]
  refine⟨by decide,by decide, ?_,by decide,h3⟩
  exact h1
 ·simp only[zA,zC,zN];omega
theorem lineConv_ok {up down:B} {w:World} (hw:worldNew [lineConv up down]=some w):∃c,w.convs=[c]∧convOk c=true∧c.upAck=0∧c.downAck=0∧c.upGot=[]∧c.downGot=[]:=by
 have hl:=lines_one hw []
 simp only[linesDo] at hl
 match hcs:w.convs,hl with
 | [c],_ =>
   have hm:c∈w.convs:=by rw[hcs];simp
   have hg:=newConvs_got (worldNew_is hw).2.1 c hm
   exact⟨c,rfl,(worldNew_ok hw).cv c hm,hg.2.2.1,hg.2.2.2,hg.1,hg.2.1⟩
theorem law_lines {up down t:B} {w:World} (hw:worldNew [lineConv up down]=some w) (hl:t.length≤600) :
 ∃x y:B,linesRun up down t=x++10::(([100,111,119,110]++y)++[10])∧(10:UInt8)∉[100,111,119,110]++y∧4≤x.length:=by
 rw[linesRun_is hw hl]
 have h1:=lines_one hw (cutAll 10 t).dropLast
 have hwi:=(lines_calm hw (cutAll 10 t).dropLast).wi
 generalize (linesDo w (cutAll 10 t).dropLast).1=v at *
 match hcs:v.convs,h1 with
 | [c],_ =>
   obtain⟨x,y,e1,e2,e3⟩:=linesEnd_is hcs (hwi.cv c (by rw[hcs];simp))
   exact⟨(linesDo w (cutAll 10 t).dropLast).2++x,y,by rw[e1];simp,e2,by simp;omega⟩
theorem law_none {up down:B} {w:World} (hw:worldNew [lineConv up down]=some w) :
 linesRun up down []=[117,112,32,48,32,10,100,111,119,110,32,48,32,10] ∧
 linesRun up down [119,104,97,116,10,109,97,112,10,110,101,116,115,10]=[119,104,97,116,10,48,10,48,10,117,112,32,48,32,10,100,111,119,110,32,48,32,10]:=by
 obtain⟨c,hc,_,a1,a2,a3,a4⟩:=lineConv_ok hw
 have hn:=(worldNew_is hw).2.2.2
 have hd:=(worldNew_is hw).2.2.1
 have c1:(cutAll 10 ([]:B)).dropLast=[]:=by decide
 have c2:(cutAll 10 [119,104,97,116,10,109,97,112,10,110,101,116,115,10]).dropLast=[whatL,mapL,netsL]:=by decide
 have e:linesEnd w=[117,112,32,48,32,10,100,111,119,110,32,48,32,10]:=by
  unfold linesEnd
  rw[hc]
  simp only[a1,a2,a3,a4]
  rfl
 rw[linesRun_is hw (by simp),linesRun_is hw (by simp),c1,c2]
 simp only[linesDo,lineDo_what,lineDo_map,lineDo_nets,hn,hd,e]
 exact⟨rfl,rfl⟩
theorem text_no32 (e:E):(32:UInt8)∉e.text:=by
 by_cases h:e.any=true
 ·have key:∀e∈ends,(32:UInt8)∉e.text:=by decide +kernel
  exact key e (E.any_iff.1 h)
 ·have:e.text=[]:=by unfold E.text;rw[if_neg h]
  rw[this];simp
theorem decN_no32 (n:Nat) (h:n<100):(32:UInt8)∉decN n:=by
 have key:∀n:Fin 100,(32:UInt8)∉decN n:=by decide +kernel
 exact key ⟨n,h⟩
theorem decW_dec {n:Int} (h:0≤n∧n≤99):decW (dec n)=n:=by
 have key:∀n:Fin 100,decW (decN n)=(n:Nat):=by decide +kernel
 have:=key ⟨n.toNat,by omega⟩
 simp only at this
 unfold dec
 rw[this]
 omega
theorem okB_no32 {t:B} (h:t.all okB=true):(32:UInt8)∉t:=fun hm=>by
 have:=List.all_eq_true.1 h 32 hm
 revert this;decide
def kindW (k:Int):B:=if k=2 then [97,99,107] else [100,97,116,97]
theorem pkOk_is {p:Pk} (h:pkOk p=true):(p.frm.any=true∧p.to.any=true∧0≤p.at_∧p.at_≤99)∧((p.kind=1∧p.text.all okB=true∧p.text≠[])∨(p.kind=2∧p.text=[])):=by
 simp only[pkOk,Bool.and_eq_true,Bool.or_eq_true,decide_eq_true_eq,within_iff,txOk] at h
 obtain⟨⟨⟨h1,h2⟩,h3⟩,h4⟩:=h
 refine⟨⟨h1,h2,h3.1,h3.2⟩, ?_⟩
 rcases h4 with h|h
 ·exact .inl (by simp_all)
 ·exact .inr (by simp_all)
theorem pktText_words {p:Pk} (h:pkOk p=true):cutAll 32 (pktText p)=[kindW p.kind,p.frm.text,p.to.text,dec p.at_]++(if p.kind=2 then [] else [p.text]):=by
 obtain⟨⟨h1,h2,h3⟩,h4⟩:=pkOk_is h
 have e1:=cutAll_one (text_no32 p.frm)
 have e2:=cutAll_one (text_no32 p.to)
 have e3:cutAll 32 (dec p.at_)=[dec p.at_]:=cutAll_one (decN_no32 p.at_.toNat (by omega))
 unfold pktText
 rw[if_pos h]
 rcases h4 with⟨hk,ht,hne⟩|⟨hk,ht⟩
 ·have e4:=cutAll_one (okB_no32 ht)
  have hk2:¬p.kind=2:=by omega
  simp only[if_neg hk2,kindW]
  have e0:([100,97,116,97,32]:B)++(p.frm.text++32::(p.to.text++32::(dec p.at_++32::p.text)))=[100,97,116,97]++32::(p.frm.text++32::(p.to.text++32::(dec p.at_++32::p.text))):=rfl
  rw[e0,cutAll_app,cutAll_app,cutAll_app,cutAll_app,e1,e2,e3,e4]
  rfl
 ·simp only[if_pos hk,kindW,List.append_nil]
  have e0:([97,99,107,32]:B)++(p.frm.text++32::(p.to.text++32::dec p.at_))=[97,99,107]++32::(p.frm.text++32::(p.to.text++32::dec p.at_)):=rfl
  rw[e0,cutAll_app,cutAll_app,cutAll_app,e1,e2,e3]
  rfl
def pktReadI (t:B) (a:Int) (ok:Bool):Option Pk :=
 let ws:=cutAll 32 t
 let p:Pk:=⟨if ws.getD 0 []=[100,97,116,97] then 1 else 2,(endRead (ws.getD 1 [])).getD .zero,(endRead (ws.getD 2 [])).getD .zero,a,ws.getD 4 []⟩
 if 70<t.length∨ws.length<4∨5<ws.length then none
 else if(endRead (ws.getD 1 [])).isSome∧(endRead (ws.getD 2 [])).isSome∧ok=true∧pkOk p=true∧pktText p=t then some p else none
theorem pktRead_some {t:B} {p:Pk} (h:pkOk p=true) (ht:pktText p=t) (hl:t.length≤70):pktRead t=some p:=by
 have hw:=pktText_words h
 obtain⟨⟨h1,h2,h3⟩,h4⟩:=pkOk_is h
 have d:=decW_dec h3
 have r1:=endRead_text h1
 have r2:=endRead_text h2
 unfold pktRead
 rw[if_neg (by omega),←ht,hw]
 obtain⟨pk,pf,pt,pa,px⟩:=p
 simp only at h4 d r1 r2 hw ⊢
 rcases h4 with⟨rfl,_,_⟩|⟨rfl,rfl⟩
 ·simp[r1,r2,d]
 ·simp[r1,r2,d]
theorem pktRead_is {t:B} {p:Pk} (h:pktRead t=some p):pktText p=t∧t.length≤70:=by
 unfold pktRead at h
 split at h
 ·cases h
 ·rename_i hl
  split at h
  ·simp only at h
   split at h
   ·rename_i e;cases h;exact⟨e,by omega⟩
   ·cases h
  ·simp only at h
   split at h
   ·rename_i e;cases h;exact⟨e,by omega⟩
   ·cases h
  ·cases h
theorem pktText_ne {p:Pk} {t:B} (h:pktText p=t) (ht:t≠[]):pkOk p=true:=by
 cases hp:pkOk p with
 | true=>rfl
 | false=>unfold pktText at h;rw[hp,if_neg (by simp)] at h;exact absurd h.symm ht
theorem pktReadI_eq {t:B} {a:Int} {ok:Bool} (ha:∀n:Int,0≤n→n≤99→(cutAll 32 t).getD 3 []=dec n→a=n∧ok=true):pktReadI t a ok=pktRead t:=by
 cases h:pktRead t with
 | some p =>
   obtain⟨e,hl⟩:=pktRead_is h
   have hne:t≠[]:=fun h0=>by
    subst h0
    revert h
    simp[pktRead,cutAll]
   have hp:=pktText_ne e hne
   have hw:=pktText_words hp
   obtain⟨⟨h1,h2,h3⟩,h4⟩:=pkOk_is hp
   have r1:=endRead_text h1
   have r2:=endRead_text h2
   rw[e] at hw
   have h5:=ha p.at_ h3.1 h3.2 (by rw[hw];rfl)
   obtain⟨rfl,rfl⟩:=h5
   unfold pktReadI
   rw[hw]
   obtain⟨pk,pf,pt,pa,px⟩:=p
   simp only at h4 r1 r2 e hp ⊢
   rcases h4 with⟨rfl,_,_⟩|⟨rfl,rfl⟩
   ·have hk:kindW 1=[100,97,116,97]:=by decide
    simp[hk,r1,r2,hp,e,hl]
   ·have hk:¬kindW 2=[100,97,116,97]:=by decide
    simp[hk,r1,r2,hp,e,hl]
 | none =>
   unfold pktReadI
   simp only
   generalize (if(cutAll 32 t).getD 0 []=[100,97,116,97] then(1:Int) else 2)=kd
   split
   ·rfl
   ·rename_i hl
    split
    ·rename_i hc
     obtain⟨_,_,_,c4,c5⟩:=hc
     have:=pktRead_some c4 c5 (by omega)
     rw[h] at this;cases this
    ·rfl
theorem any_step {α:Type} {P:α→Bool} {l:List α} {k:Nat} (hk:k<l.length) (h:(l.take k).any P=false) (hp:P l[k]=false):(l.take (k+1)).any P=false:=by
 rw[List.take_add_one,zE hk]
 simp only[Option.toList_some,List.any_append,h,List.any_cons,List.any_nil,Bool.or_false,Bool.false_or,hp]
variable {X:List (E×E)}
variable {X:List (E×E)}
theorem NetX.ext {w v:World} {p:Pk} (h:NetX X w.convs p) (hx:Ext w v):NetX X v.convs p:=⟨h.pk,fun hi=>(h.c hi).imp (fun⟨c,hc,h1,h2⟩=>by
 obtain⟨i,hi⟩:=List.mem_iff_getElem?.1 hc
 have hl:i<v.convs.length:=by rw[hx.len];exact(List.getElem?_eq_some_iff.1 hi).1
 have hg:=zE hl
 have hce:=hx.cv i c _ hi hg
 exact⟨_,List.mem_of_getElem? hg,by rw[hce.ins,h1],by rw[hce.out,h2]⟩) id⟩
theorem WX.through:∀(n:Nat) {w:World} {o:Option Pk},WX X w→(∀p,o=some p→NetX X w.convs p)→WX X (M.through n w o)
 | 0,_,_,h,_=>h
 | _+1,_,none,h,_=>h
 | n+1,_,some p,h,ho=>by
   obtain⟨h1,h2⟩:=carry_X h (ho p rfl)
   exact WX.through n h1 fun q hq=>h2 q hq
theorem WX.drain:∀(l:List Pk) {w:World},WX X w→(∀p∈l,NetX X w.convs p)→WX X (l.foldl (fun w p=>M.through 4 w (some p)) w)
 | [],_,h,_=>h
 | p::l,w,h,hl=>by
   have h1:=h.through 4 (o:=some p) fun q hq=>by cases hq;exact hl p (by simp)
   exact WX.drain l h1 fun q hq=>(hl q (List.mem_cons_of_mem _ hq)).ext (through_ext 4 w (some p))
theorem WX.sayRound {w:World} (h:WX X w) (i:Nat):WX X (M.sayRound w i):=by
 unfold M.sayRound
 split
 ·exact h
 ·rename_i c hc
  have hcm:=List.mem_of_getElem? hc
  have h1:=h.through 4 (o:=say c true 0 c.upAck 24) fun p hp=>(say_net hcm (h.cv c hcm) hp).x
  simp only
  split
  ·exact h1
  ·rename_i c1 hc1
   have hcm1:=List.mem_of_getElem? hc1
   exact h1.through 4 fun p hp=>(say_net hcm1 (h1.cv c1 hcm1) hp).x
theorem WX.says:∀(l:List Nat) {w:World},WX X w→WX X (l.foldl M.sayRound w)
 | [],_,h=>h
 | i::l,_,h=>WX.says l (h.sayRound i)
theorem WX.empty {w:World} (h:WX X w):WX X { w with nets:=[] }:=⟨h.cv,h.cl,h.xl,h.door,h.fl,Nat.zero_le _,fun p hp=>by cases hp⟩
theorem WX.round {w:World} (h:WX X w):WX X (M.round w):=WX.says _ (WX.drain w.nets (w:={ w with nets:=[] }) h.empty fun p hp=>h.net p hp)
end Go.Proofs.YtiegngjdjheebaaGreatDoor.M
namespace Go.Proofs.YtiegngjdjheebaaGreatDoor.VL
open Go Go.RowKit
section
variable {P:Program} {G:Glob}
end
end Go.Proofs.YtiegngjdjheebaaGreatDoor.VL
namespace Go.Proofs.YtiegngjdjheebaaGreatDoor.W
open Go Go.RowKit Go.Proofs Go.Proofs.YtiegngjdjheebaaGreatDoor.VL Go.Proofs.YtiegngjdjheebaaGreatDoor.M
def isErr (v:Value):Prop:=v=.nilIface∨∃t p,v=.iface t p
def G:Glob where
 g W:=(∃m,W.cell? ⟨0,0,none⟩=some (.int .i64 m))∧(∃v,W.cell? ⟨2,0,none⟩=some v∧isErr v)∧∃v,W.cell? ⟨3,0,none⟩=some v∧isErr v
 ng:=4
 stays:=fun W W' h hs ho ht hu hb=>by
  have e:∀b,b<4→W'.cell? ⟨b,0,none⟩=W.cell? ⟨b,0,none⟩:=fun b hb4=>cell_of_block (hb b hb4)
  rw[e 0 (by omega),e 2 (by omega),e 3 (by omega)]
  exact h
 there:=fun W h=>by
  obtain⟨_,_,v,h,_⟩:=h
  have:∃o,W.heap[3]?=some o:=by
   cases hh:W.heap[3]? with
   | none=>simp[World.cell?,hh] at h
   | some o=>exact⟨o,rfl⟩
  obtain⟨o,ho⟩:=this
  have:=lt_of_get ho
  omega
def plainU:V→Option Value
 | .int k n=>some (.int k n)
 | .bool b=>some (.bool b)
 | .str s=>some (.string (mkStr s))
 | .nile=>some .nilIface
 | _=>none
theorem plainU_spec {w:World} {O:Nat→Prop} {ρ:Nat→VL.Loc} {h:Nat→Hs} {v:V} {u x:Value} (hp:plainU v=some x) (hd:Den w O ρ h v u):u=x:=by
 cases v<;>simp only[plainU,zS,reduceCtorEq] at hp
 all_goals subst hp
 ·exact inv_int hd
 ·exact inv_bool hd
 ·exact inv_str hd
 ·exact inv_nile hd
theorem plainU_den2 {w:World} {O:Nat→Prop} {ρ:Nat→VL.Loc} {h:Nat→Hs} {v:V} {x:Value} (hp:plainU v=some x):Den2 w O ρ h v x:=by
 cases v<;>simp only[plainU,zS,reduceCtorEq] at hp
 all_goals subst hp
 ·exact Imm.int _ _
 ·exact Imm.bool _
 ·exact Imm.str _
 ·exact Imm.nile
def plainR:V→Option Value
 | .tup vs=>(vs.mapM plainU).map fun us=>.tuple us.toArray
 | v=>plainU v
theorem plainR_den {w:World} {O:Nat→Prop} {ρ:Nat→VL.Loc} {h:Nat→Hs} {v:V} {x:Value} (hp:plainR v=some x):Den w O ρ h v x:=by
 by_cases ht:∃vs,v=.tup vs
 ·obtain⟨vs,rfl⟩:=ht
  simp only[plainR,zM] at hp
  obtain⟨us,hm,rfl⟩:=hp
  obtain⟨h1,h2⟩:=mapM_get hm
  refine⟨us,rfl,h1,fun j v u hv hu=>plainU_den2 (h2 j v u hv hu)⟩
 ·have hp:plainU v=some x:=by cases v<;>first|exact hp|exact absurd ⟨_,rfl⟩ ht
  have:=plainU_den2 (w:=w) (O:=O) (ρ:=ρ) (h:=h) hp
  cases v<;>first|exact this|exact absurd ⟨_,rfl⟩ ht
section
variable {P:Program}
theorem FnP.lib {f:FuncId} {vs:List V} {us:List Value} {post:V→Prop} (hn:entr P f=true) (h1:vs.mapM plainU=some us) (hne:∃r,post r)
 (h:∀W,G.g W→Calls P f us.toArray W fun e W'=>Below W.heap.size W W'∧∃u v,e=.returned u∧post v∧∀O,(∀b,O b→b<W.heap.size)→Den W' O (fun _=>default) (fun _=>.fresh) v u) :
 FnP P G f 0 [] vs (fun r o=>o=[]∧post r) where
 en:=hn
 ne:=let ⟨r,h⟩:=hne;⟨r,[],rfl,h⟩
 run:=fun W ρ ext us' hg hlt hno hng r hargs=>by
  obtain⟨h2,h3⟩:=mapM_get h1
  have e:us'=us:=by
   obtain⟨h4,h5⟩:=hargs
   apply List.ext_getElem?
   intro j
   cases hj:us'[j]? with
   | none =>
     have:=List.getElem?_eq_none_iff.1 hj
     exact(List.getElem?_eq_none_iff.2 (by omega)).symm
   | some u =>
     have hjl:j<us'.length:=(List.getElem?_eq_some_iff.1 hj).1
     have hv:=zE (l:=vs) (show j<vs.length by omega)
     have hu:=zE (l:=us) (show j<us.length by omega)
     rw[hu,plainU_spec (h3 j (vs[j]'(by omega)) (us[j]'(by omega)) hv hu) (h5 j _ u hv hj)]
  subst e
  refine(h W hg).mono fun e W' ⟨hb,u,v,he,hp,hd⟩=>?_
  have hc:chH []=fun _=>.fresh:=by funext x;simp[chH]
  have hnb:∀b,¬blocks ρ (chH []) b:=fun b ⟨c,hl,_⟩=>by rw[hc] at hl;cases hl
  refine⟨u,v,[],fun _=>default,he,⟨rfl,hp⟩,⟨hb.os,hb.tape,hb.output,hb.size,fun b hb1 _=>hb.block b hb1,fun c=>(by rw[hc];trivial),fun c hl=>(by rw[hc] at hl;cases hl),fun c c' hl=>(by rw[hc] at hl;cases hl),fun i hi=>absurd hi (Nat.not_lt_zero _)⟩, ?_⟩
  rw[hc]
  refine hd _ fun b hb=>?_
  rcases hb with hb|⟨c,hl,_⟩
  ·exact hlt b hb
  ·cases hl
theorem FnR.lib {f:FuncId} {vs:List V} {us:List Value} {v:V} {u:Value} (hn:entr P f=true) (h1:vs.mapM plainU=some us) (h2:plainR v=some u)
 (h:∀W,G.g W→Calls P f us.toArray W fun e W'=>e=.returned u∧Below W.heap.size W W'):FnR P G f vs v:=by
 have:=FnP.lib (P:=P) (f:=f) (vs:=vs) (post:=fun r=>r=v) hn h1 ⟨v,rfl⟩ fun W hg=>(h W hg).mono fun e W' ⟨he,hb⟩=>⟨hb,u,v,he,rfl,fun O _=>plainR_den h2⟩
 exact⟨this.en,this.ne.imp fun r ⟨o,h⟩=>⟨o,h.2,h.1⟩,fun W ρ ext us a b c d e f=>(this.run W ρ ext us a b c d e f).mono fun e W' ⟨u,r,o,ρ',he,⟨h1,h2⟩,h3⟩=>⟨u,r,o,ρ',he,⟨h2,h1⟩,h3⟩⟩
end
end Go.Proofs.YtiegngjdjheebaaGreatDoor.W
namespace Go.Proofs.YtiegngjdjheebaaGreatDoor.M
open Go Go.Proofs.YtiegngjdjheebaaGreatDoor.VL
def E.row (e:E):List V:=[.int .i64 e.a,.int .i64 e.p]
def Pc.row (p:Pc):List V:=[.int .i64 p.size,.bool p.named,.int .i64 p.e.a,.int .i64 p.e.p]
def Pair.row (p:Pair):List V:=[.int .i64 p.port,.int .i64 p.ins.a,.int .i64 p.ins.p]
def Part.row (p:Part):List V:=[.int .i64 p.size,.str p.text]
def Strm.row (s:Strm):List V:=[.str s.inn,.sl 2 (s.parts.map Part.row)]
def Flw.row (f:Flw):List V:=[.int .i64 f.ins.a,.int .i64 f.ins.p,.int .i64 f.out.a,.int .i64 f.out.p,.str f.up.inn,.sl 2 (f.up.parts.map Part.row),.str f.down.inn,.sl 2 (f.down.parts.map Part.row)]
def Pk.row (p:Pk):List V:=[.int .i64 p.kind,.int .i64 p.frm.a,.int .i64 p.frm.p,.int .i64 p.to.a,.int .i64 p.to.p,.int .i64 p.at_,.str p.text]
def Door.row (d:Door):List V:=[.sl 3 (d.map.map Pair.row),.sl 8 (d.flows.map Flw.row)]
def Conv.row (c:Conv):List V:=[.int .i64 c.ins.a,.int .i64 c.ins.p,.int .i64 c.out.a,.int .i64 c.out.p,.str c.up,.str c.down,.int .i64 c.upAck,.int .i64 c.downAck,.str c.upGot,.str c.downGot]
def World.row (w:World):List V:=[.sl 10 (w.convs.map Conv.row),.sl 3 (w.door.map.map Pair.row),.sl 8 (w.door.flows.map Flw.row),.sl 7 (w.nets.map Pk.row)]
def Ev.row (e:Ev):List V:=[.int .i64 e.kind,.int .i64 e.a,.int .i64 e.b,.int .i64 e.c,.int .i64 e.pkt.kind,.int .i64 e.pkt.frm.a,.int .i64 e.pkt.frm.p,.int .i64 e.pkt.to.a,.int .i64 e.pkt.to.p,.int .i64 e.pkt.at_,.str e.pkt.text]
def rdV (o:Option E):V:=.tup [.agg [.int .i64 (o.getD .zero).a,.int .i64 (o.getD .zero).p],.bool o.isSome]
def byR (b:UInt8):List V:=[.int .u8 (b.toNat:Int)]
theorem E.eta (e:E):E.mk e.a e.p=e:=by cases e;rfl
theorem Pc.eta (q:Pc):Pc.mk q.size q.named q.e=q:=by cases q;rfl
theorem Pair.eta (q:Pair):Pair.mk q.port q.ins=q:=by cases q;rfl
theorem Part.eta (q:Part):Part.mk q.size q.text=q:=by cases q;rfl
theorem Strm.eta (q:Strm):Strm.mk q.inn q.parts=q:=by cases q;rfl
theorem Pk.eta (q:Pk):Pk.mk q.kind q.frm q.to q.at_ q.text=q:=by cases q;rfl
theorem Flw.eta (q:Flw):Flw.mk q.ins q.out q.up q.down=q:=by cases q;rfl
theorem Conv.eta (q:Conv):Conv.mk q.ins q.out q.up q.down q.upAck q.downAck q.upGot q.downGot=q:=by cases q;rfl
theorem Door.eta (q:Door):Door.mk q.map q.flows=q:=by cases q;rfl
theorem World.eta (q:World):World.mk q.convs q.door q.nets=q:=by cases q;rfl
theorem Ev.eta (q:Ev):Ev.mk q.kind q.a q.b q.c q.pkt=q:=by cases q;rfl
end Go.Proofs.YtiegngjdjheebaaGreatDoor.M
namespace Go.Proofs
open Go.Shelf
def Tryz.lays169_ren:Go.Shelf.Ren:=⟨fun|169=>28|n=>n,fun|70=>48|9=>9|0=>0|72=>50|37=>22|127=>89|3=>3|5=>5|n=>n,fun|n=>n⟩
theorem Tryz.lays169:Go.Proofs.Lays.n169 Tryz.prog Tryz.lays169_ren:={
 mixed:=by kernel_rfl
 f169:=Tryz.func28.trans (congrArg some (by kernel_rfl))
 t0:=Tryz.underlying0
 a0:=Tryz.isAgg0
 z0:=Tryz.sizeOf0
 v0:=Tryz.zeroValue0
 t3:=Tryz.underlying3
 a3:=Tryz.isAgg3
 z3:=Tryz.sizeOf3
 v3:=Tryz.zeroValue3
 t9:=Tryz.underlying9
 a9:=Tryz.isAgg9
 z9:=Tryz.sizeOf9
 v9:=Tryz.zeroValue9
 t37:=Tryz.underlying22
 a37:=Tryz.isAgg22
 z37:=Tryz.sizeOf22
 v37:=Tryz.zeroValue22
 t70:=Tryz.underlying48
 a70:=Tryz.isAgg48
 z70:=Tryz.sizeOf48
 v70:=Tryz.zeroValue48
 t72:=Tryz.underlying50
 a72:=Tryz.isAgg50
 z72:=Tryz.sizeOf50
 v72:=Tryz.zeroValue50
 t127:=Tryz.underlying89
 a127:=Tryz.isAgg89
 z127:=Tryz.sizeOf89
 v127:=Tryz.zeroValue89 }
theorem Tryz.Builder_Extra_169:Builder.Extra Tryz.prog Tryz.lays169_ren:={
 sizeBuilder:=by kernel_rfl
 liesBuilder:=by kernel_rfl
 t5:=Tryz.underlying5
 a5:=Tryz.isAgg5
 z5:=Tryz.sizeOf5
 v5:=Tryz.zeroValue5
 infoByte:=by kernel_rfl
 cellsByte:=by kernel_rfl
 sizeByte:=by kernel_rfl
 neB5:=by decide }
open Go.RowKit in
theorem Tryz.Builder_String_any (B b:Nat) (l:List UInt8) (w:World) (h:Lib.IsBuilder 50 5 B b (Lib.byteCells l) w) (hBw:B≤w.heap.size) :
 Calls Tryz.prog 28 #[.pointer (some ⟨b,0,none⟩)] w fun e w'=>e=.returned (.string ⟨l.toArray⟩)∧Below B w w':=Any.Builder_String_any Tryz.lays169 Tryz.Builder_Extra_169 B b l w h hBw
def Tryz.lays156_ren:Go.Shelf.Ren:=⟨fun|156=>92|165=>133|166=>25|169=>28|240=>43|241=>163|276=>74|277=>187|n=>n,fun|31=>60|9=>9|3=>3|4=>4|0=>0|20=>20|72=>50|76=>55|70=>48|37=>22|75=>54|127=>89|164=>104|5=>5|80=>59|n=>n,fun|n=>n⟩
theorem Tryz.lays156:Go.Proofs.Lays.n156 Tryz.prog Tryz.lays156_ren:={
 mixed:=by kernel_rfl
 f156:=Tryz.func92.trans (congrArg some (by kernel_rfl))
 f165:=Tryz.func133.trans (congrArg some (by kernel_rfl))
 f166:=Tryz.func25.trans (congrArg some (by kernel_rfl))
 f169:=Tryz.func28.trans (congrArg some (by kernel_rfl))
 f240:=Tryz.func43.trans (congrArg some (by kernel_rfl))
 f241:=Tryz.func163.trans (congrArg some (by kernel_rfl))
 f276:=Tryz.func74.trans (congrArg some (by kernel_rfl))
 f277:=Tryz.func187.trans (congrArg some (by kernel_rfl))
 t0:=Tryz.underlying0
 a0:=Tryz.isAgg0
 z0:=Tryz.sizeOf0
 v0:=Tryz.zeroValue0
 t3:=Tryz.underlying3
 a3:=Tryz.isAgg3
 z3:=Tryz.sizeOf3
 v3:=Tryz.zeroValue3
 t4:=Tryz.underlying4
 a4:=Tryz.isAgg4
 z4:=Tryz.sizeOf4
 v4:=Tryz.zeroValue4
 t9:=Tryz.underlying9
 a9:=Tryz.isAgg9
 z9:=Tryz.sizeOf9
 v9:=Tryz.zeroValue9
 t20:=Tryz.underlying20
 a20:=Tryz.isAgg20
 z20:=Tryz.sizeOf20
 v20:=Tryz.zeroValue20
 t31:=Tryz.underlying60
 a31:=Tryz.isAgg60
 z31:=Tryz.sizeOf60
 v31:=Tryz.zeroValue60
 t37:=Tryz.underlying22
 a37:=Tryz.isAgg22
 z37:=Tryz.sizeOf22
 v37:=Tryz.zeroValue22
 t70:=Tryz.underlying48
 a70:=Tryz.isAgg48
 z70:=Tryz.sizeOf48
 v70:=Tryz.zeroValue48
 t72:=Tryz.underlying50
 a72:=Tryz.isAgg50
 z72:=Tryz.sizeOf50
 v72:=Tryz.zeroValue50
 t75:=Tryz.underlying54
 a75:=Tryz.isAgg54
 z75:=Tryz.sizeOf54
 v75:=Tryz.zeroValue54
 t76:=Tryz.underlying55
 a76:=Tryz.isAgg55
 z76:=Tryz.sizeOf55
 v76:=Tryz.zeroValue55
 t127:=Tryz.underlying89
 a127:=Tryz.isAgg89
 z127:=Tryz.sizeOf89
 v127:=Tryz.zeroValue89
 t164:=Tryz.underlying104
 a164:=Tryz.isAgg104
 z164:=Tryz.sizeOf104
 v164:=Tryz.zeroValue104 }
theorem Tryz.Builder_Extra_156:Builder.Extra Tryz.prog Tryz.lays156_ren:={
 sizeBuilder:=by kernel_rfl
 liesBuilder:=by kernel_rfl
 t5:=Tryz.underlying5
 a5:=Tryz.isAgg5
 z5:=Tryz.sizeOf5
 v5:=Tryz.zeroValue5
 infoByte:=by kernel_rfl
 cellsByte:=by kernel_rfl
 sizeByte:=by kernel_rfl
 neB5:=by decide }
def Tryz.lays103_ren:Go.Shelf.Ren:=⟨fun|103=>194|210=>216|206=>132|n=>n,fun|9=>9|4=>4|24=>163|3=>3|n=>n,fun|n=>n⟩
theorem Tryz.lays103:Go.Proofs.Lays.n103 Tryz.prog Tryz.lays103_ren:={
 mixed:=by kernel_rfl
 f103:=Tryz.func194.trans (congrArg some (by kernel_rfl))
 f206:=Tryz.func132.trans (congrArg some (by kernel_rfl))
 f210:=Tryz.func216.trans (congrArg some (by kernel_rfl))
 t3:=Tryz.underlying3
 a3:=Tryz.isAgg3
 z3:=Tryz.sizeOf3
 v3:=Tryz.zeroValue3
 t4:=Tryz.underlying4
 a4:=Tryz.isAgg4
 z4:=Tryz.sizeOf4
 v4:=Tryz.zeroValue4
 t9:=Tryz.underlying9
 a9:=Tryz.isAgg9
 z9:=Tryz.sizeOf9
 v9:=Tryz.zeroValue9
 t24:=Tryz.underlying163
 a24:=Tryz.isAgg163
 z24:=Tryz.sizeOf163
 v24:=Tryz.zeroValue163 }
open Go.RowKit in
theorem Tryz.strings_CutPrefix (s p:ByteArray) (w:World) :
 Calls Tryz.prog 194 #[.string s,.string p] w fun e w'=>e=.returned (.tuple #[.string ⟨(Lib.trimPrefix s.data.toList p.data.toList).toArray⟩,.bool (Lib.hasPrefix s.data.toList p.data.toList)])∧w'=w:=Any.strings_CutPrefix Tryz.lays103 s p w
def Tryz.lays171_ren:Go.Shelf.Ren:=⟨fun|171=>27|243=>53|246=>93|283=>134|284=>135|285=>136|286=>137|129=>165|317=>164|318=>166|319=>167|320=>168|337=>188|338=>189|n=>n,fun|3=>3|9=>9|2=>2|4=>4|171=>142|0=>0|53=>143|37=>22|5=>5|173=>146|212=>172|51=>155|20=>20|213=>173|46=>132|232=>221|233=>222|n=>n,fun|17=>1|18=>6|19=>7|n=>n⟩
theorem Tryz.lays171:Go.Proofs.Lays.n171 Tryz.prog Tryz.lays171_ren:={
 mixed:=by kernel_rfl
 f129:=Tryz.func165.trans (congrArg some (by kernel_rfl))
 f171:=Tryz.func27.trans (congrArg some (by kernel_rfl))
 f243:=Tryz.func53.trans (congrArg some (by kernel_rfl))
 f246:=Tryz.func93.trans (congrArg some (by kernel_rfl))
 f283:=Tryz.func134.trans (congrArg some (by kernel_rfl))
 f284:=Tryz.func135.trans (congrArg some (by kernel_rfl))
 f285:=Tryz.func136.trans (congrArg some (by kernel_rfl))
 f286:=Tryz.func137.trans (congrArg some (by kernel_rfl))
 f317:=Tryz.func164.trans (congrArg some (by kernel_rfl))
 f318:=Tryz.func166.trans (congrArg some (by kernel_rfl))
 f319:=Tryz.func167.trans (congrArg some (by kernel_rfl))
 f320:=Tryz.func168.trans (congrArg some (by kernel_rfl))
 f337:=Tryz.func188.trans (congrArg some (by kernel_rfl))
 f338:=Tryz.func189.trans (congrArg some (by kernel_rfl))
 t0:=Tryz.underlying0
 a0:=Tryz.isAgg0
 z0:=Tryz.sizeOf0
 v0:=Tryz.zeroValue0
 t2:=Tryz.underlying2
 a2:=Tryz.isAgg2
 z2:=Tryz.sizeOf2
 v2:=Tryz.zeroValue2
 t3:=Tryz.underlying3
 a3:=Tryz.isAgg3
 z3:=Tryz.sizeOf3
 v3:=Tryz.zeroValue3
 t4:=Tryz.underlying4
 a4:=Tryz.isAgg4
 z4:=Tryz.sizeOf4
 v4:=Tryz.zeroValue4
 t5:=Tryz.underlying5
 a5:=Tryz.isAgg5
 z5:=Tryz.sizeOf5
 v5:=Tryz.zeroValue5
 t9:=Tryz.underlying9
 a9:=Tryz.isAgg9
 z9:=Tryz.sizeOf9
 v9:=Tryz.zeroValue9
 t20:=Tryz.underlying20
 a20:=Tryz.isAgg20
 z20:=Tryz.sizeOf20
 v20:=Tryz.zeroValue20
 t37:=Tryz.underlying22
 a37:=Tryz.isAgg22
 z37:=Tryz.sizeOf22
 v37:=Tryz.zeroValue22
 t46:=Tryz.underlying132
 a46:=Tryz.isAgg132
 z46:=Tryz.sizeOf132
 v46:=Tryz.zeroValue132
 t51:=Tryz.underlying155
 a51:=Tryz.isAgg155
 z51:=Tryz.sizeOf155
 v51:=Tryz.zeroValue155
 t53:=Tryz.underlying143
 a53:=Tryz.isAgg143
 z53:=Tryz.sizeOf143
 v53:=Tryz.zeroValue143
 t171:=Tryz.underlying142
 a171:=Tryz.isAgg142
 z171:=Tryz.sizeOf142
 v171:=Tryz.zeroValue142
 t173:=Tryz.underlying146
 a173:=Tryz.isAgg146
 z173:=Tryz.sizeOf146
 v173:=Tryz.zeroValue146
 t212:=Tryz.underlying172
 a212:=Tryz.isAgg172
 z212:=Tryz.sizeOf172
 v212:=Tryz.zeroValue172
 t213:=Tryz.underlying173
 a213:=Tryz.isAgg173
 z213:=Tryz.sizeOf173
 t232:=Tryz.underlying221
 a232:=Tryz.isAgg221
 z232:=Tryz.sizeOf221
 v232:=Tryz.zeroValue221
 t233:=Tryz.underlying222
 a233:=Tryz.isAgg222
 z233:=Tryz.sizeOf222
 v233:=Tryz.zeroValue222
 g17:=by kernel_rfl
 g18:=by kernel_rfl
 g19:=by kernel_rfl }
open Go.RowKit Go.Sort Go.Lib in
theorem Tryz.strconv_Itoa_small (i:Nat) (hi:i<100) (w:World) :
 Calls Tryz.prog 27 #[.int .i64 i] w fun e w'=>e=.returned (.string ⟨(Lib.decDigits i).toArray⟩)∧w'=w:=Any.strconv_Itoa_small Tryz.lays171 i hi w
def Tryz.laysM316_ren:Go.Shelf.Ren:=⟨fun|316=>131|n=>n,fun|9=>9|3=>3|4=>4|37=>22|0=>0|127=>89|5=>5|n=>n,fun|n=>n⟩
theorem Tryz.laysM316:Go.Proofs.LaysM.n316 Tryz.prog Tryz.laysM316_ren:={
 mixed:=by kernel_rfl
 f316:=Tryz.func131.trans (congrArg some (by kernel_rfl))
 t0:=Tryz.underlying0
 a0:=Tryz.isAgg0
 z0:=Tryz.sizeOf0
 v0:=Tryz.zeroValue0
 t3:=Tryz.underlying3
 a3:=Tryz.isAgg3
 z3:=Tryz.sizeOf3
 v3:=Tryz.zeroValue3
 t4:=Tryz.underlying4
 a4:=Tryz.isAgg4
 z4:=Tryz.sizeOf4
 v4:=Tryz.zeroValue4
 t9:=Tryz.underlying9
 a9:=Tryz.isAgg9
 z9:=Tryz.sizeOf9
 v9:=Tryz.zeroValue9
 t37:=Tryz.underlying22
 a37:=Tryz.isAgg22
 z37:=Tryz.sizeOf22
 v37:=Tryz.zeroValue22
 t127:=Tryz.underlying89
 a127:=Tryz.isAgg89
 z127:=Tryz.sizeOf89
 v127:=Tryz.zeroValue89
 t5:=Tryz.underlying5
 a5:=Tryz.isAgg5
 z5:=Tryz.sizeOf5
 v5:=Tryz.zeroValue5
 i0:=by kernel_rfl
 i3:=by kernel_rfl
 i4:=by kernel_rfl
 i5:=by kernel_rfl
 i9:=by kernel_rfl
 i37:=by kernel_rfl
 i127:=by kernel_rfl }
open Go.RowKit in
theorem Tryz.stringslite_Clone (s:ByteArray) (w:World) (hlim:s.size≤281474976710656) :
 Calls Tryz.prog 131 #[.string s] w fun e w'=>e=.returned (.string s)∧Below w.heap.size w w':=Any.stringslite_Clone Tryz.laysM316 s w hlim
def Tryz.laysC172_ren:Go.Shelf.Ren:=⟨fun|172=>87|244=>129|245=>130|247=>158|279=>159|280=>160|281=>161|282=>162|287=>185|316=>131|171=>27|205=>186|321=>205|322=>206|243=>53|246=>93|283=>134|284=>135|285=>136|286=>137|129=>165|317=>164|318=>166|319=>167|320=>168|337=>188|338=>189|n=>n,fun|9=>9|3=>3|75=>54|76=>55|4=>4|5=>5|167=>165|37=>22|0=>0|85=>166|2=>2|168=>168|53=>143|175=>196|46=>132|210=>199|127=>89|145=>220|143=>218|21=>21|171=>142|173=>146|212=>172|51=>155|20=>20|213=>173|232=>221|233=>222|80=>59|n=>n,fun|15=>2|16=>3|17=>1|18=>6|19=>7|n=>n⟩
theorem Tryz.laysC172:Go.Proofs.LaysC.n172 Tryz.prog Tryz.laysC172_ren:={
 mixed:=by kernel_rfl
 f129:=Tryz.func165.trans (congrArg some (by kernel_rfl))
 f171:=Tryz.func27.trans (congrArg some (by kernel_rfl))
 f172:=Tryz.func87.trans (congrArg some (by kernel_rfl))
 f205:=Tryz.func186.trans (congrArg some (by kernel_rfl))
 f243:=Tryz.func53.trans (congrArg some (by kernel_rfl))
 f244:=Tryz.func129.trans (congrArg some (by kernel_rfl))
 f245:=Tryz.func130.trans (congrArg some (by kernel_rfl))
 f246:=Tryz.func93.trans (congrArg some (by kernel_rfl))
 f247:=Tryz.func158.trans (congrArg some (by kernel_rfl))
 f279:=Tryz.func159.trans (congrArg some (by kernel_rfl))
 f280:=Tryz.func160.trans (congrArg some (by kernel_rfl))
 f281:=Tryz.func161.trans (congrArg some (by kernel_rfl))
 f282:=Tryz.func162.trans (congrArg some (by kernel_rfl))
 f283:=Tryz.func134.trans (congrArg some (by kernel_rfl))
 f284:=Tryz.func135.trans (congrArg some (by kernel_rfl))
 f285:=Tryz.func136.trans (congrArg some (by kernel_rfl))
 f286:=Tryz.func137.trans (congrArg some (by kernel_rfl))
 f287:=Tryz.func185.trans (congrArg some (by kernel_rfl))
 f316:=Tryz.func131.trans (congrArg some (by kernel_rfl))
 f317:=Tryz.func164.trans (congrArg some (by kernel_rfl))
 f318:=Tryz.func166.trans (congrArg some (by kernel_rfl))
 f319:=Tryz.func167.trans (congrArg some (by kernel_rfl))
 f320:=Tryz.func168.trans (congrArg some (by kernel_rfl))
 f321:=Tryz.func205.trans (congrArg some (by kernel_rfl))
 f322:=Tryz.func206.trans (congrArg some (by kernel_rfl))
 f337:=Tryz.func188.trans (congrArg some (by kernel_rfl))
 f338:=Tryz.func189.trans (congrArg some (by kernel_rfl))
 t0:=Tryz.underlying0
 a0:=Tryz.isAgg0
 z0:=Tryz.sizeOf0
 v0:=Tryz.zeroValue0
 t2:=Tryz.underlying2
 a2:=Tryz.isAgg2
 z2:=Tryz.sizeOf2
 v2:=Tryz.zeroValue2
 t3:=Tryz.underlying3
 a3:=Tryz.isAgg3
 z3:=Tryz.sizeOf3
 v3:=Tryz.zeroValue3
 t4:=Tryz.underlying4
 a4:=Tryz.isAgg4
 z4:=Tryz.sizeOf4
 v4:=Tryz.zeroValue4
 t5:=Tryz.underlying5
 a5:=Tryz.isAgg5
 z5:=Tryz.sizeOf5
 v5:=Tryz.zeroValue5
 t9:=Tryz.underlying9
 a9:=Tryz.isAgg9
 z9:=Tryz.sizeOf9
 v9:=Tryz.zeroValue9
 t20:=Tryz.underlying20
 a20:=Tryz.isAgg20
 z20:=Tryz.sizeOf20
 v20:=Tryz.zeroValue20
 t21:=Tryz.underlying21
 a21:=Tryz.isAgg21
 z21:=Tryz.sizeOf21
 v21:=Tryz.zeroValue21
 t37:=Tryz.underlying22
 a37:=Tryz.isAgg22
 z37:=Tryz.sizeOf22
 v37:=Tryz.zeroValue22
 t46:=Tryz.underlying132
 a46:=Tryz.isAgg132
 z46:=Tryz.sizeOf132
 v46:=Tryz.zeroValue132
 t51:=Tryz.underlying155
 a51:=Tryz.isAgg155
 z51:=Tryz.sizeOf155
 v51:=Tryz.zeroValue155
 t53:=Tryz.underlying143
 a53:=Tryz.isAgg143
 z53:=Tryz.sizeOf143
 v53:=Tryz.zeroValue143
 t75:=Tryz.underlying54
 a75:=Tryz.isAgg54
 z75:=Tryz.sizeOf54
 v75:=Tryz.zeroValue54
 t76:=Tryz.underlying55
 a76:=Tryz.isAgg55
 z76:=Tryz.sizeOf55
 v76:=Tryz.zeroValue55
 t85:=Tryz.underlying166
 a85:=Tryz.isAgg166
 z85:=Tryz.sizeOf166
 v85:=Tryz.zeroValue166
 t127:=Tryz.underlying89
 a127:=Tryz.isAgg89
 z127:=Tryz.sizeOf89
 v127:=Tryz.zeroValue89
 t143:=Tryz.underlying218
 a143:=Tryz.isAgg218
 z143:=Tryz.sizeOf218
 v143:=Tryz.zeroValue218
 t145:=Tryz.underlying220
 a145:=Tryz.isAgg220
 z145:=Tryz.sizeOf220
 v145:=Tryz.zeroValue220
 t167:=Tryz.underlying165
 a167:=Tryz.isAgg165
 z167:=Tryz.sizeOf165
 v167:=Tryz.zeroValue165
 t168:=Tryz.underlying168
 a168:=Tryz.isAgg168
 z168:=Tryz.sizeOf168
 v168:=Tryz.zeroValue168
 t171:=Tryz.underlying142
 a171:=Tryz.isAgg142
 z171:=Tryz.sizeOf142
 v171:=Tryz.zeroValue142
 t173:=Tryz.underlying146
 a173:=Tryz.isAgg146
 z173:=Tryz.sizeOf146
 v173:=Tryz.zeroValue146
 t175:=Tryz.underlying196
 a175:=Tryz.isAgg196
 z175:=Tryz.sizeOf196
 v175:=Tryz.zeroValue196
 t210:=Tryz.underlying199
 a210:=Tryz.isAgg199
 z210:=Tryz.sizeOf199
 v210:=Tryz.zeroValue199
 t212:=Tryz.underlying172
 a212:=Tryz.isAgg172
 z212:=Tryz.sizeOf172
 v212:=Tryz.zeroValue172
 t213:=Tryz.underlying173
 a213:=Tryz.isAgg173
 z213:=Tryz.sizeOf173
 t232:=Tryz.underlying221
 a232:=Tryz.isAgg221
 z232:=Tryz.sizeOf221
 v232:=Tryz.zeroValue221
 t233:=Tryz.underlying222
 a233:=Tryz.isAgg222
 z233:=Tryz.sizeOf222
 v233:=Tryz.zeroValue222
 g15:=by kernel_rfl
 g16:=by kernel_rfl
 g17:=by kernel_rfl
 g18:=by kernel_rfl
 g19:=by kernel_rfl
 t80:=Tryz.underlying59
 a80:=Tryz.isAgg59
 z80:=Tryz.sizeOf59
 v80:=Tryz.zeroValue59
 i0:=by kernel_rfl
 i2:=by kernel_rfl
 i3:=by kernel_rfl
 i4:=by kernel_rfl
 i5:=by kernel_rfl
 i9:=by kernel_rfl
 i20:=by kernel_rfl
 i21:=by kernel_rfl
 i37:=by kernel_rfl
 i46:=by kernel_rfl
 i51:=by kernel_rfl
 i53:=by kernel_rfl
 i75:=by kernel_rfl
 i76:=by kernel_rfl
 i80:=by kernel_rfl
 i85:=by kernel_rfl
 i127:=by kernel_rfl
 i143:=by kernel_rfl
 i145:=by kernel_rfl
 i167:=by kernel_rfl
 i168:=by kernel_rfl
 i171:=by kernel_rfl
 i173:=by kernel_rfl
 i175:=by kernel_rfl
 i210:=by kernel_rfl
 i212:=by kernel_rfl
 i232:=by kernel_rfl
 i233:=by kernel_rfl
 m15:=by kernel_rfl
 m16:=by kernel_rfl
 m17:=by kernel_rfl
 m18:=by kernel_rfl
 m19:=by kernel_rfl
 c0:=by kernel_rfl
 c2:=by kernel_rfl
 c3:=by kernel_rfl
 c4:=by kernel_rfl
 c5:=by kernel_rfl
 c9:=by kernel_rfl
 c20:=by kernel_rfl
 c21:=by kernel_rfl
 c37:=by kernel_rfl
 c46:=by kernel_rfl
 c51:=by kernel_rfl
 c53:=by kernel_rfl
 c75:=by kernel_rfl
 c76:=by kernel_rfl
 c80:=by kernel_rfl
 c85:=by kernel_rfl
 c127:=by kernel_rfl
 c143:=by kernel_rfl
 c145:=by kernel_rfl
 c167:=by kernel_rfl
 c168:=by kernel_rfl
 c171:=by kernel_rfl
 c173:=by kernel_rfl
 c175:=by kernel_rfl
 c210:=by kernel_rfl
 c212:=by kernel_rfl
 c213:=by kernel_rfl
 c232:=by kernel_rfl
 c233:=by kernel_rfl }
def Tryz.lays145_ren:Go.Shelf.Ren:=⟨fun|145=>24|220=>42|219=>73|217=>118|225=>119|224=>120|267=>121|266=>149|314=>150|n=>n,fun|9=>9|4=>4|59=>51|3=>3|5=>5|46=>132|146=>156|51=>155|n=>n,fun|1=>0|n=>n⟩
theorem Tryz.lays145:Go.Proofs.Lays.n145 Tryz.prog Tryz.lays145_ren:={
 mixed:=by kernel_rfl
 f145:=Tryz.func24.trans (congrArg some (by kernel_rfl))
 f217:=Tryz.func118.trans (congrArg some (by kernel_rfl))
 f219:=Tryz.func73.trans (congrArg some (by kernel_rfl))
 f220:=Tryz.func42.trans (congrArg some (by kernel_rfl))
 f224:=Tryz.func120.trans (congrArg some (by kernel_rfl))
 f225:=Tryz.func119.trans (congrArg some (by kernel_rfl))
 f266:=Tryz.func149.trans (congrArg some (by kernel_rfl))
 f267:=Tryz.func121.trans (congrArg some (by kernel_rfl))
 f314:=Tryz.func150.trans (congrArg some (by kernel_rfl))
 t3:=Tryz.underlying3
 a3:=Tryz.isAgg3
 z3:=Tryz.sizeOf3
 v3:=Tryz.zeroValue3
 t4:=Tryz.underlying4
 a4:=Tryz.isAgg4
 z4:=Tryz.sizeOf4
 v4:=Tryz.zeroValue4
 t5:=Tryz.underlying5
 a5:=Tryz.isAgg5
 z5:=Tryz.sizeOf5
 v5:=Tryz.zeroValue5
 t9:=Tryz.underlying9
 a9:=Tryz.isAgg9
 z9:=Tryz.sizeOf9
 v9:=Tryz.zeroValue9
 t46:=Tryz.underlying132
 a46:=Tryz.isAgg132
 z46:=Tryz.sizeOf132
 v46:=Tryz.zeroValue132
 t51:=Tryz.underlying155
 a51:=Tryz.isAgg155
 z51:=Tryz.sizeOf155
 v51:=Tryz.zeroValue155
 t59:=Tryz.underlying51
 a59:=Tryz.isAgg51
 z59:=Tryz.sizeOf51
 v59:=Tryz.zeroValue51
 t146:=Tryz.underlying156
 a146:=Tryz.isAgg156
 z146:=Tryz.sizeOf156
 v146:=Tryz.zeroValue156
 g1:=by kernel_rfl }
open Go.RowKit Go.Lib in
theorem Tryz.strings_Cut (s sep:ByteArray) (m:Int) (w:World) (hs:s.size<4294967281) (hm:w.cell? ⟨0,0,none⟩=some (.int .i64 m)) :
 Calls Tryz.prog 24 #[.string s,.string sep] w fun e w'=>e=.returned (.tuple #[.string ⟨(Lib.cut s.data.toList sep.data.toList).1.toArray⟩,.string ⟨(Lib.cut s.data.toList sep.data.toList).2.1.toArray⟩,.bool (Lib.cut s.data.toList sep.data.toList).2.2])∧∃n,w'=w.drewN n:=Any.strings_Cut Tryz.lays145 s sep m w hs hm
def Tryz.lays146_ren:Go.Shelf.Ren:=⟨fun|146=>44|221=>75|268=>122|138=>123|143=>124|195=>151|197=>152|218=>153|219=>73|260=>179|217=>118|225=>119|224=>120|267=>121|266=>149|314=>150|n=>n,fun|9=>9|31=>60|3=>3|4=>4|0=>0|105=>158|21=>21|5=>5|46=>132|119=>208|139=>211|138=>210|146=>156|51=>155|n=>n,fun|1=>0|3=>4|4=>5|n=>n⟩
theorem Tryz.lays146:Go.Proofs.Lays.n146 Tryz.prog Tryz.lays146_ren:={
 mixed:=by kernel_rfl
 f138:=Tryz.func123.trans (congrArg some (by kernel_rfl))
 f143:=Tryz.func124.trans (congrArg some (by kernel_rfl))
 f146:=Tryz.func44.trans (congrArg some (by kernel_rfl))
 f195:=Tryz.func151.trans (congrArg some (by kernel_rfl))
 f197:=Tryz.func152.trans (congrArg some (by kernel_rfl))
 f217:=Tryz.func118.trans (congrArg some (by kernel_rfl))
 f218:=Tryz.func153.trans (congrArg some (by kernel_rfl))
 f219:=Tryz.func73.trans (congrArg some (by kernel_rfl))
 f221:=Tryz.func75.trans (congrArg some (by kernel_rfl))
 f224:=Tryz.func120.trans (congrArg some (by kernel_rfl))
 f225:=Tryz.func119.trans (congrArg some (by kernel_rfl))
 f260:=Tryz.func179.trans (congrArg some (by kernel_rfl))
 f266:=Tryz.func149.trans (congrArg some (by kernel_rfl))
 f267:=Tryz.func121.trans (congrArg some (by kernel_rfl))
 f268:=Tryz.func122.trans (congrArg some (by kernel_rfl))
 f314:=Tryz.func150.trans (congrArg some (by kernel_rfl))
 t0:=Tryz.underlying0
 a0:=Tryz.isAgg0
 z0:=Tryz.sizeOf0
 v0:=Tryz.zeroValue0
 t3:=Tryz.underlying3
 a3:=Tryz.isAgg3
 z3:=Tryz.sizeOf3
 v3:=Tryz.zeroValue3
 t4:=Tryz.underlying4
 a4:=Tryz.isAgg4
 z4:=Tryz.sizeOf4
 v4:=Tryz.zeroValue4
 t5:=Tryz.underlying5
 a5:=Tryz.isAgg5
 z5:=Tryz.sizeOf5
 v5:=Tryz.zeroValue5
 t9:=Tryz.underlying9
 a9:=Tryz.isAgg9
 z9:=Tryz.sizeOf9
 v9:=Tryz.zeroValue9
 t21:=Tryz.underlying21
 a21:=Tryz.isAgg21
 z21:=Tryz.sizeOf21
 v21:=Tryz.zeroValue21
 t31:=Tryz.underlying60
 a31:=Tryz.isAgg60
 z31:=Tryz.sizeOf60
 v31:=Tryz.zeroValue60
 t46:=Tryz.underlying132
 a46:=Tryz.isAgg132
 z46:=Tryz.sizeOf132
 v46:=Tryz.zeroValue132
 t51:=Tryz.underlying155
 a51:=Tryz.isAgg155
 z51:=Tryz.sizeOf155
 v51:=Tryz.zeroValue155
 t105:=Tryz.underlying158
 a105:=Tryz.isAgg158
 z105:=Tryz.sizeOf158
 v105:=Tryz.zeroValue158
 t119:=Tryz.underlying208
 a119:=Tryz.isAgg208
 z119:=Tryz.sizeOf208
 t138:=Tryz.underlying210
 a138:=Tryz.isAgg210
 z138:=Tryz.sizeOf210
 v138:=Tryz.zeroValue210
 t139:=Tryz.underlying211
 a139:=Tryz.isAgg211
 z139:=Tryz.sizeOf211
 v139:=Tryz.zeroValue211
 t146:=Tryz.underlying156
 a146:=Tryz.isAgg156
 z146:=Tryz.sizeOf156
 v146:=Tryz.zeroValue156
 g1:=by kernel_rfl
 g3:=by kernel_rfl
 g4:=by kernel_rfl }
open Go.RowKit Go.Lib in
theorem Tryz.strings_Split (s sep:ByteArray) (m:Int) (w:World) (hs:s.size<4294967281) (hm:w.cell? ⟨0,0,none⟩=some (.int .i64 m)) (h1:1≤sep.size) :
 Calls Tryz.prog 44 #[.string s,.string sep] w fun e w' =>
  e=.returned (.slice (some ⟨w.heap.size,0,none⟩) (Lib.countB s sep+1) (Lib.countB s sep+1))∧w'=w.alloc (.cells ((Lib.splitB sep 0 (Lib.countB s sep) s).map Value.string).toArray 9):=Any.strings_Split Tryz.lays146 (by kernel_rfl) s sep m w hs hm h1
end Go.Proofs
namespace Go.Proofs.YtiegngjdjheebaaGreatDoor.W
open Go Go.RowKit Go.Proofs Go.Proofs.YtiegngjdjheebaaGreatDoor.VL
theorem infoP {P:Program} {t sz:Nat} (h:(P.info? t).map (fun i=>(i.size,i.zero.map (·.cells.size),decide (i.bytes≤100000)))=some (sz,some sz,true)) :
 ∃i z,P.info? t=some i∧i.zero=some z∧i.size=sz∧z.cells.size=sz∧i.bytes≤100000:=by
 obtain⟨i,hi,h⟩:=Option.map_eq_some_iff.1 h
 simp only[Prod.mk.injEq,decide_eq_true_eq,zM] at h
 obtain⟨h1,⟨z,hz,h2⟩,h3⟩:=h
 exact⟨i,z,hi,hz,h1,h2,h3⟩
set_option maxRecDepth 100000
set_option maxHeartbeats 2000000
theorem m178:ClipM Tryz.prog 178:=by
 intro A n c W hc
 have u:Tryz.prog.underlying 125=some (.slice 128):=by kernel_rfl
 have u72:∀w,Sem.run Tryz.prog (underlying 125) w=.ok (TypeDesc.slice 128) w:=run_underlying u
 go_enter Tryz.func178,Tryz.ntmps178
 go_wp2
 go_ret
 exact⟨rfl,rfl⟩
theorem c178 (rows:List (List V)):FnR Tryz.prog G 178 [.sl 4 rows] (.sl 4 rows):=clipR (by kernel_rfl) m178 4 rows
theorem m116:ClipM Tryz.prog 116:=by
 intro A n c W hc
 have u:Tryz.prog.underlying 99=some (.slice 45):=by kernel_rfl
 have u72:∀w,Sem.run Tryz.prog (underlying 99) w=.ok (TypeDesc.slice 45) w:=run_underlying u
 go_enter Tryz.func116,Tryz.ntmps116
 go_wp2
 go_ret
 exact⟨rfl,rfl⟩
theorem c116 (rows:List (List V)):FnR Tryz.prog G 116 [.sl 2 rows] (.sl 2 rows):=clipR (by kernel_rfl) m116 2 rows
theorem m200:ClipM Tryz.prog 200:=by
 intro A n c W hc
 have u:Tryz.prog.underlying 35=some (.slice 88):=by kernel_rfl
 have u72:∀w,Sem.run Tryz.prog (underlying 35) w=.ok (TypeDesc.slice 88) w:=run_underlying u
 go_enter Tryz.func200,Tryz.ntmps200
 go_wp2
 go_ret
 exact⟨rfl,rfl⟩
theorem c200 (rows:List (List V)):FnR Tryz.prog G 200 [.sl 3 rows] (.sl 3 rows):=clipR (by kernel_rfl) m200 3 rows
theorem o200 (rows:List (List V)) (n:Nat) (h:rows.length=n):FnP Tryz.prog G 200 0 [.arr 88 3 rows] [.own 0 n] (fun r o=>r=.own 0 n∧o=[.arr 88 3 rows]):=clipOwn (by kernel_rfl) m200 88 3 rows n h
theorem m217:CloneM Tryz.prog 217 88 3:=by
 have t27:Tryz.prog.underlying 35=some (.slice 88):=by kernel_rfl
 have u27:∀w,Sem.run Tryz.prog (underlying 35) w=.ok (TypeDesc.slice 88) w:=run_underlying t27
 have q27:∀(w:World) (a:Option Addr) (n c n' c':Nat),(binOp .eql 35 (.slice a n c) (.slice none n' c')).run Tryz.prog w=.ok (.bool a.isNone) w:=fun w a n c n' c'=>Lib.run_eql_slice_nil w _ _ a n c n' c' t27
 obtain⟨i0,z0,hi,hz,hs,hzs,hb⟩:=infoP (P:=Tryz.prog) (t:=88) (sz:=3) (by kernel_rfl)
 refine⟨fun n c W=>?_,fun a n c us W h1 h2 h3 h4=>?_⟩
 ·go_enter Tryz.func217,Tryz.ntmps217
  go_wp2
  go_ret
  exact⟨rfl,rfl⟩
 ·go_enter Tryz.func217,Tryz.ntmps217
  go_wp2_with (at_builtin;refine wpList_append_own _ rfl _ _ 35 rfl W.heap.size 88 i0 z0 3 i0.bytes t27 hi hz hs rfl hzs (by decide) _ _ _ rfl (World.ownsRow_made W #[] 0 (Nat.le_refl _) (Nat.zero_le _) rfl) a n c us rfl h1 ?qc2 h3 ?qc4 ?qc5 ?qc6 ?_)
  case qc2=>intro j u hj;exact Lib.cell?_alloc_some _ (h2 j u hj)
  case qc4=>unfold maxLen;omega
  case qc5=>exact Nat.le_trans (Nat.mul_le_mul (show 0+n≤2000000 by omega) hb) (by decide)
  case qc6=>simp
  intro v' w1 hown hgrow hnil
  go_wp2
  go_ret
  refine⟨v',rfl,by simpa using hown, ?_⟩
  exact((Below.refl _ W).alloc (Nat.le_refl _) _).grown hgrow (by simp) (by intro k hk;simp[Value.ownBlock] at hk;omega)
theorem c217 (rows:List (List V)) (hr:rows.length≤2000000):FnP Tryz.prog G 217 0 [] [.sl 3 rows] (fun r o=>r=.own 0 rows.length∧o=[.arr 88 3 rows]):=cloneOwn (by kernel_rfl) m217 rows hr
theorem m219:CloneM Tryz.prog 219 204 2:=by
 have t27:Tryz.prog.underlying 177=some (.slice 204):=by kernel_rfl
 have u27:∀w,Sem.run Tryz.prog (underlying 177) w=.ok (TypeDesc.slice 204) w:=run_underlying t27
 have q27:∀(w:World) (a:Option Addr) (n c n' c':Nat),(binOp .eql 177 (.slice a n c) (.slice none n' c')).run Tryz.prog w=.ok (.bool a.isNone) w:=fun w a n c n' c'=>Lib.run_eql_slice_nil w _ _ a n c n' c' t27
 obtain⟨i0,z0,hi,hz,hs,hzs,hb⟩:=infoP (P:=Tryz.prog) (t:=204) (sz:=2) (by kernel_rfl)
 refine⟨fun n c W=>?_,fun a n c us W h1 h2 h3 h4=>?_⟩
 ·go_enter Tryz.func219,Tryz.ntmps219
  go_wp2
  go_ret
  exact⟨rfl,rfl⟩
 ·go_enter Tryz.func219,Tryz.ntmps219
  go_wp2_with (at_builtin;refine wpList_append_own _ rfl _ _ 177 rfl W.heap.size 204 i0 z0 2 i0.bytes t27 hi hz hs rfl hzs (by decide) _ _ _ rfl (World.ownsRow_made W #[] 0 (Nat.le_refl _) (Nat.zero_le _) rfl) a n c us rfl h1 ?qc2 h3 ?qc4 ?qc5 ?qc6 ?_)
  case qc2=>intro j u hj;exact Lib.cell?_alloc_some _ (h2 j u hj)
  case qc4=>unfold maxLen;omega
  case qc5=>exact Nat.le_trans (Nat.mul_le_mul (show 0+n≤2000000 by omega) hb) (by decide)
  case qc6=>simp
  intro v' w1 hown hgrow hnil
  go_wp2
  go_ret
  refine⟨v',rfl,by simpa using hown, ?_⟩
  exact((Below.refl _ W).alloc (Nat.le_refl _) _).grown hgrow (by simp) (by intro k hk;simp[Value.ownBlock] at hk;omega)
theorem c219 (rows:List (List V)) (hr:rows.length≤2000000):FnP Tryz.prog G 219 0 [] [.sl 2 rows] (fun r o=>r=.own 0 rows.length∧o=[.arr 204 2 rows]):=cloneOwn (by kernel_rfl) m219 rows hr
def bldRen:Go.Shelf.Ren:=⟨fun|166=>25|240=>43|276=>74|n=>n,fun|0=>0|3=>3|4=>4|9=>9|20=>20|37=>22|70=>48|72=>50|75=>54|164=>104|5=>5|80=>59|n=>n,fun|n=>n⟩
theorem bldLays:Go.Proofs.Lays.n166 Tryz.prog bldRen:={
 mixed:=by kernel_rfl
 f166:=Tryz.func25.trans (congrArg some (by kernel_rfl))
 f240:=Tryz.func43.trans (congrArg some (by kernel_rfl))
 f276:=Tryz.func74.trans (congrArg some (by kernel_rfl))
 t0:=Tryz.underlying0
 a0:=Tryz.isAgg0
 z0:=Tryz.sizeOf0
 v0:=Tryz.zeroValue0
 t3:=Tryz.underlying3
 a3:=Tryz.isAgg3
 z3:=Tryz.sizeOf3
 v3:=Tryz.zeroValue3
 t4:=Tryz.underlying4
 a4:=Tryz.isAgg4
 z4:=Tryz.sizeOf4
 v4:=Tryz.zeroValue4
 t9:=Tryz.underlying9
 a9:=Tryz.isAgg9
 z9:=Tryz.sizeOf9
 v9:=Tryz.zeroValue9
 t20:=Tryz.underlying20
 a20:=Tryz.isAgg20
 z20:=Tryz.sizeOf20
 v20:=Tryz.zeroValue20
 t37:=Tryz.underlying22
 a37:=Tryz.isAgg22
 z37:=Tryz.sizeOf22
 v37:=Tryz.zeroValue22
 t70:=Tryz.underlying48
 a70:=Tryz.isAgg48
 z70:=Tryz.sizeOf48
 v70:=Tryz.zeroValue48
 t72:=Tryz.underlying50
 a72:=Tryz.isAgg50
 z72:=Tryz.sizeOf50
 v72:=Tryz.zeroValue50
 t75:=Tryz.underlying54
 a75:=Tryz.isAgg54
 z75:=Tryz.sizeOf54
 v75:=Tryz.zeroValue54
 t164:=Tryz.underlying104
 a164:=Tryz.isAgg104
 z164:=Tryz.sizeOf104
 v164:=Tryz.zeroValue104 }
theorem bldExtra:Builder.Extra Tryz.prog bldRen:={
 sizeBuilder:=by kernel_rfl
 liesBuilder:=by kernel_rfl
 t5:=Tryz.underlying5
 a5:=Tryz.isAgg5
 z5:=Tryz.sizeOf5
 v5:=Tryz.zeroValue5
 infoByte:=by kernel_rfl
 cellsByte:=by kernel_rfl
 sizeByte:=by kernel_rfl
 neB5:=by decide }
theorem m25 (B b:Nat) (bs:List Value) (s:ByteArray) (w:World) (h:Lib.IsBuilder 50 5 B b bs w) (hlen:bs.length+s.size≤140737488355328) (hBw:B≤w.heap.size) :
 Calls Tryz.prog 25 #[.pointer (some ⟨b,0,none⟩),.string s] w fun e w'=>e=.returned (.tuple #[.int .i64 s.size,.nilIface])∧(Lib.BuilderAt 50 5 B b (.pointer (some ⟨b,0,none⟩)) (bs++Lib.strCells s) w'∧Below B w w') :=
 Any.Builder_WriteString bldLays bldExtra B b bs s w h hlen hBw
theorem builder_stays {T e:TypeId} {B b:Nat} {bs:List Value} {w w':World} (h:Lib.IsBuilder T e B b bs w) (hb:Below w.heap.size w w'):Lib.IsBuilder T e B b bs w':=by
 have hg:w.grownBy w' none:=⟨hb.os,hb.tape,hb.output,hb.size,fun k hk _=>hb.block k hk⟩
 have key:∀p,Lib.BuilderAt T e B b p bs w→Lib.BuilderAt T e B b p bs w':=fun p h=>by
  have hlt:=h.lt
  obtain⟨hB,v,h1,h2,h3⟩:=h
  refine⟨hB,v,(hb.block b hlt).trans h1,h2.kept hg ?_,h3⟩
  cases v.ownBlock with
  | none=>exact .inl rfl
  | some k=>exact .inr (by simp)
 exact h.imp (key _) (key _)
theorem hid {p:Prop} (h:p):Hid p:=h
set_option maxHeartbeats 2000000
set_option maxRecDepth 100000
theorem m201 (inn:ByteArray) (A:Option Addr) (n cap:Nat) (bk o:Nat) (hA:0<n→A=some ⟨bk,o,none⟩) (tx:List (List UInt8)) (w:World) (hn:tx.length=n) (hn2:n≤1000) (hbk:0<n→bk<w.heap.size) (hcap:n≤cap)
 (hc:∀(i:Nat) x,tx[i]?=some x→∃z:Int,w.cell? ⟨bk,o+(i*2+0),none⟩=some (.int .i64 z)∧w.cell? ⟨bk,o+(i*2+1),none⟩=some (.string ⟨x.toArray⟩)) (hlen:∀x,x∈tx→x.length≤1000) :
 Calls Tryz.prog 201 #[.agg #[.string inn,.slice A n cap]] w fun e w'=>e=.returned (.string ⟨tx.flatten.toArray⟩)∧Below w.heap.size w w':=by
 have e61:∀args w,(callFunc 25 args).run Tryz.prog w=.ok (.enter 25 args) w:=enters_of Tryz.func25 (by kernel_rfl) rfl
 have e64:∀args w,(callFunc 28 args).run Tryz.prog w=.ok (.enter 28 args) w:=enters_of Tryz.func28 (by kernel_rfl) rfl
 have HA:=hid hA
 have Hc:=hid hc
 have Hl:=hid hlen
 have Hn:=hid hn
 clear hA hc hlen hn
 go_enter Tryz.func201,Tryz.ntmps201
 go_wp2_with fail
 go_loopw [9] (fun i wr=>∃k:Nat,k≤n∧i=.int .i64 k∧Hid (Lib.IsBuilder 50 5 w.heap.size (w.heap.size+1) (Lib.byteCells (tx.take k).flatten) wr)∧Hid (Below w.heap.size w wr)) (fun i _=>n - (intOf i).toNat)
 case atStart =>
  refine⟨0,Nat.zero_le _,rfl, ?_, ?_⟩
  ·refine .inl ⟨Nat.le_succ _,.slice none 0 0, ?_,World.ownsRow_nil _ _ _ _,by simp[Value.ownBlock]⟩
   have:=heap_alloc_new (w.alloc (Obj.cells #[Value.string inn,Value.slice A n cap] 179)) (Obj.cells #[Value.pointer none,Value.slice none 0 0] 50)
   simpa using this
  ·exact((Below.refl w.heap.size w).alloc (Nat.le_refl _) _).alloc (by simp) _
 case round =>
  obtain⟨k,hk,rfl,HB,HW⟩:=hrel
  have hBw:w.heap.size≤wr.heap.size:=HW.out.size
  by_cases hkn:k<n
  ·obtain⟨x,hx⟩:∃x,tx[k]?=some x:=⟨tx[k]'(by have:=Hn.out;omega),zE _⟩
   obtain rfl:=HA.out (by omega)
   obtain⟨z,hc0,hc1⟩:=Hc.out k x hx
   have hbk':bk<w.heap.size:=hbk (by omega)
   have hd0:wr.cell? ⟨bk,o+k*2,none⟩=some (.int .i64 z):=by
    rw[HW.out.cell (p:=⟨bk,o+k*2,none⟩) hbk']
    exact hc0
   have hd1:wr.cell? ⟨bk,o+k*2+1,none⟩=some (.string ⟨x.toArray⟩):=by
    rw[HW.out.cell (p:=⟨bk,o+k*2+1,none⟩) hbk']
    exact hc1
   have Hx:=hid hx
   clear hc0 hc1 hx
   have hxl:=Hl.out x (List.mem_of_getElem? Hx.out)
   have hfl:∀(l:List (List UInt8)) (m:Nat),(∀y,y∈l→y.length≤1000)→l.length≤m→l.flatten.length≤m*1000:=by
    intro l
    induction l with
    | nil=>intro m _ _;simp
    | cons a l ih =>
      intro m h1 h2
      obtain⟨m,rfl⟩:∃q,m=q+1:=⟨m - 1,by simp at h2;omega⟩
      have:=ih m (fun y hy=>h1 y (List.mem_cons_of_mem _ hy)) (by simpa using h2)
      have:=h1 a List.mem_cons_self
      simp only[List.flatten_cons,zA]
      omega
   have hl1:=hfl (tx.take k) 1000 (fun y hy=>Hl.out y (List.mem_of_mem_take hy)) (by simp;omega)
   have hnext:Lib.byteCells (tx.take k).flatten++Lib.strCells ⟨x.toArray⟩=Lib.byteCells (tx.take (k+1)).flatten:=by
    rw[List.take_add_one,Hx.out]
    simp[Lib.strCells_eq,Lib.byteCells_append]
   have Hn':=hid hnext
   have Hl1:=hid hl1
   have Hxl:=hid hxl
   clear hnext hl1 hxl hfl
   go_wp2_with fail
   have hbel:Below wr.heap.size wr (wr.alloc (Obj.cells #[Value.int IntKind.i64 z,Value.string { data:=x.toArray }] 204)):=(Below.refl _ _).alloc (Nat.le_refl _) _
   refine(m25 w.heap.size (w.heap.size+1) _ ⟨x.toArray⟩ _ (builder_stays HB.out hbel) ?hl (Nat.le_trans hBw hbel.size)).mono ?_
   case hl =>
    have h1:=Hl1.out
    have h2:=Hxl.out
    rw[Lib.byteCells_length]
    simp only[ByteArray.size,List.size_toArray]
    omega
   rintro e w3 ⟨rfl,h3,hb3⟩
   rw[Hn'.out] at h3
   have H3:=hid (Or.inr h3:Lib.IsBuilder 50 5 w.heap.size (w.heap.size+1) _ w3)
   have Hb3:=hid ((HW.out.trans (hbel.mono hBw)).trans hb3)
   clear h3 hb3 hbel
   go_wp2
   exact⟨⟨k+1,by omega,by go_num,H3,Hb3⟩,by simp[intOf];omega⟩
  ·obtain rfl:k=n:=by omega
   have hB':=HB.out
   rw[List.take_of_length_le (by rw[Hn.out];omega)] at hB'
   go_wp2_with fail
   refine(Tryz.Builder_String_any w.heap.size (w.heap.size+1) _ wr hB' hBw).mono ?_
   rintro e w5 ⟨rfl,hb5⟩
   have Hb5:=hid (HW.out.trans hb5)
   clear hb5 hB'
   go_wp2
   go_ret
   exact⟨rfl,Hb5.out⟩
theorem e201:entr Tryz.prog 201=true:=by kernel_rfl
theorem c201 (s:M.Strm) (h:M.StrB s):FnR Tryz.prog G 201 [.agg [.str s.inn,.sl 2 (s.parts.map M.Part.row)]] (.str (M.sOut s)) where
 en:=e201
 ne:=⟨_,_,rfl,rfl⟩
 run:=fun W ρ ext us hg hlt hno hng r hargs=>by
  obtain⟨u,rfl,hd⟩:=us_one hargs
  obtain⟨fs,rfl,hfl,hf⟩:=hd
  have hc:chH []=fun _=>.fresh:=by funext x;simp[chH]
  have fin:∀e (W':World),e=Ending.returned (.string (mkStr (M.sOut s)))→Below W.heap.size W W'→∃u res out ρ',e=.returned u∧(res=V.str (M.sOut s)∧out=[])∧RelH ⟨W,blocks ρ (chH []),ext,0,ρ⟩ ρ' (chH out) W' ∧
   Den W' (owns ⟨W,blocks ρ (chH []),ext,0,ρ⟩ ρ' (chH out)) ρ' (chH out) res u:=fun e W' he hb=>by
   refine⟨_,_,[],fun _=>default,he,⟨rfl,rfl⟩,⟨hb.os,hb.tape,hb.output,hb.size,fun b hb1 _=>hb.block b hb1,fun c=>(by rw[hc];trivial),fun c hl=>(by rw[hc] at hl;cases hl),fun c c' hl=>(by rw[hc] at hl;cases hl),fun i hi=>absurd hi (Nat.not_lt_zero _)⟩,Imm.str _⟩
  match fs,hfl with
  | [a,b],_ =>
    have ha:a=.string (mkStr s.inn):=inv_str (hf 0 _ _ rfl rfl)
    subst ha
    have hb:Imm W _ (.sl 2 (s.parts.map M.Part.row)) b:=hf 1 _ _ rfl rfl
    have hout:(s.parts.map fun p=>p.text).flatten=M.sOut s:=by simp[M.sOut,List.flatMap]
    have key:∀(A:Option Addr) (cap bk o:Nat),b=.slice A s.parts.length cap→s.parts.length≤cap→(0<s.parts.length→A=some ⟨bk,o,none⟩)→(0<s.parts.length→bk<W.heap.size) →
     (∀(i:Nat) x,(s.parts.map fun p=>p.text)[i]?=some x→∃z:Int,W.cell? ⟨bk,o+(i*2+0),none⟩=some (.int .i64 z)∧W.cell? ⟨bk,o+(i*2+1),none⟩=some (.string ⟨x.toArray⟩)) →
     Calls Tryz.prog 201 #[.agg #[.string (mkStr s.inn),b]] W fun e W'=>∃u res out ρ',e=.returned u∧(res=V.str (M.sOut s)∧out=[])∧RelH ⟨W,blocks ρ (chH []),ext,0,ρ⟩ ρ' (chH out) W' ∧
      Den W' (owns ⟨W,blocks ρ (chH []),ext,0,ρ⟩ ρ' (chH out)) ρ' (chH out) res u:=fun A cap bk o hb hcap hA hbk hcells=>by
     subst hb
     refine(m201 (mkStr s.inn) A s.parts.length cap bk o hA (s.parts.map fun p=>p.text) W (by simp) (by have:=h.2.1;omega) hbk hcap hcells (fun x hx=>?_)).mono fun e W' ⟨he,hb⟩=>fin e W' (by rw[he,hout];rfl) hb
     obtain⟨p,hp,rfl⟩:=List.mem_map.1 hx
     have:=h.2.2 p hp
     omega
    generalize hR:s.parts.map M.Part.row=R at hb
    have hRl:R.length=s.parts.length:=by rw[←hR];simp
    cases hb with
    | esl _ A cap =>
      have hz:s.parts.length=0:=by rw[←hRl];rfl
      refine key A cap 0 0 (by rw[hz]) (by omega) (fun h=>by omega) (fun h=>by omega) fun i x hx=>?_
      have:=(List.getElem?_eq_some_iff.1 hx).1
      simp at this
      omega
    | sl _ _ blk off cap cs h1 h2 h3 h4 h5 h6 h7 =>
      refine key _ cap blk off (by rw[←hRl]) (by omega) (fun _=>rfl) (fun _=>h2) fun i x hx=>?_
      obtain⟨p,hp,rfl⟩:∃p,s.parts[i]?=some p∧p.text=x:=by simpa using hx
      have hr:R[i]?=some (M.Part.row p):=by rw[←hR];simp[hp]
      have a0:=h6 i _ 0 _ hr rfl
      have a1:=h6 i _ 1 _ hr rfl
      have b0:=inv_int (h7 i _ 0 _ hr rfl)
      have b1:=inv_str (h7 i _ 1 _ hr rfl)
      rw[b0] at a0
      rw[b1] at a1
      exact⟨_,a0,a1⟩
theorem run_clear_one {P:Program} (w:World) (t e ty:TypeId) (z:Value) (ht:P.underlying t=some (.slice e)) (hv:∀w,(zeroValue e).run P w=.ok z w) (h1:∀u,u∈z.cells.toList→u.oneCell'=true) (b o c:Nat)
 (hc:∀j,j<z.cells.toList.length→(w.cell? ⟨b,o+j,none⟩).isSome=true) (hf:∀j,j<z.cells.toList.length→w.frozen? ⟨b,o+j,none⟩=false) :
 (Builtin.clear_ #[t] ty #[.slice (some ⟨b,o,none⟩) 1 c]).run P w=.ok (.tuple #[]) (w.setCells b o z.cells.toList):=by
 have hzc:(Builtin.zeroCells z.cells 1).toList=z.cells.toList:=by
  simp only[Builtin.zeroCells]
  apply List.ext_getElem
  ·simp
  ·intro i h1 h2
   simp at h1 h2 ⊢
   have e:i % z.cells.size=i:=Nat.mod_eq_of_lt h2
   simp[e,h2]
 have hst:=run_storeCells_cells (P:=P) b o z.cells.toList 0 w (by simpa using hc) (by simpa using hf) h1
 simp only[Nat.add_zero] at hst
 simp[Builtin.clear_,run_underlying ht,hv,hzc,hst]
set_option maxRecDepth 100000
set_option maxHeartbeats 4000000
theorem m128 (blk off cap n k j:Nat) (us:List Value) (w:World) (hl:us.length=n*7) (hcl:∀(t:Nat) u,us[t]?=some u→w.cell? ⟨blk,off+t,none⟩=some u) (hone:∀u,u∈us→u.oneCell'=true)
 (hfz:∀t,t<n*7→w.frozen? ⟨blk,off+t,none⟩=false) (hcap:n≤cap) (hk:k<n) (hj:j=k+1) :
 Calls Tryz.prog 128 #[.slice (some ⟨blk,off,none⟩) n cap,.int .i64 k,.int .i64 (j:Int)] w fun e w'=>e=.returned (.slice (some ⟨blk,off,none⟩) (n - 1) cap) ∧
  w'=((w.drew.setCells blk (off+k*7) (us.drop (j*7))).setCells blk (off+(n - 1)*7) [.int .i64 0,.int .i64 0,.int .i64 0,.int .i64 0,.int .i64 0,.int .i64 0,.string ⟨#[]⟩]):=by
 have t27:Tryz.prog.underlying 39=some (.slice 70):=by kernel_rfl
 obtain⟨i0,z0,hi,hz,hs,hzs,hb⟩:=infoP (P:=Tryz.prog) (t:=70) (sz:=7) (by kernel_rfl)
 have hlt:k<j:=by omega
 obtain⟨news,hnews⟩:∃news,news=us.drop (j*7):=⟨_,rfl⟩
 have hlen:news.length=(n - j)*7:=by rw[hnews];simp;omega
 obtain⟨A,hA,hsrc⟩:∃A:Addr,(if cap=j then some (⟨blk,off,none⟩:Addr) else some ⟨blk,off+j*7,none⟩)=some A∧Hid (∀(t:Nat) u,news[t]?=some u→w.drew.cell? (A.add t)=some u):=by
  by_cases h:cap=j
  ·refine⟨⟨blk,off,none⟩,by simp[h],fun t u hu=>?_⟩
   have h0:news.length=0:=by rw[hlen];omega
   rw[List.length_eq_zero_iff.1 h0] at hu
   simp at hu
  ·refine⟨⟨blk,off+j*7,none⟩,by simp[h],fun t u hu=>?_⟩
   rw[hnews,List.getElem?_drop] at hu
   rw[Addr.add_lit,Nat.add_assoc]
   exact hcl _ u hu
 have s1:Hid (news.length=(n - j)*7):=hlen
 have s2:Hid (∀u∈news,u.oneCell'=true):=fun u hu=>hone u (by rw[hnews] at hu;exact List.mem_of_mem_drop hu)
 have s3:Hid (∀t,t<news.length→(w.drew.cell? ⟨blk,off+k*7+t,none⟩).isSome=true∧w.drew.frozen? ⟨blk,off+k*7+t,none⟩=false):=by
  intro t ht
  rw[hlen] at ht
  have hlt:k*7+t<us.length:=by rw[hl];omega
  rw[Nat.add_assoc]
  refine⟨?_,hfz _ (by omega)⟩
  show(w.cell? _).isSome=true
  rw[hcl (k*7+t) _ (zE hlt)]
  rfl
 obtain⟨W1,hW1⟩:∃W1,W1=w.drew.setCells blk (off+k*7) news:=⟨_,rfl⟩
 have hz':∀w,(zeroValue 70).run Tryz.prog w=.ok (.agg #[.int .i64 0,.int .i64 0,.int .i64 0,.int .i64 0,.int .i64 0,.int .i64 0,.string ⟨#[]⟩]) w:=fun w=>by kernel_rfl
 have hcl2:∀ty,(Builtin.clear_ #[39] ty #[.slice (some ⟨blk,off+(k+(n - j))*7,none⟩) (n - (k+(n - j))) (cap - (k+(n - j)))]).run Tryz.prog W1=.ok (.tuple #[]) (W1.setCells blk (off+(k+(n - j))*7) [.int .i64 0,.int .i64 0,.int .i64 0,.int .i64 0,.int .i64 0,.int .i64 0,.string ⟨#[]⟩]):=fun ty=>by
  rw[show n - (k+(n - j))=1 by omega]
  refine run_clear_one W1 _ _ ty _ t27 hz' (by simp[Value.cells,Value.oneCell']) blk _ _ (fun j' hj'=>?_) (fun j' hj'=>?_)
  ·have hlt:(n - 1)*7+j'<us.length:=by rw[hl];simp[Value.cells] at hj';omega
   have e:off+(k+(n - j))*7+j'=off+((n - 1)*7+j'):=by rw[show k+(n - j)=n - 1 by omega];omega
   rw[e,hW1,World.cell?_setCells_out _ _ _ _ _ (fun _ _=>.inr (by rw[hlen];simp only;omega))]
   show(w.cell? _).isSome=true
   rw[hcl _ _ (zE hlt)]
   rfl
  ·have e:off+(k+(n - j))*7+j'=off+((n - 1)*7+j'):=by rw[show k+(n - j)=n - 1 by omega];omega
   rw[e,hW1,World.frozen?_setCells]
   exact hfz _ (by simp[Value.cells] at hj';omega)
 have hW:Hid (W1=w.drew.setCells blk (off+k*7) news):=hW1
 have hkc:k≤cap:=by omega
 have hkc1:j≤cap:=by omega
 have hjn:j≤n:=by omega
 have hx:Hid (j=k+1∧news=us.drop (j*7)):=⟨hj,hnews⟩
 clear hW1 hnews hlen hcl hfz hone hj
 go_enter Tryz.func128,Tryz.ntmps128
 go_wp2_with fail
 go_region_law (refine step_append_room rfl (.tmp 22) (.tmp 25) 39 rfl 70 i0 7 t27 hi hs blk off k cap (by simp[Act.eval,Act.put]) A (n - j) (cap - j) news (by simp[Act.eval,Act.put,hA]) s1.out hsrc.out s2.out (by omega) s3.out ?_;rw[←hW.out])
 go_wp2
 go_ret
 have e2:k+(n - j)=n - 1:=by have:=hx.out.1;omega
 refine⟨by simp[e2],by rw[hW.out,hx.out.2,e2]⟩
theorem map_eraseIdx {α β:Type} (f:α→β):∀(l:List α) (k:Nat),(l.map f).eraseIdx k=(l.eraseIdx k).map f
 | [],_=>rfl
 | _::_,0=>rfl
 | a::l,k+1=>by simp[map_eraseIdx f l k]
def DelM (P:Program) (f:FuncId) (sz:Nat) (zr:List Value):Prop:=∀(blk off cap n k j:Nat) (us:List Value) (w:World),us.length=n*sz→(∀(t:Nat) u,us[t]?=some u→w.cell? ⟨blk,off+t,none⟩=some u)→(∀u,u∈us→u.oneCell'=true) →
 (∀t,t<n*sz→w.frozen? ⟨blk,off+t,none⟩=false)→n≤cap→k<n→j=k+1 →
 Calls P f #[.slice (some ⟨blk,off,none⟩) n cap,.int .i64 k,.int .i64 (j:Int)] w fun e w'=>e=.returned (.slice (some ⟨blk,off,none⟩) (n - 1) cap)∧w'=((w.drew.setCells blk (off+k*sz) (us.drop (j*sz))).setCells blk (off+(n - 1)*sz) zr)
theorem us_three {w:World} {O:Nat→Prop} {ρ:Nat→VL.Loc} {h:Nat→Hs} {a b c:V} {us:List Value} (hargs:DenArgs w O ρ h [a,b,c] us):∃x y z,us=[x,y,z]∧Den w O ρ h a x∧Den w O ρ h b y∧Den w O ρ h c z:=by
 obtain⟨h1,h2⟩:=hargs
 match us,h1 with
 | [x,y,z],_=>exact⟨x,y,z,rfl,h2 0 _ _ rfl rfl,h2 1 _ _ rfl rfl,h2 2 _ _ rfl rfl⟩
set_option maxHeartbeats 400000
theorem deleteOwn {P:Program} {G:Glob} {f:FuncId} (hn:entr P f=true) {sz:Nat} {zr:List Value} (h:DelM P f sz zr) (hzr:zr.length=sz) (ty:Nat) (rows:List (List V)) (n k:Nat) (hrn:rows.length=n) (hk:k<n) :
 FnP P G f 0 [.arr ty sz rows] [.own 0 n,.int .i64 (k:Int),.int .i64 ((k:Int)+1)] (fun r o=>r=.own 0 (n - 1)∧o=[.arr ty sz (rows.eraseIdx k)]) where
 en:=hn
 ne:=⟨_,_,rfl,rfl⟩
 run:=fun W ρ ext us0 hg hlt hno hng r hargs=>by
  obtain⟨u,u1,u2,rfl,hd,hd1,hd2⟩:=us_three hargs
  have e1:=inv_int hd1
  have e2:=inv_int hd2
  subst e1 e2
  have h0:∀R,chH [Hs.arr ty sz R] 0=.arr ty sz R:=fun _=>rfl
  have h1:∀R c,c≠0→chH [Hs.arr ty sz R] c=.fresh:=fun R c hc=>by
   match c,hc with
   | c+1,_=>simp[chH]
  have hl:∀R c,(chH [Hs.arr ty sz R] c).live=true→c=0:=fun R c hc=>by
   by_cases h':c=0
   ·exact h'
   ·rw[h1 R c h'] at hc;cases hc
  have hl0:∀R,(chH [Hs.arr ty sz R] 0).live=true:=fun R=>rfl
  have hd:u=(ρ 0).sl n:=by
   simp only[Den,Den2,Den1,Den0,h0] at hd
   exact hd
  subst hd
  have hch:=r.chunk 0
  rw[h0] at hch
  rcases hch with⟨_,e,_⟩|⟨hnil,cs,hcs,hsz,hcap,hrl,hrows⟩
  ·rw[e] at hrn;simp at hrn;omega
  have hlt0:(ρ 0).blk<W.heap.size:=lt_of_get hcs
  have hown:owns ⟨W,blocks ρ (chH [.arr ty sz rows]),ext,0,ρ⟩ ρ (chH [.arr ty sz rows]) (ρ 0).blk:=.inr ⟨0,hl0 _,hnil,rfl⟩
  obtain⟨us,hu1,hu2,hu3,hu4⟩:=rows_flat (w:=W) (rows:=rows) (sz:=sz) (blk:=(ρ 0).blk) (off:=(ρ 0).off) hrl (fun i x j y hx hy=>by
   obtain⟨z,hz1,hz2⟩:=hrows i x j y hx hy
   exact⟨z,cell_at _ _ _ _ _ _ _ hcs hz1,hz2⟩)
  have hsl:(ρ 0).sl n=.slice (some ⟨(ρ 0).blk,(ρ 0).off,none⟩) n (ρ 0).cap:=by simp[VL.Loc.sl,VL.Loc.addr,hnil]
  rw[hrn] at hu1
  have hcell:∀(t:Nat) u,us[t]?=some u→W.cell? ⟨(ρ 0).blk,(ρ 0).off+t,none⟩=some u:=fun t u hu=>by
   have:=hu2 t u hu
   rwa [Addr.add_lit] at this
  have run:=h (ρ 0).blk (ρ 0).off (ρ 0).cap n k (k+1) us W hu1 hcell hu3 (fun t ht=>by simp[World.frozen?,hcs]) (by omega) hk rfl
  rw[hsl]
  have ecast:((k+1:Nat):Int)=(k:Int)+1:=by omega
  rw[ecast] at run
  refine run.mono fun e w' ⟨he,hw⟩=>?_
  have hn1:(n - 1)*sz+sz=n*sz:=by rw[←Nat.succ_mul];congr 1;omega
  have hk1:(k+1)*sz=k*sz+sz:=Nat.succ_mul k sz
  have hkn:(k+1)*sz≤n*sz:=Nat.mul_le_mul_right _ hk
  have hcapn:n*sz≤(ρ 0).cap*sz:=Nat.mul_le_mul_right _ (by omega)
  have hdl:(us.drop ((k+1)*sz)).length=n*sz - (k+1)*sz:=by simp[hu1]
  obtain⟨a1,a2,a3,a4,a5⟩:=setCells_frame (ρ 0).blk (us.drop ((k+1)*sz)) ((ρ 0).off+k*sz) W.drew
  obtain⟨b1,b2,b3,b4,b5⟩:=setCells_frame (ρ 0).blk zr ((ρ 0).off+(n - 1)*sz) (W.drew.setCells (ρ 0).blk ((ρ 0).off+k*sz) (us.drop ((k+1)*sz)))
  obtain⟨c1,m1,m2,m3⟩:=setCells_block (ρ 0).blk ty (0,0) (us.drop ((k+1)*sz)) ((ρ 0).off+k*sz) W.drew cs hcs (by rw[hdl];omega)
  obtain⟨c2,n1,n2,n3⟩:=setCells_block (ρ 0).blk ty (0,0) zr ((ρ 0).off+(n - 1)*sz) _ c1 m1 (by rw[hzr,m2];omega)
  rw[←hw] at b1 b2 b3 b4 b5 n1
  have bel:∀b,b≠(ρ 0).blk→w'.heap[b]?=W.heap[b]?:=fun b hb=>(b5 b hb).trans (a5 b hb)
  have hsize:w'.heap.size=W.heap.size:=b4.trans a4
  refine⟨_,_,_,ρ,he,⟨rfl,rfl⟩,⟨(b1.trans a1).trans r.os,(b2.trans a2).trans r.tape,(b3.trans a3).trans r.output,by rw[hsize];exact r.grow,fun b hb1 hb2=>(bel b fun hx=>hb2 ⟨0,hl0 _,by rw[hx];exact⟨hnil,rfl⟩⟩).trans (r.keep b hb1 hb2),fun c=>?_,fun c hc hnl=>?_,fun c c' hc hc' _ _ _=>(hl _ c hc).trans (hl _ c' hc').symm,fun i hi=>absurd hi (Nat.not_lt_zero _)⟩, ?_⟩
  ·by_cases hc:c=0
   ·subst hc
    rw[h0]
    refine .inr ⟨hnil,c2,n1,by rw[n2,m2];exact hsz,by rw[List.length_eraseIdx];split<;>omega,fun x hx=>hrl x (List.mem_of_mem_eraseIdx hx),fun i x j y hx hy=>?_⟩
    have hjs:j<sz:=by
     have:=hrl x (List.mem_of_mem_eraseIdx (List.mem_of_getElem? hx))
     have h2:=(List.getElem?_eq_some_iff.1 hy).1
     omega
    have him:i<n - 1:=by
     have:=(List.getElem?_eq_some_iff.1 hx).1
     rw[List.length_eraseIdx] at this
     split at this<;>omega
    have him2:(i+1)*sz≤(n - 1)*sz:=Nat.mul_le_mul_right _ him
    have hi1:(i+1)*sz=i*sz+sz:=Nat.succ_mul i sz
    have tail:∀q z,us[q*sz+j]?=some z→Imm W (owns ⟨W,blocks ρ (chH [.arr ty sz rows]),ext,0,ρ⟩ ρ (chH [.arr ty sz rows])) y z→Imm w' (owns ⟨W,blocks ρ (chH [.arr ty sz rows]),ext,0,ρ⟩ ρ (chH [.arr ty sz (rows.eraseIdx k)])) y z:=fun q z _ hz=>by
     refine hz.mono (Nat.le_of_eq hsize.symm) (fun b hb1 hb2=>bel b fun hx=>hb2 (hx▸hown)) fun b hb1 ho=>?_
     rcases ho with ho|⟨c,hc,hnl,hb⟩
     ·exact .inl ho
     ·obtain rfl:=hl _ c hc
      exact .inr ⟨0,hl0 _,hnl,hb⟩
    rw[n3,if_neg (by omega),m3]
    rw[List.getElem?_eraseIdx] at hx
    by_cases hik:i<k
    ·rw[if_pos hik] at hx
     have hi2:(i+1)*sz≤k*sz:=Nat.mul_le_mul_right _ hik
     obtain⟨z,hz1,hz2⟩:=hu4 i x j y hx hy
     refine⟨z, ?_,tail i z hz1 hz2⟩
     rw[if_neg (by omega)]
     have:=hcell _ _ hz1
     simpa[World.cell?,hcs] using this
    ·rw[if_neg hik] at hx
     have hi2:k*sz≤i*sz:=Nat.mul_le_mul_right _ (by omega)
     obtain⟨z,hz1,hz2⟩:=hu4 (i+1) x j y hx hy
     refine⟨z, ?_,tail (i+1) z hz1 hz2⟩
     rw[if_pos (by rw[hdl];omega),List.getElem?_drop]
     rw[←hz1]
     congr 1
     omega
   ·rw[h1 _ c hc];trivial
  ·obtain rfl:=hl _ c hc
   exact r.home 0 (hl0 _) hnl
  ·simp only[Den,Den2,Den1,Den0,h0]
   exact(by simp[VL.Loc.sl,VL.Loc.addr,hnil])
theorem e128:entr Tryz.prog 128=true:=by kernel_rfl
theorem o128 (ps:List M.Pk) (k:Nat) (hk:k<ps.length):FnP Tryz.prog G 128 0 [.arr 70 7 (ps.map M.Pk.row)] [.own 0 ps.length,.int .i64 (k:Int),.int .i64 ((k:Int)+1)] (fun r o=>r=.own 0 (ps.length - 1)∧o=[.arr 70 7 ((ps.eraseIdx k).map M.Pk.row)]):=by
 have:=deleteOwn (G:=G) e128 m128 rfl 70 (ps.map M.Pk.row) ps.length k (by simp) hk
 rw[map_eraseIdx] at this
 exact this
end Go.Proofs.YtiegngjdjheebaaGreatDoor.W
namespace Go.Proofs.YtiegngjdjheebaaGreatDoor.W
open Go Go.RowKit Go.Proofs Go.Proofs.YtiegngjdjheebaaGreatDoor.VL Go.Proofs.YtiegngjdjheebaaGreatDoor.M
attribute [congr] optK_congr guardK_congr condK_congr runT_congr runD_congr wpI_congr CallV_congr LoopI_congr pureK_congr effK_congr calK_congr stepV_congr doV_congr exN_congr exB_congr retF_congr retQ_congr gK_congr condW_congr ldK_congr stoK_congr
attribute [go_sem] argL_cons argL_nil argH_nil argH_cons chH_getH wpI_seq wpI_reg wpI_drw wpI_ret cond_k condW_t condW_f wpI_skip wpI_block wpI_exit wpI_loop exN_n exN_r exN_e exB_n exB_r exB_h exB_m runT_k kT_e runT_nil runD_k kD_e runD_nil step_u step_k gK_t gK_f do_mv do_bino bo_add bo_sub bo_mul bo_subu bo_quo bo_rem bo_xor bo_eql bo_neq bo_lss bo_leq bo_gtr bo_geq bo_cat bo_eqs bo_nes do_pick do_call do_cal calK_f do_box do_alloc do_ldk ldK_s do_stok stoK_s do_fad do_nilc do_not do_neg do_len do_lens do_ext do_eqs do_beq do_isn do_cvi do_sls do_idx do_mn do_mx do_build do_mkf do_s2b do_b2s do_slv do_iad do_bsl do_mks do_app do_aps apsG_s ev_t ev_c app_some app_none
attribute [go_sem] List.nil_append List.cons_append List.append_nil getL_hit getL_miss getH_nil getH_hit getH_miss nm_eq ne_eq Nat.reduceEqDiff not_false_eq_true Nat.reduceAdd Nat.add_zero zZ if_true if_false ite_true ite_false pureK_s effK_s optK_s gdV_t gdV_f gdV_s pick_b ge_iff_le gt_iff_lt cond_true cond_false fresh_k cells_agg cells_int cells_bool cells_str cells_own cells_sl cells_nils ld_pv ld_pa ld_ip ldVar_t ldVar_f ldArr_t ldArr_f ldRow_t ldRow_f ldA_s ld1_s fad_pv fad_pa fad_ip nilc_pv nilc_pa nilc_ip not_b neg_i cvi_i ext_t retF_n retF_r
attribute [go_sem] resV_k rvs_nil rvs_t rvs_c fstO_s consO_s resK_s resL_1 resL_2 resL_3 resL_4  zS List.map_cons List.map_nil List.all_cons List.all_nil Bool.and_true Bool.and_self Bool.not_true Bool.not_false Option.map_some Option.map_none sls_s slsG_s loV_n loV_i hiV_n hiV_i idx_s mn_i mx_i s2b_s b2s_s bytO_s bytes_nil bytes_cons conB_s slv_sl slv_own slv_nils slvG_s slvN_s slvO_s iad_sl iadG_map take_map drop_map List.length_map iad_own iad_view iadO_a iadW_a mks_i rowO_nils rowO_sl rowO_own rowA_a eq_self appG_nils appG_own appO_a guardP_T mapA_s bld_nil mkf_nil bldF_e fill_nil fill_cons mkf_e lens_s len_nils len_sl len_own len_view isn_nile isn_erre List.getElem?_cons_zero List.getElem?_cons_succ zC zN decide_true decide_false Int.toNat_natCast Int.cast_ofNat_Int Int.reduceLT Int.reduceLE Int.reduceEq Int.reduceAdd Int.reduceSub Int.reduceMul Int.reduceNeg Int.reduceToNat List.getD_cons_zero List.getD_cons_succ not_true_eq_false not_false_eq_true Bool.false_eq_true Bool.true_eq_false reduceCtorEq
attribute [go_sem] E.row Pc.row Pair.row Part.row Strm.row Flw.row Pk.row Door.row Conv.row World.row Ev.row rdV E.eta Pc.eta Pair.eta Part.eta Strm.eta Pk.eta Flw.eta Conv.eta Door.eta World.eta Ev.eta
attribute [go_sem] sub_ok st_pv st_pa stVar_v stArr_a Nat.le_refl List.drop_zero List.drop_succ_cons List.take_succ_cons List.take_zero setR Nat.reduceLeDiff
attribute [go_sem] wk_bot wk2_bot wk1_bot wk_undef wk_tup_e wk2_agg_e wk_agg_e wk1_fn_e wk2_fn_e wk_fn_e wkl_nil wkl_cons wkh_var_e wkh_arr_e wkh_fresh_e wkh_dead_v wkh_dead_a wkh_dead_d wk0_undef wk0_int wk0_bool wk0_str wk0_nils wk0_nils_sl wk0_nilp wk0_nile wk0_erre wk0_sl wk0_iptr wk0_own wk0_view wk0_pv wk0_pa fzA_a fzW_a fzP_v wk0_own_sl wk0_view_sl wk0_pv_iptr WkS_nil WkS_cons WkN_nil WkN_cons nonB_nil nonB_cons getN_nil getN_hit getN_miss pinOk_0 pinOk_s and_true true_and and_self
attribute [go_sem] bot_int one_int unt_int clo_int bot_bool one_bool unt_bool clo_bool bot_str one_str unt_str clo_str bot_nils one_nils unt_nils clo_nils bot_nilp one_nilp unt_nilp clo_nilp bot_nile one_nile unt_nile clo_nile bot_erre one_erre unt_erre clo_erre bot_raw one_raw unt_raw clo_raw bot_sl one_sl unt_sl clo_sl bot_own one_own unt_own clo_own bot_view one_view unt_view clo_view bot_pv one_pv unt_pv clo_pv bot_pa one_pa unt_pa clo_pa bot_iptr one_iptr unt_iptr clo_iptr unt_agg unt_fn one_fn
attribute [go_sem] rn_tup rn_agg rn2_agg rn_fn rn2_fn rnfn1 rn_bot rn2_bot rn1_bot rn0_int rn0_bool rn0_str rn0_nils rn0_nilp rn0_nile rn0_erre rn0_sl rn0_iptr rn0_own rn0_view rn0_pv rn0_pa hrn_var hrn_arr hrn_dead outU_nil outU_cons deads_nil deads_cons bk_ge bk_lt nsF_0 nsF_s chH_0 chH_s chH_n newN_e andB_s eqR_nil eqR_i eqR_b eqR_s mapX_f mapX_t eqs_a beq_f beq_t live_arr live_var nsl_nil nsl_cons Nat.reduceMul Nat.reduceLT Nat.zero_le Nat.not_lt_zero
attribute [go_sem] mV lD lA fD bN eX oP nP sR i0 s0
def ic76:IC:=sR [oP 6 (.mv (.c (.bool false)))] (sR [mV 7 0,mV 8 1,bN 9 .geq 7 8,mV 10 9,⟨some 11,some (10,true),.mv (.t 0)⟩,⟨some 12,some (10,true),.mv (.t 2)⟩,⟨some 13,some (10,true),.bin .leq (.t 11) (.t 12)⟩,oP 14 (.pick (.t 10) (.t 13) (.c (.bool false))),mV 6 14] .ret)
theorem dg76:Dg Tryz.prog 76 Tryz.f76 ic76 [(.t 6)]:=⟨Tryz.func76,by kernel_rfl,by kernel_rfl⟩
theorem c76 (a b c:Int):FnR Tryz.prog G 76 [.int .i64 a,.int .i64 b,.int .i64 c] (.bool (within a b c)):=by
 refine mF dg76 Tryz.ntmps76 ?_
 unfold within
 cases h:decide (b≤a)<;>simp only[ic76,go_sem,h,Bool.false_and,Bool.true_and]
def ic100:IC:=sR [oP 6 (.mv (.c (.bool false)))] (sR [mV 7 0,mV 8 1,bN 9 .geq 7 8,mV 10 9,⟨some 11,some (10,true),.mv (.t 0)⟩,⟨some 12,some (10,true),.mv (.t 2)⟩,⟨some 13,some (10,true),.bin .leq (.t 11) (.t 12)⟩,oP 14 (.pick (.t 10) (.t 13) (.c (.bool false))),mV 6 14] .ret)
theorem dg100:Dg Tryz.prog 100 Tryz.f100 ic100 [(.t 6)]:=⟨Tryz.func100,by kernel_rfl,by kernel_rfl⟩
theorem c100 (a b c:Int):FnR Tryz.prog G 100 [.int .i64 a,.int .i64 b,.int .i64 c] (.bool (within a b c)):=by
 refine mF dg100 Tryz.ntmps100 ?_
 unfold within
 cases h:decide (b≤a)<;>simp only[ic100,go_sem,h,Bool.false_and,Bool.true_and]
def ic64:IC:=sR [oP 1 (.box 45 (.t 0)),oP 2 (.mv (.c (.bool false)))] (sR [fD 3 0 1,lD 4 1 3,oP 5 (.call 76 [.t 4,.c (.int .i64 1),.c (.int .i64 3)]),mV 6 5,⟨some 7,some (6,true),.fad 1 (.t 1)⟩,⟨some 8,some (6,true),.ld 1 false (.t 7)⟩,⟨some 9,some (6,true),.call 76 [.t 8,.c (.int .i64 1),.c (.int .i64 9)]⟩,oP 10 (.pick (.t 6) (.t 9) (.c (.bool false))),mV 2 10] .ret)
theorem dg64:Dg Tryz.prog 64 Tryz.f64 ic64 [(.t 2)]:=⟨Tryz.func64,by kernel_rfl,by kernel_rfl⟩
theorem c64 (a p:Int):FnR Tryz.prog G 64 [.agg [.int .i64 a,.int .i64 p]] (.bool (E.inside ⟨a,p⟩)):=by
 refine mF dg64 Tryz.ntmps64 ?_
 unfold E.inside
 simp only[ic64,go_sem]
 refine callR (c76 _ _ _) rfl rfl ?_
 cases h:within a 1 3<;>simp only[go_sem,Bool.false_and,Bool.true_and]
 refine callR (c76 _ _ _) rfl rfl ?_
 simp only[go_sem]
def ic138:IC:=sR [oP 1 (.box 45 (.t 0)),oP 2 (.mv (.c (.bool false)))] (sR [fD 3 1 1,lD 4 1 3,oP 5 (.call 100 [.t 4,.c (.int .i64 1),.c (.int .i64 9)]),mV 2 5] .ret)
theorem dg138:Dg Tryz.prog 138 Tryz.f138 ic138 [(.t 2)]:=⟨Tryz.func138,by kernel_rfl,by kernel_rfl⟩
theorem c138 (a p:Int):FnR Tryz.prog G 138 [.agg [.int .i64 a,.int .i64 p]] (.bool (within p 1 9)):=by
 refine mF dg138 Tryz.ntmps138 ?_
 simp only[ic138,go_sem]
 refine callR (c100 _ _ _) rfl rfl ?_
 simp only[go_sem]
def ic94:IC:=sR [oP 1 (.box 45 (.t 0)),oP 2 (.mv (.c (.bool false)))] (sR [fD 3 0 1,lD 4 1 3,oP 5 (.call 100 [.t 4,.c (.int .i64 1),.c (.int .i64 3)]),mV 6 5,⟨some 7,some (6,true),.ld 2 true (.t 1)⟩,⟨some 8,some (6,true),.call 138 [.t 7]⟩,oP 9 (.pick (.t 6) (.t 8) (.c (.bool false))),mV 2 9] .ret)
theorem dg94:Dg Tryz.prog 94 Tryz.f94 ic94 [(.t 2)]:=⟨Tryz.func94,by kernel_rfl,by kernel_rfl⟩
theorem c94 (a p:Int):FnR Tryz.prog G 94 [.agg [.int .i64 a,.int .i64 p]] (.bool (E.inside ⟨a,p⟩)):=by
 refine mF dg94 Tryz.ntmps94 ?_
 unfold E.inside
 simp only[ic94,go_sem]
 refine callR (c100 _ _ _) rfl rfl ?_
 cases h:within a 1 3<;>simp only[go_sem,Bool.false_and,Bool.true_and]
 refine callR (c138 _ _) rfl rfl ?_
 simp only[go_sem]
def ic65:IC:=sR [oP 1 (.box 45 (.t 0)),oP 2 (.mv (.c (.bool false)))] (sR [fD 3 0 1,lD 4 1 3,oP 5 (.call 76 [.t 4,.c (.int .i64 4),.c (.int .i64 6)]),mV 6 5,⟨some 7,some (6,true),.fad 1 (.t 1)⟩,⟨some 8,some (6,true),.ld 1 false (.t 7)⟩,⟨some 9,some (6,true),.call 76 [.t 8,.c (.int .i64 1),.c (.int .i64 9)]⟩,oP 10 (.pick (.t 6) (.t 9) (.c (.bool false))),mV 2 10] .ret)
theorem dg65:Dg Tryz.prog 65 Tryz.f65 ic65 [(.t 2)]:=⟨Tryz.func65,by kernel_rfl,by kernel_rfl⟩
theorem c65 (a p:Int):FnR Tryz.prog G 65 [.agg [.int .i64 a,.int .i64 p]] (.bool (E.outside ⟨a,p⟩)):=by
 refine mF dg65 Tryz.ntmps65 ?_
 simp only[ic65,go_sem]
 with_reducible repeat' (first|refine br ?_ ?_<;>intro h e<;>(try simp only[e,go_sem])<;>clear e|rw[i64w (by omega)]|refine sd ?_<;>try simp only[go_sem]|(first|refine cr (c76 ..) ?_)<;>try simp only[go_sem]|fail)
 all_goals simp_all[E.outside]
def ic95:IC:=sR [oP 1 (.box 45 (.t 0)),oP 2 (.mv (.c (.bool false)))] (sR [fD 3 0 1,lD 4 1 3,oP 5 (.call 100 [.t 4,.c (.int .i64 4),.c (.int .i64 6)]),mV 6 5,⟨some 7,some (6,true),.ld 2 true (.t 1)⟩,⟨some 8,some (6,true),.call 138 [.t 7]⟩,oP 9 (.pick (.t 6) (.t 8) (.c (.bool false))),mV 2 9] .ret)
theorem dg95:Dg Tryz.prog 95 Tryz.f95 ic95 [(.t 2)]:=⟨Tryz.func95,by kernel_rfl,by kernel_rfl⟩
theorem c95 (a p:Int):FnR Tryz.prog G 95 [.agg [.int .i64 a,.int .i64 p]] (.bool (E.outside ⟨a,p⟩)):=by
 refine mF dg95 Tryz.ntmps95 ?_
 simp only[ic95,go_sem]
 with_reducible repeat' (first|refine br ?_ ?_<;>intro h e<;>(try simp only[e,go_sem])<;>clear e|rw[i64w (by omega)]|refine sd ?_<;>try simp only[go_sem]|(first|refine cr (c100 ..) ?_|refine cr (c138 ..) ?_)<;>try simp only[go_sem]|fail)
 all_goals simp_all[E.outside]
def ic69:IC:=sR [oP 1 (.box 45 (.t 0)),oP 2 (.mv (.c (.bool false)))] (sR [fD 3 0 1,lD 4 1 3,oP 5 (.bin .eql (.t 4) (.c (.int .i64 9))),mV 6 5,⟨some 7,some (6,true),.fad 1 (.t 1)⟩,⟨some 8,some (6,true),.ld 1 false (.t 7)⟩,⟨some 9,some (6,true),.call 76 [.t 8,.c (.int .i64 10),.c (.int .i64 17)]⟩,oP 10 (.pick (.t 6) (.t 9) (.c (.bool false))),mV 2 10] .ret)
theorem dg69:Dg Tryz.prog 69 Tryz.f69 ic69 [(.t 2)]:=⟨Tryz.func69,by kernel_rfl,by kernel_rfl⟩
theorem c69 (a p:Int):FnR Tryz.prog G 69 [.agg [.int .i64 a,.int .i64 p]] (.bool (E.door ⟨a,p⟩)):=by
 refine mF dg69 Tryz.ntmps69 ?_
 simp only[ic69,go_sem]
 with_reducible repeat' (first|refine br ?_ ?_<;>intro h e<;>(try simp only[e,go_sem])<;>clear e|rw[i64w (by omega)]|refine sd ?_<;>try simp only[go_sem]|(first|refine cr (c76 ..) ?_)<;>try simp only[go_sem]|fail)
 all_goals simp_all[E.door]
def ic110:IC:=sR [oP 1 (.box 45 (.t 0)),oP 2 (.mv (.c (.bool false)))] (sR [fD 3 0 1,lD 4 1 3,oP 5 (.bin .eql (.t 4) (.c (.int .i64 9))),mV 6 5,⟨some 7,some (6,true),.fad 1 (.t 1)⟩,⟨some 8,some (6,true),.ld 1 false (.t 7)⟩,⟨some 9,some (6,true),.call 100 [.t 8,.c (.int .i64 10),.c (.int .i64 17)]⟩,oP 10 (.pick (.t 6) (.t 9) (.c (.bool false))),mV 2 10] .ret)
theorem dg110:Dg Tryz.prog 110 Tryz.f110 ic110 [(.t 2)]:=⟨Tryz.func110,by kernel_rfl,by kernel_rfl⟩
theorem c110 (a p:Int):FnR Tryz.prog G 110 [.agg [.int .i64 a,.int .i64 p]] (.bool (E.door ⟨a,p⟩)):=by
 refine mF dg110 Tryz.ntmps110 ?_
 simp only[ic110,go_sem]
 with_reducible repeat' (first|refine br ?_ ?_<;>intro h e<;>(try simp only[e,go_sem])<;>clear e|rw[i64w (by omega)]|refine sd ?_<;>try simp only[go_sem]|(first|refine cr (c100 ..) ?_)<;>try simp only[go_sem]|fail)
 all_goals simp_all[E.door]
def ic91:IC:=sR [oP 1 (.box 45 (.t 0)),oP 2 (.mv (.c (.bool false)))] (sR [lA 3 2 1,oP 4 (.call 64 [.t 3]),mV 5 4,⟨some 6,some (5,false),.ld 2 true (.t 1)⟩,⟨some 7,some (5,false),.call 65 [.t 6]⟩,oP 8 (.pick (.t 5) (.c (.bool true)) (.t 7)),mV 9 8,⟨some 10,some (9,false),.ld 2 true (.t 1)⟩,⟨some 11,some (9,false),.call 69 [.t 10]⟩,oP 12 (.pick (.t 9) (.c (.bool true)) (.t 11)),mV 2 12] .ret)
theorem dg91:Dg Tryz.prog 91 Tryz.f91 ic91 [(.t 2)]:=⟨Tryz.func91,by kernel_rfl,by kernel_rfl⟩
theorem c91 (a p:Int):FnR Tryz.prog G 91 [.agg [.int .i64 a,.int .i64 p]] (.bool (E.any ⟨a,p⟩)):=by
 refine mF dg91 Tryz.ntmps91 ?_
 simp only[ic91,go_sem]
 with_reducible repeat' (first|refine br ?_ ?_<;>intro h e<;>(try simp only[e,go_sem])<;>clear e|rw[i64w (by omega)]|refine sd ?_<;>try simp only[go_sem]|(first|refine cr (c64 ..) ?_|refine cr (c65 ..) ?_|refine cr (c69 ..) ?_)<;>try simp only[go_sem]|fail)
 all_goals simp_all[E.any]
def ic62:IC:=sR [oP 1 (.box 45 (.t 0)),oP 2 (.mv (.c (.bool false)))] (sR [lA 3 2 1,oP 4 (.call 94 [.t 3]),mV 5 4,⟨some 6,some (5,false),.ld 2 true (.t 1)⟩,⟨some 7,some (5,false),.call 95 [.t 6]⟩,oP 8 (.pick (.t 5) (.c (.bool true)) (.t 7)),mV 9 8,⟨some 10,some (9,false),.ld 2 true (.t 1)⟩,⟨some 11,some (9,false),.call 110 [.t 10]⟩,oP 12 (.pick (.t 9) (.c (.bool true)) (.t 11)),mV 2 12] .ret)
theorem dg62:Dg Tryz.prog 62 Tryz.f62 ic62 [(.t 2)]:=⟨Tryz.func62,by kernel_rfl,by kernel_rfl⟩
theorem c62 (a p:Int):FnR Tryz.prog G 62 [.agg [.int .i64 a,.int .i64 p]] (.bool (E.any ⟨a,p⟩)):=by
 refine mF dg62 Tryz.ntmps62 ?_
 simp only[ic62,go_sem]
 with_reducible repeat' (first|refine br ?_ ?_<;>intro h e<;>(try simp only[e,go_sem])<;>clear e|rw[i64w (by omega)]|refine sd ?_<;>try simp only[go_sem]|(first|refine cr (c94 ..) ?_|refine cr (c95 ..) ?_|refine cr (c110 ..) ?_)<;>try simp only[go_sem]|fail)
 all_goals simp_all[E.any]
theorem u8le {a b:UInt8}:((a.toNat:Int)≤(b.toNat:Int))=(a≤b):=by simp[UInt8.le_iff_toNat_le]
def dig (b:UInt8):Int:=if figB b 48 then(b.toNat:Int) - 48 else -1
def ic111:IC:=sR [oP 2 (.mv (.c i0))] (.seq (sR [mV 3 0,oP 4 (.bin .lss (.t 3) (.c (.int .u8 48))),mV 5 4,⟨some 6,some (5,false),.mv (.t 0)⟩,⟨some 7,some (5,false),.bin .gtr (.t 6) (.c (.int .u8 57))⟩,oP 8 (.pick (.t 5) (.c (.bool true)) (.t 7))] (.cond (.t 8) (sR [oP 2 (.mv (.c (.int .i64 (-1))))] .ret) .skip)) (sR [mV 9 0,oP 10 (.bin .sub (.t 9) (.c (.int .u8 48))),oP 11 (.cvi .i64 (.t 10)),mV 2 11] .ret))
theorem dg111:Dg Tryz.prog 111 Tryz.f111 ic111 [(.t 2)]:=⟨Tryz.func111,by kernel_rfl,by kernel_rfl⟩
theorem c111 (b:UInt8):FnR Tryz.prog G 111 [.int .u8 (b.toNat:Int)] (.int .i64 (dig b)):=by
 refine mF dg111 Tryz.ntmps111 ?_
 have hb:b.toNat<256:=b.toNat_lt
 have e:figB b 48=(decide (48≤(b.toNat:Int))&&decide ((b.toNat:Int)≤57)):=by
  simp only[figB,UInt8.le_iff_toNat_le]
  have:(48:UInt8).toNat=48:=rfl
  have:(57:UInt8).toNat=57:=rfl
  congr 1<;>(apply decide_eq_decide.2;omega)
 simp only[ic111,go_sem,dig,e]
 with_reducible repeat' (first|refine br ?_ ?_<;>intro h e<;>(try simp only[e,go_sem])<;>clear e|rw[i64w (by omega)]|refine sd ?_<;>try simp only[go_sem]|fail)
 all_goals first
  | (rw[if_neg (by simp;omega)])
  | (rw[if_pos (by simp;omega),u8w (by omega),i64w (by omega)])
def ic34:IC:=sR [oP 2 (.mv (.c s0))] (.seq (sR [mV 3 0,oP 4 (.bin .lss (.t 3) (.c (.int .i64 (-9223372036854775807))))] (.cond (.t 4) (sR [oP 2 (.mv (.c (.str [45,57,50,50,51,51,55,50,48,51,54,56,53,52,55,55,53,56,48,56])))] .ret) .skip)) (.seq (sR [mV 5 0,oP 6 (.bin .lss (.t 5) (.c i0))] (.cond (.t 6) (sR [mV 7 0,oP 8 (.un .neg (.t 7)),oP 9 (.call 34 [.t 8]),oP 10 (.bin .add (.c (.str [45])) (.t 9)),mV 2 10] .ret) .skip)) (.seq (sR [mV 11 0,oP 12 (.bin .lss (.t 11) (.c (.int .i64 10)))] (.cond (.t 12) (sR [mV 13 0,oP 14 (.bin .add (.c (.int .i64 48)) (.t 13)),oP 15 (.cvi .u8 (.t 14)),oP 16 (.bsl 5 1 [.t 15]),oP 17 (.b2s (.t 16)),mV 2 17] .ret) .skip)) (.seq (.drw [0,1,3,0,8,24,56,120,248,511,1023] [(0,mV 18 0),(1,oP 19 (.bin .quo (.t 18) (.c (.int .i64 10)))),(2,oP 20 (.call 34 [.t 19])),(3,mV 21 0),(4,oP 22 (.bin .rem (.t 21) (.c (.int .i64 10)))),(5,oP 23 (.bin .add (.c (.int .i64 48)) (.t 22))),(6,oP 24 (.cvi .u8 (.t 23))),(7,oP 25 (.bsl 5 1 [.t 24])),(8,oP 26 (.b2s (.t 25))),(9,bN 27 .add 20 26),(10,mV 2 27)]) .ret))))
theorem dg34:Dg Tryz.prog 34 Tryz.f34 ic34 [(.t 2)]:=⟨Tryz.func34,by kernel_rfl,by kernel_rfl⟩
theorem c034 (n:Int) (h:0≤n∧n<10):FnR Tryz.prog G 34 [.int .i64 n] (.str (dec n)):=by
 refine mF dg34 Tryz.ntmps34 ?_
 simp only[ic34,go_sem]
 with_reducible repeat' (first|refine br ?_ ?_<;>intro h e<;>(try simp only[e,go_sem])<;>clear e|rw[i64w (by omega)]|refine sd ?_<;>try simp only[go_sem]|fail)
 all_goals first|omega|skip
 rw[u8w (by omega)]
 simp only[dec,decN]
 rw[if_pos (by omega)]
 congr 2
 omega
theorem c34 (n:Int) (h:0≤n∧n<100):FnR Tryz.prog G 34 [.int .i64 n] (.str (dec n)):=by
 by_cases h10:n<10
 ·exact c034 n ⟨h.1,h10⟩
 refine mF dg34 Tryz.ntmps34 ?_
 have e1:n.tdiv 10=n / 10:=Int.tdiv_eq_ediv_of_nonneg h.1
 have e2:n.tmod 10=n % 10:=Int.tmod_eq_emod_of_nonneg h.1
 have hl:(dec (n / 10)).length≤2:=by unfold dec decN;split<;>simp
 simp only[ic34,go_sem,e1,e2]
 with_reducible repeat' (first|refine br ?_ ?_<;>intro h e<;>(try simp only[e,go_sem])<;>clear e|rw[i64w (by omega)]|refine sd ?_<;>try simp only[go_sem]|fail)
 all_goals first|omega|skip
 refine callR (c034 _ (by omega)) rfl rfl ?_
 simp only[go_sem,e1,e2]
 with_reducible repeat' (first|refine br ?_ ?_<;>intro h e<;>(try simp only[e,go_sem])<;>clear e|rw[i64w (by omega)]|refine sd ?_<;>try simp only[go_sem]|fail)
 simp only[dec,decN]
 rw[if_neg (by omega),if_pos (by omega),u8w (by omega)]
 have e3:n.toNat / 10=(n / 10).toNat:=by omega
 have e4:48+n.toNat % 10=(48+n % 10).toNat:=by omega
 simp only[List.cons_append,List.nil_append,e3,e4]
theorem dec_len (n:Int):(dec n).length≤2:=by unfold dec decN;split<;>simp
def ic85:IC:=sR [oP 4 (.mv (.c (.bool false)))] (sR [mV 5 0,mV 6 1,bN 7 .geq 5 6,mV 8 7,⟨some 9,some (8,true),.mv (.t 0)⟩,⟨some 10,some (8,true),.bin .leq (.t 9) (.c (.int .u8 57))⟩,oP 11 (.pick (.t 8) (.t 10) (.c (.bool false))),mV 4 11] .ret)
theorem dg85:Dg Tryz.prog 85 Tryz.f85 ic85 [(.t 4)]:=⟨Tryz.func85,by kernel_rfl,by kernel_rfl⟩
theorem c85 (b lo:UInt8):FnR Tryz.prog G 85 [.int .u8 (b.toNat:Int),.int .u8 (lo.toNat:Int)] (.bool (figB b lo)):=by
 refine mF dg85 Tryz.ntmps85 ?_
 have e:figB b lo=(decide ((lo.toNat:Int)≤(b.toNat:Int))&&decide ((b.toNat:Int)≤57)):=by
  simp only[figB,UInt8.le_iff_toNat_le]
  have:(57:UInt8).toNat=57:=rfl
  congr 1<;>(apply decide_eq_decide.2;omega)
 simp only[ic85,go_sem,e]
 with_reducible repeat' (first|refine br ?_ ?_<;>intro h e<;>(try simp only[e,go_sem])<;>clear e|rw[i64w (by omega)]|refine sd ?_<;>try simp only[go_sem]|fail)
 all_goals simp_all
theorem u8cmp (b:UInt8):(decide ((97:Int)≤(b.toNat:Int))=decide (97≤b))∧(decide ((b.toNat:Int)≤122)=decide (b≤122))∧(decide ((48:Int)≤(b.toNat:Int))=decide (48≤b))∧(decide ((b.toNat:Int)≤57)=decide (b≤57)) ∧
 (decide ((b.toNat:Int)=64)=decide (b=64))∧(decide ((b.toNat:Int)=58)=decide (b=58))∧(decide ((b.toNat:Int)=59)=decide (b=59))∧(decide ((b.toNat:Int)<97)=decide (b<97))∧(decide (122<(b.toNat:Int))=decide (122<b)):=by
 refine⟨?_, ?_, ?_, ?_, ?_, ?_, ?_, ?_, ?_⟩<;>apply decide_eq_decide.2<;>simp only[UInt8.le_iff_toNat_le,UInt8.lt_iff_toNat_lt,←UInt8.toNat_inj] <;>
  (have e1:(97:UInt8).toNat=97:=rfl;have e2:(122:UInt8).toNat=122:=rfl;have e3:(48:UInt8).toNat=48:=rfl;have e4:(57:UInt8).toNat=57:=rfl
   have e5:(64:UInt8).toNat=64:=rfl;have e6:(58:UInt8).toNat=58:=rfl;have e7:(59:UInt8).toNat=59:=rfl
   omega)
def ic146:IC:=sR [oP 2 (.mv (.c (.bool false)))] (sR [mV 3 0,oP 4 (.bin .geq (.t 3) (.c (.int .u8 97))),mV 5 4,⟨some 6,some (5,true),.mv (.t 0)⟩,⟨some 7,some (5,true),.bin .leq (.t 6) (.c (.int .u8 122))⟩,oP 8 (.pick (.t 5) (.t 7) (.c (.bool false))),mV 9 8,⟨some 10,some (9,false),.mv (.t 0)⟩,⟨some 11,some (9,false),.bin .geq (.t 10) (.c (.int .u8 48))⟩,⟨some 12,some (9,false),.mv (.t 11)⟩,⟨some 13,some (12,true),.mv (.t 0)⟩,⟨some 14,some (12,true),.bin .leq (.t 13) (.c (.int .u8 57))⟩,⟨some 15,some (9,false),.pick (.t 12) (.t 14) (.c (.bool false))⟩,oP 16 (.pick (.t 9) (.c (.bool true)) (.t 15)),mV 17 16,⟨some 18,some (17,false),.mv (.t 0)⟩,⟨some 19,some (17,false),.bin .eql (.t 18) (.c (.int .u8 64))⟩,oP 20 (.pick (.t 17) (.c (.bool true)) (.t 19)),mV 21 20,⟨some 22,some (21,false),.mv (.t 0)⟩,⟨some 23,some (21,false),.bin .eql (.t 22) (.c (.int .u8 58))⟩,oP 24 (.pick (.t 21) (.c (.bool true)) (.t 23)),mV 25 24,⟨some 26,some (25,false),.mv (.t 0)⟩,⟨some 27,some (25,false),.bin .eql (.t 26) (.c (.int .u8 59))⟩,oP 28 (.pick (.t 25) (.c (.bool true)) (.t 27)),mV 2 28] .ret)
theorem dg146:Dg Tryz.prog 146 Tryz.f146 ic146 [(.t 2)]:=⟨Tryz.func146,by kernel_rfl,by kernel_rfl⟩
theorem c146 (b:UInt8):FnR Tryz.prog G 146 [.int .u8 (b.toNat:Int)] (.bool (okB b)):=by
 refine mF dg146 Tryz.ntmps146 ?_
 obtain⟨e1,e2,e3,e4,e5,e6,e7,e8,e9⟩:=u8cmp b
 simp only[ic146,go_sem,e1,e2,e3,e4,e5,e6,e7]
 repeat' (first
  | (with_reducible refine gBn (fun h=>?_) (fun h=>?_)<;>(try simp only[h,go_sem,e1,e2,e3,e4,e5,e6,e7]))
  | (with_reducible refine gB (fun h=>?_) (fun h=>?_)<;>(try simp only[h,go_sem,e1,e2,e3,e4,e5,e6,e7])))
 all_goals(clear e1 e2 e3 e4 e5 e6 e7 e8 e9;simp only[okB,figB, *,Bool.and_true,Bool.true_and,Bool.false_and,Bool.or_true,Bool.true_or,Bool.false_or,Bool.or_false,Bool.and_self])
theorem all_take_succ {t:B} {i:Nat} (h:i<t.length) {p:UInt8→Bool} (hi:(t.take i).all p=true) (hp:p (t.getD i 0)=true):(t.take (i+1)).all p=true:=by
 rw[List.take_add_one,List.all_append,hi]
 simp only[List.getD,zE h,Option.getD_some] at hp
 simp[zE h,hp]
theorem txOk_false {t:B} {i:Nat} (h:i<t.length) (hp:okB (t.getD i 0)=false):txOk t=false:=by
 have:t.all okB=false:=by
  rw[List.all_eq_false]
  exact⟨t[i],List.getElem_mem h,by simpa[List.getD,zE h] using hp⟩
 simp[txOk,this]
def ic109:IC:=sR [oP 2 (.mv (.c (.bool false)))] (.seq (sR [oP 3 (.mv (.c i0))] (.block 0 (.loop (.seq (sR [mV 4 3,mV 5 0,oP 6 (.lens (.t 5)),bN 7 .lss 4 6] (.cond (.t 7) .skip (.exit 0))) (.seq (.block 1 (sR [mV 10 0,mV 11 3,oP 12 (.idx (.t 10) (.t 11)),oP 13 (.call 146 [.t 12]),oP 14 (.un .not (.t 13))] (.cond (.t 14) (sR [oP 2 (.mv (.c (.bool false)))] .ret) .skip))) (.reg [mV 8 3,oP 9 (.bin .add (.t 8) (.c (.int .i64 1))),mV 3 9])))))) (sR [mV 15 0,oP 16 (.lens (.t 15)),oP 17 (.bin .leq (.t 16) (.c (.int .i64 40))),mV 2 17] .ret))
theorem dg109:Dg Tryz.prog 109 Tryz.f109 ic109 [(.t 2)]:=⟨Tryz.func109,by kernel_rfl,by kernel_rfl⟩
theorem c109 (t:B) (hl:t.length≤2000000:=by omega):FnR Tryz.prog G 109 [.str t] (.bool (txOk t)):=by
 refine mF dg109 Tryz.ntmps109 ?_
 simp only[ic109,go_sem]
 refine loopN (fun i:Nat=>⟨getL [(0,.str t),(3,.int .i64 (i:Int))],getH []⟩) (fun i=>t.length - i) (fun i=>i≤t.length∧(t.take i).all okB=true) 0 (leQ []) ⟨Nat.zero_le _,by simp⟩ ?_
 intro i ⟨hi,ha⟩
 simp only[go_sem]
 with_reducible repeat' (first|refine br ?_ ?_<;>intro h e<;>(try simp only[e,go_sem])<;>clear e|rw[i64w (by omega)]|refine sd ?_<;>try simp only[go_sem]|(first|refine cr (c146 ..) ?_)<;>try simp only[go_sem]|fail)
 ·exact⟨i+1,by omega,⟨by omega,all_take_succ (by omega) ha h⟩,(leQ [])⟩
 ·exact txOk_false (by omega) h
 ·have:i=t.length:=by omega
  subst this
  simp only[List.take_length] at ha
  simp only[txOk,ha,Bool.true_and]
  apply decide_eq_decide.2;omega
theorem index_one (c:UInt8) (s:B):Lib.index s [c]=if c∈s then((s.takeWhile fun b=>decide (b≠c)).length:Int) else -1:=by
 induction s with
 | nil=>rfl
 | cons b l ih =>
   unfold Lib.index
   by_cases h:b=c
   ·subst h;simp[List.isPrefixOf]
   ·have h':¬c=b:=fun e=>h e.symm
    have hp:([c]:B).isPrefixOf (b::l)=false:=by simp[List.isPrefixOf,h']
    rw[hp,if_neg (by simp),ih]
    by_cases hm:c∈l
    ·simp[hm,h,h']
    ·simp[hm,h']
theorem take_tw (p:UInt8→Bool):∀s:B,s.take (s.takeWhile p).length=s.takeWhile p
 | []=>rfl
 | b::l=>by
   by_cases h:p b=true
   ·simp[h,take_tw p l]
   ·simp[h]
theorem drop_tw (p:UInt8→Bool):∀s:B,s.drop (s.takeWhile p).length=s.dropWhile p
 | []=>rfl
 | b::l=>by
   by_cases h:p b=true
   ·simp[h,drop_tw p l]
   ·simp[h]
theorem cut_one (s:B) (c:UInt8):Lib.cut s [c]=cutB s c:=by
 unfold Lib.cut cutB
 rw[index_one]
 by_cases h:c∈s
 ·rw[if_pos h,if_pos (by omega),if_pos h]
  simp only[Int.toNat_natCast,take_tw,zC,zN,←List.drop_drop,drop_tw,List.drop_one,zZ]
 ·rw[if_neg h,if_neg (by decide),if_neg h]
theorem digits_two (n:Nat) (h:n<100):Lib.decDigits n=decN n:=by
 unfold decN
 rw[Lib.decDigits]
 split
 ·rfl
 ·rw[Lib.decDigits,dif_pos (by omega)]
  rfl
theorem atoi_two:∀k:Fin 100,Lib.atoiAll (decN k.val)=.ok (k.val:Int):=by decide +kernel
theorem atoi_dec (k:Int) (h0:0≤k) (h1:k<100):Lib.atoiAll (dec k)=.ok k:=by
 have:=atoi_two ⟨k.toNat,by omega⟩
 simp only at this
 unfold dec
 rw[this]
 congr 1
 omega
theorem e27:entr Tryz.prog 27=true:=by kernel_rfl
theorem c27 (n:Int) (h:0≤n∧n<100:=by omega):FnR Tryz.prog G 27 [.int .i64 n] (.str (dec n)):=by
 obtain⟨k,rfl⟩:∃k:Nat,n=(k:Int):=⟨n.toNat,by omega⟩
 refine FnR.lib e27 rfl rfl fun W hg=>(Tryz.strconv_Itoa_small k (by omega) W).mono fun e W' ⟨he,hw⟩=>⟨?_,by subst hw;exact Below.refl _ _⟩
 rw[he,digits_two k (by omega)]
 rfl
theorem e24:entr Tryz.prog 24=true:=by kernel_rfl
theorem c24 (s:B) (c:UInt8) (hs:s.length<4294967281:=by omega):FnR Tryz.prog G 24 [.str s,.str [c]] (.tup [.str (cutB s c).1,.str (cutB s c).2.1,.bool (cutB s c).2.2]):=by
 refine FnR.lib e24 rfl rfl fun W hg=>?_
 obtain⟨⟨m,hm⟩,_⟩:=hg
 refine(Tryz.strings_Cut (mkStr s) (mkStr [c]) m W (by simpa[mkStr,ByteArray.size] using hs) hm).mono fun e W' ⟨he,n,hw⟩=>⟨?_, ?_⟩
 ·rw[he]
  simp only[mkStr,cut_one]
  rfl
 ·subst hw
  exact⟨rfl,rfl,rfl,Nat.le_refl _,fun _ _=>rfl⟩
theorem e194:entr Tryz.prog 194=true:=by kernel_rfl
theorem c194 (s p:B):FnR Tryz.prog G 194 [.str s,.str p] (.tup [.str (if p.isPrefixOf s then s.drop p.length else s),.bool (p.isPrefixOf s)]) :=
 FnR.lib e194 rfl rfl fun W hg=>(Tryz.strings_CutPrefix (mkStr s) (mkStr p) W).mono fun e W' ⟨he,hw⟩=>⟨he,by subst hw;exact Below.refl _ _⟩
theorem e131:entr Tryz.prog 131=true:=by kernel_rfl
theorem c131 (s:B) (hs:s.length≤281474976710656:=by omega):FnR Tryz.prog G 131 [.str s] (.str s) :=
 FnR.lib e131 rfl rfl fun W hg=>(Tryz.stringslite_Clone (mkStr s) W (by simpa[mkStr,ByteArray.size] using hs)).mono fun e W' ⟨he,hw⟩=>⟨he,hw⟩
def ic88:IC:=sR [oP 2 (.mv (.c s0))] (sR [mV 3 0,oP 4 (.call 131 [.t 3]),mV 2 4] .ret)
theorem dg88:Dg Tryz.prog 88 Tryz.f88 ic88 [(.t 2)]:=⟨Tryz.func88,by kernel_rfl,by kernel_rfl⟩
theorem c88 (s:B) (hs:s.length≤281474976710656:=by omega):FnR Tryz.prog G 88 [.str s] (.str s):=by
 refine mF dg88 Tryz.ntmps88 ?_
 simp only[ic88,go_sem]
 refine callR (c131 _ hs) rfl rfl ?_
 simp only[go_sem]
def AtoiP (s:B) (r:V) (o:List Hs):Prop:=o=[]∧((∃n:Int,r=.tup [.int .i64 n,.nile]∧∀k:Int,0≤k→k<100→s=dec k→n=k)∨(∃n:Int,r=.tup [.int .i64 n,.erre]∧∀k:Int,0≤k→k<100→s≠dec k))
theorem e87:entr Tryz.prog 87=true:=by kernel_rfl
theorem den_err {w:World} {O:Nat→Prop} {ρ:Nat→VL.Loc} {h:Nat→Hs} (n:Int) (t:TypeId) (N:Nat):Den w O ρ h (.tup [.int .i64 n,.erre]) (.tuple #[.int .i64 n,.iface t (.pointer (some ⟨N,0,none⟩))]):=by
 refine⟨[.int .i64 n,.iface t (.pointer (some ⟨N,0,none⟩))],rfl,rfl,fun j v u hv hu=>?_⟩
 match j,hv,hu with
 | 0,hv,hu=>cases hv;cases hu;exact Imm.int _ _
 | 1,hv,hu=>cases hv;cases hu;exact Imm.erre _ _
theorem c87 (s:B) (hs:s.length≤2000000:=by omega):FnP Tryz.prog G 87 0 [] [.str s] (AtoiP s):=by
 have key:FnP Tryz.prog G 87 0 [] [.str s] (fun r o=>o=[]∧((∃n:Int,r=.tup [.int .i64 n,.nile]∧∀k:Int,0≤k→k<100→s=dec k→n=k)∨(∃n:Int,r=.tup [.int .i64 n,.erre]∧∀k:Int,0≤k→k<100→s≠dec k))):=by
  have hz:(mkStr s).size≤2000000:=by simpa[mkStr,ByteArray.size] using hs
  have hl:(mkStr s).data.toList=s:=by simp[mkStr]
  rcases ha:Lib.atoiAll s with v|_|_
  ·refine FnP.lib (us:=[.string (mkStr s)]) e87 rfl ⟨_,.inl ⟨v,rfl,fun k h0 h1 h2=>?_⟩⟩ fun W hg=>(Any.strconv_Atoi_ok Tryz.laysC172 (mkStr s) (by omega) v (by rw[hl];exact ha) W).mono fun e W' ⟨he,hw⟩=>⟨?_,_,_,he,.inl ⟨v,rfl,fun k h0 h1 h2=>?_⟩,fun O _=>plainR_den rfl⟩
   ·rw[h2,atoi_dec k h0 h1] at ha;cases ha;rfl
   ·rcases hw with rfl|⟨t,rfl⟩
    ·exact Below.refl _ _
    ·exact Lib.bytesWorld_below W _ t
   ·rw[h2,atoi_dec k h0 h1] at ha;cases ha;rfl
  ·refine FnP.lib (us:=[.string (mkStr s)]) e87 rfl ⟨_,.inr ⟨0,rfl,fun k h0 h1 h2=>?_⟩⟩ fun W hg=>?_
   ·rw[h2,atoi_dec k h0 h1] at ha;cases ha
   obtain⟨_,⟨ev,hv,hev⟩,_⟩:=hg
   refine(Any.strconv_Atoi_syntax Tryz.laysC172 (mkStr s) (by omega) (by rw[hl];exact ha) ev W hv hev).mono fun e W' ⟨N,he,hN,_,hb⟩=>⟨hb,_,_,he,.inr ⟨0,rfl,fun k h0 h1 h2=>?_⟩,fun O hO=>den_err _ _ N⟩
   ·rw[h2,atoi_dec k h0 h1] at ha;cases ha
  ·refine FnP.lib (us:=[.string (mkStr s)]) e87 rfl ⟨_,.inr ⟨0,rfl,fun k h0 h1 h2=>?_⟩⟩ fun W hg=>?_
   ·rw[h2,atoi_dec k h0 h1] at ha;cases ha
   obtain⟨_,_,ev,hv,hev⟩:=hg
   refine(Any.strconv_Atoi_range Tryz.laysC172 (mkStr s) (by omega) (by rw[hl];exact ha) ev W hv hev).mono fun e W' ⟨N,he,hN,_,hb⟩=>⟨hb,_,_,he,.inr ⟨_,rfl,fun k h0 h1 h2=>?_⟩,fun O hO=>den_err _ _ N⟩
   ·rw[h2,atoi_dec k h0 h1] at ha;cases ha
 exact key
theorem fig48 (b:UInt8):FnR Tryz.prog G 85 [.int .u8 (b.toNat:Int),.int .u8 48] (.bool (figB b 48)):=c85 b 48
theorem fig49 (b:UInt8):FnR Tryz.prog G 85 [.int .u8 (b.toNat:Int),.int .u8 49] (.bool (figB b 49)):=c85 b 49
theorem txOk_false' {t:B} {i:Nat} (h:i<t.length) (hp:okB (t.getD i default)=false):txOk t=false:=by
 refine txOk_false h ?_
 have:t.getD i default=t.getD i 0:=by simp[List.getD,h]
 rwa [←this]
theorem all_take_succ' {t:B} {i:Nat} (h:i<t.length) {p:UInt8→Bool} (hi:(t.take i).all p=true) (hp:p (t.getD i default)=true):(t.take (i+1)).all p=true:=by
 refine all_take_succ h hi ?_
 have:t.getD i default=t.getD i 0:=by simp[List.getD,h]
 rwa [←this]
theorem okB_e (b:UInt8):okB b=((!decide (b<97)&&!decide (122<b))||figB b 48||decide (b=64)||decide (b=58)||decide (b=59)):=by
 have h1:decide (97≤b)=!decide (b<97):=by rw[←decide_not];exact decide_eq_decide.2 UInt8.not_lt.symm
 have h2:decide (b≤122)=!decide (122<b):=by rw[←decide_not];exact decide_eq_decide.2 UInt8.not_lt.symm
 simp only[okB,h1,h2]
def ic112:IC:=sR [oP 2 (.mv (.c (.bool false)))] (.seq (sR [mV 5 0,oP 6 (.s2b (.t 5)),oP 7 (.len (.t 6)),oP 8 (.mv (.c i0))] (.block 0 (.loop (sR [bN 9 .lss 8 7] (.seq (.cond (.t 9) .skip (.exit 0)) (.seq (.block 1 (sR [oP 10 (.iad 1 (.t 6) (.t 8)),lD 11 1 10,mV 4 11] (sR [mV 12 4,oP 13 (.call 85 [.t 12,.c (.int .u8 48)]),oP 14 (.un .not (.t 13)),mV 15 14,⟨some 16,some (15,true),.mv (.t 4)⟩,⟨some 17,some (15,true),.bin .neq (.t 16) (.c (.int .u8 64))⟩,oP 18 (.pick (.t 15) (.t 17) (.c (.bool false))),mV 19 18,⟨some 20,some (19,true),.mv (.t 4)⟩,⟨some 21,some (19,true),.bin .neq (.t 20) (.c (.int .u8 58))⟩,oP 22 (.pick (.t 19) (.t 21) (.c (.bool false))),mV 23 22,⟨some 24,some (23,true),.mv (.t 4)⟩,⟨some 25,some (23,true),.bin .neq (.t 24) (.c (.int .u8 59))⟩,oP 26 (.pick (.t 23) (.t 25) (.c (.bool false))),mV 27 26,⟨some 28,some (27,true),.mv (.t 4)⟩,⟨some 29,some (27,true),.bin .lss (.t 28) (.c (.int .u8 97))⟩,⟨some 30,some (27,true),.mv (.t 29)⟩,⟨some 31,some (30,false),.mv (.t 4)⟩,⟨some 32,some (30,false),.bin .gtr (.t 31) (.c (.int .u8 122))⟩,⟨some 33,some (27,true),.pick (.t 30) (.c (.bool true)) (.t 32)⟩,oP 34 (.pick (.t 27) (.t 33) (.c (.bool false)))] (.cond (.t 34) (sR [oP 2 (.mv (.c (.bool false)))] .ret) .skip)))) (.reg [oP 35 (.bin .add (.t 8) (.c (.int .i64 1))),mV 8 35]))))))) (sR [mV 36 0,oP 37 (.lens (.t 36)),oP 38 (.bin .leq (.t 37) (.c (.int .i64 40))),mV 2 38] .ret))
theorem dg112:Dg Tryz.prog 112 Tryz.f112 ic112 [(.t 2)]:=⟨Tryz.func112,by kernel_rfl,by kernel_rfl⟩
theorem c112 (t:B) (hl:t.length≤2000000:=by omega):FnR Tryz.prog G 112 [.str t] (.bool (txOk t)):=by
 refine mF dg112 Tryz.ntmps112 ?_
 simp only[ic112,go_sem]
 with_reducible repeat' (first|refine br ?_ ?_<;>intro h e<;>(try simp only[e,go_sem])<;>clear e|rw[i64w (by omega)]|refine sd ?_<;>try simp only[go_sem]|fail)
 refine loopN (fun i:Nat=>⟨getL [(0,.str t),(6,.sl 1 (t.map fun b=>[.int .u8 (b.toNat:Int)])),(7,.int .i64 t.length),(8,.int .i64 (i:Int))],getH []⟩) (fun i=>t.length - i) (fun i=>i≤t.length∧(t.take i).all okB=true) 0 (leQ []) ⟨Nat.zero_le _,by simp⟩ ?_
 intro i ⟨hi,ha⟩
 simp only[go_sem]
 by_cases h:(i:Int)<t.length
 ·simp only[h,go_sem]
  refine effG (by omega) ?_
  generalize hb:t.getD i default=b
  obtain⟨e1,e2,e3,e4,e5,e6,e7,e8,e9⟩:=u8cmp b
  simp only[go_sem]
  refine callR (fig48 _) rfl rfl ?_
  simp only[go_sem,e5,e6,e7,e8,e9]
  repeat' (first
   | (with_reducible refine gBn (fun h=>?_) (fun h=>?_)<;>(try simp only[h,go_sem,e5,e6,e7,e8,e9]))
   | (with_reducible refine cBn (fun h=>?_) (fun h=>?_)<;>(try simp only[h,go_sem,e5,e6,e7,e8,e9]))
   | (with_reducible refine cB (fun h=>?_) (fun h=>?_)<;>(try simp only[h,go_sem,e5,e6,e7,e8,e9]))
   | (with_reducible refine gB (fun h=>?_) (fun h=>?_)<;>(try simp only[h,go_sem,e5,e6,e7,e8,e9])))
  all_goals(clear e1 e2 e3 e4 e5 e6 e7 e8 e9)
  all_goals first
   | (refine⟨i+1,by omega,⟨by omega,all_take_succ' (t:=t) (i:=i) (by omega) ha (by rw[hb];simp only[okB_e, *,Bool.or_true,Bool.true_or,Bool.not_false,Bool.and_self])⟩, ?_⟩;rw[i64w (by omega)];exact(leQ []))
   | (exact txOk_false' (t:=t) (i:=i) (by omega) (by rw[hb];simp only[okB_e, *,Bool.or_false,Bool.false_or,Bool.not_true,Bool.not_false,Bool.false_and,Bool.and_false,Bool.and_self]))
 ·simp only[h,go_sem]
  have:i=t.length:=by omega
  subst this
  simp only[List.take_length] at ha
  simp only[txOk,ha,Bool.true_and]
  apply decide_eq_decide.2;omega
def bego (i:Nat) (b:UInt8):Bool:=match i with
 | 0=>decide (b=64)
 | 1=>figB b 49
 | 2=>decide (b=58)
 | 3=>figB b 49
 | 4=>figB b 48
 | _=>false
theorem bego_e (i:Nat) (b:UInt8):bego i b=if(i:Int)=0 then decide ((b.toNat:Int)=64) else if(i:Int)=1 then figB b 49 else if(i:Int)=3 then figB b 49 else if(i:Int)=2 then decide ((b.toNat:Int)=58) else if(i:Int)=4 then figB b 48 else false:=by
 obtain⟨_,_,_,_,e5,e6,_,_,_⟩:=u8cmp b
 rw[e5,e6]
 match i with
 | 0=>rfl
 | 1=>rfl
 | 2=>rfl
 | 3=>rfl
 | 4=>rfl
 | n+5=>simp only[bego];rw[if_neg (by omega),if_neg (by omega),if_neg (by omega),if_neg (by omega),if_neg (by omega)]
def begK:Nat→B→Bool
 | _,[]=>true
 | k,b::r=>bego k b&&begK (k+1) r
theorem begs_K (s:B) (h:s≠[]):begs s=begK 0 s:=by
 rcases s with _|⟨a,_|⟨b,_|⟨c,_|⟨d,_|⟨e,_|⟨f,r⟩⟩⟩⟩⟩⟩<;>simp[begs,begK,bego,Bool.and_assoc] at h ⊢
theorem begK_step {s:B} {i:Nat} (h:i<s.length):begK i (s.drop i)=(bego i (s.getD i default)&&begK (i+1) (s.drop (i+1))):=by
 rw[List.drop_eq_getElem_cons h]
 simp[begK,List.getD,h]
def ic147:IC:=sR [oP 2 (.mv (.c (.bool false)))] (.seq (sR [mV 6 0,oP 7 (.s2b (.t 6)),oP 8 (.len (.t 7)),oP 9 (.mv (.c i0))] (.block 0 (.loop (sR [bN 10 .lss 9 8] (.seq (.cond (.t 10) .skip (.exit 0)) (.seq (.block 1 (sR [mV 11 9,oP 12 (.iad 1 (.t 7) (.t 9)),lD 13 1 12,mV 3 11,mV 4 13] (sR [oP 5 (.mv (.c (.bool false)))] (.seq (sR [mV 14 3] (.block 2 (sR [oP 16 (.bin .eql (.t 14) (.c i0)),mV 15 16] (.cond (.t 15) (.reg [mV 17 4,oP 18 (.bin .eql (.t 17) (.c (.int .u8 64))),mV 5 18]) (.seq (sR [oP 20 (.bin .eql (.t 14) (.c (.int .i64 1))),mV 19 20] (.cond (.t 19) .skip (.reg [oP 21 (.bin .eql (.t 14) (.c (.int .i64 3))),mV 19 21]))) (.cond (.t 19) (.reg [mV 22 4,oP 23 (.call 85 [.t 22,.c (.int .u8 49)]),mV 5 23]) (sR [oP 25 (.bin .eql (.t 14) (.c (.int .i64 2))),mV 24 25] (.cond (.t 24) (.reg [mV 26 4,oP 27 (.bin .eql (.t 26) (.c (.int .u8 58))),mV 5 27]) (sR [oP 29 (.bin .eql (.t 14) (.c (.int .i64 4))),mV 28 29] (.cond (.t 28) (.reg [mV 30 4,oP 31 (.call 85 [.t 30,.c (.int .u8 48)]),mV 5 31]) .skip)))))))))) (sR [mV 32 5,oP 33 (.un .not (.t 32))] (.cond (.t 33) (sR [oP 2 (.mv (.c (.bool false)))] .ret) .skip)))))) (.reg [oP 34 (.bin .add (.t 9) (.c (.int .i64 1))),mV 9 34]))))))) (sR [oP 2 (.mv (.c (.bool true)))] .ret))
theorem dg147:Dg Tryz.prog 147 Tryz.f147 ic147 [(.t 2)]:=⟨Tryz.func147,by kernel_rfl,by kernel_rfl⟩
theorem c147 (s:B) (hs:s≠[]) (hl:s.length≤2000000:=by omega):FnR Tryz.prog G 147 [.str s] (.bool (begs s)):=by
 refine mF dg147 Tryz.ntmps147 ?_
 simp only[ic147,go_sem]
 with_reducible repeat' (first|refine br ?_ ?_<;>intro h e<;>(try simp only[e,go_sem])<;>clear e|rw[i64w (by omega)]|refine sd ?_<;>try simp only[go_sem]|fail)
 refine loopN (fun i:Nat=>⟨getL [(7,.sl 1 (s.map fun b=>[.int .u8 (b.toNat:Int)])),(8,.int .i64 s.length),(9,.int .i64 (i:Int))],getH []⟩) (fun i=>s.length - i) (fun i=>i≤s.length∧begs s=begK i (s.drop i)) 0 (leQ []) ⟨Nat.zero_le _,by simpa using begs_K s hs⟩ ?_
 intro i ⟨hi,ha⟩
 simp only[go_sem]
 by_cases h:(i:Int)<s.length
 ·simp only[h,go_sem]
  refine effG (by omega) ?_
  have hst:=begK_step (show i<s.length by omega)
  generalize hb:s.getD i default=b at hst ⊢
  obtain⟨_,_,_,_,e5,e6,_,_,_⟩:=u8cmp b
  simp only[go_sem]
  have hT:bego i b=true→begs s=begK (i+1) (s.drop (i+1)):=fun h1=>by rw[ha,hst,h1,Bool.true_and]
  have hF:bego i b=false→begs s=false:=fun h1=>by rw[ha,hst,h1,Bool.false_and]
  try simp only[go_sem,e5,e6]
  with_reducible repeat' (first|refine br ?_ ?_<;>intro h e<;>(try simp only[e,go_sem])<;>clear e|rw[i64w (by omega)]|refine sd ?_<;>try simp only[go_sem]|(first|refine cr (fig48 ..) ?_|refine cr (fig49 ..) ?_)<;>try simp only[go_sem]|fail)
  all_goals first
   | exact hF (by clear hF hT ha hst hb;rw[bego_e];first|(simp only[*,if_false];done)|simp[*])
   | (refine⟨i+1,by omega,⟨by omega,hT (by clear hF hT ha hst hb;rw[bego_e];first|(simp only[*,if_false];done)|simp[*])⟩, ?_⟩;exact(leQ []))
 ·simp only[h,go_sem]
  have:i=s.length:=by omega
  subst this
  simpa[begK] using ha.symm
theorem dig_lt (b:UInt8):decide (dig b<1)=!figB b 49:=by
 have hb:=b.toNat_lt
 have h1:(48:UInt8).toNat=48:=rfl
 have h2:(49:UInt8).toNat=49:=rfl
 have h3:(57:UInt8).toNat=57:=rfl
 simp only[dig,figB,UInt8.le_iff_toNat_le,h1,h2,h3]
 by_cases c1:49≤b.toNat<;>by_cases c2:b.toNat≤57<;>by_cases c3:48≤b.toNat<;>simp[c1,c2,c3]<;>omega
theorem dig_ge (b:UInt8):decide (0≤dig b)=figB b 48:=by
 have hb:=b.toNat_lt
 have h1:(48:UInt8).toNat=48:=rfl
 have h3:(57:UInt8).toNat=57:=rfl
 simp only[dig,figB,UInt8.le_iff_toNat_le,h1,h3]
 by_cases c2:b.toNat≤57<;>by_cases c3:48≤b.toNat<;>simp[c2,c3]
 omega
def ic63:IC:=sR [oP 2 (.mv (.c (.bool false)))] (sR [mV 4 0,oP 5 (.lens (.t 4)),mV 3 5] (.seq (sR [mV 6 3,oP 7 (.call 100 [.t 6,.c (.int .i64 1),.c (.int .i64 5)]),oP 8 (.un .not (.t 7)),mV 9 8,⟨some 10,some (9,false),.mv (.t 0)⟩,⟨some 11,some (9,false),.idx (.t 10) (.c i0)⟩,⟨some 12,some (9,false),.bin .neq (.t 11) (.c (.int .u8 64))⟩,oP 13 (.pick (.t 9) (.c (.bool true)) (.t 12)),mV 14 13,⟨some 15,some (14,false),.mv (.t 3)⟩,⟨some 16,some (14,false),.bin .gtr (.t 15) (.c (.int .i64 1))⟩,⟨some 17,some (14,false),.mv (.t 16)⟩,⟨some 18,some (17,true),.mv (.t 0)⟩,⟨some 19,some (17,true),.idx (.t 18) (.c (.int .i64 1))⟩,⟨some 20,some (17,true),.call 111 [.t 19]⟩,⟨some 21,some (17,true),.bin .lss (.t 20) (.c (.int .i64 1))⟩,⟨some 22,some (14,false),.pick (.t 17) (.t 21) (.c (.bool false))⟩,oP 23 (.pick (.t 14) (.c (.bool true)) (.t 22)),mV 24 23,⟨some 25,some (24,false),.mv (.t 3)⟩,⟨some 26,some (24,false),.bin .gtr (.t 25) (.c (.int .i64 2))⟩,⟨some 27,some (24,false),.mv (.t 26)⟩,⟨some 28,some (27,true),.mv (.t 0)⟩,⟨some 29,some (27,true),.idx (.t 28) (.c (.int .i64 2))⟩,⟨some 30,some (27,true),.bin .neq (.t 29) (.c (.int .u8 58))⟩,⟨some 31,some (24,false),.pick (.t 27) (.t 30) (.c (.bool false))⟩,oP 32 (.pick (.t 24) (.c (.bool true)) (.t 31)),mV 33 32,⟨some 34,some (33,false),.mv (.t 3)⟩,⟨some 35,some (33,false),.bin .gtr (.t 34) (.c (.int .i64 3))⟩,⟨some 36,some (33,false),.mv (.t 35)⟩,⟨some 37,some (36,true),.mv (.t 0)⟩,⟨some 38,some (36,true),.idx (.t 37) (.c (.int .i64 3))⟩,⟨some 39,some (36,true),.call 111 [.t 38]⟩,⟨some 40,some (36,true),.bin .lss (.t 39) (.c (.int .i64 1))⟩,⟨some 41,some (33,false),.pick (.t 36) (.t 40) (.c (.bool false))⟩,oP 42 (.pick (.t 33) (.c (.bool true)) (.t 41))] (.cond (.t 42) (sR [oP 2 (.mv (.c (.bool false)))] .ret) .skip)) (sR [mV 43 3,oP 44 (.bin .lss (.t 43) (.c (.int .i64 5))),mV 45 44,⟨some 46,some (45,false),.mv (.t 0)⟩,⟨some 47,some (45,false),.idx (.t 46) (.c (.int .i64 4))⟩,⟨some 48,some (45,false),.call 111 [.t 47]⟩,⟨some 49,some (45,false),.bin .geq (.t 48) (.c i0)⟩,oP 50 (.pick (.t 45) (.c (.bool true)) (.t 49)),mV 2 50] .ret)))
theorem dg63:Dg Tryz.prog 63 Tryz.f63 ic63 [(.t 2)]:=⟨Tryz.func63,by kernel_rfl,by kernel_rfl⟩
theorem c63 (s:B):FnR Tryz.prog G 63 [.str s] (.bool (begs s)):=by
 refine mF dg63 Tryz.ntmps63 ?_
 simp only[ic63,go_sem]
 refine callR (c100 ..) rfl rfl ?_
 simp only[go_sem]
 have key:within s.length 1 5=true→(1≤s.length∧s.length≤5):=fun h=>by rw[M.within_iff] at h;omega
 cases hw:within s.length 1 5<;>simp only[go_sem]
 ·rcases s with _|⟨a,_|⟨b,_|⟨c,_|⟨d,_|⟨e,_|⟨f,r⟩⟩⟩⟩⟩⟩<;>first|rfl|(exfalso;simp[within] at hw;done)
 ·obtain⟨k1,k2⟩:=key hw
  clear key hw
  have f49:∀x,figB x 49=!decide (dig x<1):=fun x=>by rw[dig_lt,Bool.not_not]
  have f48:∀x,figB x 48=decide (0≤dig x):=fun x=>(dig_ge x).symm
  have f64:∀x:UInt8,decide (x=64)=decide ((x.toNat:Int)=64):=fun x=>(u8cmp x).2.2.2.2.1.symm
  have f58:∀x:UInt8,decide (x=58)=decide ((x.toNat:Int)=58):=fun x=>(u8cmp x).2.2.2.2.2.1.symm
  rcases s with _|⟨a,_|⟨b,_|⟨c,_|⟨d,_|⟨e,_|⟨f,r⟩⟩⟩⟩⟩⟩
  ·simp at k1
  ·simp only[go_sem]
   with_reducible repeat' (first|refine br ?_ ?_<;>intro h e<;>(try simp only[e,go_sem])<;>clear e|rw[i64w (by omega)]|refine sd ?_<;>try simp only[go_sem]|(first|refine cr (c111 ..) ?_)<;>try simp only[go_sem]|fail)
   all_goals first|omega|(simp only[begs,f49,f48,f58,f64];simp_all)
  ·simp only[go_sem]
   with_reducible repeat' (first|refine br ?_ ?_<;>intro h e<;>(try simp only[e,go_sem])<;>clear e|rw[i64w (by omega)]|refine sd ?_<;>try simp only[go_sem]|(first|refine cr (c111 ..) ?_)<;>try simp only[go_sem]|fail)
   all_goals first|omega|(simp only[begs,f49,f48,f58,f64];simp_all)
  ·simp only[go_sem]
   with_reducible repeat' (first|refine br ?_ ?_<;>intro h e<;>(try simp only[e,go_sem])<;>clear e|rw[i64w (by omega)]|refine sd ?_<;>try simp only[go_sem]|(first|refine cr (c111 ..) ?_)<;>try simp only[go_sem]|fail)
   all_goals first|omega|(simp only[begs,f49,f48,f58,f64];simp_all)
  ·simp only[go_sem]
   with_reducible repeat' (first|refine br ?_ ?_<;>intro h e<;>(try simp only[e,go_sem])<;>clear e|rw[i64w (by omega)]|refine sd ?_<;>try simp only[go_sem]|(first|refine cr (c111 ..) ?_)<;>try simp only[go_sem]|fail)
   all_goals first|omega|(simp only[begs,f49,f48,f58,f64];simp_all)
  ·simp only[go_sem]
   with_reducible repeat' (first|refine br ?_ ?_<;>intro h e<;>(try simp only[e,go_sem])<;>clear e|rw[i64w (by omega)]|refine sd ?_<;>try simp only[go_sem]|(first|refine cr (c111 ..) ?_)<;>try simp only[go_sem]|fail)
   all_goals first|omega|(simp only[begs,f49,f48,f58,f64];simp_all)
  ·simp at k2
theorem heldK_step {t:B} {k:Nat} (h:k+1≤t.length):heldK t (k+1)=if begs (t.drop (t.length - (k+1))) then k+1 else heldK t k:=by
 simp[heldK,h]
theorem held_min (t:B):held t=heldK t (min 5 t.length):=by
 have:∀n,heldK t (t.length+n)=heldK t t.length:=fun n=>by
  induction n with
  | zero=>rfl
  | succ n ih=>rw[←Nat.add_assoc,heldK,ih];simp;omega
 by_cases h:5≤t.length
 ·rw[Nat.min_eq_left h];rfl
 ·rw[Nat.min_eq_right (by omega),held]
  have:=this (5 - t.length)
  rwa [show t.length+(5 - t.length)=5 by omega] at this
theorem heldK_le (t:B):∀n,heldK t n≤n∧heldK t n≤t.length
 | 0=>⟨Nat.le_refl _,Nat.zero_le _⟩
 | n+1=>by
   have:=heldK_le t n
   simp only[heldK]
   split
   ·rename_i h;simp at h;omega
   ·omega
theorem held_le (t:B):held t≤5∧held t≤t.length:=heldK_le t 5
def ic113:IC:=sR [oP 2 (.mv (.c i0))] (.seq (sR [mV 4 0,oP 5 (.lens (.t 4)),oP 6 (.mn (.c (.int .i64 5)) (.t 5)),mV 3 6] (.block 0 (.loop (.seq (sR [mV 7 3,oP 8 (.bin .gtr (.t 7) (.c i0))] (.cond (.t 8) .skip (.exit 0))) (.seq (.block 1 (sR [mV 11 0,mV 12 0,oP 13 (.lens (.t 12)),mV 14 3,bN 15 .sub 13 14,oP 16 (.sls (.t 11) (some (.t 15)) none),oP 17 (.call 147 [.t 16])] (.cond (.t 17) (sR [mV 18 3,mV 2 18] .ret) .skip))) (.reg [mV 9 3,oP 10 (.bin .sub (.t 9) (.c (.int .i64 1))),mV 3 10])))))) (sR [oP 2 (.mv (.c i0))] .ret))
theorem dg113:Dg Tryz.prog 113 Tryz.f113 ic113 [(.t 2)]:=⟨Tryz.func113,by kernel_rfl,by kernel_rfl⟩
theorem c113 (t:B) (hl:t.length≤2000000:=by omega):FnR Tryz.prog G 113 [.str t] (.int .i64 (held t)):=by
 refine mF dg113 Tryz.ntmps113 ?_
 simp only[ic113,go_sem]
 refine loopN (fun k:Nat=>⟨getL [(0,.str t),(3,.int .i64 (k:Int))],getH []⟩) (fun k=>k) (fun k=>k≤t.length∧held t=heldK t k) (min 5 t.length) (leQ []) ⟨Nat.min_le_right _ _,held_min t⟩ ?_
 intro k ⟨hk,ha⟩
 simp only[go_sem]
 by_cases h:(0:Int)<k
 ·simp only[eq_true h,go_sem]
  with_reducible repeat' (first|refine br ?_ ?_<;>intro h e<;>(try simp only[e,go_sem])<;>clear e|rw[i64w (by omega)]|refine sd ?_<;>try simp only[go_sem]|fail)
  have e:((t.length:Int) - (k:Int)).toNat=t.length - k:=by omega
  obtain⟨k,rfl⟩:∃m,k=m+1:=⟨k - 1,by omega⟩
  simp only[e,go_sem,List.take_length]
  have hst:=heldK_step hk
  refine callR (c147 _ (by intro h;have:=congrArg List.length h;simp at this;omega) (by simp;omega)) rfl rfl ?_
  simp only[go_sem]
  with_reducible repeat' (first|refine br ?_ ?_<;>intro h e<;>(try simp only[e,go_sem])<;>clear e|rw[i64w (by omega)]|refine sd ?_<;>try simp only[go_sem]|fail)
  ·rw[ha,hst,if_pos h]
  ·refine⟨k,by omega,⟨by omega,by rw[ha,hst,h];rfl⟩,(leQ [])⟩
 ·simp only[eq_false h,go_sem]
  have:k=0:=by omega
  subst this
  rw[ha];rfl
def ic38:IC:=sR [oP 2 (.mv (.c i0))] (.seq (sR [mV 4 0,oP 5 (.lens (.t 4)),oP 6 (.mn (.c (.int .i64 5)) (.t 5)),mV 3 6] (.block 0 (.loop (.seq (sR [mV 7 3,oP 8 (.bin .gtr (.t 7) (.c i0))] (.cond (.t 8) .skip (.exit 0))) (.seq (.block 1 (sR [mV 11 0,mV 12 0,oP 13 (.lens (.t 12)),mV 14 3,bN 15 .sub 13 14,oP 16 (.sls (.t 11) (some (.t 15)) none),oP 17 (.call 63 [.t 16])] (.cond (.t 17) (sR [mV 18 3,mV 2 18] .ret) .skip))) (.reg [mV 9 3,oP 10 (.bin .sub (.t 9) (.c (.int .i64 1))),mV 3 10])))))) (sR [oP 2 (.mv (.c i0))] .ret))
theorem dg38:Dg Tryz.prog 38 Tryz.f38 ic38 [(.t 2)]:=⟨Tryz.func38,by kernel_rfl,by kernel_rfl⟩
theorem c38 (t:B) (hl:t.length≤2000000:=by omega):FnR Tryz.prog G 38 [.str t] (.int .i64 (held t)):=by
 refine mF dg38 Tryz.ntmps38 ?_
 simp only[ic38,go_sem]
 refine loopN (fun k:Nat=>⟨getL [(0,.str t),(3,.int .i64 (k:Int))],getH []⟩) (fun k=>k) (fun k=>k≤t.length∧held t=heldK t k) (min 5 t.length) (leQ []) ⟨Nat.min_le_right _ _,held_min t⟩ ?_
 intro k ⟨hk,ha⟩
 simp only[go_sem]
 by_cases h:(0:Int)<k
 ·simp only[eq_true h,go_sem]
  with_reducible repeat' (first|refine br ?_ ?_<;>intro h e<;>(try simp only[e,go_sem])<;>clear e|rw[i64w (by omega)]|refine sd ?_<;>try simp only[go_sem]|fail)
  have e:((t.length:Int) - (k:Int)).toNat=t.length - k:=by omega
  obtain⟨k,rfl⟩:∃m,k=m+1:=⟨k - 1,by omega⟩
  simp only[e,go_sem,List.take_length]
  have hst:=heldK_step hk
  with_reducible repeat' (first|refine br ?_ ?_<;>intro h e<;>(try simp only[e,go_sem])<;>clear e|rw[i64w (by omega)]|refine sd ?_<;>try simp only[go_sem]|(first|refine cr (c63 ..) ?_)<;>try simp only[go_sem]|fail)
  ·rw[ha,hst,if_pos h]
  ·refine⟨k,by omega,⟨by omega,by rw[ha,hst,h];rfl⟩,(leQ [])⟩
 ·simp only[eq_false h,go_sem]
  have:k=0:=by omega
  subst this
  rw[ha];rfl
theorem any_rng {a p:Int} (h:E.any ⟨a,p⟩=true):(0≤a∧a<100)∧(0≤p∧p<100):=by
 obtain⟨h1,h2,_⟩:=ends_ok _ (E.any_iff.1 h)
 exact⟨h1,h2⟩
theorem text_le {e:E}:e.text.length≤4:=by
 by_cases h:e.any=true
 ·rw[text_len h];split<;>omega
 ·simp[E.text,h]
def ic37:IC:=sR [oP 1 (.box 45 (.t 0)),oP 2 (.mv (.c s0))] (.seq (sR [lA 3 2 1,oP 4 (.call 62 [.t 3]),oP 5 (.un .not (.t 4))] (.cond (.t 5) (sR [oP 2 (.mv (.c s0))] .ret) .skip)) (.seq (.drw [0,1,3,7,0,16,55,127,255] [(0,fD 6 0 1),(1,lD 7 1 6),(2,oP 8 (.call 34 [.t 7])),(3,oP 9 (.bin .add (.t 8) (.c (.str [58])))),(4,fD 10 1 1),(5,lD 11 1 10),(6,oP 12 (.call 34 [.t 11])),(7,bN 13 .add 9 12),(8,mV 2 13)]) .ret))
theorem dg37:Dg Tryz.prog 37 Tryz.f37 ic37 [(.t 2)]:=⟨Tryz.func37,by kernel_rfl,by kernel_rfl⟩
theorem c37 (a p:Int):FnR Tryz.prog G 37 [.agg [.int .i64 a,.int .i64 p]] (.str (E.text ⟨a,p⟩)):=by
 refine mF dg37 Tryz.ntmps37 ?_
 simp only[ic37,go_sem]
 refine callR (c62 ..) rfl rfl ?_
 have d1:=dec_len a
 have d2:=dec_len p
 cases h:E.any ⟨a,p⟩<;>simp only[go_sem]
 ·simp[E.text,h]
 ·obtain⟨h1,h2⟩:=any_rng h
  repeat' (first
   | (with_reducible refine chkI ?_ ?_;· kernel_rfl;try simp only[go_sem])
   | (with_reducible refine pureG (by simp;omega) ?_;try simp only[go_sem])
   | (refine callR (c34 _ (by omega)) rfl rfl ?_;try simp only[go_sem]))
  simp[E.text,h]
def ic50:IC:=sR [oP 1 (.box 45 (.t 0)),oP 2 (.mv (.c s0))] (.seq (sR [lA 3 2 1,oP 4 (.call 91 [.t 3]),oP 5 (.un .not (.t 4))] (.cond (.t 5) (sR [oP 2 (.mv (.c s0))] .ret) .skip)) (.seq (.drw [0,1,3,7,0,16,55,127,255] [(0,fD 6 0 1),(1,lD 7 1 6),(2,oP 8 (.call 27 [.t 7])),(3,oP 9 (.bin .add (.t 8) (.c (.str [58])))),(4,fD 10 1 1),(5,lD 11 1 10),(6,oP 12 (.call 27 [.t 11])),(7,bN 13 .add 9 12),(8,mV 2 13)]) .ret))
theorem dg50:Dg Tryz.prog 50 Tryz.f50 ic50 [(.t 2)]:=⟨Tryz.func50,by kernel_rfl,by kernel_rfl⟩
theorem c50 (a p:Int):FnR Tryz.prog G 50 [.agg [.int .i64 a,.int .i64 p]] (.str (E.text ⟨a,p⟩)):=by
 refine mF dg50 Tryz.ntmps50 ?_
 simp only[ic50,go_sem]
 refine callR (c91 ..) rfl rfl ?_
 have d1:=dec_len a
 have d2:=dec_len p
 cases h:E.any ⟨a,p⟩<;>simp only[go_sem]
 ·simp[E.text,h]
 ·obtain⟨h1,h2⟩:=any_rng h
  repeat' (first
   | (with_reducible refine chkI ?_ ?_;· kernel_rfl;try simp only[go_sem])
   | (with_reducible refine pureG (by simp;omega) ?_;try simp only[go_sem])
   | (refine callR (c27 _ (by omega)) rfl rfl ?_;try simp only[go_sem]))
  simp[E.text,h]
def ic196:IC:=sR [oP 1 (.box 45 (.t 0)),oP 2 (.mv (.c s0))] (sR [lA 3 2 1,oP 4 (.call 50 [.t 3]),oP 5 (.bin .add (.c (.str [64])) (.t 4)),oP 6 (.bin .add (.t 5) (.c (.str [59]))),mV 2 6] .ret)
theorem dg196:Dg Tryz.prog 196 Tryz.f196 ic196 [(.t 2)]:=⟨Tryz.func196,by kernel_rfl,by kernel_rfl⟩
theorem c196 (a p:Int):FnR Tryz.prog G 196 [.agg [.int .i64 a,.int .i64 p]] (.str (name ⟨a,p⟩)):=by
 refine mF dg196 Tryz.ntmps196 ?_
 simp only[ic196,go_sem]
 have d:=text_le (e:=⟨a,p⟩)
 refine callR (c50 ..) rfl rfl ?_
 simp only[go_sem]
 repeat' (with_reducible refine pureG (by simp;omega) ?_;try simp only[go_sem])
 simp[name]
theorem endRead_eq {t:B} {a p:Int} (h:E.text ⟨a,p⟩=t) (h1:E.any ⟨a,p⟩=true):endRead t=some ⟨a,p⟩:=by rw[←h];exact endRead_text h1
def portAt (t:B) (i:Nat):Int:=if i≤2 then 0 else if i=3 then dig (t.getD 2 0) else 10*dig (t.getD 2 0)+dig (t.getD 3 0)
theorem ends_dig:∀e∈ends,dig (e.text.getD 0 0)=e.a∧portAt e.text e.text.length=e.p:=by decide
theorem dig_rng (b:UInt8) : -1≤dig b∧dig b≤9:=by
 unfold dig figB
 split
 ·rename_i h
  simp only[UInt8.le_iff_toNat_le,Bool.and_eq_true,decide_eq_true_eq] at h
  have h1:(48:UInt8).toNat=48:=rfl
  have h3:(57:UInt8).toNat=57:=rfl
  omega
 ·omega
def ic101:IC:=sR [oP 2 (.alloc 45 [i0,i0]),oP 3 (.mv (.c (.bool false)))] (sR [mV 7 0,oP 8 (.lens (.t 7)),mV 4 8] (.seq (sR [mV 9 4,oP 10 (.call 100 [.t 9,.c (.int .i64 3),.c (.int .i64 4)]),oP 11 (.un .not (.t 10))] (.cond (.t 11) (sR [oP 12 (.build [i0,i0] []),nP (.sto 2 (.t 2) (.t 12)),oP 3 (.mv (.c (.bool false)))] .ret) .skip)) (sR [mV 13 0,oP 14 (.idx (.t 13) (.c i0)),oP 15 (.call 111 [.t 14]),oP 16 (.build [i0,i0] [(0,(1,.t 15))]),oP 5 (.alloc 45 [i0,i0]),nP (.sto 2 (.t 5) (.t 16))] (.seq (sR [oP 6 (.mv (.c (.int .i64 2)))] (.block 0 (.loop (.seq (sR [mV 17 6,mV 18 4,bN 19 .lss 17 18] (.cond (.t 19) .skip (.exit 0))) (.seq (.block 1 (.drw [0,1,3,0,0,24,56,127,255,511] [(0,fD 22 1 5),(1,lD 23 1 22),(2,oP 24 (.bin .mul (.c (.int .i64 10)) (.t 23))),(3,mV 25 0),(4,mV 26 6),(5,oP 27 (.idx (.t 25) (.t 26))),(6,oP 28 (.call 111 [.t 27])),(7,bN 29 .add 24 28),(8,fD 30 1 5),(9,nP (.sto 1 (.t 30) (.t 29)))])) (.reg [mV 20 6,oP 21 (.bin .add (.t 20) (.c (.int .i64 1))),mV 6 21])))))) (.seq (sR [lA 31 2 5,oP 32 (.call 37 [.t 31]),mV 33 0,bN 34 .neq 32 33] (.cond (.t 34) (sR [oP 35 (.build [i0,i0] []),nP (.sto 2 (.t 2) (.t 35)),oP 3 (.mv (.c (.bool false)))] .ret) .skip)) (sR [lA 36 2 5,nP (.sto 2 (.t 2) (.t 36)),oP 3 (.mv (.c (.bool true)))] .ret))))))
theorem dg101:Dg Tryz.prog 101 Tryz.f101 ic101 [(.cell 2 2 true),(.t 3)]:=⟨Tryz.func101,by kernel_rfl,by kernel_rfl⟩
theorem c101 (t:B) (hl:t.length≤2000000:=by omega):FnR Tryz.prog G 101 [.str t] (rdV (endRead t)):=by
 refine mF dg101 Tryz.ntmps101 ?_
 have hlen:∀e,endRead t=some e→3≤t.length∧t.length≤4:=fun e he=>by
  obtain⟨h1,h2⟩:=endRead_some he
  have:=text_len h1
  rw[h2] at this
  split at this<;>omega
 simp only[ic101,go_sem]
 refine callR (c100 ..) rfl rfl ?_
 simp only[go_sem]
 cases hw:within t.length 3 4<;>simp only[go_sem]
 ·have:endRead t=none:=by
   cases h:endRead t with
   | none=>rfl
   | some e =>
     have:=hlen e h
     have:within t.length 3 4=true:=M.within_iff.2 (by omega)
     rw[hw] at this;cases this
  simp[this,rdV,go_sem,E.zero]
 ·rw[M.within_iff] at hw
  with_reducible repeat' (first|refine br ?_ ?_<;>intro h e<;>(try simp only[e,go_sem])<;>clear e|rw[i64w (by omega)]|refine sd ?_<;>try simp only[go_sem]|(first|refine cr (c111 ..) ?_)<;>try simp only[go_sem]|fail)
  refine loopN (fun i:Nat=>⟨getL [(0,.str t),(2,.pv 1002 0),(4,.int .i64 t.length),(5,.pv 1005 0),(6,.int .i64 (i:Int))],getH [(1002,.var 45 [.int .i64 0,.int .i64 0]),(1005,.var 45 [.int .i64 (dig (t.getD 0 0)),.int .i64 (portAt t i)])]⟩) (fun i=>t.length - i) (fun i=>2≤i∧i≤t.length) 2 (leQ []) ⟨by omega,by omega⟩ ?_
  intro i ⟨hi,hil⟩
  simp only[go_sem]
  have dr:=dig_rng (t.getD i 0)
  have dr2:=dig_rng (t.getD 2 0)
  have pi:i<t.length → -10≤portAt t i∧portAt t i≤9∧portAt t (i+1)=10*portAt t i+dig (t.getD i 0):=fun h=>by
   have:i=2∨i=3:=by omega
   rcases this with rfl|rfl<;>simp[portAt] at dr dr2 ⊢<;>omega
  by_cases h:(i:Int)<t.length
  ·simp only[eq_true h,go_sem]
   obtain⟨p1,p2,p3⟩:=pi (by omega)
   with_reducible repeat' (first|refine br ?_ ?_<;>intro h e<;>(try simp only[e,go_sem])<;>clear e|rw[i64w (by omega)]|refine sd ?_<;>try simp only[go_sem]|(first|refine cr (c111 ..) ?_)<;>try simp only[go_sem]|fail)
   refine⟨i+1,by omega,⟨by omega,by omega⟩,(leQ [])⟩
  ·simp only[eq_false h,go_sem]
   have:i=t.length:=by omega
   subst this
   refine callR (c37 ..) rfl rfl ?_
   simp only[go_sem]
   with_reducible repeat' (first|refine br ?_ ?_<;>intro h e<;>(try simp only[e,go_sem])<;>clear e|rw[i64w (by omega)]|refine sd ?_<;>try simp only[go_sem]|fail)
   ·have ha:E.any ⟨dig (t.getD 0 0),portAt t t.length⟩=true:=by
     cases hc:E.any ⟨dig (t.getD 0 0),portAt t t.length⟩ with
     | true=>rfl
     | false =>
       exfalso
       simp only[E.text,hc] at h
       rw[←h] at hw
       simp at hw
    simp[endRead_eq h ha,rdV,go_sem]
   ·have hn:endRead t=none:=by
     cases hr:endRead t with
     | none=>rfl
     | some e =>
       exfalso
       obtain⟨e1,e2⟩:=endRead_some hr
       obtain⟨d1,d2⟩:=ends_dig e (E.any_iff.1 e1)
       rw[e2] at d1 d2
       rw[d1,d2] at h
       exact h e2
    simp[hn,rdV,go_sem,E.zero]
def ic86:IC:=sR [oP 2 (.alloc 45 [i0,i0]),oP 3 (.mv (.c (.bool false)))] (sR [mV 13 0,oP 14 (.call 24 [.t 13,.c (.str [58])]),mV 12 14,eX 15 12 0,eX 16 12 1,eX 17 12 2,mV 4 15,mV 5 16,mV 6 17] (sR [mV 19 4,oP 20 (.call 87 [.t 19]),mV 18 20,eX 21 18 0,eX 22 18 1,mV 7 21,mV 8 22] (sR [mV 24 5,oP 25 (.call 87 [.t 24]),mV 23 25,eX 26 23 0,eX 27 23 1,mV 9 26,mV 10 27] (sR [mV 28 7,mV 29 9,oP 30 (.build [i0,i0] [(0,(1,.t 28)),(1,(1,.t 29))]),oP 11 (.alloc 45 [i0,i0]),nP (.sto 2 (.t 11) (.t 30))] (.seq (sR [mV 31 8,oP 32 (.isn true (.t 31)),mV 33 32,⟨some 34,some (33,false),.mv (.t 10)⟩,⟨some 35,some (33,false),.isn true (.t 34)⟩,oP 36 (.pick (.t 33) (.c (.bool true)) (.t 35)),mV 37 36,⟨some 38,some (37,false),.ld 2 true (.t 11)⟩,⟨some 39,some (37,false),.call 91 [.t 38]⟩,⟨some 40,some (37,false),.un .not (.t 39)⟩,oP 41 (.pick (.t 37) (.c (.bool true)) (.t 40)),mV 42 41,⟨some 43,some (42,false),.ld 2 true (.t 11)⟩,⟨some 44,some (42,false),.call 50 [.t 43]⟩,⟨some 45,some (42,false),.mv (.t 0)⟩,⟨some 46,some (42,false),.bin .neq (.t 44) (.t 45)⟩,oP 47 (.pick (.t 42) (.c (.bool true)) (.t 46))] (.cond (.t 47) (sR [oP 48 (.build [i0,i0] []),nP (.sto 2 (.t 2) (.t 48)),oP 3 (.mv (.c (.bool false)))] .ret) .skip)) (sR [lA 49 2 11,nP (.sto 2 (.t 2) (.t 49)),oP 3 (.mv (.c (.bool true)))] .ret))))))
theorem dg86:Dg Tryz.prog 86 Tryz.f86 ic86 [(.cell 2 2 true),(.t 3)]:=⟨Tryz.func86,by kernel_rfl,by kernel_rfl⟩
theorem c86 (t:B) (hl:t.length≤2000000:=by omega):FnR Tryz.prog G 86 [.str t] (rdV (endRead t)):=by
 refine mF dg86 Tryz.ntmps86 ?_
 simp only[ic86,go_sem]
 refine callR (c24 t 58) rfl rfl ?_
 simp only[go_sem]
 have hcl:(cutB t 58).1.length≤2000000∧(cutB t 58).2.1.length≤2000000:=by
  have:=cutB_len t 58
  omega
 have hr:∀e,endRead t=some e→(cutB t 58).1=dec e.a∧(cutB t 58).2.1=dec e.p∧(0≤e.a∧e.a<100)∧(0≤e.p∧e.p<100):=fun e he=>by
  obtain⟨h1,h2,h3⟩:=endRead_cut he
  rw[h1];exact⟨rfl,rfl,h2,h3⟩
 refine callV0 (c87 _ (by omega)) rfl (fun r o hp=>⟨by rcases hp.2 with⟨n,rfl,_⟩|⟨n,rfl,_⟩<;>rfl,hp.1⟩) (fun r1 hp1=>?_)
 rcases hp1.2 with⟨n1,rfl,hn1⟩|⟨n1,rfl,hn1⟩<;>simp only[go_sem] <;>
  (refine callV0 (c87 _ (by omega)) rfl (fun r o hp=>⟨by rcases hp.2 with⟨n,rfl,_⟩|⟨n,rfl,_⟩<;>rfl,hp.1⟩) (fun r2 hp2=>?_)
   rcases hp2.2 with⟨n2,rfl,hn2⟩|⟨n2,rfl,hn2⟩<;>simp only[go_sem])
 ·have hx:∀e,endRead t=some e→n1=e.a∧n2=e.p:=fun e he=>by
   obtain⟨a1,a2,a3,a4⟩:=hr e he
   exact⟨hn1 _ a3.1 a3.2 a1,hn2 _ a4.1 a4.2 a2⟩
  with_reducible repeat' (first|refine br ?_ ?_<;>intro h e<;>(try simp only[e,go_sem])<;>clear e|rw[i64w (by omega)]|refine sd ?_<;>try simp only[go_sem]|(first|refine cr (c91 ..) ?_|refine cr (c50 ..) ?_)<;>try simp only[go_sem]|fail)
  ·have hn:endRead t=none:=by
    cases hr2:endRead t with
    | none=>rfl
    | some e =>
      exfalso
      obtain⟨rfl,rfl⟩:=hx e hr2
      rw[(endRead_some hr2).1] at h
      cases h
   simp[hn,rdV,go_sem,E.zero]
  ·rename_i ha
   simp[endRead_eq h (by simpa using ha),rdV,go_sem]
  ·have hn:endRead t=none:=by
    cases hr2:endRead t with
    | none=>rfl
    | some e =>
      exfalso
      obtain⟨rfl,rfl⟩:=hx e hr2
      exact h (endRead_some hr2).2
   simp[hn,rdV,go_sem,E.zero]
 all_goals
  have hn:endRead t=none:=by
   cases hr2:endRead t with
   | none=>rfl
   | some e =>
     exfalso
     obtain⟨a1,a2,a3,a4⟩:=hr e hr2
     first|exact hn1 _ a3.1 a3.2 a1|exact hn2 _ a4.1 a4.2 a2
  simp[hn,rdV,go_sem,E.zero]
def ic207:IC:=sR [oP 2 (.alloc 45 [i0,i0]),oP 3 (.mv (.c i0))] (.seq (sR [oP 4 (.mv (.c (.int .i64 5)))] (.block 0 (.loop (.seq (sR [mV 7 4,oP 8 (.bin .leq (.t 7) (.c (.int .i64 6))),mV 9 8,⟨some 10,some (9,true),.mv (.t 4)⟩,⟨some 11,some (9,true),.mv (.t 0)⟩,⟨some 12,some (9,true),.lens (.t 11)⟩,⟨some 13,some (9,true),.bin .leq (.t 10) (.t 12)⟩,oP 14 (.pick (.t 9) (.t 13) (.c (.bool false)))] (.cond (.t 14) .skip (.exit 0))) (.seq (.block 1 (sR [mV 17 0,oP 18 (.idx (.t 17) (.c i0)),oP 19 (.bin .eql (.t 18) (.c (.int .u8 64))),mV 20 19,⟨some 21,some (20,true),.mv (.t 0)⟩,⟨some 22,some (20,true),.mv (.t 4)⟩,⟨some 23,some (20,true),.bin .sub (.t 22) (.c (.int .i64 1))⟩,⟨some 24,some (20,true),.idx (.t 21) (.t 23)⟩,⟨some 25,some (20,true),.bin .eql (.t 24) (.c (.int .u8 59))⟩,oP 26 (.pick (.t 20) (.t 25) (.c (.bool false)))] (.cond (.t 26) (sR [mV 28 0,mV 29 4,oP 30 (.bin .sub (.t 29) (.c (.int .i64 1))),oP 31 (.sls (.t 28) (some (.c (.int .i64 1))) (some (.t 30))),oP 32 (.call 101 [.t 31]),mV 27 32,eX 33 27 0,eX 34 27 1,oP 5 (.alloc 45 [i0,i0]),nP (.sto 2 (.t 5) (.t 33)),mV 6 34] (sR [mV 35 6] (.cond (.t 35) (sR [lA 36 2 5,mV 37 4,nP (.sto 2 (.t 2) (.t 36)),mV 3 37] .ret) .skip))) .skip))) (.reg [mV 15 4,oP 16 (.bin .add (.t 15) (.c (.int .i64 1))),mV 4 16])))))) (sR [oP 38 (.build [i0,i0] []),nP (.sto 2 (.t 2) (.t 38)),oP 3 (.mv (.c i0))] .ret))
theorem dg207:Dg Tryz.prog 207 Tryz.f207 ic207 [(.cell 2 2 true),(.t 3)]:=⟨Tryz.func207,by kernel_rfl,by kernel_rfl⟩
theorem nameAt_5 {s:B} {e:E} (h:nameAt s=some e):∃k,(k=3∨k=4)∧e.text.length=k∧s.getD 0 0=64∧s.getD (k+1) 0=59∧(s.take (k+1)).drop 1=e.text∧k+2≤s.length:=by
 obtain⟨h1,r,rfl⟩:=nameAt_some h
 have hl:=text_len h1
 refine⟨e.text.length,by rw[hl];split<;>simp,rfl,by simp[name], ?_, ?_, ?_⟩
 ·simp[name,List.getD]
 ·simp[name]
 ·simp[name]
theorem nameAt_of {s:B} {e:E} {k:Nat} (h0:s.getD 0 0=64) (h1:s.getD (k+1) 0=59) (h2:endRead ((s.take (k+1)).drop 1)=some e) (hl:k+2≤s.length):nameAt s=some e:=by
 obtain⟨c,r,rfl⟩:∃c r,s=c::r:=by cases s with|nil=>simp at hl|cons c r=>exact⟨c,r,rfl⟩
 obtain⟨a1,a2⟩:=endRead_some h2
 simp only[List.getD_cons_zero] at h0
 subst h0
 simp only[List.getD_cons_succ,zC,List.take_succ_cons,List.drop_succ_cons,List.drop_zero] at h1 h2 hl a2
 have:(64::r:B)=name e++r.drop (k+1):=by
  simp only[name,a2,List.cons_append,List.cons.injEq,true_and,List.append_assoc]
  have hk:r[k]?=some 59:=by
   have:k<r.length:=by omega
   simp[List.getD,this] at h1 ⊢
   exact h1
  conv=>lhs;rw[←List.take_append_drop k r]
  congr 1
  rw[List.drop_eq_getElem_cons (show k<r.length by omega)]
  simp[zE (show k<r.length by omega)] at hk
  simp[hk]
 rw[this]
 exact nameAt_name a1 _
theorem c207 (s:B) (hs:s≠[]) (hl:s.length≤2000000:=by omega):FnR Tryz.prog G 207 [.str s] (.tup [.agg [.int .i64 ((nameAt s).getD .zero).a,.int .i64 ((nameAt s).getD .zero).p],.int .i64 (match nameAt s with|some e=>(name e).length|none=>0)]):=by
 refine mF dg207 Tryz.ntmps207 ?_
 simp only[ic207,go_sem]
 have hp:1≤s.length:=List.length_pos_iff.2 hs
 refine loopN (fun i:Nat=>⟨getL [(0,.str s),(2,.pv 1002 0),(4,.int .i64 (i:Int))],getH [(1002,.var 45 [.int .i64 0,.int .i64 0])]⟩) (fun i=>7 - i) (fun i=>5≤i∧i≤7∧∀e,nameAt s=some e→i≤e.text.length+2) 5 (leQ []) ⟨by omega,by omega,fun e he=>by obtain⟨k,h1,h2,_⟩:=nameAt_5 he;omega⟩ ?_
 intro i ⟨h5,h7,hn⟩
 simp only[go_sem]
 obtain⟨k,rfl⟩:∃k,i=k+2:=⟨i - 2,by omega⟩
 have e2:(((k+2:Nat):Int) - 1).toNat=k+1:=by omega
 with_reducible repeat' (first|refine br ?_ ?_<;>intro h e<;>(try simp only[e,go_sem])<;>clear e|rw[i64w (by omega)]|refine sd ?_<;>try simp only[go_sem]|fail)
 ·rename_i g0
  simp only[e2] at *
  refine callR (c101 _ (by simp;omega)) rfl rfl ?_
  simp only[go_sem]
  have g1:s.getD 0 0=64:=UInt8.toNat_inj.1 (Int.ofNat_inj.1 g0)
  have g2:s.getD (k+1) 0=59:=UInt8.toNat_inj.1 (Int.ofNat_inj.1 h)
  have hk:k+2≤s.length:=by omega
  cases hr:endRead ((s.take (k+1)).drop 1) with
  | some e =>
    have he:=nameAt_of g1 g2 hr hk
    obtain⟨a1,a2⟩:=endRead_some hr
    simp only[go_sem,Option.isSome_some,he,Option.getD_some]
    have:(name e).length=k+2:=by rw[name];simp[a2];omega
    simp[this]
  | none =>
    simp only[go_sem,Option.isSome_none]
    with_reducible repeat' (first|refine br ?_ ?_<;>intro h e<;>(try simp only[e,go_sem])<;>clear e|rw[i64w (by omega)]|refine sd ?_<;>try simp only[go_sem]|fail)
    refine⟨k+3,by omega,⟨by omega,by omega,fun e he=>?_⟩,(leQ [])⟩
    obtain⟨k',b1,b2,b3,b4,b5,b6⟩:=nameAt_5 he
    have:=hn e he
    rcases Nat.lt_or_ge k k' with h|h
    ·omega
    ·exfalso
     have:k'=k:=by omega
     subst this
     rw[b5,endRead_text (nameAt_some he).1] at hr
     cases hr
 ·refine⟨k+3,by omega,⟨by omega,by omega,fun e he=>?_⟩,(leQ [])⟩
  obtain⟨k',b1,b2,b3,b4,b5,b6⟩:=nameAt_5 he
  have:=hn e he
  rcases Nat.lt_or_ge k k' with h|h
  ·omega
  ·exfalso
   have:k'=k:=by omega
   subst this
   rename_i hq
   rw[e2,b4] at hq
   exact absurd rfl hq
 ·refine⟨k+3,by omega,⟨by omega,by omega,fun e he=>?_⟩,(leQ [])⟩
  obtain⟨k',b1,b2,b3,b4,b5,b6⟩:=nameAt_5 he
  rw[b3] at h
  exact absurd rfl h
 ·have:nameAt s=none:=by
   cases hq:nameAt s with
   | none=>rfl
   | some e =>
     obtain⟨k',b1,b2,b3,b4,b5,b6⟩:=nameAt_5 hq
     have:=hn e hq
     omega
  simp[this,E.zero]
 ·have:nameAt s=none:=by
   cases hq:nameAt s with
   | none=>rfl
   | some e =>
     obtain⟨k',b1,b2,b3,b4,b5,b6⟩:=nameAt_5 hq
     have:=hn e hq
     omega
  simp[this,E.zero]
def ic195:IC:=sR [oP 2 (.alloc 45 [i0,i0]),oP 3 (.mv (.c (.bool false)))] (sR [mV 10 0,oP 11 (.call 24 [.t 10,.c (.str [59])]),mV 9 11,eX 12 9 0,eX 13 9 1,eX 14 9 2,mV 4 12,mV 5 13,mV 6 14] (sR [mV 16 4,oP 17 (.call 86 [.t 16]),mV 15 17,eX 18 15 0,eX 19 15 1,oP 7 (.alloc 45 [i0,i0]),nP (.sto 2 (.t 7) (.t 18)),mV 8 19] (sR [lA 20 2 7,mV 21 6,mV 22 21,⟨some 23,some (22,true),.mv (.t 8)⟩,oP 24 (.pick (.t 22) (.t 23) (.c (.bool false))),nP (.sto 2 (.t 2) (.t 20)),mV 3 24] .ret)))
theorem dg195:Dg Tryz.prog 195 Tryz.f195 ic195 [(.cell 2 2 true),(.t 3)]:=⟨Tryz.func195,by kernel_rfl,by kernel_rfl⟩
def rdN (s:B):Option E:=if 59∈s then endRead (s.takeWhile fun b=>decide (b≠59)) else none
theorem c195 (s:B) (hl:s.length≤2000000:=by omega):FnR Tryz.prog G 195 [.str s] (.tup [.agg [.int .i64 ((endRead (cutB s 59).1).getD .zero).a,.int .i64 ((endRead (cutB s 59).1).getD .zero).p],.bool (rdN s).isSome]):=by
 refine mF dg195 Tryz.ntmps195 ?_
 simp only[ic195,go_sem]
 refine callR (c24 s 59) rfl rfl ?_
 simp only[go_sem]
 have:=cutB_len s 59
 refine callR (c86 (cutB s 59).1 (by omega)) rfl rfl ?_
 simp only[go_sem]
 with_reducible repeat' (first|refine br ?_ ?_<;>intro h e<;>(try simp only[e,go_sem])<;>clear e|rw[i64w (by omega)]|refine sd ?_<;>try simp only[go_sem]|fail)
 all_goals(simp only[cutB] at *;split at h<;>rename_i hm<;>simp_all[rdN])
def ic177:IC:=sR [oP 2 (.alloc 128 [i0,.bool false,i0,i0])] (.seq (sR [mV 8 0,oP 9 (.call 194 [.t 8,.c (.str [64])]),mV 7 9,eX 10 7 0,eX 11 7 1,mV 3 10,mV 4 11] (sR [mV 12 4] (.cond (.t 12) (sR [mV 14 3,oP 15 (.call 195 [.t 14]),mV 13 15,eX 16 13 0,eX 17 13 1,oP 5 (.alloc 45 [i0,i0]),nP (.sto 2 (.t 5) (.t 16)),mV 6 17] (sR [mV 18 6] (.cond (.t 18) (.seq (.drw [0,1,3,0,15,31] [(0,lA 19 2 5),(1,oP 20 (.call 196 [.t 19])),(2,oP 21 (.lens (.t 20))),(3,lA 22 2 5),(4,oP 23 (.build [i0,.bool false,i0,i0] [(0,(1,.t 21)),(1,(1,.c (.bool true))),(2,(2,.t 22))])),(5,nP (.sto 4 (.t 2) (.t 23)))]) .ret) .skip))) .skip))) (sR [oP 24 (.build [i0,.bool false,i0,i0] [(0,(1,.c (.int .i64 1)))]),nP (.sto 4 (.t 2) (.t 24))] .ret))
theorem dg177:Dg Tryz.prog 177 Tryz.f177 ic177 [(.cell 2 4 true)]:=⟨Tryz.func177,by kernel_rfl,by kernel_rfl⟩
theorem c177 (s:B) (hs:s≠[]) (hl:s.length≤2000000:=by omega):FnR Tryz.prog G 177 [.str s] (.agg [.int .i64 (pc1 s).size,.bool (pc1 s).named,.int .i64 (pc1 s).e.a,.int .i64 (pc1 s).e.p]):=by
 refine mF dg177 Tryz.ntmps177 ?_
 simp only[ic177,go_sem]
 obtain⟨c,r,rfl⟩:∃c r,s=c::r:=by cases s with|nil=>exact absurd rfl hs|cons c r=>exact⟨c,r,rfl⟩
 refine callR (c194 _ _) rfl rfl ?_
 simp only[go_sem]
 simp only[zC] at hl
 have key:nameAt (c::r)=if c=64 then rdN r else none:=by
  simp only[nameAt,rdN]
  by_cases hc:c=64<;>by_cases h59:59∈r<;>simp[hc,h59]
 by_cases hc:c=64
 ·subst hc
  have e1:List.isPrefixOf [64] (64::r:B)=true:=by simp[List.isPrefixOf]
  simp only[e1,go_sem]
  refine callR (c195 r) rfl rfl ?_
  simp only[go_sem]
  rw[if_pos rfl] at key
  cases hn:rdN r with
  | some e =>
    rw[hn] at key
    have h59:59∈r:=by
     by_cases h:59∈r
     ·exact h
     ·simp[rdN,h] at hn
    have he:endRead (cutB r 59).1=some e:=by
     simp only[rdN,if_pos h59] at hn
     simp only[cutB,if_pos h59];exact hn
    simp only[go_sem,Option.isSome_some,he,Option.getD_some]
    with_reducible repeat' (first|refine br ?_ ?_<;>intro h e<;>(try simp only[e,go_sem])<;>clear e|rw[i64w (by omega)]|refine sd ?_<;>try simp only[go_sem]|(first|refine cr (c196 ..) ?_)<;>try simp only[go_sem]|fail)
    simp[pc1,key]
  | none =>
    rw[hn] at key
    simp only[go_sem,Option.isSome_none]
    simp[pc1,key,E.zero]
 ·have e1:List.isPrefixOf [64] (c::r:B)=false:=by simp[List.isPrefixOf];exact fun h=>hc h.symm
  rw[if_neg hc] at key
  simp only[e1,go_sem]
  simp[pc1,key,E.zero]
def ic148:IC:=sR [oP 2 (.mv (.c .nils))] (sR [oP 6 (.bsl 128 4 []),mV 3 6] (.seq (sR [mV 7 0,mV 8 0,oP 9 (.lens (.t 8)),mV 10 0,oP 11 (.call 113 [.t 10]),bN 12 .sub 9 11,oP 13 (.sls (.t 7) none (some (.t 12))),mV 4 13] (.block 0 (.loop (.seq (sR [mV 14 4,oP 15 (.bin .neq (.t 14) (.c s0))] (.cond (.t 15) .skip (.exit 0))) (.block 1 (sR [mV 16 4,oP 17 (.call 177 [.t 16]),oP 5 (.alloc 128 [i0,.bool false,i0,i0]),nP (.sto 4 (.t 5) (.t 17))] (sR [mV 18 3,lA 19 4 5,oP 20 (.bsl 128 4 [.t 19]),oP 21 (.app 128 4 (.t 18) (.t 20)),mV 3 21] (.reg [mV 22 4,fD 23 0 5,lD 24 1 23,oP 25 (.sls (.t 22) (some (.t 24)) none),mV 4 25])))))))) (sR [mV 26 3,oP 27 (.call 178 [.t 26]),mV 2 27] .ret)))
theorem dg148:Dg Tryz.prog 148 Tryz.f148 ic148 [(.t 2)]:=⟨Tryz.func148,by kernel_rfl,by kernel_rfl⟩
theorem c148 (t:B) (hl:t.length≤2000000:=by omega):FnR Tryz.prog G 148 [.str t] (.sl 4 ((pieces t).map Pc.row)):=by
 refine mF dg148 Tryz.ntmps148 ?_
 simp only[ic148,go_sem]
 have hh:=held_le t
 with_reducible repeat' (first|refine br ?_ ?_<;>intro h e<;>(try simp only[e,go_sem])<;>clear e|rw[i64w (by omega)]|refine sd ?_<;>try simp only[go_sem]|(first|refine cr (c113 ..) ?_)<;>try simp only[go_sem]|fail)
 have e0:((t.take ((t.length:Int) - (held t:Int)).toNat).drop 0)=body t:=by
  rw[List.drop_zero];unfold body;congr 1;omega
 refine loopN (fun a:List Pc×B=>⟨getL [(3,.own 1006 a.1.length),(4,.str a.2)],getH [(1006,.arr 128 4 (a.1.map Pc.row))]⟩) (fun a=>a.2.length) (fun a=>a.1++pcs a.2=pieces t∧a.1.length+a.2.length≤t.length) ([],body t)
  (leN [] (by simp only[go_sem];first|done|exact e0.symm) (by simp only[go_sem];first|done|rfl) (by simp[getN]) (by simp only[go_sem])) ⟨by rw[pieces_eq];rfl,by have:=body_len t;simp;omega⟩ ?_
 intro⟨acc,rest⟩ ⟨h1,h2⟩
 simp only[go_sem]
 simp only at h1 h2
 by_cases hr:rest=[]
 ·subst hr
  simp only[go_sem]
  refine callF (c178 (acc.map Pc.row)) [1006] true (by simp only[go_sem];simp) (by simp only[List.mem_singleton];rintro c rfl;rfl) rfl (.inl rfl) ?_
  simp only[go_sem]
  rw[←h1,pcs_nil,List.append_nil]
 ·simp only[eq_false hr,go_sem]
  refine callR (c177 rest hr) rfl rfl ?_
  simp only[go_sem]
  obtain⟨p1,p2,p3⟩:=pc1_size hr
  with_reducible repeat' (first|refine br ?_ ?_<;>intro h e<;>(try simp only[e,go_sem])<;>clear e|rw[i64w (by omega)]|refine sd ?_<;>try simp only[go_sem]|fail)
  refine⟨(acc++[pc1 rest],rest.drop (pc1 rest).size),by simp;omega,⟨?_,by simp;omega⟩,leN [(1006,1021)] ?_ ?_ (by simp[getN]) (by simp only[go_sem])⟩
  ·rw[←h1,pcs_cons hr,List.append_assoc];rfl
  ·simp only[go_sem];simp
  ·simp only[go_sem];simp[Pc.row]
def ic190:IC:=sR [oP 2 (.mv (.c .nils))] (sR [oP 8 (.bsl 128 4 []),mV 3 8] (sR [mV 9 0,oP 10 (.lens (.t 9)),mV 11 0,oP 12 (.call 38 [.t 11]),bN 13 .sub 10 12,mV 4 13] (sR [oP 5 (.mv (.c i0))] (.seq (.block 0 (.loop (.seq (sR [mV 14 5,mV 15 4,bN 16 .lss 14 15] (.cond (.t 16) .skip (.exit 0))) (.block 1 (sR [mV 18 0,mV 19 5,mV 20 4,oP 21 (.sls (.t 18) (some (.t 19)) (some (.t 20))),oP 22 (.call 207 [.t 21]),mV 17 22,eX 23 17 0,eX 24 17 1,oP 6 (.alloc 45 [i0,i0]),nP (.sto 2 (.t 6) (.t 23)),mV 7 24] (.seq (sR [mV 25 7,oP 26 (.bin .gtr (.t 25) (.c i0))] (.cond (.t 26) (.reg [mV 27 3,mV 28 7,lA 29 2 6,oP 30 (.build [i0,.bool false,i0,i0] [(0,(1,.t 28)),(1,(1,.c (.bool true))),(2,(2,.t 29))]),oP 31 (.bsl 128 4 [.t 30]),oP 32 (.app 128 4 (.t 27) (.t 31)),mV 3 32]) (sR [oP 7 (.mv (.c (.int .i64 1)))] (.reg [mV 33 3,oP 34 (.build [i0,.bool false,i0,i0] [(0,(1,.c (.int .i64 1)))]),oP 35 (.bsl 128 4 [.t 34]),oP 36 (.app 128 4 (.t 33) (.t 35)),mV 3 36])))) (.reg [mV 37 5,mV 38 7,bN 39 .add 37 38,mV 5 39]))))))) (sR [mV 40 3,mV 2 40] .ret)))))
theorem dg190:Dg Tryz.prog 190 Tryz.f190 ic190 [(.t 2)]:=⟨Tryz.func190,by kernel_rfl,by kernel_rfl⟩
theorem c190 (t:B) (hl:t.length≤2000000:=by omega):FnR Tryz.prog G 190 [.str t] (.sl 4 ((pieces t).map Pc.row)):=by
 refine mF dg190 Tryz.ntmps190 ?_
 simp only[ic190,go_sem]
 have hh:=held_le t
 with_reducible repeat' (first|refine br ?_ ?_<;>intro h e<;>(try simp only[e,go_sem])<;>clear e|rw[i64w (by omega)]|refine sd ?_<;>try simp only[go_sem]|(first|refine cr (c38 ..) ?_)<;>try simp only[go_sem]|fail)
 have hb:body t=t.take (t.length - held t):=rfl
 have hbl:=body_len t
 refine loopN (fun a:List Pc×Nat=>⟨getL [(0,.str t),(3,.own 1008 a.1.length),(4,.int .i64 (body t).length),(5,.int .i64 (a.2:Int))],getH [(1008,.arr 128 4 (a.1.map Pc.row))]⟩) (fun a=>(body t).length - a.2) (fun a=>a.1++pcs ((body t).drop a.2)=pieces t∧a.1.length≤a.2∧a.2≤(body t).length) ([],0)
  (leN [] (by simp only[go_sem];first|done|omega) (by simp only[go_sem];first|done|rfl) (by simp[getN]) (by simp only[go_sem])) ⟨by rw[pieces_eq];rfl,by simp⟩ ?_
 intro⟨acc,i⟩ ⟨h1,h2,h3⟩
 simp only at h1 h2 h3
 simp only[go_sem]
 by_cases hr:(i:Int)<(body t).length
 ·simp only[eq_true hr,go_sem]
  with_reducible repeat' (first|refine br ?_ ?_<;>intro h e<;>(try simp only[e,go_sem])<;>clear e|rw[i64w (by omega)]|refine sd ?_<;>try simp only[go_sem]|fail)
  have e1:(t.take (body t).length).drop i=(body t).drop i:=by rw[hb];simp
  have hne:(body t).drop i≠[]:=by intro h;have:=congrArg List.length h;simp at this;omega
  simp only[e1]
  refine callR (c207 _ hne (by simp;omega)) rfl rfl ?_
  simp only[go_sem]
  obtain⟨p1,p2,p3⟩:=pc1_size hne
  have hpc:=pcs_cons hne
  simp only[List.length_drop] at p2
  have hdrop:((body t).drop i).drop (pc1 ((body t).drop i)).size=(body t).drop (i+(pc1 ((body t).drop i)).size):=by simp
  rw[hdrop] at hpc
  generalize hg:pc1 ((body t).drop i)=q at *
  have hgen:(q.size=(match nameAt ((body t).drop i) with|some e=>(name e).length|none=>1))∧q=(match nameAt ((body t).drop i) with|some e=>⟨(name e).length,true,e⟩|none=>⟨1,false,.zero⟩):=by
   rw[←hg];unfold pc1;cases nameAt ((body t).drop i)<;>exact⟨rfl,rfl⟩
  have hnn:∀e,nameAt ((body t).drop i)=some e→1≤(name e).length:=fun e _=>by simp[name]
  cases hn:nameAt ((body t).drop i) with
  | none =>
    rw[hn] at hgen
    obtain⟨hq1,hq2⟩:=hgen
    simp only at hq1 hq2
    simp only[go_sem]
    with_reducible repeat' (first|refine br ?_ ?_<;>intro h e<;>(try simp only[e,go_sem])<;>clear e|rw[i64w (by omega)]|refine sd ?_<;>try simp only[go_sem]|fail)
    refine⟨(acc++[q],i+1),by simp;omega,⟨?_,by simp;omega,by simp;omega⟩,leN [(1008,1036)] ?_ ?_ (by simp[getN]) (by simp only[go_sem])⟩
    ·rw[←h1,hpc,hq1,List.append_assoc];rfl
    ·simp only[go_sem];simp
    ·simp only[go_sem];simp[Pc.row,hq2,E.zero]
  | some e =>
    rw[hn] at hgen
    obtain⟨hq1,hq2⟩:=hgen
    have hnl:=hnn e hn
    simp only at hq1 hq2
    simp only[go_sem,Option.getD_some]
    with_reducible repeat' (first|refine br ?_ ?_<;>intro h e<;>(try simp only[e,go_sem])<;>clear e|rw[i64w (by omega)]|refine sd ?_<;>try simp only[go_sem]|fail)
    ·refine⟨(acc++[q],i+(name e).length),by simp;omega,⟨?_,by simp;omega,by simp;omega⟩,leN [(1008,1032)] ?_ ?_ (by simp[getN]) (by simp only[go_sem])⟩
     ·rw[←h1,hpc,hq1,List.append_assoc];rfl
     ·simp only[go_sem];simp
     ·simp only[go_sem];simp[Pc.row,hq2]
    ·omega
 ·simp only[eq_false hr,go_sem]
  have:i=(body t).length:=by omega
  subst this
  rw[←h1,List.drop_length,pcs_nil,List.append_nil]
  exact⟨rfl,rfl⟩
def ic115:IC:=sR [oP 2 (.mv (.c .nils))] (.seq (sR [mV 3 0,oP 4 (.call 112 [.t 3]),oP 5 (.un .not (.t 4))] (.cond (.t 5) (sR [oP 2 (.mv (.c .nils))] .ret) .skip)) (sR [mV 6 0,oP 7 (.call 148 [.t 6]),mV 2 7] .ret))
theorem dg115:Dg Tryz.prog 115 Tryz.f115 ic115 [(.t 2)]:=⟨Tryz.func115,by kernel_rfl,by kernel_rfl⟩
theorem c115 (t:B) (hl:t.length≤2000000:=by omega):FnR Tryz.prog G 115 [.str t] (.sl 4 ((textPieces t).map Pc.row)):=by
 refine mF dg115 Tryz.ntmps115 ?_
 simp only[ic115,go_sem]
 with_reducible repeat' (first|refine br ?_ ?_<;>intro h e<;>(try simp only[e,go_sem])<;>clear e|rw[i64w (by omega)]|refine sd ?_<;>try simp only[go_sem]|(first|refine cr (c112 ..) ?_|refine cr (c148 ..) ?_)<;>try simp only[go_sem]|fail)
 all_goals simp[textPieces, *]
def ic169:IC:=sR [oP 2 (.mv (.c .nils))] (.seq (sR [mV 3 0,oP 4 (.call 109 [.t 3]),oP 5 (.un .not (.t 4))] (.cond (.t 5) (sR [oP 6 (.bsl 128 4 []),mV 2 6] .ret) .skip)) (sR [mV 7 0,oP 8 (.call 190 [.t 7]),mV 2 8] .ret))
theorem dg169:Dg Tryz.prog 169 Tryz.f169 ic169 [(.t 2)]:=⟨Tryz.func169,by kernel_rfl,by kernel_rfl⟩
theorem c169 (t:B) (hl:t.length≤2000000:=by omega):FnR Tryz.prog G 169 [.str t] (.sl 4 ((textPieces t).map Pc.row)):=by
 refine mF dg169 Tryz.ntmps169 ?_
 simp only[ic169,go_sem]
 with_reducible repeat' (first|refine br ?_ ?_<;>intro h e<;>(try simp only[e,go_sem])<;>clear e|rw[i64w (by omega)]|refine sd ?_<;>try simp only[go_sem]|(first|refine cr (c109 ..) ?_|refine cr (c190 ..) ?_)<;>try simp only[go_sem]|fail)
 all_goals simp[textPieces, *]
theorem names_step {l:List Pc} {i:Nat} (h:i<l.length):namesOf (l.take (i+1))=namesOf (l.take i)++(if(l.getD i default).named then [(l.getD i default).e] else []):=by
 unfold namesOf
 rw[List.take_add_one,zE h]
 simp only[Option.toList_some,List.filter_append,List.map_append,List.getD,zE h,Option.getD_some]
 congr 1
 cases hn:l[i].named<;>simp[hn]
theorem names_le (l:List Pc):(namesOf l).length≤l.length:=by
 simp only[namesOf,List.length_map]
 exact List.length_filter_le _ _
def ic68:IC:=sR [oP 2 (.mv (.c .nils))] (sR [oP 6 (.bsl 45 2 []),mV 3 6] (.seq (sR [mV 7 0,oP 8 (.call 115 [.t 7]),oP 9 (.len (.t 8)),oP 10 (.mv (.c i0))] (.block 0 (.loop (sR [bN 11 .lss 10 9] (.seq (.cond (.t 11) .skip (.exit 0)) (.seq (.block 1 (sR [oP 12 (.iad 4 (.t 8) (.t 10)),lA 13 4 12,oP 5 (.alloc 128 [i0,.bool false,i0,i0]),nP (.sto 4 (.t 5) (.t 13))] (sR [fD 14 1 5,lD 15 1 14] (.cond (.t 15) (.reg [mV 16 3,fD 17 2 5,lA 18 2 17,oP 19 (.bsl 45 2 [.t 18]),oP 20 (.app 45 2 (.t 16) (.t 19)),mV 3 20]) .skip)))) (.reg [oP 21 (.bin .add (.t 10) (.c (.int .i64 1))),mV 10 21]))))))) (sR [mV 22 3,oP 23 (.call 116 [.t 22]),mV 2 23] .ret)))
theorem dg68:Dg Tryz.prog 68 Tryz.f68 ic68 [(.t 2)]:=⟨Tryz.func68,by kernel_rfl,by kernel_rfl⟩
theorem c68 (t:B) (hl:t.length≤2000000:=by omega):FnR Tryz.prog G 68 [.str t] (.sl 2 ((textNames t).map E.row)):=by
 refine mF dg68 Tryz.ntmps68 ?_
 simp only[ic68,go_sem]
 with_reducible repeat' (first|refine br ?_ ?_<;>intro h e<;>(try simp only[e,go_sem])<;>clear e|rw[i64w (by omega)]|refine sd ?_<;>try simp only[go_sem]|(first|refine cr (c115 ..) ?_)<;>try simp only[go_sem]|fail)
 have hl2:=textPieces_len t
 unfold textNames
 generalize hp:textPieces t=l at *
 refine loopN (fun i:Nat=>⟨getL [(3,.own 1006 (namesOf (l.take i)).length),(8,.sl 4 (l.map Pc.row)),(9,.int .i64 l.length),(10,.int .i64 (i:Int))],getH [(1006,.arr 45 2 ((namesOf (l.take i)).map E.row))]⟩) (fun i=>l.length - i) (fun i=>i≤l.length) 0 (leQ []) (Nat.zero_le _) ?_
 intro i hi
 simp only[go_sem]
 by_cases h:(i:Int)<l.length
 ·simp only[eq_true h,go_sem]
  refine effG (by omega) ?_
  have hst:=names_step (show i<l.length by omega)
  have hle:=names_le (l.take i)
  simp only[List.length_take] at hle
  generalize hq:l.getD i default=q at hst ⊢
  simp only[go_sem]
  cases hn:q.named<;>simp only[hn,go_sem,Bool.false_eq_true] at hst ⊢
  ·with_reducible repeat' (first|refine br ?_ ?_<;>intro h e<;>(try simp only[e,go_sem])<;>clear e|rw[i64w (by omega)]|refine sd ?_<;>try simp only[go_sem]|fail)
   refine⟨i+1,by omega,by omega,leN [] ?_ ?_ (by simp[getN]) (by simp only[go_sem])⟩
   ·simp only[go_sem,hst];omega
   ·simp only[go_sem,hst]
  ·with_reducible repeat' (first|refine br ?_ ?_<;>intro h e<;>(try simp only[e,go_sem])<;>clear e|rw[i64w (by omega)]|refine sd ?_<;>try simp only[go_sem]|fail)
   refine⟨i+1,by omega,by omega,leN [(1006,1020)] ?_ ?_ (by simp[getN]) (by simp only[go_sem])⟩
   ·simp only[go_sem,hst];simp
   ·simp only[go_sem,hst];simp[E.row]
 ·simp only[eq_false h,go_sem]
  have:i=l.length:=by omega
  subst this
  refine callF (c116 ((namesOf l).map E.row)) [1006] true (by simp only[go_sem];simp) (by simp only[List.mem_singleton];rintro c rfl;rfl) rfl (.inl rfl) ?_
  simp only[go_sem]
def ic139:IC:=sR [oP 2 (.mv (.c .nils))] (sR [oP 6 (.bsl 45 2 []),mV 3 6] (sR [mV 7 0,oP 8 (.call 169 [.t 7]),mV 4 8] (.seq (sR [oP 5 (.mv (.c i0))] (.block 0 (.loop (.seq (sR [mV 9 5,mV 10 4,oP 11 (.len (.t 10)),bN 12 .lss 9 11] (.cond (.t 12) .skip (.exit 0))) (.seq (.block 1 (sR [mV 15 4,mV 16 5,oP 17 (.iad 4 (.t 15) (.t 16)),fD 18 1 17,lD 19 1 18] (.cond (.t 19) (.reg [mV 20 3,mV 21 4,mV 22 5,oP 23 (.iad 4 (.t 21) (.t 22)),fD 24 2 23,lA 25 2 24,oP 26 (.bsl 45 2 [.t 25]),oP 27 (.app 45 2 (.t 20) (.t 26)),mV 3 27]) .skip))) (.reg [mV 13 5,oP 14 (.bin .add (.t 13) (.c (.int .i64 1))),mV 5 14])))))) (sR [mV 28 3,mV 2 28] .ret))))
theorem dg139:Dg Tryz.prog 139 Tryz.f139 ic139 [(.t 2)]:=⟨Tryz.func139,by kernel_rfl,by kernel_rfl⟩
theorem c139 (t:B) (hl:t.length≤2000000:=by omega):FnR Tryz.prog G 139 [.str t] (.sl 2 ((textNames t).map E.row)):=by
 refine mF dg139 Tryz.ntmps139 ?_
 simp only[ic139,go_sem]
 with_reducible repeat' (first|refine br ?_ ?_<;>intro h e<;>(try simp only[e,go_sem])<;>clear e|rw[i64w (by omega)]|refine sd ?_<;>try simp only[go_sem]|(first|refine cr (c169 ..) ?_)<;>try simp only[go_sem]|fail)
 have hl2:=textPieces_len t
 unfold textNames
 generalize hp:textPieces t=l at *
 refine loopN (fun i:Nat=>⟨getL [(3,.own 1006 (namesOf (l.take i)).length),(4,.sl 4 (l.map Pc.row)),(5,.int .i64 (i:Int))],getH [(1006,.arr 45 2 ((namesOf (l.take i)).map E.row))]⟩) (fun i=>l.length - i) (fun i=>i≤l.length) 0 (leQ []) (Nat.zero_le _) ?_
 intro i hi
 simp only[go_sem]
 by_cases h:(i:Int)<l.length
 ·simp only[eq_true h,go_sem]
  refine effG (by omega) ?_
  have hst:=names_step (show i<l.length by omega)
  have hle:=names_le (l.take i)
  simp only[List.length_take] at hle
  generalize hq:l.getD i default=q at hst ⊢
  simp only[go_sem]
  cases hn:q.named<;>simp only[hn,go_sem,Bool.false_eq_true] at hst ⊢
  ·with_reducible repeat' (first|refine br ?_ ?_<;>intro h e<;>(try simp only[e,go_sem])<;>clear e|rw[i64w (by omega)]|refine sd ?_<;>try simp only[go_sem]|fail)
   refine⟨i+1,by omega,by omega,leN [] ?_ ?_ (by simp[getN]) (by simp only[go_sem])⟩
   ·simp only[go_sem,hst];omega
   ·simp only[go_sem,hst]
  ·with_reducible repeat' (first|refine br ?_ ?_<;>intro h e<;>(try simp only[e,go_sem])<;>clear e|rw[i64w (by omega)]|refine sd ?_<;>try simp only[go_sem]|fail)
   simp only[hq,go_sem]
   with_reducible repeat' (first|refine br ?_ ?_<;>intro h e<;>(try simp only[e,go_sem])<;>clear e|rw[i64w (by omega)]|refine sd ?_<;>try simp only[go_sem]|fail)
   refine⟨i+1,by omega,by omega,leN [(1006,1027)] ?_ ?_ (by simp[getN]) (by simp only[go_sem])⟩
   ·simp only[go_sem,hst];simp
   ·simp only[go_sem,hst];simp[E.row]
 ·simp only[eq_false h,go_sem]
  have:i=l.length:=by omega
  subst this
  simp only[List.take_length]
  exact⟨trivial,trivial⟩
end Go.Proofs.YtiegngjdjheebaaGreatDoor.W
