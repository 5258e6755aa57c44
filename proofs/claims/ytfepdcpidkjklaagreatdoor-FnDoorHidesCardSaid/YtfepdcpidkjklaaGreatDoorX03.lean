/- Part 3 of the proof: the walk over values, the plain model, contracts of the functions of the program. -/
import Derived.Test.YtfepdcpidkjklaaGreatDoorX02
import Derived.Test.YtfepdcpidkjklaaGreatDoorChecked
import Derived.Shelf.LaysC
import Derived.Shelf.LaysM
import Derived.Shelf.Strings.Builder1
import Derived.Shelf.Small.Wraps
import Derived.Shelf.Strconv.Itoa3
import Derived.Shelf.Strconv.Clone
import Derived.Shelf.Strings.Cut
import Derived.Test.YtfepdcpidkjklaaGreatDoorProg
import Derived.Shelf.Strconv.AtoiAll
import Derived.OwnWalk
import Derived.WalkKit
import Derived.Deep.LoopGhost
import Derived.Lib.Walk
import Derived.Lib.SliceRun
set_option linter.all false
namespace Go.Proofs.YtfepdcpidkjklaaGreatDoor.M
structure StepI (K:List Conv→Door→Prop) (N:List Conv→Door→Pk→Prop):Prop where
  say:∀ (w:World) c up port n m p,WI w→K w.convs w.door→c∈w.convs→(up=false→port=portOf w.door.map c.ins)→say c up port n m=some p→N w.convs w.door p
  str:∀ (w:World) p,WI w→K w.convs w.door→stranger w p=true→N w.convs w.door p
  pass:∀ (w:World) p,WI w→K w.convs w.door→NetP w.convs p→N w.convs w.door p→(p.to.door=true∨p.frm.inside=true) →
    K w.convs (dPass w.door p).1∧(∀ q,(dPass w.door p).2=some q→N w.convs (dPass w.door p).1 q)∧∀ q,NetP w.convs q→N w.convs w.door q→N w.convs (dPass w.door p).1 q
  hear:∀ (w:World) p i b c,WI w→K w.convs w.door→NetP w.convs p→N w.convs w.door p→¬ (p.to.door=true∨p.frm.inside=true)→hostIx w p=some (i,b)→w.convs[i]?=some c →
    K (w.convs.set i (hear c b p).1) w.door∧(∀ q,(hear c b p).2=some q→N (w.convs.set i (hear c b p).1) w.door q)∧∀ q,NetP w.convs q→N w.convs w.door q→N (w.convs.set i (hear c b p).1) w.door q
structure SI (K:List Conv→Door→Prop) (N:List Conv→Door→Pk→Prop) (w:World):Prop where
  wi:WI w
  k:K w.convs w.door
  n:∀ p∈w.nets,N w.convs w.door p
variable {K:List Conv→Door→Prop} {N:List Conv→Door→Pk→Prop}
theorem SI.erase {w:World} (h:SI K N w) (k:Nat):SI K N { w with nets:=w.nets.eraseIdx k }:=⟨h.wi.erase k,h.k,fun p hp=>h.n p (List.mem_of_mem_eraseIdx hp)⟩
theorem SI.carry {w:World} {p:Pk} (S:StepI K N) (h:SI K N w) (hp:NetP w.convs p) (hn:N w.convs w.door p):SI K N (carry w p).1∧∀ q,(carry w p).2=some q→NetP (carry w p).1.convs q∧N (carry w p).1.convs (carry w p).1.door q:=by
  obtain ⟨h1,h2⟩:=carry_ok h.wi hp
  suffices hh:K (M.carry w p).1.convs (M.carry w p).1.door∧(∀ q∈(M.carry w p).1.nets,N (M.carry w p).1.convs (M.carry w p).1.door q)∧∀ q,(M.carry w p).2=some q→N (M.carry w p).1.convs (M.carry w p).1.door q from
    ⟨⟨h1,hh.1,hh.2.1⟩,fun q hq=>⟨h2 q hq,hh.2.2 q hq⟩⟩
  clear h1 h2
  unfold M.carry
  split
  · rename_i hc
    obtain ⟨p1,p2,p3⟩:=S.pass w p h.wi h.k hp hn (by simpa using hc)
    exact ⟨p1,fun q hq=>p3 q (h.wi.net q hq) (h.n q hq),p2⟩
  · rename_i hc
    split
    · exact ⟨h.k,h.n,fun q hq=>by cases hq⟩
    · rename_i i b hb
      obtain ⟨c,hcv,_⟩:=hostIx_at hb
      simp only [hcv]
      obtain ⟨p1,p2,p3⟩:=S.hear w p i b c h.wi h.k hp hn (by simpa using hc) hb hcv
      exact ⟨p1,fun q hq=>p3 q (h.wi.net q hq) (h.n q hq),p2⟩
theorem SI.send {w:World} {o:Option Pk} (h:SI K N w) (hp:∀ p,o=some p→NetP w.convs p∧N w.convs w.door p):SI K N (send w o):=by
  refine ⟨send_ok h.wi fun p e=>(hp p e).1, ?_, ?_⟩<;>unfold M.send<;>cases o with
  | none=>first|exact h.k|exact h.n
  | some p =>
    simp only
    split<;>first|exact h.k|exact h.n|skip
    all_goals intro q hq
    all_goals rcases List.mem_append.1 hq with hq|hq
    all_goals first
      | exact h.n q hq
      | (simp only [List.mem_singleton] at hq;subst hq;exact (hp _ rfl).2)
theorem SI.sayW {w:World} (S:StepI K N) (h:SI K N w) {up:Bool} {a b c:Int} {p:Pk} (hs:sayW w up a b c=some p):N w.convs w.door p:=by
  unfold M.sayW at hs
  split at hs
  · split at hs
    · rename_i cv hcv
      exact S.say w cv up _ b c p h.wi h.k (List.mem_of_getElem? hcv) (fun hu=>by subst hu;rfl) hs
    · cases hs
  · cases hs
theorem SI.wDo {w:World} (S:StepI K N) (h:SI K N w) (e:Ev):SI K N (wDo w e):=by
  unfold M.wDo
  simp only
  split
  · exact h.send fun p hp=>⟨sayW_net h.wi hp,h.sayW S hp⟩
  split
  · exact h.send fun p hp=>⟨sayW_net h.wi hp,h.sayW S hp⟩
  split
  · split
    · split
      · rename_i p hp
        obtain ⟨h1,h2⟩:=(h.erase e.a.toNat).carry S (h.wi.net p (List.mem_of_getElem? hp)) (h.n p (List.mem_of_getElem? hp))
        exact h1.send h2
      · exact h
    · exact h
  split
  · split
    · exact h.erase _
    · exact h
  split
  · split
    · exact h.send fun p hp=>⟨h.wi.net p (List.mem_of_getElem? hp),h.n p (List.mem_of_getElem? hp)⟩
    · exact h
  split
  · split
    · rename_i hs
      exact h.send fun p hp=>by cases hp;exact ⟨stranger_net hs,S.str w _ h.wi h.k hs⟩
    · exact h
  · exact h
theorem SI.play {w:World} (S:StepI K N) (h:SI K N w):∀ es:List Ev,SI K N (es.foldl M.wDo w)
  | []=>h
  | e :: es=>SI.play S (h.wDo S e) es
def Apart (cs:List Conv):Prop:=∀ (i j:Nat) c d,cs[i]?=some c→cs[j]?=some d→(c.ins=d.ins∨c.out=d.out)→i=j
theorem Apart.set {cs:List Conv} (h:Apart cs) {i:Nat} {c x:Conv} (hi:cs[i]?=some c) (h1:x.ins=c.ins) (h2:x.out=c.out):Apart (cs.set i x):=by
  have hl:=(List.getElem?_eq_some_iff.1 hi).1
  have key:∀ (j:Nat) y,(cs.set i x)[j]?=some y→∃ z,cs[j]?=some z∧y.ins=z.ins∧y.out=z.out:=by
    intro j y hy
    by_cases hij:i=j
    · subst hij
      rw [List.getElem?_set_self hl] at hy;cases hy
      exact ⟨c,hi,h1,h2⟩
    · rw [List.getElem?_set_ne hij] at hy
      exact ⟨y,hy,rfl,rfl⟩
  intro j k a b ha hb he
  obtain ⟨a',ha',e1,e2⟩:=key j a ha
  obtain ⟨b',hb',e3,e4⟩:=key k b hb
  exact h j k a' b' ha' hb' (by rw [← e1,← e2,← e3,← e4];exact he)
theorem worldNew_is {cs:List Conv} {w:World} (h:worldNew cs=some w):together w.convs=true∧newConvs cs=some w.convs∧w.door=.zero∧w.nets=[]:=by
  unfold worldNew at h
  split at h
  · rename_i ns hn
    split at h
    · rename_i ht
      cases h
      exact ⟨ht,hn,rfl,rfl⟩
    · cases h
  · cases h
theorem hear_grows (c:Conv) (b:Bool) (p:Pk):(∃ x,(hear c b p).1.upGot=c.upGot++x)∧(∃ x,(hear c b p).1.downGot=c.downGot++x)∧c.upAck≤(hear c b p).1.upAck∧c.downAck≤(hear c b p).1.downAck:=by
  have key:∀ (g:B) (n:Int) (t:B),∃ x,(behind g n t).1=g++x:=by
    intro g n t
    unfold behind
    split
    · exact ⟨[],by simp⟩
    · split
      · exact ⟨[],by simp⟩
      · exact ⟨_,rfl⟩
  unfold hear
  cases b<;>simp only [cond_true,cond_false]<;>split
  · split
    · exact ⟨⟨[],by simp⟩,⟨[],by simp⟩,Int.le_refl _,Int.le_max_left _ _⟩
    · exact ⟨key _ _ _,⟨[],by simp⟩,Int.le_refl _,Int.le_refl _⟩
  · exact ⟨⟨[],by simp⟩,⟨[],by simp⟩,Int.le_refl _,Int.le_refl _⟩
  · split
    · exact ⟨⟨[],by simp⟩,⟨[],by simp⟩,Int.le_max_left _ _,Int.le_refl _⟩
    · exact ⟨⟨[],by simp⟩,key _ _ _,Int.le_refl _,Int.le_refl _⟩
  · exact ⟨⟨[],by simp⟩,⟨[],by simp⟩,Int.le_refl _,Int.le_refl _⟩
end Go.Proofs.YtfepdcpidkjklaaGreatDoor.M
namespace Go.Proofs.YtfepdcpidkjklaaGreatDoor.M
theorem mOut_pre (m:List Pair) (e:E):∃ x,(mOut m e).1=m++x:=by
  unfold mOut
  split
  · exact ⟨[],by simp⟩
  · split
    · exact ⟨[],by simp⟩
    · exact ⟨_,rfl⟩
theorem turn_pre (m:List Pair) (p:Pc) (s:B) (out:Bool):∃ x,(turn m p s out).1=m++x:=by
  unfold turn
  cases out
  · exact ⟨[],by simp⟩
  · simp only [cond_true,pieceOut]
    split
    · have:=mOut_pre m p.e
      split
      · rename_i h;rw [h] at this;exact this
      · exact ⟨[],by simp⟩
    · exact ⟨[],by simp⟩
theorem turned_pre:∀ (l:List Pc) (m:List Pair) (s:B) (out:Bool),∃ x,(turned m l s out).1=m++x
  | [],m,s,out=>⟨[],by simp [turned]⟩
  | p :: l,m,s,out=>by
    obtain ⟨x,hx⟩:=turn_pre m p (s.take p.size) out
    obtain ⟨y,hy⟩:=turned_pre l (turn m p (s.take p.size) out).1 (s.drop p.size) out
    exact ⟨x++y,by simp only [turned];rw [hy,hx,List.append_assoc]⟩
theorem put_pre (m:List Pair) (s:Strm) (n:Int) (t:B) (out:Bool):∃ x,(put m s n t out).1=m++x:=by
  unfold put
  split
  · exact turned_pre _ _ _ _
  · exact ⟨[],by simp⟩
theorem portOf_app {m x:List Pair} {e:E} (h:portOf m e≠0):portOf (m++x) e=portOf m e:=by
  unfold portOf at h ⊢
  rw [List.find?_append]
  cases hf:m.find? fun p=>decide (p.ins=e) with
  | none=>rw [hf] at h;exact absurd rfl h
  | some p=>rfl
theorem put_port {m:List Pair} {s:Strm} {n:Int} {t:B} {out:Bool} {e:E} (h:portOf m e≠0):portOf (put m s n t out).1 e=portOf m e:=by
  obtain ⟨x,hx⟩:=put_pre m s n t out
  rw [hx];exact portOf_app h
theorem portOf_door {m:List Pair} {e:E} (hm:mapOk m=true) (h:portOf m e≠0):(⟨9,portOf m e⟩:E).door=true:=by
  obtain ⟨hp,_⟩:=mapOk_ports hm
  have h1:=mOut_found (fun p h=>(hp p h).1) h
  have:=mOut_door (e:=e) hm (by rw [h1])
  rw [h1] at this
  exact this
theorem dPass_is {cs:List Conv} {d:Door} {p q:Pk} (hd:doorOk d=true) (hp:NetP cs p) (h:(dPass d p).2=some q) :
    (p.outward=true∧q.frm=⟨9,portOf (dPass d p).1.map p.frm⟩∧q.frm.door=true∧q.to=p.to∧q.kind=p.kind) ∨
    (p.inward=true∧q.frm=p.frm∧q.to.inside=true∧insideOf d.map p.to.p=some q.to∧q.kind=p.kind∧(flowIx d.flows q.to q.frm).isSome=true):=by
  unfold dPass at h ⊢
  split at h
  · rename_i ho
    have ho':=ho
    rw [if_pos ho]
    simp only [Pk.outward,Bool.and_eq_true] at ho
    left
    cases hok:(openR d p.frm p.to).2.2 with
    | false=>rw [dOut_no hok] at h;cases h
    | true =>
      have hx:=openR_ok hd ho.1 ho.2 hok
      rw [dOut_yes hok hx.kl] at h ⊢
      obtain ⟨_,_,h2,h3,h4⟩:=outK_P hx.ok hx.kl hp.pk h
      have hmap:=hx.map
      have hport:=hx.port
      have hmp:portOf (outK (openR d p.frm p.to).1 (openR d p.frm p.to).2.1 p).1.map p.frm=portOf (openR d p.frm p.to).1.map p.frm:=by
        unfold outK
        split
        · split<;>rfl
        · split
          · rfl
          · have hf:(openR d p.frm p.to).1.flows[(openR d p.frm p.to).2.1]?=some (Flw.at (openR d p.frm p.to).1 (openR d p.frm p.to).2.1):=by simp [Flw.at,List.getD,hx.kl]
            exact put_port hport
      have hdr:(⟨9,portOf (openR d p.frm p.to).1.map p.frm⟩:E).door=true:=portOf_door hmap hport
      exact ⟨ho',by rw [h2,hmp],by rw [h2];exact hdr,h3,h4⟩
  · rename_i hno
    rw [if_neg hno]
    split at h
    · rename_i hi
      have hi':=hi
      simp only [Pk.inward,Bool.and_eq_true] at hi
      right
      cases h1:insideOf d.map p.to.p with
      | none=>rw [dIn_no1 h1] at h;cases h
      | some i =>
        cases h2:flowIx d.flows i p.frm with
        | none=>rw [dIn_no2 h1 h2] at h;cases h
        | some k =>
          obtain ⟨hk,he⟩:=dIn_yes h1 h2
          rw [he] at h
          obtain ⟨_,h4,h5,h6⟩:=inK_P hd hk hp.pk h
          exact ⟨hi',h4,by rw [h5];exact insideOf_ok (doorOk_iff.1 hd).1 h1,by rw [h5],h6,by rw [h5,h4,h2];rfl⟩
    · cases h
theorem hear_at {c:Conv} {b:Bool} {p q:Pk} (h:(hear c b p).2=some q):q.at_=(bif b then (hear c b p).1.downGot.length else (hear c b p).1.upGot.length:Nat):=by
  revert h
  unfold hear
  cases b<;>simp only [cond_true,cond_false]<;>split
  · split<;>(intro h;cases h)
    rfl
  · intro h;cases h
  · split<;>(intro h;cases h)
    rfl
  · intro h;cases h
end Go.Proofs.YtfepdcpidkjklaaGreatDoor.M
namespace Go.Proofs.YtfepdcpidkjklaaGreatDoor.M
def SmS (s:Strm):Prop:=∀ p∈s.parts,5 * p.text.length≤6 * p.size.toNat
theorem name_56 {e:E} (h:e.any=true):5≤(name e).length∧(name e).length≤6:=by
  have key:∀ e∈ends,5≤(name e).length∧(name e).length≤6:=by decide
  exact key e (E.any_iff.1 h)
theorem nameAt_any {s:B} {e:E} (h:nameAt s=some e):e.any=true:=by
  unfold nameAt at h
  split at h
  · cases h
  · split at h
    · unfold endRead at h
      exact E.any_iff.2 (List.mem_of_find?_eq_some h)
    · cases h
theorem pcK_named:∀ (n:Nat) (s:B),∀ q∈pcK n s,q.named=true→5≤q.size
  | 0,s,q,hq,_=>by simp [pcK] at hq
  | n+1,[],q,hq,_=>by simp [pcK] at hq
  | n+1,c :: r,q,hq,hn=>by
    rw [pcK] at hq
    split at hq
    · rename_i e he
      rcases List.mem_cons.1 hq with rfl|hq
      · exact (name_56 (nameAt_any he)).1
      · exact pcK_named n _ q hq hn
    · rcases List.mem_cons.1 hq with rfl|hq
      · cases hn
      · exact pcK_named n _ q hq hn
theorem turn_sm {m:List Pair} (hm:mapOk m=true) (p:Pc) (s:B) (out:Bool) (hp:p.named=true→5≤p.size) (hs:s.length≤p.size):5 * (turn m p s out).2.length≤6 * p.size:=by
  unfold turn
  cases out
  · simp only [cond_false,pieceIn]
    split
    · rename_i h
      simp only [Bool.and_eq_true] at h
      split
      · rename_i e he
        have:=(name_56 (inside_any (insideOf_ok hm he))).2
        have:=hp h.1
        omega
      · omega
    · omega
  · simp only [cond_true,pieceOut]
    split
    · rename_i h
      simp only [Bool.and_eq_true] at h
      split
      · rename_i x port he
        have hd:=mOut_door (e:=p.e) hm (by rw [he])
        rw [he] at hd
        have:=(name_56 (door_any hd)).2
        have:=hp h.1
        simp only at *;omega
      · simp only;omega
    · simp only;omega
theorem turned_sm:∀ {l:List Pc} {m:List Pair} {s:B} {out:Bool},mapOk m=true→(∀ q∈l,q.named=true→5≤q.size)→∀ p∈mkParts l (turned m l s out).2,5 * p.text.length≤6 * p.size.toNat
  | [],m,s,out,_,_,p,hp=>by simp [mkParts] at hp
  | q :: l,m,s,out,hm,hq,p,hp=>by
    simp only [turned,mkParts] at hp
    rcases List.mem_cons.1 hp with rfl|hp
    · have:=turn_sm hm q (s.take q.size) out (hq q (by simp)) (by simp;omega)
      simpa using this
    · exact turned_sm (turn_mapOk hm q _ out) (fun x hx=>hq x (by simp [hx])) p hp
theorem put_sm {m:List Pair} {s:Strm} {n:Int} {t:B} {out:Bool} (hm:mapOk m=true) (hs:SmS s):SmS (put m s n t out).2.1:=by
  unfold put
  split
  · intro p hp
    simp only at hp
    rcases List.mem_append.1 hp with hp|hp
    · exact hs p hp
    · refine turned_sm hm (fun q hq=>?_) p hp
      exact pcK_named _ _ q (List.mem_of_mem_drop hq)
  · exact hs
theorem sOut_65 {s:Strm} (hs:SmS s) (hok:strmOk s=true):5 * (sOut s).length≤6 * s.inn.length:=by
  have key:∀ l:List Part,(∀ p∈l,5 * p.text.length≤6 * p.size.toNat)→5 * (l.flatMap (·.text)).length≤6 * doneP l:=by
    intro l
    induction l with
    | nil=>intro _;simp [doneP]
    | cons p l ih =>
      intro h
      have h1:=h p (by simp)
      have h2:=ih fun q hq=>h q (by simp [hq])
      rw [doneP_cons]
      simp only [List.flatMap_cons,List.length_append]
      omega
  have h1:=key s.parts hs
  have h2:=(strmOk_done hok).1
  have h4:(body s.inn).length≤s.inn.length:=by simp [body]
  show 5 * (s.parts.flatMap (·.text)).length≤6 * s.inn.length
  omega
theorem sOut_sm {s:Strm} (hs:SmS s) (hok:strmOk s=true):(sOut s).length≤80:=by
  have h1:=sOut_65 hs hok
  have h3:=(strmOk_B hok).1
  omega
def DoorS (d:Door):Prop:=∀ f∈d.flows,SmS f.up∧SmS f.down
theorem dOut_sm {d:Door} {p:Pk} (hd:doorOk d=true) (h:p.outward=true) (hs:DoorS d):DoorS (dOut d p).1:=by
  simp only [Pk.outward,Bool.and_eq_true] at h
  have hz:SmS .zero:=fun p hp=>by cases hp
  cases hok:(openR d p.frm p.to).2.2 with
  | false=>rw [dOut_no hok];exact hs
  | true =>
    have hx:=openR_ok hd h.1 h.2 hok
    rw [dOut_yes hok hx.kl]
    have hxs:DoorS (openR d p.frm p.to).1:=by
      unfold openR openF
      split
      · rename_i ho
        split at ho
        · cases ho;exact hs
        · split at ho
          · split at ho
            · cases ho
              intro f hf
              rcases List.mem_append.1 hf with hf|hf
              · exact hs f hf
              · simp only [List.mem_singleton] at hf;subst hf;exact ⟨hz,hz⟩
            · cases ho
          · cases ho
      · exact hs
    have hf:(openR d p.frm p.to).1.flows[(openR d p.frm p.to).2.1]?=some (Flw.at (openR d p.frm p.to).1 (openR d p.frm p.to).2.1):=by simp [Flw.at,List.getD,hx.kl]
    unfold outK
    split
    · split<;>exact hxs
    · split
      · exact hxs
      · intro f hf2
        simp only at hf2
        have hat:=hxs _ (List.mem_of_getElem? hf)
        rcases List.mem_or_eq_of_mem_set hf2 with hf2|rfl
        · exact hxs f hf2
        · exact ⟨put_sm hx.map hat.1,hat.2⟩
theorem dIn_sm {d:Door} {p:Pk} (hd:doorOk d=true) (hs:DoorS d):DoorS (dIn d p).1:=by
  cases h1:insideOf d.map p.to.p with
  | none=>rw [dIn_no1 h1];exact hs
  | some i =>
    cases h2:flowIx d.flows i p.frm with
    | none=>rw [dIn_no2 h1 h2];exact hs
    | some k =>
      obtain ⟨hk,he⟩:=dIn_yes h1 h2
      rw [he]
      have hf:d.flows[k]?=some (Flw.at d k):=by simp [Flw.at,List.getD,hk]
      unfold inK
      split
      · split<;>exact hs
      · split
        · exact hs
        · intro f hf2
          simp only at hf2
          have hat:=hs _ (List.mem_of_getElem? hf)
          rcases List.mem_or_eq_of_mem_set hf2 with hf2|rfl
          · exact hs f hf2
          · exact ⟨hat.1,put_sm (doorOk_iff.1 hd).1 hat.2⟩
theorem dPass_sm {d:Door} {p:Pk} (hd:doorOk d=true) (hs:DoorS d):DoorS (dPass d p).1:=by
  unfold dPass
  split
  · rename_i h;exact dOut_sm hd h hs
  · split
    · exact dIn_sm hd hs
    · exact hs
end Go.Proofs.YtfepdcpidkjklaaGreatDoor.M
namespace Go.Proofs.YtfepdcpidkjklaaGreatDoor.M
theorem pkOk_mk {p:Pk} (h1:p.frm.any=true) (h2:p.to.any=true) (h3:0≤p.at_∧p.at_≤99) (hp:PkP p) (h4:p.kind=1→p.text≠[]):pkOk p=true:=by
  simp only [pkOk,h1,h2,within_iff.2 h3,Bool.true_and,Bool.or_eq_true,Bool.and_eq_true,decide_eq_true_eq]
  rcases hp.kd with h|h
  · left
    refine ⟨⟨h,hp.tx.resolve_left (by omega)⟩, ?_⟩
    have:=h4 h
    cases ht:p.text with
    | nil=>exact absurd ht this
    | cons=>rfl
  · right
    exact ⟨h,by rw [hp.ack h];rfl⟩
theorem sendOn_ne {was is:Strm} {p q:Pk} (h:sendOn was is p=some q):q.text≠[]:=by
  have h1:=forP_le (l:=is.parts) p.at_
  have h2:=toR_le was is p
  have e:sendOn was is p=if forP is.parts p.at_≥toR was is p then none else if toR was is p - forP is.parts p.at_≤40 then some { p with at_:=forP is.parts p.at_,text:=((sOut is).take (toR was is p).toNat).drop (forP is.parts p.at_).toNat } else none:=rfl
  rw [e] at h
  generalize forP is.parts p.at_=a at *
  generalize toR was is p=b at *
  split at h
  · cases h
  · split at h
    · cases h
      intro hn
      have:=congrArg List.length hn
      simp only [List.length_drop,List.length_take,List.length_nil] at this
      omega
    · cases h
theorem sendOn_at {was is:Strm} {p q:Pk} (h:sendOn was is p=some q):0≤q.at_∧q.at_≤(sOut is).length:=by
  have h1:=forP_le (l:=is.parts) p.at_
  have e:sendOn was is p=if forP is.parts p.at_≥toR was is p then none else if toR was is p - forP is.parts p.at_≤40 then some { p with at_:=forP is.parts p.at_,text:=((sOut is).take (toR was is p).toNat).drop (forP is.parts p.at_).toNat } else none:=rfl
  rw [e] at h
  split at h
  · cases h
  · split at h
    · cases h;exact h1
    · cases h
theorem backP_done {l:List Part} (h:∀ p∈l,1≤p.size):∀ n,backP l n≤(doneP l:Int):=by
  induction l with
  | nil=>intro n;simp [backP,doneP]
  | cons p l ih =>
    intro n
    have h1:=h p (by simp)
    have h2:=ih (fun q hq=>h q (by simp [hq])) (n - p.text.length)
    rw [doneP_cons]
    simp only [backP]
    split<;>omega
theorem outK_at {x:Door} {k:Nat} {p q:Pk} (hd:doorOk x=true) (hs:DoorS x) (hk:k<x.flows.length) (hp:PkP p) (h:(outK x k p).2=some q):(0≤q.at_∧q.at_≤99)∧(q.kind=1→q.text≠[]):=by
  have hf:x.flows[k]?=some (Flw.at x k):=by simp [Flw.at,List.getD,hk]
  obtain ⟨_,_,hu,hdn,_⟩:=flow_at hd hf
  obtain ⟨hs1,hs2⟩:=hs _ (List.mem_of_getElem? hf)
  unfold outK at h
  split at h
  · split at h
    · cases h
    · cases h
      have hb:=strmOk_B hdn
      have h1:=backP_P (fun p hp=>(hb.2.2 p hp).1) hb.2.1 p.at_
      have h2:=backP_done (fun p hp=>(hb.2.2 p hp).1.1) p.at_
      have h3:=(strmOk_done hdn).1
      have h4:(body (Flw.at x k).down.inn).length≤(Flw.at x k).down.inn.length:=by simp [body]
      have:=hb.1
      exact ⟨by simp only;omega,fun h=>by cases h⟩
  · rename_i hkd
    split at h
    · cases h
    · obtain ⟨p1,p2⟩:=put_ok (out:=true) (doorOk_iff.1 hd).1 hu (hp.tx.resolve_left hkd) hp.at_.1
      simp only [Option.map_eq_some_iff] at h
      obtain ⟨q',hq,rfl⟩:=h
      have h1:=sendOn_at hq
      have h2:=sOut_sm (put_sm (out:=true) (n:=p.at_) (t:=p.text) (doorOk_iff.1 hd).1 hs1) p2
      have hne:=sendOn_ne hq
      exact ⟨by simp only;omega,fun _=>hne⟩
theorem inK_at {x:Door} {k:Nat} {i:E} {p q:Pk} (hd:doorOk x=true) (hs:DoorS x) (hk:k<x.flows.length) (hp:PkP p) (h:(inK x k i p).2=some q):(0≤q.at_∧q.at_≤99)∧(q.kind=1→q.text≠[]):=by
  have hf:x.flows[k]?=some (Flw.at x k):=by simp [Flw.at,List.getD,hk]
  obtain ⟨_,_,hu,hdn,_⟩:=flow_at hd hf
  obtain ⟨hs1,hs2⟩:=hs _ (List.mem_of_getElem? hf)
  unfold inK at h
  split at h
  · split at h
    · cases h
    · cases h
      have hb:=strmOk_B hu
      have h1:=backP_P (fun p hp=>(hb.2.2 p hp).1) hb.2.1 p.at_
      have h2:=backP_done (fun p hp=>(hb.2.2 p hp).1.1) p.at_
      have h3:=(strmOk_done hu).1
      have h4:(body (Flw.at x k).up.inn).length≤(Flw.at x k).up.inn.length:=by simp [body]
      have:=hb.1
      exact ⟨by simp only;omega,fun h=>by cases h⟩
  · rename_i hkd
    split at h
    · cases h
    · obtain ⟨p1,p2⟩:=put_ok (out:=false) (doorOk_iff.1 hd).1 hdn (hp.tx.resolve_left hkd) hp.at_.1
      simp only [Option.map_eq_some_iff] at h
      obtain ⟨q',hq,rfl⟩:=h
      have h1:=sendOn_at hq
      have h2:=sOut_sm (put_sm (out:=false) (n:=p.at_) (t:=p.text) (doorOk_iff.1 hd).1 hs2) p2
      have hne:=sendOn_ne hq
      exact ⟨by simp only;omega,fun _=>hne⟩
theorem openR_sm {d:Door} {i o:E} (hs:DoorS d):DoorS (openR d i o).1:=by
  have hz:SmS .zero:=fun p hp=>by cases hp
  unfold openR openF
  split
  · rename_i ho
    split at ho
    · cases ho;exact hs
    · split at ho
      · split at ho
        · cases ho
          intro f hf
          rcases List.mem_append.1 hf with hf|hf
          · exact hs f hf
          · simp only [List.mem_singleton] at hf;subst hf;exact ⟨hz,hz⟩
        · cases ho
      · cases ho
  · exact hs
theorem dPass_at {cs:List Conv} {d:Door} {p q:Pk} (hd:doorOk d=true) (hs:DoorS d) (hp:NetP cs p) (h:(dPass d p).2=some q):pkOk q=true:=by
  have his:=dPass_is hd hp h
  have hqp:=(dPass_P hd hp h).pk
  have hat:(0≤q.at_∧q.at_≤99)∧(q.kind=1→q.text≠[]):=by
    unfold dPass at h
    split at h
    · rename_i ho
      simp only [Pk.outward,Bool.and_eq_true] at ho
      cases hok:(openR d p.frm p.to).2.2 with
      | false=>rw [dOut_no hok] at h;cases h
      | true =>
        have hx:=openR_ok hd ho.1 ho.2 hok
        rw [dOut_yes hok hx.kl] at h
        exact outK_at hx.ok (openR_sm hs) hx.kl hp.pk h
    · split at h
      · cases h1:insideOf d.map p.to.p with
        | none=>rw [dIn_no1 h1] at h;cases h
        | some i =>
          cases h2:flowIx d.flows i p.frm with
          | none=>rw [dIn_no2 h1 h2] at h;cases h
          | some k =>
            obtain ⟨hk,he⟩:=dIn_yes h1 h2
            rw [he] at h
            exact inK_at hd hs hk hp.pk h
      · cases h
  refine pkOk_mk ?_ ?_ hat.1 hqp hat.2
  · rcases his with ⟨_,_,h2,_⟩|⟨h1,h2,_⟩
    · exact door_any h2
    · simp only [Pk.inward,Bool.and_eq_true] at h1
      rw [h2];simp [E.any,h1.1]
  · rcases his with ⟨h1,_,_,h3,_⟩|⟨_,_,h3,_⟩
    · simp only [Pk.outward,Bool.and_eq_true] at h1
      rw [h3];simp [E.any,h1.2]
    · exact inside_any h3
theorem dOut_keep {d:Door} {p:Pk}:∀ g∈d.flows,∃ f∈(dOut d p).1.flows,f.ins=g.ins∧f.out=g.out:=by
  have hin:∀ g∈d.flows,∃ f∈d.flows,f.ins=g.ins∧f.out=g.out:=fun f hf=>⟨f,hf,rfl,rfl⟩
  have hop:∀ x k,openF d p.frm p.to=some (x,k)→∀ g∈d.flows,g∈x.flows:=by
    intro x k h
    unfold openF at h
    split at h
    · cases h;exact fun g hg=>hg
    · split at h
      · split at h
        · cases h
          intro g hg
          simp [hg]
        · cases h
      · cases h
  unfold dOut
  split
  · exact hin
  · rename_i x k ho
    have hx:=hop x k ho
    split
    · exact fun g hg=>⟨g,hx g hg,rfl,rfl⟩
    · rename_i f hf
      split
      · split<;>exact fun g hg=>⟨g,hx g hg,rfl,rfl⟩
      · split
        · exact fun g hg=>⟨g,hx g hg,rfl,rfl⟩
        · intro g hg
          obtain ⟨j,hj⟩:=List.mem_iff_getElem?.1 (hx g hg)
          have hl:=(List.getElem?_eq_some_iff.1 hf).1
          by_cases hkj:k=j
          · subst hkj
            rw [hf] at hj;cases hj
            exact ⟨_,List.mem_set hl _,rfl,rfl⟩
          · exact ⟨g,List.mem_iff_getElem?.2 ⟨j,by simp only;rw [List.getElem?_set_ne hkj];exact hj⟩,rfl,rfl⟩
theorem dIn_keep {d:Door} {p:Pk}:∀ g∈d.flows,∃ f∈(dIn d p).1.flows,f.ins=g.ins∧f.out=g.out:=by
  have hin:∀ g∈d.flows,∃ f∈d.flows,f.ins=g.ins∧f.out=g.out:=fun f hf=>⟨f,hf,rfl,rfl⟩
  unfold dIn
  split
  · exact hin
  · split
    · exact hin
    · rename_i k _
      split
      · exact hin
      · rename_i f hf
        split
        · split<;>exact hin
        · split
          · exact hin
          · intro g hg
            obtain ⟨j,hj⟩:=List.mem_iff_getElem?.1 hg
            have hl:=(List.getElem?_eq_some_iff.1 hf).1
            by_cases hkj:k=j
            · subst hkj
              rw [hf] at hj;cases hj
              exact ⟨_,List.mem_set hl _,rfl,rfl⟩
            · exact ⟨g,List.mem_iff_getElem?.2 ⟨j,by simp only;rw [List.getElem?_set_ne hkj];exact hj⟩,rfl,rfl⟩
theorem dPass_keep {d:Door} {p:Pk}:∀ g∈d.flows,∃ f∈(dPass d p).1.flows,f.ins=g.ins∧f.out=g.out:=by
  unfold dPass
  split
  · exact dOut_keep
  · split
    · exact dIn_keep
    · exact fun f hf=>⟨f,hf,rfl,rfl⟩
def Has (d:Door) (i o:E):Prop:=∃ f∈d.flows,f.ins=i∧f.out=o
theorem has_ix {d:Door} {i o:E}:(flowIx d.flows i o).isSome=true↔Has d i o:=by
  constructor
  · intro h
    obtain ⟨k,hk⟩:=Option.isSome_iff_exists.1 h
    obtain ⟨f,hf,h1,h2,_⟩:=flowIx_some hk
    exact ⟨f,List.mem_of_getElem? hf,h1,h2⟩
  · rintro ⟨f,hf,h1,h2⟩
    cases h:flowIx d.flows i o with
    | some k=>rfl
    | none =>
      have:=List.any_eq_false.1 (flowIx_none.1 h) f hf
      simp [sameF,h1,h2] at this
theorem has_pass {d:Door} {p:Pk} {i o:E} (h:Has d i o):Has (dPass d p).1 i o:=by
  obtain ⟨f,hf,h1,h2⟩:=h
  obtain ⟨g,hg,h3,h4⟩:=dPass_keep (p:=p) f hf
  exact ⟨g,hg,by rw [h3,h1],by rw [h4,h2]⟩
def NetN (_:List Conv) (d:Door) (p:Pk):Prop:=pkOk p=true ∧
  ((p.frm.inside=true∧p.to.outside=true)∨(p.frm.door=true∧p.to.outside=true)∨(p.frm.outside=true∧p.to.door=true)∨(p.frm.outside=true∧p.to.inside=true∧Has d p.to p.frm))
theorem net_step:StepI (fun _ d=>DoorS d) NetN where
  say:=fun w c up port n m p hw hk hc hport hs=>by
    have hcv:=hw.cv c hc
    obtain ⟨h1,h2,h3,h4,h5,h6,h7⟩:=say_P hcv hs
    have hcc:=convOk_iff.1 hcv
    have hne:p.text≠[]:=by
      rw [h5]
      intro hn
      have:=congrArg List.length hn
      simp only [List.length_take,List.length_drop,List.length_nil] at this
      omega
    have hlen:((bif up then c.up else c.down).length:Int)≤24:=by
      have:=convOk_B hcv
      cases up
      · have:=this.down;simp only [cond_false];omega
      · have:=this.up;simp only [cond_true];omega
    have hat:0≤p.at_∧p.at_≤99:=by rw [h4];omega
    cases up with
    | true =>
      simp only [cond_true] at h3
      refine ⟨pkOk_mk ?_ ?_ hat h1 (fun _=>hne),.inl ⟨by rw [h3.1];exact hcc.1.1,by rw [h3.2];exact hcc.1.2.1⟩⟩
      · rw [h3.1];exact inside_any hcc.1.1
      · rw [h3.2];simp [E.any,hcc.1.2.1]
    | false =>
      simp only [cond_false] at h3
      have hd:(⟨9,port⟩:E).door=true:=E.door_iff.2 ⟨rfl,h3.2.2⟩
      refine ⟨pkOk_mk ?_ ?_ hat h1 (fun _=>hne),.inr (.inr (.inl ⟨by rw [h3.1];exact hcc.1.2.1,by rw [h3.2.1];exact hd⟩))⟩
      · rw [h3.1];simp [E.any,hcc.1.2.1]
      · rw [h3.2.1];exact door_any hd
  str:=fun w p hw hk hs=>by
    simp only [stranger,Bool.and_eq_true,Pk.inward] at hs
    exact ⟨hs.1.1,.inr (.inr (.inl hs.1.2))⟩
  pass:=fun w p hw hk hp hn _=>by
    refine ⟨dPass_sm hw.door hk,fun q hq=>⟨dPass_at hw.door hk hp hq, ?_⟩,fun q _ hq=>⟨hq.1, ?_⟩⟩
    · rcases dPass_is hw.door hp hq with ⟨h1,_,h2,h3,_⟩|⟨h1,h2,h3,h4,_,h6⟩
      · simp only [Pk.outward,Bool.and_eq_true] at h1
        exact .inr (.inl ⟨h2,by rw [h3];exact h1.2⟩)
      · simp only [Pk.inward,Bool.and_eq_true] at h1
        exact .inr (.inr (.inr ⟨by rw [h2];exact h1.1,h3,has_pass (has_ix.1 h6)⟩))
    · rcases hq.2 with h|h|h|h
      · exact .inl h
      · exact .inr (.inl h)
      · exact .inr (.inr (.inl h))
      · exact .inr (.inr (.inr ⟨h.1,h.2.1,has_pass h.2.2⟩))
  hear:=fun w p i b c hw hk hp hn hno hb hc=>by
    refine ⟨hk,fun q hq=>?_,fun q _ h=>h⟩
    have hcm:=List.mem_of_getElem? hc
    have hcv:=hw.cv c hcm
    have hcc:=convOk_iff.1 hcv
    obtain ⟨h1,h2,h3,h4,h5⟩:=hear_ans hcv hp.pk hq
    have hat:=hear_at hq
    have hB:=convOk_B (hear_ok (inward:=b) hcv hp.pk)
    have h99:0≤q.at_∧q.at_≤99:=by
      rw [hat]
      have:=hB.upGot
      have:=hB.downGot
      cases b<;>simp only [cond_true,cond_false]<;>omega
    cases b with
    | true =>
      simp only [cond_true] at h5
      refine ⟨pkOk_mk ?_ ?_ h99 h1 (fun h=>by omega),.inl ⟨by rw [h3,h5.2];exact hcc.1.1,by rw [h4,h5.1];exact hcc.1.2.1⟩⟩
      · rw [h3,h5.2];exact inside_any hcc.1.1
      · rw [h4,h5.1];simp [E.any,hcc.1.2.1]
    | false =>
      simp only [cond_false] at h5
      refine ⟨pkOk_mk ?_ ?_ h99 h1 (fun h=>by omega),.inr (.inr (.inl ⟨by rw [h3,h5.1];exact hcc.1.2.1,by rw [h4];exact h5.2⟩))⟩
      · rw [h3,h5.1];simp [E.any,hcc.1.2.1]
      · rw [h4];exact door_any h5.2
end Go.Proofs.YtfepdcpidkjklaaGreatDoor.M
namespace Go.Proofs.YtfepdcpidkjklaaGreatDoor.M
theorem dOut_ext (d:Door) (p:Pk):(∃ y,(dOut d p).1.map=d.map++y)∧d.flows.length≤(dOut d p).1.flows.length:=by
  have h0:(∃ y,d.map=d.map++y)∧d.flows.length≤d.flows.length:=⟨⟨[],by simp⟩,Nat.le_refl _⟩
  have hop:∀ x k,openF d p.frm p.to=some (x,k)→(∃ y,x.map=d.map++y)∧d.flows.length≤x.flows.length:=by
    intro x k h
    unfold openF at h
    split at h
    · cases h;exact h0
    · split at h
      · rename_i m port hm
        split at h
        · cases h
          have:=mOut_pre d.map p.frm
          rw [hm] at this
          exact ⟨this,by simp⟩
        · cases h
      · cases h
  unfold dOut
  split
  · exact h0
  · rename_i x k ho
    have hx:=hop x k ho
    split
    · exact hx
    · rename_i f hf
      split
      · split<;>exact hx
      · split
        · exact hx
        · rename_i m s hp
          obtain ⟨⟨y,hy⟩,hl⟩:=hx
          obtain ⟨z,hz⟩:=put_pre x.map f.up p.at_ p.text true
          rw [hp] at hz
          exact ⟨⟨y++z,by simp only at hz ⊢;rw [hz,hy,List.append_assoc]⟩,by simpa using hl⟩
theorem dIn_ext (d:Door) (p:Pk):(dIn d p).1.map=d.map∧(dIn d p).1.flows.length=d.flows.length:=by
  unfold dIn
  split
  · exact ⟨rfl,rfl⟩
  · split
    · exact ⟨rfl,rfl⟩
    · split
      · exact ⟨rfl,rfl⟩
      · split
        · split<;>exact ⟨rfl,rfl⟩
        · split
          · exact ⟨rfl,rfl⟩
          · exact ⟨rfl,by simp⟩
structure CExt (c d:Conv):Prop where
  ins:d.ins=c.ins
  out:d.out=c.out
  up:d.up=c.up
  down:d.down=c.down
  upGot:∃ x,d.upGot=c.upGot++x
  downGot:∃ x,d.downGot=c.downGot++x
  upAck:c.upAck≤d.upAck
  downAck:c.downAck≤d.downAck
theorem CExt.refl (c:Conv):CExt c c:=⟨rfl,rfl,rfl,rfl,⟨[],by simp⟩,⟨[],by simp⟩,Int.le_refl _,Int.le_refl _⟩
theorem CExt.trans {a b c:Conv} (h:CExt a b) (g:CExt b c):CExt a c:=by
  obtain ⟨x,hx⟩:=h.upGot
  obtain ⟨y,hy⟩:=g.upGot
  obtain ⟨x',hx'⟩:=h.downGot
  obtain ⟨y',hy'⟩:=g.downGot
  exact ⟨g.ins.trans h.ins,g.out.trans h.out,g.up.trans h.up,g.down.trans h.down,⟨x++y,by rw [hy,hx,List.append_assoc]⟩,⟨x'++y',by rw [hy',hx',List.append_assoc]⟩,Int.le_trans h.upAck g.upAck,Int.le_trans h.downAck g.downAck⟩
structure Ext (w v:World):Prop where
  map:∃ y,v.door.map=w.door.map++y
  fl:w.door.flows.length≤v.door.flows.length
  len:v.convs.length=w.convs.length
  cv:∀ (i:Nat) c d,w.convs[i]?=some c→v.convs[i]?=some d→CExt c d
theorem Ext.same {w v:World} (h1:v.convs=w.convs) (h2:v.door=w.door):Ext w v :=
  ⟨⟨[],by rw [h2];simp⟩,by rw [h2];exact Nat.le_refl _,by rw [h1],fun i c d hc hd=>by rw [h1,hc] at hd;cases hd;exact .refl _⟩
theorem Ext.trans {a b c:World} (h:Ext a b) (g:Ext b c):Ext a c:=by
  obtain ⟨x,hx⟩:=h.map
  obtain ⟨y,hy⟩:=g.map
  refine ⟨⟨x++y,by rw [hy,hx,List.append_assoc]⟩,Nat.le_trans h.fl g.fl,g.len.trans h.len,fun i p q hp hq=>?_⟩
  have hl:i<b.convs.length:=by rw [h.len];exact (List.getElem?_eq_some_iff.1 hp).1
  exact (h.cv i p _ hp (List.getElem?_eq_getElem hl)).trans (g.cv i _ q (List.getElem?_eq_getElem hl) hq)
theorem carry_ext (w:World) (p:Pk):Ext w (carry w p).1:=by
  unfold carry
  split
  · have h:(∃ y,(dPass w.door p).1.map=w.door.map++y)∧w.door.flows.length≤(dPass w.door p).1.flows.length:=by
      unfold dPass
      split
      · exact dOut_ext _ _
      · split
        · have:=dIn_ext w.door p
          exact ⟨⟨[],by rw [this.1];simp⟩,by omega⟩
        · exact ⟨⟨[],by simp⟩,Nat.le_refl _⟩
    exact ⟨h.1,h.2,rfl,fun i c d hc hd=>by simp only at hd;rw [hc] at hd;cases hd;exact .refl _⟩
  · split
    · exact .same rfl rfl
    · rename_i i b hb
      split
      · exact .same rfl rfl
      · rename_i c hc
        refine ⟨⟨[],by simp⟩,Nat.le_refl _,by simp,fun j x y hx hy=>?_⟩
        simp only at hy
        by_cases hij:i=j
        · subst hij
          rw [hc] at hx;cases hx
          rw [List.getElem?_set_self (List.getElem?_eq_some_iff.1 hc).1] at hy;cases hy
          obtain ⟨s1,s2,s3,s4⟩:=hear_same c b p
          obtain ⟨g1,g2,g3,g4⟩:=hear_grows c b p
          exact ⟨s1,s2,s3,s4,g1,g2,g3,g4⟩
        · rw [List.getElem?_set_ne hij,hx] at hy;cases hy;exact .refl _
theorem send_ext (w:World) (o:Option Pk):Ext w (send w o):=by
  unfold send
  cases o with
  | none=>exact .same rfl rfl
  | some p=>simp only;split<;>exact .same rfl rfl
theorem wDo_ext (w:World) (e:Ev):Ext w (wDo w e):=by
  unfold wDo
  simp only
  split
  · exact send_ext _ _
  split
  · exact send_ext _ _
  split
  · split
    · split
      · have h1:Ext w { w with nets:=w.nets.eraseIdx e.a.toNat }:=.same rfl rfl
        exact h1.trans ((carry_ext _ _).trans (send_ext _ _))
      · exact .same rfl rfl
    · exact .same rfl rfl
  split
  · split<;>exact .same rfl rfl
  split
  · split
    · exact send_ext _ _
    · exact .same rfl rfl
  split
  · split
    · exact send_ext _ _
    · exact .same rfl rfl
  · exact .same rfl rfl
structure Sil (w:World):Prop where
  got:∀ c∈w.convs,c.upGot=[]∧c.downGot=[]
  door:w.door=.zero
  net:∀ p∈w.nets,p.inward=true
end Go.Proofs.YtfepdcpidkjklaaGreatDoor.M
namespace Go.Proofs.YtfepdcpidkjklaaGreatDoor.M
def Gr (d x:Door):Prop:=∀ f∈d.flows,∃ g∈x.flows,g.ins=f.ins∧g.out=f.out∧sOut f.up <+: sOut g.up∧sOut f.down <+: sOut g.down
theorem Gr.refl (d:Door):Gr d d:=fun f hf=>⟨f,hf,rfl,rfl,List.prefix_rfl,List.prefix_rfl⟩
theorem Gr.trans {a b c:Door} (h:Gr a b) (g:Gr b c):Gr a c:=fun f hf=>by
  obtain ⟨u,hu,u1,u2,u3,u4⟩:=h f hf
  obtain ⟨v,hv,v1,v2,v3,v4⟩:=g u hu
  exact ⟨v,hv,v1.trans u1,v2.trans u2,u3.trans v3,u4.trans v4⟩
end Go.Proofs.YtfepdcpidkjklaaGreatDoor.M
namespace Go.Proofs.YtfepdcpidkjklaaGreatDoor.M
def St (T:B) (q:Pk):Prop:=0≤q.at_∧q.at_.toNat≤T.length∧q.text <+: T.drop q.at_.toNat
theorem St.mono {T U:B} {q:Pk} (h:St T q) (hp:T <+: U):St U q:=by
  obtain ⟨y,rfl⟩:=hp
  obtain ⟨h0,h1,z,hz⟩:=h
  exact ⟨h0,by simp;omega,z++y,by rw [← List.append_assoc,hz,List.drop_append_of_le_length h1]⟩
theorem sendOn_st {was is:Strm} {p q:Pk} (h:sendOn was is p=some q):St (sOut is) q∧q.kind=p.kind:=by
  have h1:=forP_le (l:=is.parts) p.at_
  have h2:=toR_le was is p
  have e:sendOn was is p=if forP is.parts p.at_≥toR was is p then none else if toR was is p - forP is.parts p.at_≤40 then some { p with at_:=forP is.parts p.at_,text:=((sOut is).take (toR was is p).toNat).drop (forP is.parts p.at_).toNat } else none:=rfl
  rw [e] at h
  generalize forP is.parts p.at_=a at *
  generalize toR was is p=b at *
  split at h
  · cases h
  · split at h
    · cases h
      refine ⟨⟨h1.1,by simp only;omega, ?_⟩,rfl⟩
      simp only
      rw [List.drop_take]
      exact List.take_prefix _ _
    · cases h
theorem backP_pre {l r:List Part} (h:∀ p∈r,0≤p.size∧p.size≤6):∀ {n:Int},l <+: r→backP l n≤backP r n:=by
  induction l generalizing r with
  | nil=>intro n _;exact (backP_rng h n).1
  | cons p l ih =>
    intro n hp
    obtain ⟨t,rfl⟩:=hp
    have h2:=h p (by simp)
    have h1:=ih (r:=l++t) (fun q hq=>h q (by simp at hq ⊢;exact .inr hq)) (n:=n - p.text.length) (List.prefix_append _ _)
    simp only [List.cons_append,backP]
    split<;>omega
theorem sOut_pre {s t:Strm} (h:s.parts <+: t.parts):sOut s <+: sOut t:=by
  obtain ⟨y,hy⟩:=h
  simp only [sOut,← hy,List.flatMap_append]
  exact List.prefix_append _ _
structure Tr (c:Conv) (f:Flw):Prop where
  upIn:f.up.inn <+: c.up
  downIn:f.down.inn <+: c.down
  upGot:c.upGot <+: sOut f.up
  downGot:c.downGot <+: sOut f.down
  upAck:c.upAck≤backP f.up.parts c.upGot.length
  downAck:c.downAck≤backP f.down.parts c.downGot.length
def Of (f:Flw) (c:Conv):Prop:=f.ins=c.ins∧f.out=c.out
def TrK (cs:List Conv) (d:Door):Prop:=Apart cs∧∀ c∈cs,(∀ f∈d.flows,Of f c→Tr c f)∧((∀ f∈d.flows,¬ Of f c)→c.upGot=[]∧c.downGot=[]∧c.upAck=0∧c.downAck=0)
structure TrN (cs:List Conv) (d:Door) (p:Pk):Prop where
  up:p.kind=1→∀ c∈cs,p.frm=c.ins→p.to=c.out→St c.up p
  down:p.kind=1→∀ c∈cs,p.frm=c.out→p.to.door=true→St c.down p
  inn:p.kind=1→∀ c∈cs,p.frm=c.out→p.to=c.ins→∃ f∈d.flows,Of f c∧St (sOut f.down) p
  out:p.kind=1→p.frm.door=true→∃ f∈d.flows,f.out=p.to∧portOf d.map f.ins=p.frm.p∧St (sOut f.up) p
  aUp:p.kind=2→∀ c∈cs,p.frm=c.out→p.to.door=true→p.at_≤c.upGot.length
  aDown:p.kind=2→∀ c∈cs,p.frm=c.ins→p.to=c.out→p.at_≤c.downGot.length
  aInn:p.kind=2→∀ c∈cs,p.frm=c.out→p.to=c.ins→∃ f∈d.flows,Of f c∧p.at_≤backP f.up.parts c.upGot.length
  aOut:p.kind=2→p.frm.door=true→∃ f∈d.flows,f.out=p.to∧portOf d.map f.ins=p.frm.p∧∀ c∈cs,Of f c→p.at_≤backP f.down.parts c.downGot.length
theorem put_parts (m:List Pair) (s:Strm) (n:Int) (t:B) (out:Bool):s.parts <+: (put m s n t out).2.1.parts∧(put m s n t out).2.1.inn=(bif (put m s n t out).2.2 then (behind s.inn n t).1 else s.inn):=by
  unfold put
  split
  · exact ⟨List.prefix_append _ _,rfl⟩
  · exact ⟨List.prefix_rfl,rfl⟩
theorem TrK.set {cs:List Conv} {x:Door} {m:List Pair} {k:Nat} {f g:Flw} (h:TrK cs x) (hf:x.flows[k]?=some f) (h1:g.ins=f.ins) (h2:g.out=f.out) (ht:∀ c∈cs,Of f c→Tr c g):TrK cs ⟨m,x.flows.set k g⟩:=by
  have hl:=(List.getElem?_eq_some_iff.1 hf).1
  refine ⟨h.1,fun c hc=>⟨fun u hu ho=>?_,fun hno=>(h.2 c hc).2 fun u hu ho=>?_⟩⟩
  · rcases List.mem_or_eq_of_mem_set hu with hu|rfl
    · exact (h.2 c hc).1 u hu ho
    · exact ht c hc ⟨by rw [← h1];exact ho.1,by rw [← h2];exact ho.2⟩
  · obtain ⟨j,hj⟩:=List.mem_iff_getElem?.1 hu
    by_cases hkj:k=j
    · subst hkj
      rw [hf] at hj;cases hj
      exact hno g (List.mem_set hl _) ⟨by rw [h1];exact ho.1,by rw [h2];exact ho.2⟩
    · exact hno u (List.mem_iff_getElem?.2 ⟨j,by simp only;rw [List.getElem?_set_ne hkj];exact hj⟩) ho
def Gp (d x:Door):Prop:=∀ f∈d.flows,∃ g∈x.flows,g.ins=f.ins∧g.out=f.out∧f.up.parts <+: g.up.parts∧f.down.parts <+: g.down.parts
theorem Gp.refl (d:Door):Gp d d:=fun f hf=>⟨f,hf,rfl,rfl,List.prefix_rfl,List.prefix_rfl⟩
theorem sizes {s:Strm} (h:strmOk s=true):∀ p∈s.parts,0≤p.size∧p.size≤6:=fun p hp=>by have:=((strmOk_B h).2.2 p hp).1;omega
theorem portBack {m:List Pair} {e:E} (hm:mapOk m=true) (h:portOf m e≠0):insideOf m (portOf m e)=some e:=by
  unfold portOf at h ⊢
  cases hf:m.find? fun p=>decide (p.ins=e) with
  | none=>rw [hf] at h;exact absurd rfl h
  | some p =>
    have hp:=List.find?_some hf
    simp only [decide_eq_true_eq] at hp
    obtain ⟨i,hi⟩:=List.getElem?_of_mem (List.mem_of_find?_eq_some hf)
    have hl:=(List.getElem?_eq_some_iff.1 hi).1
    have hpo:p.port=10+(i:Int):=by
      have h2:=hm
      simp only [mapOk,Bool.and_eq_true,decide_eq_true_eq,List.all_eq_true,List.mem_range] at h2
      have h3:=h2.1 i hl
      simp only [okPair,hi,Bool.and_eq_true,decide_eq_true_eq] at h3
      exact h3.1.1
    simp only
    rw [insideOf_at hm,dif_pos (by omega)]
    have:(p.port - 10).toNat=i:=by omega
    simp only [this]
    have:=List.getElem?_eq_getElem hl
    rw [hi] at this;cases this
    rw [hp]
theorem TrN.grow {cs:List Conv} {d x:Door} {q:Pk} (h:TrN cs d q) (hx:doorOk x=true) (hg:Gp d x) (hm:∃ y,x.map=d.map++y):TrN cs x q:=by
  obtain ⟨y,hy⟩:=hm
  have ok:∀ g∈x.flows,strmOk g.up=true∧strmOk g.down=true:=fun g hgm=>by
    obtain ⟨k,hk⟩:=List.mem_iff_getElem?.1 hgm
    obtain ⟨_,_,h1,h2,_⟩:=flow_at hx hk
    exact ⟨h1,h2⟩
  have hport:∀ e:E,q.frm.door=true→portOf d.map e=q.frm.p→portOf x.map e=q.frm.p:=fun e hd he=>by
    rw [hy,portOf_app (by have:=E.door_iff.1 hd;omega),he]
  refine ⟨h.up,h.down,fun a c b e f=>?_,fun a b=>?_,h.aUp,h.aDown,fun a c b e f=>?_,fun a b=>?_⟩
  · obtain ⟨u,hu,u1,u2⟩:=h.inn a c b e f
    obtain ⟨v,hv,v1,v2,v3,v4⟩:=hg u hu
    exact ⟨v,hv,⟨v1.trans u1.1,v2.trans u1.2⟩,u2.mono (sOut_pre v4)⟩
  · obtain ⟨u,hu,u1,u2,u3⟩:=h.out a b
    obtain ⟨v,hv,v1,v2,v3,v4⟩:=hg u hu
    exact ⟨v,hv,v2.trans u1,by rw [v1];exact hport _ b u2,u3.mono (sOut_pre v3)⟩
  · obtain ⟨u,hu,u1,u2⟩:=h.aInn a c b e f
    obtain ⟨v,hv,v1,v2,v3,v4⟩:=hg u hu
    exact ⟨v,hv,⟨v1.trans u1.1,v2.trans u1.2⟩,Int.le_trans u2 (backP_pre (sizes (ok v hv).1) v3)⟩
  · obtain ⟨u,hu,u1,u2,u3⟩:=h.aOut a b
    obtain ⟨v,hv,v1,v2,v3,v4⟩:=hg u hu
    exact ⟨v,hv,v2.trans u1,by rw [v1];exact hport _ b u2,fun c hc ho=>Int.le_trans (u3 c hc ⟨by rw [← v1];exact ho.1,by rw [← v2];exact ho.2⟩) (backP_pre (sizes (ok v hv).2) v4)⟩
end Go.Proofs.YtfepdcpidkjklaaGreatDoor.M
namespace Go.Proofs.YtfepdcpidkjklaaGreatDoor.M
variable {K:List Conv→Door→Prop} {N:List Conv→Door→Pk→Prop}
theorem WI.si {w:World} (h:WI w):SI (fun _ _=>True) (fun _ _ _=>True) w:=⟨h,trivial,fun _ _=>trivial⟩
theorem NetP.ext {w v:World} {p:Pk} (h:NetP w.convs p) (hx:Ext w v):NetP v.convs p:=⟨h.pk,fun hi=>by
  obtain ⟨c,hc,h1,h2⟩:=h.c hi
  obtain ⟨i,hi⟩:=List.mem_iff_getElem?.1 hc
  have hl:i<v.convs.length:=by rw [hx.len];exact (List.getElem?_eq_some_iff.1 hi).1
  have hg:=List.getElem?_eq_getElem hl
  have hce:=hx.cv i c _ hi hg
  exact ⟨_,List.mem_of_getElem? hg,by rw [hce.ins,h1],by rw [hce.out,h2]⟩⟩
end Go.Proofs.YtfepdcpidkjklaaGreatDoor.M
namespace Go.Proofs.YtfepdcpidkjklaaGreatDoor.M
def matchC (w:World) (p:Pk) (c:Conv):Bool:=(decide (p.to=c.ins) && decide (p.frm=c.out)) || (decide (p.to=c.out) && p.frm.door && decide (p.frm.p=portOf w.door.map c.ins))
def hostR (w:World) (p:Pk):World × Option Pk:=match hostIx w p with
  | none=>(w,none)
  | some (i,inward)=>match w.convs[i]? with
    | none=>(w,none)
    | some c=>({ w with convs:=w.convs.set i (hear c inward p).1 },(hear c inward p).2)
theorem carry_host {w:World} {p:Pk} (h:(p.to.door || p.frm.inside)=false):carry w p=hostR w p:=by
  unfold carry
  rw [if_neg (by simp [h])]
  rfl
theorem carry_door {w:World} {p:Pk} (h:(p.to.door || p.frm.inside)=true):carry w p=({ w with door:=(dPass w.door p).1 },(dPass w.door p).2):=by
  unfold carry
  rw [if_pos h]
theorem hostR_no {w:World} {p:Pk} (h:w.convs.any (matchC w p)=false):hostR w p=(w,none):=by
  have:w.convs.findIdx? (matchC w p)=none:=List.findIdx?_eq_none_iff.2 fun x hx=>by simpa using List.any_eq_false.1 h x hx
  have e:hostIx w p=none:=by
    unfold hostIx
    rw [show (w.convs.findIdx? fun c=>(decide (p.to=c.ins) && decide (p.frm=c.out)) || (decide (p.to=c.out) && p.frm.door && decide (p.frm.p=portOf w.door.map c.ins)))=none from this]
  unfold hostR
  rw [e]
theorem hostR_at {w:World} {p:Pk} {k:Nat} (hk:k<w.convs.length) (h:(w.convs.take k).any (matchC w p)=false) (hm:matchC w p w.convs[k]=true) :
    hostR w p=({ w with convs:=w.convs.set k (hear w.convs[k] (decide (p.to=w.convs[k].ins) && decide (p.frm=w.convs[k].out)) p).1 },(hear w.convs[k] (decide (p.to=w.convs[k].ins) && decide (p.frm=w.convs[k].out)) p).2):=by
  have:w.convs.findIdx? (matchC w p)=some k:=by
    refine List.findIdx?_eq_some_iff_getElem.2 ⟨hk,hm,fun j hj=>?_⟩
    have:=List.any_eq_false.1 h w.convs[j] (List.mem_iff_getElem?.2 ⟨j,by rw [List.getElem?_take,if_pos hj];exact List.getElem?_eq_getElem _⟩)
    simpa using this
  have e:hostIx w p=some (k,decide (p.to=w.convs[k].ins) && decide (p.frm=w.convs[k].out)):=by
    unfold hostIx
    rw [show (w.convs.findIdx? fun c=>(decide (p.to=c.ins) && decide (p.frm=c.out)) || (decide (p.to=c.out) && p.frm.door && decide (p.frm.p=portOf w.door.map c.ins)))=some k from this]
    simp only [List.getElem?_eq_getElem hk]
  unfold hostR
  rw [e]
  simp only [List.getElem?_eq_getElem hk]
theorem matchC_e (w:World) (p:Pk) (c:Conv):matchC w p c=((decide (p.to=c.ins) && decide (p.frm=c.out)) || (decide (p.to=c.out) && p.frm.door && decide (p.frm.p=portOf w.door.map c.ins))):=rfl
end Go.Proofs.YtfepdcpidkjklaaGreatDoor.M
namespace Go.Proofs.YtfepdcpidkjklaaGreatDoor.M
theorem forP_back {l:List Part} (h:∀ p∈l,1≤p.size):∀ {k n:Int},0≤k→n≤backP l k→forP l n≤k:=by
  induction l with
  | nil=>intro k n hk _;simpa [forP] using hk
  | cons p l ih =>
    intro k n hk hn
    have h1:=h p (by simp)
    simp only [backP] at hn
    simp only [forP]
    split at hn
    · rename_i hl
      split
      · have:=ih (fun q hq=>h q (by simp [hq])) (k:=k - p.text.length) (n:=n - p.size) (by omega) (by omega)
        omega
      · exact hk
    · rw [if_neg (by omega)];exact hk
theorem forP_full {l:List Part} (h:∀ p∈l,1≤p.size):∀ {n:Int},(doneP l:Int)≤n→forP l n=(l.flatMap (·.text)).length:=by
  induction l with
  | nil=>intro n _;rfl
  | cons p l ih =>
    intro n hn
    have h1:=h p (by simp)
    rw [doneP_cons] at hn
    have:=ih (fun q hq=>h q (by simp [hq])) (n:=n - p.size) (by omega)
    simp only [forP]
    rw [if_pos (by omega),this]
    simp
theorem full_done {s:Strm} {T:B} (hs:strmOk s=true) (hT:s.inn=T) (hh:held T=0):doneP s.parts=T.length:=by
  have:=(strmOk_done hs).1
  rw [hT,body_len,hh] at this
  omega
theorem strm_one {s:Strm} (hs:strmOk s=true):∀ p∈s.parts,1≤p.size∧1≤p.text.length:=fun p hp=>by
  have:=(strmOk_B hs).2.2 p hp
  omega
end Go.Proofs.YtfepdcpidkjklaaGreatDoor.M
namespace Go.Proofs.YtfepdcpidkjklaaGreatDoor.M
theorem any_step {α:Type} {P:α→Bool} {l:List α} {k:Nat} (hk:k<l.length) (h:(l.take k).any P=false) (hp:P l[k]=false):(l.take (k+1)).any P=false:=by
  rw [List.take_add_one,List.getElem?_eq_getElem hk]
  simp only [Option.toList_some,List.any_append,h,List.any_cons,List.any_nil,Bool.or_false,Bool.false_or,hp]
def flowOf (d:Door) (i o:E):Option Flw:=(flowIx d.flows i o).bind fun k=>d.flows[k]?
def DoorQ (d:Door):Prop:=∀ f∈d.flows,(sOut f.up).length≤50∧(sOut f.down).length≤50
theorem doorS_q {d:Door} (hd:doorOk d=true) (hs:DoorS d):DoorQ d:=fun f hf=>by
  obtain ⟨k,hk⟩:=List.mem_iff_getElem?.1 hf
  obtain ⟨_,_,h1,h2,_⟩:=flow_at hd hk
  have a1:=sOut_65 (hs f hf).1 h1
  have a2:=sOut_65 (hs f hf).2 h2
  have b1:=(strmOk_B h1).1
  have b2:=(strmOk_B h2).1
  omega
theorem parts_65:∀ {l:List Part},(∀ p∈l,5 * p.text.length≤6 * p.size.toNat)→5 * (l.flatMap (·.text)).length≤6 * doneP l
  | [],_=>by simp [doneP]
  | p :: l,h=>by
    have h1:=h p (by simp)
    have h2:=parts_65 (l:=l) fun q hq=>h q (by simp [hq])
    rw [doneP_cons]
    simp only [List.flatMap_cons,List.length_append]
    omega
theorem doneP_app (a b:List Part):doneP (a++b)=doneP a+doneP b:=by simp [doneP]
theorem put_q {m:List Pair} {s:Strm} {n:Int} {t:B} {out:Bool} (hm:mapOk m=true) (hs:strmOk s=true) (ht:txOk t=true) (hn:0≤n):(sOut (put m s n t out).2.1).length≤(sOut s).length+48:=by
  have hok:=(put_ok (out:=out) hm hs ht hn).2
  have hd:=(strmOk_done hok).1
  have hB:=(strmOk_B hok).1
  rw [body_len] at hd
  unfold put at hd hB hok ⊢
  split
  · rename_i hb
    rw [if_pos hb] at hd hB
    simp only at hd hB
    have h2:=parts_65 (turned_sm (m:=m) (s:=(behind s.inn n t).1.drop (doneP s.parts)) (out:=out) (l:=(pieces (behind s.inn n t).1).drop s.parts.length) hm fun q hq=>pcK_named _ _ q (List.mem_of_mem_drop hq))
    rw [doneP_app] at hd
    simp only [sOut,List.flatMap_append,List.length_append]
    omega
  · exact Nat.le_add_right _ _
theorem put_again {m m':List Pair} {s s':Strm} {n:Int} {t:B} {out:Bool} (hs:strmOk s'=true) (h:(put m s n t out).2.2=true) (he:(put m s n t out).2.1=s') (hn:0≤n):put m' s' n t out=(m',s',true):=by
  have hb:(behind s.inn n t).2=true:=by
    unfold put at h
    split at h
    · assumption
    · cases h
  have hinn:s'.inn=(behind s.inn n t).1:=by
    rw [← he]
    unfold put
    rw [if_pos hb]
  have hb2:behind s'.inn n t=(s'.inn,true):=by
    rw [hinn]
    unfold behind at hb ⊢
    by_cases c1:(decide (n>(s.inn.length:Int)) || decide (n+t.length>40))=true
    · rw [if_pos c1] at hb;cases hb
    · simp only [if_neg c1] at hb ⊢
      simp only [Bool.or_eq_true,decide_eq_true_eq,not_or] at c1
      by_cases c2:n+(t.length:Int)≤s.inn.length
      · simp only [if_pos c2]
        rw [if_neg (by simp only [Bool.or_eq_true,decide_eq_true_eq];omega)]
      · simp only [if_neg c2]
        have hl:((s.inn++t.drop (s.inn.length - n).toNat).length:Int)=n+t.length:=by
          rw [List.length_append,List.length_drop]
          omega
        rw [if_neg (by simp only [Bool.or_eq_true,decide_eq_true_eq];omega),if_pos (by omega)]
  have hp:(pieces s'.inn).drop s'.parts.length=[]:=by
    rw [(strmOk_done hs).2]
    simp
  unfold put
  rw [hb2]
  simp only [if_true,hp,turned,mkParts,List.append_nil]
theorem send_again {m:List Pair} {s:Strm} {p:Pk} {out:Bool} (hm:mapOk m=true) (hs:strmOk s=true) (ht:txOk p.text=true) (hn:0≤p.at_) (h:(put m s p.at_ p.text out).2.2=true) :
    sendOn (put m s p.at_ p.text out).2.1 (put m s p.at_ p.text out).2.1 p=sendOn s (put m s p.at_ p.text out).2.1 p:=by
  have hok:=(put_ok (out:=out) hm hs ht hn).2
  have hpp:=(put_parts m s p.at_ p.text out).2
  rw [h,cond_true] at hpp
  have e:∀ was is:Strm,sendOn was is p=if forP is.parts p.at_≥toR was is p then none else if toR was is p - forP is.parts p.at_≤40 then some { p with at_:=forP is.parts p.at_,text:=((sOut is).take (toR was is p).toNat).drop (forP is.parts p.at_).toNat } else none:=fun _ _=>rfl
  suffices ht:toR (put m s p.at_ p.text out).2.1 (put m s p.at_ p.text out).2.1 p=toR s (put m s p.at_ p.text out).2.1 p by rw [e,e,ht]
  generalize (put m s p.at_ p.text out).2.1=s' at *
  have hb:(behind s.inn p.at_ p.text).2=true:=by
    unfold put at h
    split at h
    · assumption
    · cases h
  unfold toR
  rw [if_neg (Nat.lt_irrefl _)]
  split
  · rename_i hlt
    have hl:(s'.inn.length:Int)≤p.at_+p.text.length:=by
      rw [hpp] at hlt ⊢
      unfold behind at hb hlt ⊢
      by_cases c1:(decide (p.at_>(s.inn.length:Int)) || decide (p.at_+p.text.length>40))=true
      · rw [if_pos c1] at hb;cases hb
      · simp only [if_neg c1] at hb hlt ⊢
        simp only [Bool.or_eq_true,decide_eq_true_eq,not_or] at c1
        by_cases c2:p.at_+(p.text.length:Int)≤s.inn.length
        · simp only [if_pos c2] at hlt;omega
        · simp only [if_neg c2]
          rw [List.length_append,List.length_drop]
          omega
    rw [Int.min_eq_right hl]
    refine forP_full (fun q hq=>(strm_one hok q hq).1) ?_
    have:=(strmOk_done hok).1
    rw [body_len] at this
    omega
  · rfl
structure Opens (d:Door) (i o:E) (x:Door) (k:Nat) (f:Flw):Prop where
  ok:doorOk x=true
  at_:x.flows[k]?=some f
  ins:f.ins=i
  out:f.out=o
  ix:flowIx x.flows i o=some k
  up:((flowOf d i o).getD .zero).up=f.up
  down:((flowOf d i o).getD .zero).down=f.down
  port:portOf x.map i≠0
  map:∃ y,x.map=d.map++y
  sub:∃ y,x.flows=d.flows++y∧(y=[]∨(y=[f]∧k=d.flows.length))
  q:DoorQ d→DoorQ x
theorem opens {d:Door} {i o:E} (hd:doorOk d=true) (hi:i.inside=true) (ho:o.outside=true) (hok:(openR d i o).2.2=true):∃ f,Opens d i o (openR d i o).1 (openR d i o).2.1 f:=by
  have hx:=openR_ok hd hi ho hok
  cases hf:flowIx d.flows i o with
  | some k =>
    rw [openF_has hf] at hx ⊢
    obtain ⟨f,h1,h2,h3,h4⟩:=flowIx_some hf
    refine ⟨f,hx.ok,h1,h2,h3,hf, ?_, ?_,hx.port,⟨[],by simp⟩,⟨[],by simp,.inl rfl⟩,fun h=>h⟩
    · simp [flowOf,hf,h1]
    · simp [flowOf,hf,h1]
  | none =>
    cases h2:(mOut d.map i).2.2 with
    | false=>rw [openF_no hf h2] at hok;cases hok
    | true =>
      by_cases h4:d.flows.length<4
      · rw [openF_new hf h2 h4] at hx ⊢
        have h1:(d.flows++[Flw.mk i o .zero .zero])[d.flows.length]?=some ⟨i,o,.zero,.zero⟩:=by simp
        refine ⟨⟨i,o,.zero,.zero⟩,hx.ok,h1,rfl,rfl,flowIx_at h1 rfl rfl (by rw [List.take_left' rfl];exact flowIx_none.1 hf), ?_, ?_,hx.port,mOut_pre _ _,⟨_,rfl,.inr ⟨rfl,rfl⟩⟩,fun h f hfm=>?_⟩
        · simp [flowOf,hf,Flw.zero]
        · simp [flowOf,hf,Flw.zero]
        · rcases List.mem_append.1 hfm with h5|h5
          · exact h f h5
          · simp only [List.mem_singleton] at h5
            subst h5
            simp [sOut,Strm.zero]
      · exfalso
        rcases hmo:mOut d.map i with ⟨m,n,ok⟩
        rw [hmo] at h2
        simp only at h2
        subst h2
        simp [openR,openF,hf,hmo,h4] at hok
theorem set_ix {fs:List Flw} {i o:E} {k:Nat} {f g:Flw} (h:flowIx fs i o=some k) (hf:fs[k]?=some f) (h1:g.ins=f.ins) (h2:g.out=f.out):flowIx (fs.set k g) i o=some k∧(fs.set k g)[k]?=some g:=by
  obtain ⟨f',e1,e2,e3,e4⟩:=flowIx_some h
  rw [hf] at e1;cases e1
  have hl:=(List.getElem?_eq_some_iff.1 hf).1
  refine ⟨flowIx_at (List.getElem?_set_self hl) (by rw [h1,e2]) (by rw [h2,e3]) ?_,List.getElem?_set_self hl⟩
  rw [List.take_set_of_le (Nat.le_refl _)]
  exact e4
structure OutIs (d:Door) (p:Pk) (x:Door) (r:Pk):Prop where
  ok:doorOk x=true
  port:portOf x.map p.frm≠0
  frm:r.frm=⟨9,portOf x.map p.frm⟩
  to:r.to=p.to
  kind:r.kind=p.kind
  map:∃ y,x.map=d.map++y
  q:DoorQ d→∀ f∈x.flows,(sOut f.up).length≤98∧(sOut f.down).length≤98
  fl:∃ (k:Nat) (g:Flw),flowIx x.flows p.frm p.to=some k∧x.flows[k]?=some g∧g.down=((flowOf d p.frm p.to).getD .zero).down ∧
    (p.kind=2→g.up=((flowOf d p.frm p.to).getD .zero).up∧r.at_=backP g.down.parts p.at_∧p.at_≤(sOut g.down).length∧r.text=[]) ∧
    (p.kind=1→∃ m0,mapOk m0=true∧(∃ y,m0=d.map++y)∧strmOk ((flowOf d p.frm p.to).getD .zero).up=true∧put m0 ((flowOf d p.frm p.to).getD .zero).up p.at_ p.text true=(x.map,g.up,true)∧∃ q,sendOn ((flowOf d p.frm p.to).getD .zero).up g.up p=some q∧r.at_=q.at_∧r.text=q.text)
theorem dOut_is {d:Door} {p:Pk} (hd:doorOk d=true) (hp:PkP p) (hi:p.frm.inside=true) (ho:p.to.outside=true) {r:Pk} (h:(dOut d p).2=some r):OutIs d p (dOut d p).1 r:=by
  cases hok:(openR d p.frm p.to).2.2 with
  | false=>rw [dOut_no hok] at h;cases h
  | true =>
    have hx:=openR_ok hd hi ho hok
    obtain ⟨f,hop⟩:=opens hd hi ho hok
    have hdo:=(dOut_ok hd hp (by simp only [Pk.outward,hi,ho,Bool.and_self])).1
    rw [dOut_yes hok hx.kl] at h hdo ⊢
    generalize (openR d p.frm p.to).1=x at *
    generalize (openR d p.frm p.to).2.1=k at *
    have hat:Flw.at x k=f:=by simp [Flw.at,List.getD,hop.at_]
    have hl:=(List.getElem?_eq_some_iff.1 hop.at_).1
    obtain ⟨_,_,hu,hdn,_⟩:=flow_at hop.ok hop.at_
    have h98:DoorQ d→∀ f∈x.flows,(sOut f.up).length≤98∧(sOut f.down).length≤98:=fun hq f hf=>by have:=hop.q hq f hf;omega
    unfold outK at h hdo ⊢
    rw [hat] at h hdo ⊢
    by_cases hk2:p.kind=2
    · rw [if_pos hk2] at h hdo ⊢
      by_cases hc:p.at_>(sOut f.down).length
      · rw [if_pos hc] at h;cases h
      · rw [if_neg hc] at h hdo ⊢
        cases h
        refine ⟨hop.ok,hop.port,rfl,rfl,hk2.symm,hop.map,h98,k,f,hop.ix,hop.at_,hop.down.symm,fun _=>⟨hop.up.symm,rfl,by omega,rfl⟩,fun h1=>by omega⟩
    · rw [if_neg hk2] at h hdo ⊢
      have hk1:=hp.kd.resolve_right hk2
      have htx:=hp.tx.resolve_left hk2
      by_cases hc:(put x.map f.up p.at_ p.text true).2.2=false
      · rw [if_pos hc] at h;cases h
      · rw [if_neg hc] at h hdo ⊢
        obtain ⟨q,hq,rfl⟩:=Option.map_eq_some_iff.1 h
        have hput:(put x.map f.up p.at_ p.text true).2.2=true:=by simpa using hc
        obtain ⟨_,q1,q2,q3⟩:=sendOn_P (strmOk_B (put_ok (out:=true) hx.map hu htx hp.at_.1).2) hp hk2 hq
        obtain ⟨s1,s2⟩:=set_ix hop.ix hop.at_ (g:={ f with up:=(put x.map f.up p.at_ p.text true).2.1 }) rfl rfl
        have hpo:portOf (put x.map f.up p.at_ p.text true).1 p.frm=portOf x.map p.frm:=put_port hop.port
        refine ⟨hdo,by simp only;rw [hpo];exact hop.port,by simp only;rw [hpo],q2,q3, ?_,fun hq f' hf'=>?_,k,_,s1,s2,hop.down.symm,fun h2=>absurd h2 hk2,fun _=>⟨x.map,hx.map,hop.map,by rw [hop.up];exact hu, ?_,q,by rw [hop.up];exact hq,rfl,rfl⟩⟩
        · obtain ⟨y,hy⟩:=hop.map
          obtain ⟨z,hz⟩:=put_pre x.map f.up p.at_ p.text true
          exact ⟨y++z,by simp only;rw [hz,hy,List.append_assoc]⟩
        · rcases List.mem_or_eq_of_mem_set hf' with h5|rfl
          · exact h98 hq f' h5
          · have h6:=put_q (out:=true) (n:=p.at_) (t:=p.text) hx.map hu htx hp.at_.1
            have h7:=hop.q hq f (List.mem_of_getElem? hop.at_)
            simp only
            omega
        · rw [hop.up]
          rcases hpt:put x.map f.up p.at_ p.text true with ⟨m',s',ok⟩
          rw [hpt] at hput
          simp only at hput
          rw [hput]
structure InIs (d:Door) (p:Pk) (x:Door) (r:Pk):Prop where
  ok:doorOk x=true
  ins:insideOf d.map p.to.p=some r.to
  inside:r.to.inside=true
  frm:r.frm=p.frm
  kind:r.kind=p.kind
  map:x.map=d.map
  len:x.flows.length=d.flows.length
  q:DoorQ d→∀ f∈x.flows,(sOut f.up).length≤98∧(sOut f.down).length≤98
  fl:∃ (k:Nat) (f g:Flw),flowIx d.flows r.to p.frm=some k∧d.flows[k]?=some f∧flowIx x.flows r.to p.frm=some k∧x.flows[k]?=some g∧strmOk f.down=true∧g.up=f.up ∧
    (p.kind=2→x=d∧r.at_=backP f.up.parts p.at_∧p.at_≤(sOut f.up).length∧r.text=[]) ∧
    (p.kind=1→put d.map f.down p.at_ p.text false=(d.map,g.down,true)∧∃ q,sendOn f.down g.down p=some q∧r.at_=q.at_∧r.text=q.text)
theorem dIn_is {d:Door} {p:Pk} (hd:doorOk d=true) (hp:PkP p) {r:Pk} (h:(dIn d p).2=some r):InIs d p (dIn d p).1 r:=by
  have hdm:=(doorOk_iff.1 hd).1
  cases h1:insideOf d.map p.to.p with
  | none=>rw [dIn_no1 h1] at h;cases h
  | some i =>
    cases h2:flowIx d.flows i p.frm with
    | none=>rw [dIn_no2 h1 h2] at h;cases h
    | some k =>
      obtain ⟨hk,he⟩:=dIn_yes h1 h2
      obtain ⟨f,f1,f2,f3,_⟩:=flowIx_some h2
      have hdo:=dIn_ok hd hp
      rw [he] at h hdo ⊢
      have hat:Flw.at d k=f:=by simp [Flw.at,List.getD,f1]
      obtain ⟨_,_,hu,hdn,_⟩:=flow_at hd f1
      have h98:DoorQ d→∀ f∈d.flows,(sOut f.up).length≤98∧(sOut f.down).length≤98:=fun hq f hf=>by have:=hq f hf;omega
      unfold inK at h hdo ⊢
      rw [hat] at h hdo ⊢
      by_cases hk2:p.kind=2
      · rw [if_pos hk2] at h hdo ⊢
        by_cases hc:p.at_>(sOut f.up).length
        · rw [if_pos hc] at h;cases h
        · rw [if_neg hc] at h hdo ⊢
          cases h
          exact ⟨hd,h1,insideOf_ok hdm h1,rfl,hk2.symm,rfl,rfl,h98,k,f,f,h2,f1,h2,f1,hdn,rfl,fun _=>⟨rfl,rfl,by omega,rfl⟩,fun h1=>by omega⟩
      · rw [if_neg hk2] at h hdo ⊢
        have htx:=hp.tx.resolve_left hk2
        by_cases hc:(put d.map f.down p.at_ p.text false).2.2=false
        · rw [if_pos hc] at h;cases h
        · rw [if_neg hc] at h hdo ⊢
          obtain ⟨q,hq,rfl⟩:=Option.map_eq_some_iff.1 h
          have hput:(put d.map f.down p.at_ p.text false).2.2=true:=by simpa using hc
          obtain ⟨_,q1,q2,q3⟩:=sendOn_P (strmOk_B (put_ok (out:=false) hdm hdn htx hp.at_.1).2) hp hk2 hq
          obtain ⟨s1,s2⟩:=set_ix h2 f1 (g:={ f with down:=(put d.map f.down p.at_ p.text false).2.1 }) rfl rfl
          refine ⟨hdo.1,h1,insideOf_ok hdm h1,q1,q3,rfl,by simp,fun hq f' hf'=>?_,k,f,_,h2,f1,s1,s2,hdn,rfl,fun h2=>absurd h2 hk2,fun _=>⟨?_,q,hq,rfl,rfl⟩⟩
          · rcases List.mem_or_eq_of_mem_set hf' with h5|rfl
            · exact h98 hq f' h5
            · have h6:=put_q (out:=false) (n:=p.at_) (t:=p.text) hdm hdn htx hp.at_.1
              have h7:=hq f (List.mem_of_getElem? f1)
              simp only
              omega
          · have hm:=put_mapF d.map f.down p.at_ p.text
            rcases hpt:put d.map f.down p.at_ p.text false with ⟨m',s',ok⟩
            rw [hpt] at hput hm
            simp only at hput hm
            rw [hput,hm]
theorem dPass_again {d:Door} {p:Pk} (hd:doorOk d=true) (hp:PkP p):dPass (dPass d p).1 p=dPass d p:=by
  have hdm:=(doorOk_iff.1 hd).1
  unfold dPass
  by_cases ho:p.outward=true
  · simp only [if_pos ho]
    have ho':=ho
    simp only [Pk.outward,Bool.and_eq_true] at ho'
    cases hok:(openR d p.frm p.to).2.2 with
    | false=>rw [dOut_no hok];simp only;rw [dOut_no hok]
    | true =>
      have hx:=openR_ok hd ho'.1 ho'.2 hok
      obtain ⟨f,hop⟩:=opens hd ho'.1 ho'.2 hok
      have hdo:=(dOut_ok hd hp ho).1
      rw [dOut_yes hok hx.kl] at hdo ⊢
      generalize (openR d p.frm p.to).1=x at *
      generalize (openR d p.frm p.to).2.1=k at *
      have hat:Flw.at x k=f:=by simp [Flw.at,List.getD,hop.at_]
      have hl:=(List.getElem?_eq_some_iff.1 hop.at_).1
      obtain ⟨_,_,hu,hdn,_⟩:=flow_at hop.ok hop.at_
      have h2nd:∀ y:Door,flowIx y.flows p.frm p.to=some k→dOut y p=outK y k p:=fun y hy=>by
        have e:=openF_has (d:=y) hy
        have hky:k<y.flows.length:=by obtain ⟨_,h,_⟩:=flowIx_some hy;exact (List.getElem?_eq_some_iff.1 h).1
        rw [dOut_yes (by rw [e]) (by rw [e];exact hky),e]
      unfold outK at hdo ⊢
      rw [hat] at hdo ⊢
      by_cases hk2:p.kind=2
      · rw [if_pos hk2] at hdo ⊢
        by_cases hc:p.at_>(sOut f.down).length
        · simp only [if_pos hc]
          rw [h2nd x hop.ix]
          unfold outK
          rw [if_pos hk2,hat,if_pos hc]
        · simp only [if_neg hc]
          rw [h2nd x hop.ix]
          unfold outK
          rw [if_pos hk2,hat,if_neg hc]
      · rw [if_neg hk2] at hdo ⊢
        have htx:=hp.tx.resolve_left hk2
        by_cases hc:(put x.map f.up p.at_ p.text true).2.2=false
        · simp only [if_pos hc]
          rw [h2nd x hop.ix]
          unfold outK
          rw [if_neg hk2,hat,if_pos hc]
        · have hput:(put x.map f.up p.at_ p.text true).2.2=true:=by simpa using hc
          simp only [if_neg hc]
          obtain ⟨s1,s2⟩:=set_ix hop.ix hop.at_ (g:={ f with up:=(put x.map f.up p.at_ p.text true).2.1 }) rfl rfl
          rw [h2nd _ s1]
          have hat2:Flw.at ⟨(put x.map f.up p.at_ p.text true).1,x.flows.set k { f with up:=(put x.map f.up p.at_ p.text true).2.1 }⟩ k={ f with up:=(put x.map f.up p.at_ p.text true).2.1 }:=by simp [Flw.at,List.getD,s2]
          have hagain:=put_again (m':=(put x.map f.up p.at_ p.text true).1) (put_ok (out:=true) hx.map hu htx hp.at_.1).2 hput rfl hp.at_.1
          have hsend:=send_again (out:=true) hx.map hu htx hp.at_.1 hput
          have hpo:portOf (put x.map f.up p.at_ p.text true).1 p.frm=portOf x.map p.frm:=put_port hop.port
          unfold outK
          rw [if_neg hk2,hat2]
          simp only [hagain,hsend,hpo,List.set_set]
          rw [if_neg (by decide)]
  · simp only [if_neg ho]
    by_cases hi:p.inward=true
    · simp only [if_pos hi]
      cases h1:insideOf d.map p.to.p with
      | none=>rw [dIn_no1 h1];simp only;rw [dIn_no1 h1]
      | some i =>
        cases h2:flowIx d.flows i p.frm with
        | none=>rw [dIn_no2 h1 h2];simp only;rw [dIn_no2 h1 h2]
        | some k =>
          obtain ⟨hk,he⟩:=dIn_yes h1 h2
          obtain ⟨f,f1,f2,f3,_⟩:=flowIx_some h2
          rw [he]
          have hat:Flw.at d k=f:=by simp [Flw.at,List.getD,f1]
          obtain ⟨_,_,hu,hdn,_⟩:=flow_at hd f1
          have h2nd:∀ y:Door,y.map=d.map→flowIx y.flows i p.frm=some k→dIn y p=inK y k i p:=fun y hm hy=>(dIn_yes (by rw [hm];exact h1) hy).2
          unfold inK
          rw [hat]
          by_cases hk2:p.kind=2
          · rw [if_pos hk2]
            by_cases hc:p.at_>(sOut f.up).length
            · simp only [if_pos hc]
              rw [h2nd d rfl h2]
              unfold inK
              rw [if_pos hk2,hat,if_pos hc]
            · simp only [if_neg hc]
              rw [h2nd d rfl h2]
              unfold inK
              rw [if_pos hk2,hat,if_neg hc]
          · rw [if_neg hk2]
            have htx:=hp.tx.resolve_left hk2
            by_cases hc:(put d.map f.down p.at_ p.text false).2.2=false
            · simp only [if_pos hc]
              rw [h2nd d rfl h2]
              unfold inK
              rw [if_neg hk2,hat,if_pos hc]
            · have hput:(put d.map f.down p.at_ p.text false).2.2=true:=by simpa using hc
              simp only [if_neg hc]
              obtain ⟨s1,s2⟩:=set_ix h2 f1 (g:={ f with down:=(put d.map f.down p.at_ p.text false).2.1 }) rfl rfl
              rw [h2nd ⟨d.map,d.flows.set k { f with down:=(put d.map f.down p.at_ p.text false).2.1 }⟩ rfl s1]
              have hat2:Flw.at ⟨d.map,d.flows.set k { f with down:=(put d.map f.down p.at_ p.text false).2.1 }⟩ k={ f with down:=(put d.map f.down p.at_ p.text false).2.1 }:=by simp [Flw.at,List.getD,s2]
              have hagain:=put_again (m':=d.map) (put_ok (out:=false) hdm hdn htx hp.at_.1).2 hput rfl hp.at_.1
              have hsend:=send_again (out:=false) hdm hdn htx hp.at_.1 hput
              unfold inK
              rw [if_neg hk2,hat2]
              simp only [hagain,hsend,List.set_set]
              rw [if_neg (by decide)]
    · simp only [if_neg hi]
end Go.Proofs.YtfepdcpidkjklaaGreatDoor.M
namespace Go.Proofs.YtfepdcpidkjklaaGreatDoor.VL
open Go Go.RowKit
def Hs.bare:Hs→Prop
  | .var _ row=>row.all V.closed=true
  | _=>True
theorem Den1.closed {w:World} {O:Nat→Prop} {ρ ρ':Nat→Loc} {h h':Nat→Hs} {v:V} {u:Value} (hc:v.closed=true) (hd:Den1 w O ρ h v u):Den1 w O ρ' h' v u:=by
  cases v<;>simp [V.closed] at hc<;>exact hd
section
variable {P:Program} {G:Glob}
theorem FnP.tail {f:FuncId} {pin:Nat} {cs:List Hs} {args:List V} {post post':V→List Hs→Prop} (F:FnP P G f pin cs args post)
    (h:∀ r o,post r o→post' r o∨∃ (c:Nat) (ty:TypeId) (sz:Nat) (q:List V) (rows:List (List V)),pin≤c∧r=.view c 1 rows.length∧o[c]?=some (.arr ty sz (q :: rows))∧(∀ (i:Nat) s,o[i]?=some s→i≠c→s.bare)∧post' (.own c rows.length) (o.set c (.arr ty sz rows))):FnP P G f pin cs args post' where
  en:=F.en
  ne:=by
    obtain ⟨r,o,hp⟩:=F.ne
    rcases h r o hp with hp|⟨c,ty,sz,q,rows,_,_,_,_,hp⟩
    · exact ⟨_,_,hp⟩
    · exact ⟨_,_,hp⟩
  run:=fun W ρ ext us a b c0 d e1 e2=>(F.run W ρ ext us a b c0 d e1 e2).mono fun e W' ⟨u,res,out,ρ',he,hp,hr,hd⟩=>by
    rcases h res out hp with hp|⟨c,ty,sz,q,rows,hpin,rfl,hoc,hbare,hp⟩
    · exact ⟨u,res,out,ρ',he,hp,hr,hd⟩
    have hcl:=(List.getElem?_eq_some_iff.1 hoc).1
    have hc:chH out c=.arr ty sz (q :: rows):=by simp [chH,hoc]
    have hc2:chH (out.set c (.arr ty sz rows)) c=.arr ty sz rows:=by simp [chH,hcl]
    have hx:∀ x,x≠c→chH (out.set c (.arr ty sz rows)) x=chH out x:=fun x hne=>by simp [chH,List.getElem?_set_ne (Ne.symm hne)]
    have hch:=hr.chunk c
    rw [hc] at hch
    rcases hch with ⟨_,hnil,_⟩|⟨hnil,cs',hh,h3,h4,h5,h6⟩
    · cases hnil
    simp only [Den,Den2,Den1,Den0,hc] at hd
    obtain ⟨A,cap,hu,_,_,hfull⟩:=hd
    obtain ⟨k1,k2,k3⟩:=hfull hnil
    refine ⟨u,.own c rows.length,out.set c (.arr ty sz rows),fun x=>if x=c then ⟨false,(ρ' c).blk,if (ρ' c).cap=1 then (ρ' c).off else (ρ' c).off+1 * sz,(ρ' c).cap - 1⟩ else ρ' x,he,hp, ?_, ?_⟩
    all_goals
      have hlive:∀ x,(chH (out.set c (.arr ty sz rows)) x).live=(chH out x).live:=fun x=>by
        by_cases hxc:x=c
        · subst hxc;rw [hc2,hc];rfl
        · rw [hx x hxc]
    · have hown:owns ⟨W,blocks ρ (chH cs),ext,pin,ρ⟩ (fun x=>if x=c then ⟨false,(ρ' c).blk,if (ρ' c).cap=1 then (ρ' c).off else (ρ' c).off+1 * sz,(ρ' c).cap - 1⟩ else ρ' x) (chH (out.set c (.arr ty sz rows)))=owns ⟨W,blocks ρ (chH cs),ext,pin,ρ⟩ ρ' (chH out):=by
        funext b
        apply propext
        unfold owns
        refine or_congr Iff.rfl (exists_congr fun x=>?_)
        rw [hlive]
        by_cases hxc:x=c
        · subst hxc;simp [hnil]
        · simp [hxc]
      refine ⟨hr.os,hr.tape,hr.output,hr.grow,hr.keep,fun x=>?_,fun x hl hn=>?_,fun x y hl hl' hn hn' hb=>?_,fun i hi=>?_⟩
      · rw [hown]
        by_cases hxc:x=c
        · subst hxc
          rw [hc2]
          simp only [if_true]
          refine .inr ⟨rfl,cs',hh, ?_, ?_,fun r hr=>h5 r (List.mem_cons_of_mem _ hr),fun i r j v hi hj=>?_⟩
          · simp only
            split
            · rename_i h1;rw [h1];simp;omega
            · have:1≤(ρ' x).cap:=k2
              have e:(ρ' x).cap * sz=1 * sz+((ρ' x).cap - 1) * sz:=by rw [← Nat.add_mul];congr 1;omega
              omega
          · show rows.length≤(ρ' x).cap - 1
            simp only [List.length_cons] at h4;omega
          · obtain ⟨z,z1,z2⟩:=h6 (i+1) r j v (by simpa using hi) hj
            refine ⟨z, ?_,z2⟩
            simp only
            split
            · rename_i h1
              have:=(List.getElem?_eq_some_iff.1 hi).1
              simp only [List.length_cons] at h4
              omega
            · rw [← z1];congr 1;rw [Nat.add_mul];omega
        · have hb:=hr.chunk x
          rw [hx x hxc]
          simp only [if_neg hxc]
          cases hs:chH out x with
          | var ty' row =>
            rw [hs] at hb
            obtain ⟨b1,cs2,b2,b3,b4⟩:=hb
            refine ⟨b1,cs2,b2,b3,fun j v hv=>?_⟩
            obtain ⟨z,z1,z2,z3⟩:=b4 j v hv
            refine ⟨z,z1,z2,Den1.closed ?_ z3⟩
            have hox:out[x]?=some (.var ty' row):=by
              simp only [chH] at hs
              cases hq:out[x]? with
              | none=>rw [hq] at hs;cases hs
              | some s=>rw [hq] at hs;exact congrArg some hs
            exact List.all_eq_true.1 (hbare x _ hox hxc) v (List.mem_of_getElem? hv)
          | arr ty' sz' rows'=>rw [hs] at hb;exact hb
          | fresh=>trivial
          | dead=>trivial
      · rw [hlive] at hl
        by_cases hxc:x=c
        · subst hxc;simp only [if_true];exact hr.home x hl hnil
        · simp only [if_neg hxc] at hn ⊢;exact hr.home x hl hn
      · rw [hlive] at hl hl'
        refine hr.sep x y hl hl' ?_ ?_ ?_
        · by_cases hxc:x=c
          · subst hxc;exact hnil
          · simpa [hxc] using hn
        · by_cases hyc:y=c
          · subst hyc;exact hnil
          · simpa [hyc] using hn'
        · by_cases hxc:x=c<;>by_cases hyc:y=c
          · rw [hxc,hyc]
          · subst hxc;simpa [hyc] using hb
          · subst hyc;simpa [hxc] using hb
          · simpa [hxc,hyc] using hb
      · have hip:i<pin:=hi
        have hic:i≠c:=by omega
        rcases hr.pin i hi with h0|⟨h0,h1⟩
        · exact .inl (by rw [hx i hic];exact h0)
        · exact .inr ⟨by rw [hlive];exact h0,by simp only [if_neg hic];exact h1⟩
    · simp only [Den,Den2,Den1,Den0,hc2,if_true]
      rw [hu,k3,k1]
      simp [Loc.sl,Loc.addr]
theorem callDd {f:FuncId} {pin:Nat} {cs:List Hs} {args:List V} {postf:V→List Hs→Prop} (F:FnP P G f pin cs args postf) {vs:List V} {d:Option Nat} {st:St} {K:St→List Nat→List Nat→Prop}
    (ns:List Nat) (dd m:Nat)
    (hw:WkL (Wk (fun c=>c∈[]) (nsF ns) st.h (chH cs)) vs args)
    (hc:NsL (fun n s=>(s.live=true∨s=.dead)∧WkH (fun c=>c∈[]) (nsF ns) st.h (chH cs) (st.h n) s) ns cs)
    (hpin:pin≤ns.length) (hnd:ns.Nodup) (hpl:∀ i,i<pin→(chH cs i).live=true)
    (ho:∀ res out,postf res out→pin≤out.length∧out.length≤m∧∀ i,i<pin→stepOk (chH cs i) (chH out i)=true)
    (hf:∀ i,i<m→st.h (newN dd i)=.fresh)
    (hk:∀ res out,postf res out→K (st.app d (res.rn (bk ns pin dd)) (outU (bk ns pin dd) 0 out++deads (ns.drop pin))) (callTc ns [] dd m) (callTc ns [] dd m)) :
    CallV P G f vs d st K:=by
  obtain ⟨hlen,hw⟩:=hw.spec
  have hF:∀ h':Nat→Hs,(∀ c,c∈callTc ns [] dd m→h' c=st.h c)→∀ c,c∈([]:List Nat)→c∈([]:List Nat)∧h' c=st.h c:=fun h' hh c hc=>by cases hc
  obtain ⟨h20,h21⟩:=hc.spec
  have hs:=callS F (vs:=vs) (h:=st.h) (ns:=ns) (lent:=[]) (kp:=true) (d:=dd) (m:=m) hpin h20 hnd hlen.symm
    (fun h' hh j v v' h1 h2=>(hw j v v' h1 h2).congr (hF h' hh))
    (fun h' hh i s hs=>by
      obtain ⟨a,b⟩:=h21 i s hs
      have e:nsF ns i∈ns:=mem_nsF (by rw [h20];exact (List.getElem?_eq_some_iff.1 hs).1)
      refine ⟨?_, ?_⟩
      · rcases a with a|a
        · exact .inl a
        · refine .inr ⟨a,Nat.le_of_not_lt fun hi=>?_⟩
          have:=hpl i hi
          simp [chH,hs,a,Hs.live] at this
      · rw [hh (nsF ns i) (by simp [callTc,e])]
        exact b.congr (hF h' hh)) (fun c hc=>by cases hc) (fun res out hp=>let ⟨a,b,c⟩:=ho res out hp;⟨a,b,.inl rfl,c⟩) hf
  refine ⟨_,_,_,hs,fun v up hp=>?_⟩
  obtain ⟨res,out,hp,rfl,rfl⟩:=hp
  simpa using hk res out hp
end
end Go.Proofs.YtfepdcpidkjklaaGreatDoor.VL
namespace Go.Proofs.YtfepdcpidkjklaaGreatDoor.M
def PW (w:World):Prop:=WI w∧∃ (cs:List Conv) (es:List Ev) (w0:World),worldNew cs=some w0∧w=es.foldl wDo w0
theorem PW.new {cs:List Conv} {w:World} (h:worldNew cs=some w):PW w:=⟨worldNew_ok h,cs,[],w,h,rfl⟩
theorem PW.step {w:World} (h:PW w) (e:Ev):PW (wDo w e):=by
  obtain ⟨h1,cs,es,w0,h2,rfl⟩:=h
  exact ⟨wDo_ok h1 e,cs,es++[e],w0,h2,by rw [List.foldl_append];rfl⟩
theorem PW.si {K:List Conv→Door→Prop} {N:List Conv→Door→Pk→Prop} {w:World} (S:StepI K N) (h0:∀ cs (w0:World),worldNew cs=some w0→K w0.convs w0.door) (h:PW w):SI K N w:=by
  obtain ⟨_,cs,es,w0,h1,rfl⟩:=h
  obtain ⟨_,_,_,hn⟩:=worldNew_is h1
  exact SI.play S ⟨worldNew_ok h1,h0 cs w0 h1,by rw [hn];intro p hp;cases hp⟩ es
end Go.Proofs.YtfepdcpidkjklaaGreatDoor.M
namespace Go.Proofs.YtfepdcpidkjklaaGreatDoor.M
theorem text_bytes (e:E):64 ∉ e.text∧59 ∉ e.text:=by
  by_cases h:e.any=true
  · have key:∀ e∈ends,64 ∉ e.text∧59 ∉ e.text:=by decide +kernel
    exact key e (E.any_iff.1 h)
  · have:e.text=[]:=by unfold E.text;rw [if_neg h]
    rw [this];simp
inductive Al:B→B→Prop
  | nil:Al [] []
  | one (b:UInt8) (s t:B):nameAt (b :: s)=none→Al s t→Al (b :: s) (b :: t)
  | nm (e e':E) (s t:B):e'.inside=false→Al s t→Al (name e++s) (name e'++t)
theorem Al.pre {s t:B} (h:Al s t):∀ u:B,64 ∉ u→u <+: t→u <+: s:=by
  induction h with
  | nil=>intro u _ h;exact h
  | one b s t _ _ ih =>
    intro u hu h
    cases u with
    | nil=>exact List.nil_prefix
    | cons c u =>
      rw [List.cons_prefix_cons] at h ⊢
      exact ⟨h.1,ih u (fun hm=>hu (List.mem_cons_of_mem _ hm)) h.2⟩
  | nm e e' s t _ _ ih =>
    intro u hu h
    cases u with
    | nil=>exact List.nil_prefix
    | cons c u =>
      simp only [name,List.cons_append,List.cons_prefix_cons] at h
      exact absurd (by rw [h.1];exact List.mem_cons_self) hu
theorem split_at {c:UInt8}:∀ {x y z w:B},c ∉ x→c ∉ y→x++c :: z=y++c :: w→x=y∧z=w
  | [],[],z,w,_,_,h=>by simpa using h
  | [],b :: y,z,w,_,hy,h=>by simp at h;exact absurd (by rw [h.1];exact List.mem_cons_self) hy
  | a :: x,[],z,w,hx,_,h=>by simp at h;exact absurd (by rw [← h.1];exact List.mem_cons_self) hx
  | a :: x,b :: y,z,w,hx,hy,h=>by
    simp only [List.cons_append,List.cons.injEq] at h
    obtain ⟨h1,h2⟩:=split_at (fun hm=>hx (List.mem_cons_of_mem _ hm)) (fun hm=>hy (List.mem_cons_of_mem _ hm)) h.2
    exact ⟨by rw [h.1,h1],h2⟩
theorem split_in {c:UInt8}:∀ {x z y w:B},c ∉ x→x++z=y++c :: w→∃ y',y=x++y'∧z=y'++c :: w
  | [],z,y,w,_,h=>⟨y,rfl,h⟩
  | a :: x,z,[],w,hx,h=>by simp at h;exact absurd (by rw [h.1];exact List.mem_cons_self) hx
  | a :: x,z,b :: y,w,hx,h=>by
    simp only [List.cons_append,List.cons.injEq] at h
    obtain ⟨y',h1,h2⟩:=split_in (fun hm=>hx (List.mem_cons_of_mem _ hm)) h.2
    exact ⟨y',by rw [h.1,h1];rfl,h2⟩
theorem Al.clean {s t:B} (h:Al s t):∀ (e:E) (a c:B),e.any=true→e.inside=true→t≠a++(name e++c):=by
  induction h with
  | nil=>intro e a c _ _ h;simp [name] at h
  | one b s t hn hal ih =>
    intro e a c he hi h
    cases a with
    | nil =>
      simp only [name,List.nil_append,List.cons_append,List.cons.injEq,List.append_assoc] at h
      obtain ⟨rfl,h⟩:=h
      have hp:(e.text++[59]) <+: s:=hal.pre _ (by have:=(text_bytes e).1;simp [this]) ⟨c,by rw [h];simp⟩
      obtain ⟨r,hr⟩:=hp
      have:nameAt (64 :: s)=some e:=by
        rw [← hr]
        have:=nameAt_name he r
        simpa [name] using this
      rw [hn] at this;cases this
    | cons x a =>
      simp only [List.cons_append,List.cons.injEq] at h
      exact ih e a c he hi h.2
  | nm e0 e' s t hni hal ih =>
    intro e a c he hi h
    cases a with
    | nil =>
      simp only [name,List.nil_append,List.cons_append,List.cons.injEq,List.append_assoc,true_and] at h
      have:=(split_at (text_bytes e').2 (text_bytes e).2 h).1
      have:=text_inj he this.symm
      rw [this,hni] at hi;cases hi
    | cons x a =>
      simp only [name,List.cons_append,List.cons.injEq] at h
      obtain ⟨_,h⟩:=h
      obtain ⟨y',_,h2⟩:=split_in (c:=64) (x:=e'.text++[59]) (z:=t) (y:=a) (by have:=(text_bytes e').1;simp [this]) h
      exact ih e y' c he hi (by rw [h2];rfl)
theorem Al.app {s t:B} (h:Al s t):∀ {s2 t2:B},Al s2 t2→(∀ i e,i<s.length→nameAt ((s++s2).drop i)=some e→i+(name e).length≤s.length)→Al (s++s2) (t++t2):=by
  induction h with
  | nil=>intro s2 t2 h2 _;exact h2
  | one b s t hn _ ih =>
    intro s2 t2 h2 hc
    refine .one b _ _ ?_ (ih h2 fun i e hi hs=>?_)
    · cases hx:nameAt (b :: (s++s2)) with
      | none=>rfl
      | some e =>
        have:=hc 0 e (by simp) (by simpa using hx)
        have:=nameAt_back (s:=b :: s) (r:=s2) (by simpa using hx) (by simpa using this)
        rw [hn] at this;cases this
    · have:=hc (i+1) e (by simp;omega) (by simpa using hs)
      simp only [List.length_cons] at this
      omega
  | nm e0 e' s t hni _ ih =>
    intro s2 t2 h2 hc
    rw [List.append_assoc,List.append_assoc]
    refine .nm e0 e' _ _ hni (ih h2 fun i e hi hs=>?_)
    have:=hc ((name e0).length+i) e (by simp;omega) (by rw [List.append_assoc,← List.drop_drop,List.drop_left];exact hs)
    simp only [List.length_append] at this
    omega
theorem names_occ:∀ (n:Nat) (s:B),s.length≤n→∀ e∈namesOf (pcs s),e.any=true∧∃ a c,s=a++(name e++c):=by
  intro n
  induction n with
  | zero =>
    intro s hs e he
    obtain rfl:s=[]:=List.eq_nil_of_length_eq_zero (by omega)
    simp [pcs_nil,namesOf] at he
  | succ n ih =>
    intro s hs e he
    by_cases hz:s=[]
    · subst hz;simp [pcs_nil,namesOf] at he
    rw [pcs_cons hz] at he
    obtain ⟨p1,p2,_⟩:=pc1_size hz
    have hrest:e∈namesOf (pcs (s.drop (pc1 s).size))→e.any=true∧∃ a c,s=a++(name e++c):=fun h=>by
      obtain ⟨h1,a,c,h2⟩:=ih _ (by simp only [List.length_drop];omega) e h
      refine ⟨h1,s.take (pc1 s).size++a,c, ?_⟩
      rw [List.append_assoc,← h2,List.take_append_drop]
    cases hn:nameAt s with
    | none =>
      have:pc1 s=⟨1,false,.zero⟩:=by simp [pc1,hn]
      rw [this] at he hrest
      exact hrest (by simpa [namesOf] using he)
    | some e1 =>
      have hp:pc1 s=⟨(name e1).length,true,e1⟩:=by simp [pc1,hn]
      rw [hp] at he hrest
      simp only [namesOf,List.filter_cons,if_true,List.map_cons,List.mem_cons] at he
      rcases he with rfl|he
      · obtain ⟨h1,r,h2⟩:=nameAt_some hn
        exact ⟨h1,[],r,h2⟩
      · exact hrest he
theorem textNames_occ {t:B} {e:E} (h:e∈textNames t):e.any=true∧∃ a c,t=a++(name e++c):=by
  unfold textNames textPieces at h
  split at h
  · rw [pieces_eq] at h
    obtain ⟨h1,a,c,h2⟩:=names_occ _ _ (Nat.le_refl _) e h
    refine ⟨h1,a,c++t.drop (t.length - held t), ?_⟩
    have:t=body t++t.drop (t.length - held t):=(List.take_append_drop _ t).symm
    rw [← List.append_assoc,← List.append_assoc,List.append_assoc a,← h2]
    exact this
  · simp [namesOf] at h
theorem turned_al:∀ (n:Nat) (r:B),r.length≤n→∀ (m:List Pair) (tl:B),(turned m (pcs r) (r++tl) true).1.length≤7→Al r (turned m (pcs r) (r++tl) true).2.flatten:=by
  intro n
  induction n with
  | zero =>
    intro r hr m tl _
    obtain rfl:r=[]:=List.eq_nil_of_length_eq_zero (by omega)
    exact .nil
  | succ n ih =>
    intro r hr m tl hm
    by_cases hz:r=[]
    · subst hz;exact .nil
    obtain ⟨p1,p2,_⟩:=pc1_size hz
    rw [pcs_cons hz] at hm ⊢
    simp only [turned,List.flatten_cons] at hm ⊢
    have ht:(r++tl).take (pc1 r).size=r.take (pc1 r).size:=List.take_append_of_le_length p2
    have hd:(r++tl).drop (pc1 r).size=r.drop (pc1 r).size++tl:=List.drop_append_of_le_length p2
    rw [ht,hd] at hm ⊢
    have hrec:=ih (r.drop (pc1 r).size) (by simp only [List.length_drop];omega) (turn m (pc1 r) (r.take (pc1 r).size) true).1 tl hm
    obtain ⟨x,hx⟩:=turned_pre (pcs (r.drop (pc1 r).size)) (turn m (pc1 r) (r.take (pc1 r).size) true).1 (r.drop (pc1 r).size++tl) true
    rw [hx,List.length_append] at hm
    obtain ⟨y,hy⟩:=turn_pre m (pc1 r) (r.take (pc1 r).size) true
    have hml:m.length≤7:=by rw [hy,List.length_append] at hm;omega
    cases hn:nameAt r with
    | none =>
      have hp:pc1 r=⟨1,false,.zero⟩:=by simp [pc1,hn]
      rw [hp] at hrec ⊢
      cases r with
      | nil=>exact absurd rfl hz
      | cons b r =>
        simpa [turn,pieceOut] using Al.one b _ _ hn (by simpa [turn,pieceOut] using hrec)
    | some e =>
      have hp:pc1 r=⟨(name e).length,true,e⟩:=by simp [pc1,hn]
      obtain ⟨_,r',hr'⟩:=nameAt_some hn
      rw [hp] at hrec ⊢
      subst hr'
      simp only [List.drop_left,List.take_left] at hrec ⊢
      by_cases hi:e.inside=true
      · have hmo:∃ y port,mOut m e=(y,port,true):=by
          unfold mOut
          split
          · exact ⟨_,_,rfl⟩
          · rw [if_neg (by omega)];exact ⟨_,_,rfl⟩
        obtain ⟨y,port,hmo⟩:=hmo
        simp only [turn,cond_true,pieceOut,hi,Bool.true_and,if_true,hmo] at hrec ⊢
        exact .nm e ⟨9,port⟩ _ _ (by simp [E.inside,within]) hrec
      · simp only [turn,cond_true,pieceOut,hi,Bool.true_and,if_false,Bool.false_eq_true] at hrec ⊢
        exact .nm e e _ _ (by simpa using hi) hrec
end Go.Proofs.YtfepdcpidkjklaaGreatDoor.M
namespace Go.Proofs.YtfepdcpidkjklaaGreatDoor.M
theorem body_fits (s t:B) (i:Nat) (e:E) (hi:i<(body s).length) (hn:nameAt ((body s++(body (s++t)).drop (body s).length).drop i)=some e):i+(name e).length≤(body s).length:=by
  rw [← body_app] at hn
  obtain ⟨ha,q,hq⟩:=nameAt_some hn
  have hu:∃ q',(s++t).drop i=name e++q':=by
    refine ⟨q++(s++t).drop ((s++t).length - held (s++t)), ?_⟩
    rw [← List.append_assoc,← hq]
    have:s++t=body (s++t)++(s++t).drop ((s++t).length - held (s++t)):=(List.take_append_drop _ _).symm
    conv=>lhs;rw [this]
    rw [List.drop_append_of_le_length]
    have h1:=congrArg List.length (body_app s t)
    simp only [List.length_append] at h1
    omega
  obtain ⟨q',hq'⟩:=hu
  have hnl:=name_len ha
  have hbl:=body_len s
  have h5:=held5 s
  rcases Nat.lt_or_ge (body s).length (i+(name e).length) with hlt|hge
  · exfalso
    by_cases hh:held s=0
    · have hk:0<s.length - i:=by omega
      have hkl:s.length - i<(name e).length:=by omega
      have hb:=name_beg ha hk hkl
      have e1:(name e).take (s.length - i)=s.drop (s.length - (s.length - i)):=by
        have h2:=congrArg (List.take (s.length - i)) hq'
        rw [List.take_append_of_le_length (by omega),List.drop_append_of_le_length (by omega),List.take_append_of_le_length (by simp),List.take_of_length_le (by simp)] at h2
        rw [← h2];congr 1;omega
      rw [e1] at hb
      have:=held_max (by split at hnl<;>omega) (by omega) hk hb
      omega
    · have hb:=held_beg (t:=s) (by omega)
      obtain ⟨_,r,hr⟩:=begs_head hb
      have e1:(s++t)[(body s).length]?=some 64:=by
        rw [List.getElem?_append_left (by omega),hbl]
        have:=congrArg (fun l=>l[0]?) hr
        simpa using this
      have e2:(s++t)[(body s).length]?=(name e)[(body s).length - i]?:=by
        have:=congrArg (fun l=>l[(body s).length - i]?) hq'
        simp only [List.getElem?_drop] at this
        rw [show i+((body s).length - i)=(body s).length by omega] at this
        rw [this,List.getElem?_append_left (by omega)]
      rw [e2] at e1
      exact name_64 (by omega) e1
  · exact hge
theorem mkParts_out:∀ (l:List Pc) (ts:List B),ts.length=l.length→(mkParts l ts).flatMap (·.text)=ts.flatten
  | [],[],_=>rfl
  | [],_ :: _,h=>by simp at h
  | _ :: _,[],h=>by simp at h
  | p :: l,b :: ts,h=>by
    simp only [mkParts,List.flatMap_cons,List.flatten_cons]
    rw [mkParts_out l ts (by simpa using h)]
theorem put_al {m:List Pair} {s:Strm} {n:Int} {t:B} (hs:strmOk s=true) (h:Al (body s.inn) (sOut s)) (hm:(put m s n t true).1.length≤7) :
    Al (body (put m s n t true).2.1.inn) (sOut (put m s n t true).2.1)∧sOut s <+: sOut (put m s n t true).2.1:=by
  unfold put at hm ⊢
  by_cases hb:(behind s.inn n t).2=true
  · rw [if_pos hb] at hm ⊢
    simp only at hm ⊢
    obtain ⟨x,hx,_⟩:=behind_app hb
    rw [hx] at hm ⊢
    obtain ⟨h1,h2⟩:=strmOk_done hs
    obtain ⟨_,f2,_,_⟩:=put_fits hs x
    have hbd:=body_app s.inn x
    have hl:=congrArg List.length hbd
    simp only [List.length_append] at hl
    generalize hr:(body (s.inn++x)).drop (body s.inn).length=r at *
    have hsrc:(s.inn++x).drop (doneP s.parts)=r++(s.inn++x).drop ((s.inn++x).length - held (s.inn++x)):=by
      have:s.inn++x=body (s.inn++x)++(s.inn++x).drop ((s.inn++x).length - held (s.inn++x)):=(List.take_append_drop _ _).symm
      conv=>lhs;rw [this]
      rw [h1,List.drop_append_of_le_length (by omega),hr]
    rw [f2,hsrc] at hm ⊢
    have ht:=turned_al _ r (Nat.le_refl _) m _ hm
    have hso:sOut ⟨s.inn++x,s.parts++mkParts (pcs r) (turned m (pcs r) (r++(s.inn++x).drop ((s.inn++x).length - held (s.inn++x))) true).2⟩=sOut s++(turned m (pcs r) (r++(s.inn++x).drop ((s.inn++x).length - held (s.inn++x))) true).2.flatten:=by
      simp only [sOut,List.flatMap_append]
      rw [mkParts_out _ _ (turned_len _ _ _ _)]
    rw [hso]
    refine ⟨?_,List.prefix_append _ _⟩
    rw [hbd]
    refine h.app ht fun i e hi hn=>body_fits s.inn x i e hi ?_
    rw [hr];exact hn
  · rw [if_neg hb] at hm ⊢
    exact ⟨h,List.prefix_rfl⟩
def Sl (T:B) (q:Pk):Prop:=0≤q.at_∧q.text <+: T.drop q.at_.toNat
theorem Sl.mono {T U:B} {q:Pk} (h:Sl T q) (hp:T <+: U) (ht:q.text≠[]):Sl U q:=by
  obtain ⟨y,rfl⟩:=hp
  obtain ⟨h0,z,hz⟩:=h
  refine ⟨h0,z++y, ?_⟩
  have hlt:q.at_.toNat≤T.length:=by
    rcases Nat.lt_or_ge T.length q.at_.toNat with h|h
    · rw [List.drop_eq_nil_of_le (by omega)] at hz
      exact absurd (List.append_eq_nil_iff.1 hz).1 ht
    · exact h
  rw [← List.append_assoc,hz,List.drop_append_of_le_length hlt]
def Grows (d x:Door):Prop:=∀ f∈d.flows,∃ g∈x.flows,g.ins=f.ins∧g.out=f.out∧sOut f.up <+: sOut g.up
theorem Grows.refl (d:Door):Grows d d:=fun f hf=>⟨f,hf,rfl,rfl,List.prefix_rfl⟩
end Go.Proofs.YtfepdcpidkjklaaGreatDoor.M
namespace Go.Proofs.YtfepdcpidkjklaaGreatDoor.M
theorem net_of {p:Pk} (hp:PkP p):NetP [⟨p.frm,p.to,[],[],0,0,[],[]⟩] p:=⟨hp,fun _=>⟨_,List.mem_singleton.2 rfl,rfl,rfl⟩⟩
theorem slice_of {T:B} {q:Pk} (h:St T q):(0≤q.at_∧q.at_+q.text.length≤T.length)∧(T.drop q.at_.toNat).take q.text.length=q.text:=by
  obtain ⟨h0,h1,h2⟩:=h
  have hl:=h2.length_le
  rw [List.length_drop] at hl
  exact ⟨by omega,(List.prefix_iff_eq_take.1 h2).symm⟩
theorem pk_of {d:Door} {p r:Pk} (hd:doorOk d=true) (hp:PkP p) (h:(dPass d p).2=some r):PkP r:=(dPass_P hd (net_of hp) h).pk
theorem pass_out {d:Door} {p:Pk} (ho:p.outward=true):dPass d p=dOut d p:=by unfold dPass;rw [if_pos ho]
theorem pass_in {d:Door} {p:Pk} (hi:p.inward=true):dPass d p=dIn d p:=by
  unfold dPass
  rw [if_neg,if_pos hi]
  simp only [Pk.inward,Bool.and_eq_true] at hi
  simp only [Pk.outward,not_in_out hi.1,Bool.false_and]
  decide
theorem law_outPort {d x:Door} {p r:Pk} (hd:doorOk d=true) (hq:DoorQ d) (hp:pkOk p=true) (ho:p.outward=true) (h:dOut d p=(x,some r)) :
    mapIn x.map r.frm.p=some p.frm∧r.to=p.to∧r.kind=p.kind∧r.frm.door=true∧(flowIx x.flows p.frm p.to).isSome=true∧doorOk x=true∧pkOk r=true:=by
  have hp':=pkOk_P hp
  have ho':=ho
  simp only [Pk.outward,Bool.and_eq_true] at ho'
  have hr:(dOut d p).2=some r:=by rw [h]
  have H:=dOut_is hd hp' ho'.1 ho'.2 hr
  have hpk:=pk_of hd hp' (by rw [pass_out ho];exact hr)
  rw [h] at H
  simp only at H
  obtain ⟨k,g,e1,e2,e3,e4,e5⟩:=H.fl
  have hdm:=(doorOk_iff.1 H.ok).1
  have hdoor:r.frm.door=true:=by rw [H.frm];exact portOf_door hdm H.port
  have h98:=H.q hq g (List.mem_of_getElem? e2)
  obtain ⟨_,_,hu,hdn,_⟩:=flow_at H.ok e2
  refine ⟨?_,H.to,H.kind,hdoor,by rw [e1];rfl,H.ok, ?_⟩
  · unfold mapIn
    rw [if_pos hdm,H.frm]
    exact portBack hdm H.port
  · refine pkOk_mk (door_any hdoor) (by rw [H.to];simp [E.any,ho'.2]) ?_ hpk ?_
    · rcases hp'.kd with hk|hk
      · obtain ⟨_,_,_,_,_,q,q1,q2,q3⟩:=e5 hk
        have:=sendOn_at q1
        omega
      · obtain ⟨_,q2,_⟩:=e4 hk
        have:=backP_P (fun p hp=>((strmOk_B hdn).2.2 p hp).1) (strmOk_B hdn).2.1 p.at_
        have:=backP_done (fun p hp=>(strm_one hdn p hp).1) p.at_
        have:=(strmOk_done hdn).1
        have:=(strmOk_B hdn).1
        rw [body_len] at *
        omega
    · intro hk
      rw [H.kind] at hk
      obtain ⟨_,_,_,_,_,q,q1,q2,q3⟩:=e5 hk
      rw [q3]
      exact sendOn_ne q1
theorem behind_len {c:B} {n:Int} {t:B} (h:(behind c n t).2=true) (hn:0≤n):((behind c n t).1.length:Int)=max (c.length:Int) (n+t.length)∧c <+: (behind c n t).1:=by
  unfold behind at h ⊢
  by_cases c1:(decide (n>(c.length:Int)) || decide (n+t.length>40))=true
  · rw [if_pos c1] at h;cases h
  · simp only [if_neg c1]
    simp only [Bool.or_eq_true,decide_eq_true_eq,not_or] at c1
    by_cases c2:n+(t.length:Int)≤c.length
    · simp only [if_pos c2]
      exact ⟨by omega,List.prefix_rfl⟩
    · simp only [if_neg c2]
      refine ⟨?_,List.prefix_append _ _⟩
      rw [List.length_append,List.length_drop]
      omega
theorem put_inn_is {m:List Pair} {s s':Strm} {n:Int} {t:B} {out:Bool} {m':List Pair} (h:put m s n t out=(m',s',true)):s'.inn=(behind s.inn n t).1∧(behind s.inn n t).2=true:=by
  have:=(put_parts m s n t out).2
  have h2:(put m s n t out).2.2=true:=by rw [h]
  rw [h2,cond_true] at this
  rw [h] at this
  refine ⟨this, ?_⟩
  unfold put at h2
  split at h2
  · assumption
  · cases h2
theorem law_outText {d x:Door} {p r:Pk} (hd:doorOk d=true) (hp:pkOk p=true) (ho:p.outward=true) (h:dOut d p=(x,some r)) (hk:p.kind=1):∃ g,flowOf x p.frm p.to=some g∧strmOk g.up=true ∧
    (0≤r.at_∧r.at_+r.text.length≤(sOut g.up).length)∧((sOut g.up).drop r.at_.toNat).take r.text.length=r.text∧((flowOf d p.frm p.to).getD .zero).up.inn <+: g.up.inn∧g.down=((flowOf d p.frm p.to).getD .zero).down ∧
    (g.up.inn.length:Int)=max (((flowOf d p.frm p.to).getD .zero).up.inn.length:Int) (p.at_+p.text.length)∧g.up.inn.length≤40:=by
  have hp':=pkOk_P hp
  have ho':=ho
  simp only [Pk.outward,Bool.and_eq_true] at ho'
  have hr:(dOut d p).2=some r:=by rw [h]
  have H:=dOut_is hd hp' ho'.1 ho'.2 hr
  rw [h] at H
  simp only at H
  obtain ⟨k,g,e1,e2,e3,e4,e5⟩:=H.fl
  obtain ⟨m0,_,_,hs0,hput,q,q1,q2,q3⟩:=e5 hk
  obtain ⟨_,_,hu,hdn,_⟩:=flow_at H.ok e2
  obtain ⟨s1,s2⟩:=slice_of (sendOn_st q1).1
  obtain ⟨i1,i2⟩:=put_inn_is hput
  obtain ⟨l1,l2⟩:=behind_len i2 hp'.at_.1
  refine ⟨g,by simp [flowOf,e1,e2],hu,by rw [q2,q3];exact s1,by rw [q2,q3];exact s2,by rw [i1];exact l2,e3,by rw [i1];exact l1,(strmOk_B hu).1⟩
theorem law_outSame {d x y:Door} {p r o s:Pk} (hd:doorOk d=true) (hp:pkOk p=true) (ho:p.outward=true) (h:dOut d p=(x,some r)) (hop:pkOk o=true) (hoo:o.outward=true) (hf:o.frm=p.frm) (hy:dOut x o=(y,some s)) :
    s.frm=r.frm∧s.to=o.to∧doorOk y=true:=by
  have hp':=pkOk_P hp
  simp only [Pk.outward,Bool.and_eq_true] at ho hoo
  have H:=dOut_is hd hp' ho.1 ho.2 (r:=r) (by rw [h])
  rw [h] at H
  simp only at H
  have H2:=dOut_is H.ok (pkOk_P hop) hoo.1 hoo.2 (r:=s) (by rw [hy])
  rw [hy] at H2
  simp only at H2
  refine ⟨?_,H2.to,H2.ok⟩
  obtain ⟨z,hz⟩:=H2.map
  rw [H2.frm,H.frm,hf,hz,portOf_app H.port]
theorem forP_app {a b:List Part} (h:∀ p∈a,1≤p.size):∀ {n:Int},0≤n→forP (a++b) ((doneP a:Int)+n)=((a.flatMap (·.text)).length:Int)+forP b n:=by
  induction a with
  | nil=>intro n _;simp [doneP]
  | cons p a ih =>
    intro n hn
    have h1:=h p (by simp)
    have:=ih (fun q hq=>h q (by simp [hq])) hn
    rw [doneP_cons]
    simp only [List.cons_append,forP,List.flatMap_cons,List.length_append]
    rw [if_pos (by omega),show ((p.size.toNat+doneP a:Nat):Int)+n - p.size=(doneP a:Int)+n by omega,this]
    omega
theorem begs_last {t:B} (h:begs t=true):∃ a b,t=a++[b]∧(b=64∨b=58∨(48≤b∧b≤57)):=by
  have f9:∀ b:UInt8,figB b 49=true→48≤b∧b≤57:=fun b hb=>by
    simp only [figB,Bool.and_eq_true,decide_eq_true_eq] at hb
    exact ⟨UInt8.le_trans (by decide) hb.1,hb.2⟩
  have f8:∀ b:UInt8,figB b 48=true→48≤b∧b≤57:=fun b hb=>by
    simpa only [figB,Bool.and_eq_true,decide_eq_true_eq] using hb
  match t,h with
  | [a],h=>exact ⟨[],a,rfl,.inl (by simpa [begs] using h)⟩
  | [a,b],h=>simp only [begs,Bool.and_eq_true] at h;exact ⟨[a],b,rfl,.inr (.inr (f9 b h.2))⟩
  | [a,b,c],h=>simp only [begs,Bool.and_eq_true,decide_eq_true_eq] at h;exact ⟨[a,b],c,rfl,.inr (.inl h.2)⟩
  | [a,b,c,d],h=>simp only [begs,Bool.and_eq_true] at h;exact ⟨[a,b,c],d,rfl,.inr (.inr (f9 d h.2))⟩
  | [a,b,c,d,e],h=>simp only [begs,Bool.and_eq_true] at h;exact ⟨[a,b,c,d],e,rfl,.inr (.inr (f8 e h.2))⟩
theorem held_end {s:B} {b:UInt8} (hb:¬ (b=64∨b=58∨(48≤b∧b≤57))):held (s++[b])=0:=by
  refine Classical.byContradiction fun hn=>?_
  have hpos:0<held (s++[b]):=Nat.pos_of_ne_zero hn
  have h1:=held_beg hpos
  have h2:=(held5 (s++[b])).2
  obtain ⟨x,y,e,hy⟩:=begs_last h1
  have h3:(s++[b]).take ((s++[b]).length - held (s++[b]))++(x++[y])=s++[b]:=by rw [← e];exact List.take_append_drop _ _
  rw [← List.append_assoc] at h3
  have:=(List.append_inj' h3 rfl).2
  simp only [List.cons.injEq,and_true] at this
  subst this
  exact hb hy
theorem body_all {t:B} (h:held t=0):body t=t:=by rw [body,h];simp
theorem put_new {m:List Pair} {s:Strm} {t:B} {out:Bool} (hs:strmOk s=true) (h0:held s.inn=0) (h1:held (s.inn++t)=0) (hl:s.inn.length+t.length≤40) (ht:t≠[]) :
    put m s s.inn.length t out=((turned m (pcs t) t out).1,⟨s.inn++t,s.parts++mkParts (pcs t) (turned m (pcs t) t out).2⟩,true):=by
  have hb:behind s.inn s.inn.length t=(s.inn++t,true):=by
    unfold behind
    have:=List.length_pos_iff.2 ht
    rw [if_neg (by simp only [Bool.or_eq_true,decide_eq_true_eq];omega),if_neg (by omega)]
    simp
  have hd:(pieces (s.inn++t)).drop s.parts.length=pcs t:=by
    rw [(put_fits hs t).2.1,body_all h0,body_all h1]
    simp
  have hdo:(s.inn++t).drop (doneP s.parts)=t:=by
    rw [full_done hs rfl h0]
    simp
  unfold put
  rw [hb]
  simp only [if_true,hd,hdo]
theorem send_new {s s':Strm} {l:List Part} {p:Pk} {j:Nat} (hs:strmOk s=true) (h0:held s.inn=0) (hp:s'.parts=s.parts++l) (hlen:s.inn.length+j<s'.inn.length) (w:Strm) (hw:w.inn.length<s'.inn.length) (hat:p.at_=s.inn.length+j) (hf:forP l j=0) (hne:0<(l.flatMap (·.text)).length) (h40:(l.flatMap (·.text)).length≤40) :
    sendOn w s' p=some { p with at_:=(sOut s).length,text:=l.flatMap (·.text) }:=by
  have hone:=fun q hq=>(strm_one hs q hq).1
  have hso:sOut s'=sOut s++l.flatMap (·.text):=by simp only [sOut,hp,List.flatMap_append]
  have hfr:forP s'.parts p.at_=(sOut s).length:=by
    rw [hp,hat,← full_done hs rfl h0,forP_app hone (by omega),hf]
    simp only [sOut]
    omega
  have hto:toR w s' p=(sOut s').length:=by unfold toR;rw [if_pos hw]
  have e:sendOn w s' p=if forP s'.parts p.at_≥toR w s' p then none else if toR w s' p - forP s'.parts p.at_≤40 then some { p with at_:=forP s'.parts p.at_,text:=((sOut s').take (toR w s' p).toNat).drop (forP s'.parts p.at_).toNat } else none:=rfl
  rw [e,hto,hfr,hso,List.length_append,if_neg (by omega),if_pos (by omega)]
  congr 2
  rw [List.take_of_length_le (by rw [List.length_append];omega)]
  simp
theorem yes_pcs:pcs [121,101,115]=[⟨1,false,.zero⟩,⟨1,false,.zero⟩,⟨1,false,.zero⟩]:=by decide +kernel
theorem yes_ok:txOk [121,101,115]=true:=by decide
theorem law_outOpens {d x:Door} {p r:Pk} (hd:doorOk d=true) (hp:pkOk p=true) (ho:p.outward=true) (h:dOut d p=(x,some r)):∃ g,flowOf x p.frm p.to=some g∧strmOk g.down=true∧g.down.inn.length≤40 ∧
    (g.down.inn.length≤30→held g.down.inn=0→∃ y,doorIn x ⟨1,p.to,r.frm,g.down.inn.length,[121,101,115]⟩=(y,some ⟨1,p.to,p.frm,(sOut g.down).length,[121,101,115]⟩)):=by
  have hp':=pkOk_P hp
  simp only [Pk.outward,Bool.and_eq_true] at ho
  have H:=dOut_is hd hp' ho.1 ho.2 (r:=r) (by rw [h])
  rw [h] at H
  simp only at H
  obtain ⟨k,g,e1,e2,_,_,_⟩:=H.fl
  obtain ⟨_,_,hu,hdn,_⟩:=flow_at H.ok e2
  have hdm:=(doorOk_iff.1 H.ok).1
  refine ⟨g,by simp [flowOf,e1,e2],hdn,(strmOk_B hdn).1,fun h30 h0=>?_⟩
  have hdoor:r.frm.door=true:=by rw [H.frm];exact portOf_door hdm H.port
  generalize hq:(⟨1,p.to,r.frm,g.down.inn.length,[121,101,115]⟩:Pk)=q
  have q1:q.kind=1:=by rw [← hq]
  have q2:q.frm=p.to:=by rw [← hq]
  have q3:q.to=r.frm:=by rw [← hq]
  have q4:q.at_=g.down.inn.length:=by rw [← hq]
  have q5:q.text=[121,101,115]:=by rw [← hq]
  have hqp:PkP q:=⟨by rw [q4];omega,by rw [q5];decide,.inr (by rw [q5];exact yes_ok),fun h2=>by omega,.inl q1⟩
  have hqo:pkOk q=true:=pkOk_mk (by rw [q2];simp [E.any,ho.2]) (by rw [q3];exact door_any hdoor) (by rw [q4];omega) hqp fun _=>by rw [q5];decide
  have hqi:q.inward=true:=by simp only [Pk.inward,q2,q3,ho.2,hdoor,Bool.and_self]
  have hin:insideOf x.map q.to.p=some p.frm:=by rw [q3,H.frm];exact portBack hdm H.port
  obtain ⟨hk,hdi⟩:=dIn_yes hin (by rw [q2];exact e1)
  have hat:Flw.at x k=g:=by simp [Flw.at,List.getD,e2]
  have h1:held (g.down.inn++[121,101,115])=0:=by
    have:=held_end (s:=g.down.inn++[121,101]) (b:=115) (by decide)
    simpa using this
  have hput:=put_new (m:=x.map) (out:=false) hdn h0 h1 (by simp;omega) (by decide)
  have htu:turned x.map (pcs [121,101,115]) [121,101,115] false=(x.map,[[121],[101],[115]]):=by
    rw [yes_pcs];rfl
  rw [htu,yes_pcs] at hput
  have hsend:=send_new (j:=0) (p:=q) (l:=mkParts [⟨1,false,.zero⟩,⟨1,false,.zero⟩,⟨1,false,.zero⟩] [[121],[101],[115]]) (s':=⟨g.down.inn++[121,101,115],g.down.parts++mkParts [⟨1,false,.zero⟩,⟨1,false,.zero⟩,⟨1,false,.zero⟩] [[121],[101],[115]]⟩) hdn h0 rfl (by simp) g.down (by simp) (by rw [q4];simp) (by rfl) (by decide) (by decide)
  refine ⟨(inK x k p.frm q).1, ?_⟩
  unfold doorIn
  rw [H.ok,hqo,hqi]
  simp only [Bool.and_self,if_true]
  rw [hdi]
  refine Prod.ext rfl ?_
  unfold inK
  rw [if_neg (by omega),hat,q4,q5,hput]
  simp only [hsend]
  rw [if_neg (by decide)]
  simp only [Option.map_some,q1,q2]
  rfl
theorem at26_pcs:pcs [64,50,58,54,59]=[⟨5,true,⟨2,6⟩⟩]:=by decide +kernel
theorem held_26 {s:B} (h0:held s=0):held (s++[64,50,58,54])=4:=by
  have h4:4≤held (s++[64,50,58,54]):=held_max (by decide) (by simp) (by decide) (by
    have e:(s++[64,50,58,54]).length - 4=s.length:=by simp
    rw [e,List.drop_left']
    · decide
    · rfl)
  have h5:=(held5 (s++[64,50,58,54])).1
  refine Classical.byContradiction fun hne=>?_
  have e5:held (s++[64,50,58,54])=5:=by omega
  have hb:=held_beg (t:=s++[64,50,58,54]) (by omega)
  rw [e5] at hb
  have hl:=(held5 (s++[64,50,58,54])).2
  rw [e5] at hl
  simp only [List.length_append,List.length_cons,List.length_nil] at hl
  obtain ⟨a,b,rfl⟩:∃ a b,s=a++[b]:=by
    refine ⟨s.dropLast,s.getLast (by intro h;subst h;simp at hl),(List.dropLast_concat_getLast _).symm⟩
  rw [List.append_assoc] at hb
  have e:(a++([b]++[64,50,58,54])).length - 5=a.length:=by simp
  rw [e,List.drop_left' rfl] at hb
  simp [begs,figB] at hb
theorem tx26:txOk [64,50,58,54]=true∧txOk [59]=true:=by decide
theorem law_outHeld {d x:Door} {p r:Pk} (hd:doorOk d=true) (hp:pkOk p=true) (ho:p.outward=true) (h:dOut d p=(x,some r)):∃ g,flowOf x p.frm p.to=some g∧strmOk g.up=true∧g.up.inn.length≤40∧doorOk x=true ∧
    (g.up.inn.length+5≤40→held g.up.inn=0→∃ y,doorOut x ⟨1,p.frm,p.to,g.up.inn.length,[64,50,58,54]⟩=(y,none)∧∃ z s,doorOut y ⟨1,p.frm,p.to,(g.up.inn.length:Int)+4,[59]⟩=(z,some s)∧s.at_=(sOut g.up).length∧(∃ t,s.text=64 :: t∧4≤t.length∧t.length≤5)∧doorOk z=true):=by
  have hp':=pkOk_P hp
  have ho0:=ho
  simp only [Pk.outward,Bool.and_eq_true] at ho
  have H:=dOut_is hd hp' ho.1 ho.2 (r:=r) (by rw [h])
  rw [h] at H
  simp only at H
  obtain ⟨k,g,e1,e2,_,_,_⟩:=H.fl
  obtain ⟨_,_,hu,hdn,_⟩:=flow_at H.ok e2
  have hdm:=(doorOk_iff.1 H.ok).1
  refine ⟨g,by simp [flowOf,e1,e2],hu,(strmOk_B hu).1,H.ok,fun h35 h0=>?_⟩
  have hfl:∀ y:Door,∀ q:Pk,q.frm=p.frm→q.to=p.to→flowIx y.flows p.frm p.to=some k→dOut y q=outK y k q:=fun y q hf ht hy=>by
    have hky:k<y.flows.length:=by obtain ⟨_,h,_⟩:=flowIx_some hy;exact (List.getElem?_eq_some_iff.1 h).1
    have e:=openF_has (d:=y) (i:=q.frm) (o:=q.to) (by rw [hf,ht];exact hy)
    rw [dOut_yes (by rw [e]) (by rw [e];exact hky),e]
  have hpo:∀ n (t:B),(⟨1,p.frm,p.to,n,t⟩:Pk).outward=true:=fun _ _=>ho0
  have hpk:∀ n (t:B),0≤n∧n≤99→txOk t=true→t≠[]→PkP ⟨1,p.frm,p.to,n,t⟩∧pkOk ⟨1,p.frm,p.to,n,t⟩=true:=fun n t hn ht hne=>by
    have hP:PkP ⟨1,p.frm,p.to,n,t⟩:=⟨by simp only;omega,txOk_len ht,.inr ht,fun h=>(by simp only at h;omega),.inl rfl⟩
    exact ⟨hP,pkOk_mk (inside_any ho.1) (by simp [E.any,ho.2]) hn hP fun _=>hne⟩
  obtain ⟨P1,K1⟩:=hpk g.up.inn.length [64,50,58,54] (by omega) tx26.1 (by decide)
  obtain ⟨P2,K2⟩:=hpk ((g.up.inn.length:Int)+4) [59] (by omega) tx26.2 (by decide)
  have hat:Flw.at x k=g:=by simp [Flw.at,List.getD,e2]
  have hb:behind g.up.inn g.up.inn.length [64,50,58,54]=(g.up.inn++[64,50,58,54],true):=by
    unfold behind
    rw [if_neg (by simp only [Bool.or_eq_true,decide_eq_true_eq,List.length_cons,List.length_nil];omega),if_neg (by simp only [List.length_cons,List.length_nil];omega)]
    simp
  have hbd:body (g.up.inn++[64,50,58,54])=g.up.inn:=by
    rw [body,held_26 h0]
    simp
  have hdr:(pieces (g.up.inn++[64,50,58,54])).drop g.up.parts.length=[]:=by
    rw [(put_fits hu _).2.1,hbd,body_all h0]
    simp [pcs_nil]
  have hput1:put x.map g.up g.up.inn.length [64,50,58,54] true=(x.map,⟨g.up.inn++[64,50,58,54],g.up.parts⟩,true):=by
    unfold put
    rw [hb]
    simp only [if_true,hdr,turned,mkParts,List.append_nil]
  have hone:=fun q hq=>(strm_one hu q hq).1
  have hdone:=full_done hu rfl h0
  have hs1:sendOn g.up ⟨g.up.inn++[64,50,58,54],g.up.parts⟩ ⟨1,p.frm,p.to,g.up.inn.length,[64,50,58,54]⟩=none:=by
    have hfr:forP g.up.parts g.up.inn.length=(sOut g.up).length:=forP_full hone (by omega)
    have hto:toR g.up ⟨g.up.inn++[64,50,58,54],g.up.parts⟩ ⟨1,p.frm,p.to,g.up.inn.length,[64,50,58,54]⟩=(sOut g.up).length:=by
      unfold toR;rw [if_pos (by simp)];rfl
    show (if forP g.up.parts g.up.inn.length≥toR g.up ⟨g.up.inn++[64,50,58,54],g.up.parts⟩ ⟨1,p.frm,p.to,g.up.inn.length,[64,50,58,54]⟩ then none else _)=none
    rw [hto,hfr,if_pos (by omega)]
  have hd1:dOut x ⟨1,p.frm,p.to,g.up.inn.length,[64,50,58,54]⟩=(⟨x.map,x.flows.set k { g with up:=⟨g.up.inn++[64,50,58,54],g.up.parts⟩ }⟩,none):=by
    rw [hfl x ⟨1,p.frm,p.to,g.up.inn.length,[64,50,58,54]⟩ rfl rfl e1]
    unfold outK
    rw [if_neg (by simp),hat,hput1]
    simp only [hs1]
    rfl
  obtain ⟨i1,i2⟩:=set_ix e1 e2 (g:={ g with up:=⟨g.up.inn++[64,50,58,54],g.up.parts⟩ }) rfl rfl
  have hyok:=(dOut_ok H.ok P1 ho0).1
  rw [hd1] at hyok
  simp only at hyok
  refine ⟨_,by unfold doorOut;rw [H.ok,K1,hpo];exact hd1, ?_⟩
  generalize hy:(⟨x.map,x.flows.set k { g with up:=⟨g.up.inn++[64,50,58,54],g.up.parts⟩ }⟩:Door)=y at *
  have hy1:flowIx y.flows p.frm p.to=some k:=by rw [← hy];exact i1
  have hy2:y.flows[k]?=some { g with up:=⟨g.up.inn++[64,50,58,54],g.up.parts⟩ }:=by rw [← hy];exact i2
  have hat2:Flw.at y k={ g with up:=⟨g.up.inn++[64,50,58,54],g.up.parts⟩ }:=by simp [Flw.at,List.getD,hy2]
  have hb2:behind (g.up.inn++[64,50,58,54]) ((g.up.inn.length:Int)+4) [59]=(g.up.inn++[64,50,58,54,59],true):=by
    unfold behind
    simp only [List.length_append,List.length_cons,List.length_nil]
    rw [if_neg (by simp only [Bool.or_eq_true,decide_eq_true_eq];omega),if_neg (by omega)]
    have:(((g.up.inn.length+(0+1+1+1+1):Nat):Int) - ((g.up.inn.length:Int)+4)).toNat=0:=by omega
    rw [this]
    simp
  have h59:held (g.up.inn++[64,50,58,54,59])=0:=by
    have:=held_end (s:=g.up.inn++[64,50,58,54]) (b:=59) (by decide)
    simpa using this
  have hd2:(pieces (g.up.inn++[64,50,58,54,59])).drop g.up.parts.length=pcs [64,50,58,54,59]:=by
    rw [(put_fits hu _).2.1,body_all h0,body_all h59]
    simp
  have hdo2:(g.up.inn++[64,50,58,54,59]).drop (doneP g.up.parts)=[64,50,58,54,59]:=by
    rw [hdone];simp
  obtain ⟨m',t,ht,hl1,hl2⟩:∃ m' t,turned y.map [⟨5,true,⟨2,6⟩⟩] [64,50,58,54,59] true=(m',[64 :: t])∧4≤t.length∧t.length≤5:=by
    simp only [turned,turn,cond_true,pieceOut]
    have hin:(⟨2,6⟩:E).inside=true:=by decide
    rw [hin]
    simp only [Bool.and_self,if_true]
    have hym:=(doorOk_iff.1 hyok).1
    have hdoor:=mOut_door (e:=⟨2,6⟩) hym
    rcases hmo:mOut y.map ⟨2,6⟩ with ⟨m',port,ok⟩
    rw [hmo] at hdoor
    cases ok with
    | true =>
      refine ⟨m',(⟨9,port⟩:E).text++[59],rfl, ?_⟩
      have:=text_len (door_any (hdoor rfl))
      rw [if_pos (hdoor rfl)] at this
      simp [this]
    | false=>exact ⟨y.map,[50,58,54,59],rfl,by decide,by decide⟩
  have hput2:put y.map ⟨g.up.inn++[64,50,58,54],g.up.parts⟩ ((g.up.inn.length:Int)+4) [59] true=(m',⟨g.up.inn++[64,50,58,54,59],g.up.parts++[⟨5,64 :: t⟩]⟩,true):=by
    unfold put
    simp only [hb2,if_true,hd2,hdo2,at26_pcs,ht,mkParts]
    rfl
  have hs2:=send_new (s:=g.up) (s':=⟨g.up.inn++[64,50,58,54,59],g.up.parts++[⟨5,64 :: t⟩]⟩) (l:=[⟨5,64 :: t⟩]) (p:=⟨1,p.frm,p.to,(g.up.inn.length:Int)+4,[59]⟩) (j:=4) hu h0 rfl (by simp) ⟨g.up.inn++[64,50,58,54],g.up.parts⟩ (by simp) (by simp) (by simp [forP]) (by simp) (by simp;omega)
  have hz:=(dOut_ok hyok P2 ho0).1
  refine ⟨(dOut y ⟨1,p.frm,p.to,(g.up.inn.length:Int)+4,[59]⟩).1,⟨1,⟨9,portOf y.map p.frm⟩,p.to,(sOut g.up).length,64 :: t⟩, ?_,rfl,⟨t,rfl,hl1,hl2⟩,hz⟩
  unfold doorOut
  rw [hyok,K2,hpo]
  simp only [Bool.and_self,if_true]
  refine Prod.ext rfl ?_
  rw [hfl y ⟨1,p.frm,p.to,(g.up.inn.length:Int)+4,[59]⟩ rfl rfl hy1]
  unfold outK
  rw [if_neg (by simp),hat2]
  simp only [hput2,hs2]
  rw [if_neg (by decide)]
  simp
theorem law_doorHides {d x:Door} {p r:Pk} (hd:doorOk d=true) (hp:pkOk p=true) (ho:p.outward=true) (h:dOut d p=(x,some r)) (hm:x.map.length≤7) (h0:sOut ((flowOf d p.frm p.to).getD .zero).up=[]):∀ e∈textNames r.text,e.inside=false:=by
  have hp':=pkOk_P hp
  simp only [Pk.outward,Bool.and_eq_true] at ho
  have H:=dOut_is hd hp' ho.1 ho.2 (r:=r) (by rw [h])
  rw [h] at H
  simp only at H
  obtain ⟨k,g,e1,e2,e3,e4,e5⟩:=H.fl
  intro e he
  obtain ⟨hany,a,c,hac⟩:=textNames_occ he
  rcases hp'.kd with hk|hk
  · obtain ⟨m0,hm0,_,hs0,hput,q,q1,q2,q3⟩:=e5 hk
    generalize ((flowOf d p.frm p.to).getD .zero).up=s at *
    have hparts:s.parts=[]:=by
      cases hsp:s.parts with
      | nil=>rfl
      | cons t l =>
        have:=(strm_one hs0 t (by rw [hsp];simp)).2
        simp only [sOut,hsp,List.flatMap_cons,List.append_eq_nil_iff] at h0
        rw [h0.1] at this
        simp at this
    have hbody:body s.inn=[]:=by
      have:=(strmOk_done hs0).1
      rw [hparts] at this
      exact List.eq_nil_of_length_eq_zero (by simpa [doneP] using this.symm)
    have hal:=(put_al (m:=m0) (n:=p.at_) (t:=p.text) hs0 (by rw [hbody,h0];exact .nil) (by rw [hput];exact hm)).1
    rw [hput] at hal
    simp only at hal
    obtain ⟨_,hpre⟩:=(sendOn_st q1).1.2
    obtain ⟨z,hz⟩:=hpre
    have hcl:=hal.clean e ((sOut g.up).take q.at_.toNat++a) (c++z) hany
    cases hi:e.inside with
    | false=>rfl
    | true =>
      exfalso
      refine hcl hi ?_
      have:sOut g.up=(sOut g.up).take q.at_.toNat++(sOut g.up).drop q.at_.toNat:=(List.take_append_drop _ _).symm
      refine this.trans ?_
      rw [← hz,← q3,hac]
      simp
  · have:=(e4 hk).2.2.2
    rw [this] at hac
    simp [name] at hac
theorem law_inInvited {d:Door} {p:Pk} (hd:doorOk d=true) (hq:DoorQ d) (hp:pkOk p=true) (hi:p.inward=true) :
    (insideOf d.map p.to.p=none→dIn d p=(d,none))∧∀ i,insideOf d.map p.to.p=some i→((flowIx d.flows i p.frm).isSome=false→dIn d p=(d,none))∧∀ r,(dIn d p).2=some r→r.to=i∧r.frm=p.frm∧r.kind=p.kind∧pkOk r=true∧doorOk (dIn d p).1=true:=by
  have hp':=pkOk_P hp
  refine ⟨fun h=>dIn_no1 h,fun i hin=>⟨fun h=>dIn_no2 hin (by simpa using h),fun r hr=>?_⟩⟩
  have H:=dIn_is hd hp' hr
  have hpk:=pk_of hd hp' (by rw [pass_in hi];exact hr)
  have e:=H.ins
  rw [hin] at e
  obtain ⟨k,f,g,e1,e2,e3,e4,e5,e6,e7,e8⟩:=H.fl
  simp only [Pk.inward,Bool.and_eq_true] at hi
  have h98:=H.q hq g (List.mem_of_getElem? e4)
  obtain ⟨_,_,hu,hdn,_⟩:=flow_at H.ok e4
  refine ⟨(Option.some.inj e).symm,H.frm,H.kind,pkOk_mk (by rw [H.frm];simp [E.any,hi.1]) (inside_any H.inside) ?_ hpk ?_,H.ok⟩
  · rcases hp'.kd with hk|hk
    · obtain ⟨_,q,q1,q2,q3⟩:=e8 hk
      have:=sendOn_at q1
      omega
    · obtain ⟨_,q2,_⟩:=e7 hk
      rw [← e6] at q2
      have:=backP_P (fun p hp=>((strmOk_B hu).2.2 p hp).1) (strmOk_B hu).2.1 p.at_
      have:=backP_done (fun p hp=>(strm_one hu p hp).1) p.at_
      have:=(strmOk_done hu).1
      have:=(strmOk_B hu).1
      rw [body_len] at *
      omega
  · intro hk
    rw [H.kind] at hk
    obtain ⟨_,q,q1,q2,q3⟩:=e8 hk
    rw [q3]
    exact sendOn_ne q1
theorem law_inText {d x:Door} {p r:Pk} (hd:doorOk d=true) (hp:pkOk p=true) (h:dIn d p=(x,some r)) :
    x.flows.length=d.flows.length∧x.map=d.map∧doorOk x=true∧(p.kind≠1→x=d)∧(p.kind=1→∃ g,flowOf x r.to r.frm=some g∧strmOk g.down=true∧(0≤r.at_∧r.at_+r.text.length≤(sOut g.down).length)∧((sOut g.down).drop r.at_.toNat).take r.text.length=r.text):=by
  have hp':=pkOk_P hp
  have H:=dIn_is hd hp' (r:=r) (by rw [h])
  rw [h] at H
  simp only at H
  obtain ⟨k,f,g,e1,e2,e3,e4,e5,e6,e7,e8⟩:=H.fl
  obtain ⟨_,_,hu,hdn,_⟩:=flow_at H.ok e4
  refine ⟨H.len,H.map,H.ok,fun hk=>(e7 (hp'.kd.resolve_left hk)).1,fun hk=>?_⟩
  obtain ⟨_,q,q1,q2,q3⟩:=e8 hk
  obtain ⟨s1,s2⟩:=slice_of (sendOn_st q1).1
  exact ⟨g,by rw [H.frm];simp [flowOf,e3,e4],hdn,by rw [q2,q3];exact s1,by rw [q2,q3];exact s2⟩
theorem law_ackBack {d x:Door} {p r:Pk} (hd:doorOk d=true) (hp:pkOk p=true) (h:dPass d p=(x,some r)) (hk:p.kind=2) :
    ∃ s:Strm,strmOk s=true∧(0≤p.at_∧p.at_≤(sOut s).length)∧r.at_=backP s.parts p.at_∧(0≤r.at_∧r.at_≤s.inn.length)∧forP s.parts r.at_≤p.at_ ∧
      ((p.frm.inside=true∧∃ g,flowOf x p.frm p.to=some g∧s=g.down)∨(p.frm.inside=false∧∃ g,flowOf x r.to p.frm=some g∧s=g.up)):=by
  have hp':=pkOk_P hp
  have fin:∀ s:Strm,strmOk s=true→p.at_≤(sOut s).length→r.at_=backP s.parts p.at_→(0≤p.at_∧p.at_≤(sOut s).length)∧(0≤r.at_∧r.at_≤s.inn.length)∧forP s.parts r.at_≤p.at_:=fun s hs h1 h2=>by
    have a1:=backP_P (fun p hp=>((strmOk_B hs).2.2 p hp).1) (strmOk_B hs).2.1 p.at_
    have a2:=backP_done (fun p hp=>(strm_one hs p hp).1) p.at_
    have a3:=(strmOk_done hs).1
    rw [body_len] at a3
    have:=hp'.at_.1
    exact ⟨by omega,by omega,forP_back (fun p hp=>(strm_one hs p hp).1) (by omega) (by omega)⟩
  by_cases ho:p.outward=true
  · rw [pass_out ho] at h
    simp only [Pk.outward,Bool.and_eq_true] at ho
    have H:=dOut_is hd hp' ho.1 ho.2 (r:=r) (by rw [h])
    rw [h] at H
    simp only at H
    obtain ⟨k,g,e1,e2,e3,e4,e5⟩:=H.fl
    obtain ⟨_,_,hu,hdn,_⟩:=flow_at H.ok e2
    obtain ⟨_,q2,q3,_⟩:=e4 hk
    obtain ⟨f1,f2,f3⟩:=fin g.down hdn q3 q2
    exact ⟨g.down,hdn,f1,q2,f2,f3,.inl ⟨ho.1,g,by simp [flowOf,e1,e2],rfl⟩⟩
  · by_cases hi:p.inward=true
    · rw [pass_in hi] at h
      simp only [Pk.inward,Bool.and_eq_true] at hi
      have H:=dIn_is hd hp' (r:=r) (by rw [h])
      rw [h] at H
      simp only at H
      obtain ⟨k,f,g,e1,e2,e3,e4,e5,e6,e7,e8⟩:=H.fl
      obtain ⟨_,_,hu,hdn,_⟩:=flow_at H.ok e4
      obtain ⟨_,q2,q3,_⟩:=e7 hk
      rw [← e6] at q2 q3
      obtain ⟨f1,f2,f3⟩:=fin g.up hu q3 q2
      exact ⟨g.up,hu,f1,q2,f2,f3,.inr ⟨not_in_out hi.1,g,by simp [flowOf,e3,e4],rfl⟩⟩
    · unfold dPass at h
      rw [if_neg ho,if_neg hi] at h
      cases h
theorem law_other {d:Door} {p:Pk} (h1:(p.frm.inside && p.to.outside)=false) (h2:(p.frm.outside && p.to.door)=false):dPass d p=(d,none):=by
  unfold dPass Pk.outward Pk.inward
  rw [h1,h2]
  rfl
theorem law_apart {d:Door} {p:Pk} (hd:doorOk d=true) (hp:pkOk p=true):doorOk (dPass d p).1=true∧(dPass d p).1.flows.length≤d.flows.length+1∧d.flows.length≤(dPass d p).1.flows.length∧(∃ y,(dPass d p).1.map=d.map++y) ∧
    ∃ k:Nat,∀ (i:Nat) f g,d.flows[i]?=some f→(dPass d p).1.flows[i]?=some g→g.ins=f.ins∧g.out=f.out∧(i≠k→g=f)∧(g≠f→f.ins=p.frm∨f.out=p.frm):=by
  have hp':=pkOk_P hp
  obtain ⟨h1,h2⟩:=dPass_ok hd hp'
  have triv:∀ x:Door,d.flows <+: x.flows→∃ k:Nat,∀ (i:Nat) f g,d.flows[i]?=some f→x.flows[i]?=some g→g.ins=f.ins∧g.out=f.out∧(i≠k→g=f)∧(g≠f→f.ins=p.frm∨f.out=p.frm):=fun x ⟨y,hy⟩=>⟨0,fun i f g hf hg=>by
    have hl:=(List.getElem?_eq_some_iff.1 hf).1
    rw [← hy,List.getElem?_append_left hl,hf] at hg
    cases hg
    exact ⟨rfl,rfl,fun _=>rfl,fun h=>absurd rfl h⟩⟩
  have setk:∀ (m:List Pair) (x:Door) (k:Nat) (u v:Flw),d.flows <+: x.flows→x.flows[k]?=some u→v.ins=u.ins→v.out=u.out→(u.ins=p.frm∨u.out=p.frm)→∃ k2:Nat,∀ (i:Nat) f g,d.flows[i]?=some f→(Door.mk m (x.flows.set k v)).flows[i]?=some g→g.ins=f.ins∧g.out=f.out∧(i≠k2→g=f)∧(g≠f→f.ins=p.frm∨f.out=p.frm):=fun m x k u v ⟨y,hy⟩ hu hv1 hv2 hends=>⟨k,fun i f g hf hg=>by
    have hl:=(List.getElem?_eq_some_iff.1 hf).1
    have hfx:x.flows[i]?=some f:=by rw [← hy,List.getElem?_append_left hl,hf]
    simp only at hg
    by_cases hik:i=k
    · subst hik
      rw [hfx] at hu;cases hu
      rw [List.getElem?_set_self (List.getElem?_eq_some_iff.1 hfx).1] at hg;cases hg
      exact ⟨hv1,hv2,fun h=>absurd rfl h,fun _=>hends⟩
    · rw [List.getElem?_set_ne (Ne.symm hik),hfx] at hg;cases hg
      exact ⟨rfl,rfl,fun _=>rfl,fun h=>absurd rfl h⟩⟩
  unfold dPass at h1 h2 ⊢
  by_cases ho:p.outward=true
  · simp only [if_pos ho] at h1 h2 ⊢
    obtain ⟨hext,hlen⟩:=dOut_ext d p
    refine ⟨h1,h2,hlen,hext, ?_⟩
    simp only [Pk.outward,Bool.and_eq_true] at ho
    cases hok:(openR d p.frm p.to).2.2 with
    | false=>rw [dOut_no hok];exact triv d (List.prefix_rfl)
    | true =>
      have hx:=openR_ok hd ho.1 ho.2 hok
      obtain ⟨f,hop⟩:=opens hd ho.1 ho.2 hok
      rw [dOut_yes hok hx.kl]
      generalize (openR d p.frm p.to).1=x at *
      generalize (openR d p.frm p.to).2.1=k at *
      have hsub:d.flows <+: x.flows:=by obtain ⟨y,hy,_⟩:=hop.sub;exact ⟨y,hy.symm⟩
      unfold outK
      split
      · split<;>exact triv x hsub
      · split
        · exact triv x hsub
        · have hat:Flw.at x k=f:=by simp [Flw.at,List.getD,hop.at_]
          rw [hat]
          obtain ⟨k',hk'⟩:=setk (put x.map f.up p.at_ p.text true).1 x k f { f with up:=(put x.map f.up p.at_ p.text true).2.1 } hsub hop.at_ rfl rfl (.inl hop.ins)
          exact ⟨k',fun i f g h1 h2=>hk' i f g h1 h2⟩
  · simp only [if_neg ho] at h1 h2 ⊢
    by_cases hi:p.inward=true
    · simp only [if_pos hi] at h1 h2 ⊢
      obtain ⟨hext,hlen⟩:=dIn_ext d p
      refine ⟨h1,h2,by omega,⟨[],by rw [hext];simp⟩, ?_⟩
      cases h3:insideOf d.map p.to.p with
      | none=>rw [dIn_no1 h3];exact triv d (List.prefix_rfl)
      | some i =>
        cases h4:flowIx d.flows i p.frm with
        | none=>rw [dIn_no2 h3 h4];exact triv d (List.prefix_rfl)
        | some k =>
          obtain ⟨f,f1,f2,f3,_⟩:=flowIx_some h4
          rw [(dIn_yes h3 h4).2]
          unfold inK
          split
          · split<;>exact triv d (List.prefix_rfl)
          · split
            · exact triv d (List.prefix_rfl)
            · have hat:Flw.at d k=f:=by simp [Flw.at,List.getD,f1]
              rw [hat]
              obtain ⟨k',hk'⟩:=setk d.map d k f { f with down:=(put d.map f.down p.at_ p.text false).2.1 } (List.prefix_rfl) f1 rfl rfl (.inr f3)
              exact ⟨k',fun i f g h1 h2=>hk' i f g h1 h2⟩
    · simp only [if_neg hi] at h1 h2 ⊢
      exact ⟨h1,h2,Nat.le_refl _,⟨[],by simp⟩,triv d (List.prefix_rfl)⟩
theorem law_ackFar {d:Door} (hd:doorOk d=true) (hq:DoorQ d) {k:Nat} {f:Flw} (hf:d.flows[k]?=some f):mapOut d.map f.ins=(d.map,portOf d.map f.ins,true) ∧
    doorPass d ⟨2,f.out,⟨9,portOf d.map f.ins⟩,(sOut f.up).length+1,[]⟩=(d,none)∧doorPass d ⟨2,f.ins,f.out,(sOut f.down).length+1,[]⟩=(d,none):=by
  have hdm:=(doorOk_iff.1 hd).1
  obtain ⟨hany,hout,hu,hdn,hno⟩:=flow_at hd hf
  have hport:=(portOf_ne' hdm f.ins).2 hany
  have hdoor:(⟨9,portOf d.map f.ins⟩:E).door=true:=portOf_door hdm hport
  have hback:=portBack hdm hport
  have hins:f.ins.inside=true:=insideOf_ok hdm hback
  have hix:=flowIx_at hf rfl rfl hno
  have h50:=hq f (List.mem_of_getElem? hf)
  have hat:Flw.at d k=f:=by simp [Flw.at,List.getD,hf]
  have hl:=(List.getElem?_eq_some_iff.1 hf).1
  refine ⟨?_, ?_, ?_⟩
  · unfold mapOut
    rw [hdm,hins]
    exact mOut_found (fun p hp=>((mapOk_ports hdm).1 p hp).1) hport
  · generalize hp:(⟨2,f.out,⟨9,portOf d.map f.ins⟩,(sOut f.up).length+1,[]⟩:Pk)=p
    have p1:p.kind=2:=by rw [← hp]
    have p2:p.frm=f.out:=by rw [← hp]
    have p3:p.to=⟨9,portOf d.map f.ins⟩:=by rw [← hp]
    have p4:p.at_=(sOut f.up).length+1:=by rw [← hp]
    have p5:p.text=[]:=by rw [← hp]
    have hok:pkOk p=true:=pkOk_mk (by rw [p2];simp [E.any,hout]) (by rw [p3];exact door_any hdoor) (by rw [p4];omega) ⟨by rw [p4];omega,by rw [p5];simp,.inl p1,fun _=>p5,.inr p1⟩ fun h=>by omega
    have hin:p.inward=true:=by simp only [Pk.inward,p2,p3,hout,hdoor,Bool.and_self]
    unfold doorPass
    rw [hd,hok]
    simp only [Bool.and_self,if_true]
    rw [pass_in hin,(dIn_yes (by rw [p3];exact hback) (by rw [p2];exact hix)).2]
    unfold inK
    rw [if_pos p1,hat,if_pos (by omega)]
  · generalize hp:(⟨2,f.ins,f.out,(sOut f.down).length+1,[]⟩:Pk)=p
    have p1:p.kind=2:=by rw [← hp]
    have p2:p.frm=f.ins:=by rw [← hp]
    have p3:p.to=f.out:=by rw [← hp]
    have p4:p.at_=(sOut f.down).length+1:=by rw [← hp]
    have p5:p.text=[]:=by rw [← hp]
    have hok:pkOk p=true:=pkOk_mk (by rw [p2];exact inside_any hins) (by rw [p3];simp [E.any,hout]) (by rw [p4];omega) ⟨by rw [p4];omega,by rw [p5];simp,.inl p1,fun _=>p5,.inr p1⟩ fun h=>by omega
    have ho:p.outward=true:=by simp only [Pk.outward,p2,p3,hins,hout,Bool.and_self]
    have hop:=openF_has (d:=d) (i:=p.frm) (o:=p.to) (by rw [p2,p3];exact hix)
    unfold doorPass
    rw [hd,hok]
    simp only [Bool.and_self,if_true]
    rw [pass_out ho,dOut_yes (by rw [hop]) (by rw [hop];exact hl),hop]
    unfold outK
    rw [if_pos p1,hat,if_pos (by omega)]
end Go.Proofs.YtfepdcpidkjklaaGreatDoor.M
namespace Go.Proofs.YtfepdcpidkjklaaGreatDoor.W
open Go Go.RowKit Go.Proofs Go.Proofs.YtfepdcpidkjklaaGreatDoor.VL Go.Proofs.YtfepdcpidkjklaaGreatDoor.M
def isErr (v:Value):Prop:=v=.nilIface∨∃ t p,v=.iface t p
def G:Glob where
  g W:=(∃ m,W.cell? ⟨0,0,none⟩=some (.int .i64 m))∧(∃ v,W.cell? ⟨1,0,none⟩=some v∧isErr v)∧∃ v,W.cell? ⟨2,0,none⟩=some v∧isErr v
  ng:=3
  stays:=fun W W' h hs ho ht hu hb=>by
    have e:∀ b,b<3→W'.cell? ⟨b,0,none⟩=W.cell? ⟨b,0,none⟩:=fun b hb4=>cell_of_block (hb b hb4)
    rw [e 0 (by omega),e 1 (by omega),e 2 (by omega)]
    exact h
  there:=fun W h=>by
    obtain ⟨_,_,v,h,_⟩:=h
    have:∃ o,W.heap[2]?=some o:=by
      cases hh:W.heap[2]? with
      | none=>simp [World.cell?,hh] at h
      | some o=>exact ⟨o,rfl⟩
    obtain ⟨o,ho⟩:=this
    have:=lt_of_get ho
    omega
def plainU:V→Option Value
  | .int k n=>some (.int k n)
  | .bool b=>some (.bool b)
  | .str s=>some (.string (mkStr s))
  | .nile=>some .nilIface
  | _=>none
theorem plainU_spec {w:World} {O:Nat→Prop} {ρ:Nat→VL.Loc} {h:Nat→Hs} {v:V} {u x:Value} (hp:plainU v=some x) (hd:Den w O ρ h v u):u=x:=by
  cases v<;>simp only [plainU,Option.some.injEq,reduceCtorEq] at hp
  all_goals subst hp
  · exact inv_int hd
  · exact inv_bool hd
  · exact inv_str hd
  · exact inv_nile hd
theorem plainU_den2 {w:World} {O:Nat→Prop} {ρ:Nat→VL.Loc} {h:Nat→Hs} {v:V} {x:Value} (hp:plainU v=some x):Den2 w O ρ h v x:=by
  cases v<;>simp only [plainU,Option.some.injEq,reduceCtorEq] at hp
  all_goals subst hp
  · exact Imm.int _ _
  · exact Imm.bool _
  · exact Imm.str _
  · exact Imm.nile
def plainR:V→Option Value
  | .tup vs=>(vs.mapM plainU).map fun us=>.tuple us.toArray
  | v=>plainU v
theorem plainR_den {w:World} {O:Nat→Prop} {ρ:Nat→VL.Loc} {h:Nat→Hs} {v:V} {x:Value} (hp:plainR v=some x):Den w O ρ h v x:=by
  by_cases ht:∃ vs,v=.tup vs
  · obtain ⟨vs,rfl⟩:=ht
    simp only [plainR,Option.map_eq_some_iff] at hp
    obtain ⟨us,hm,rfl⟩:=hp
    obtain ⟨h1,h2⟩:=mapM_get hm
    refine ⟨us,rfl,h1,fun j v u hv hu=>plainU_den2 (h2 j v u hv hu)⟩
  · have hp:plainU v=some x:=by cases v<;>first|exact hp|exact absurd ⟨_,rfl⟩ ht
    have:=plainU_den2 (w:=w) (O:=O) (ρ:=ρ) (h:=h) hp
    cases v<;>first|exact this|exact absurd ⟨_,rfl⟩ ht
section
variable {P:Program}
theorem FnP.lib {f:FuncId} {vs:List V} {us:List Value} {post:V→Prop} (hn:entr P f=true) (h1:vs.mapM plainU=some us) (hne:∃ r,post r)
    (h:∀ W,G.g W→Calls P f us.toArray W fun e W'=>Below W.heap.size W W'∧∃ u v,e=.returned u∧post v∧∀ O,(∀ b,O b→b<W.heap.size)→Den W' O (fun _=>default) (fun _=>.fresh) v u) :
    FnP P G f 0 [] vs (fun r o=>o=[]∧post r) where
  en:=hn
  ne:=let ⟨r,h⟩:=hne;⟨r,[],rfl,h⟩
  run:=fun W ρ ext us' hg hlt hno hng r hargs=>by
    obtain ⟨h2,h3⟩:=mapM_get h1
    have e:us'=us:=by
      obtain ⟨h4,h5⟩:=hargs
      apply List.ext_getElem?
      intro j
      cases hj:us'[j]? with
      | none =>
        have:=List.getElem?_eq_none_iff.1 hj
        exact (List.getElem?_eq_none_iff.2 (by omega)).symm
      | some u =>
        have hjl:j<us'.length:=(List.getElem?_eq_some_iff.1 hj).1
        have hv:=List.getElem?_eq_getElem (l:=vs) (show j<vs.length by omega)
        have hu:=List.getElem?_eq_getElem (l:=us) (show j<us.length by omega)
        rw [hu,plainU_spec (h3 j (vs[j]'(by omega)) (us[j]'(by omega)) hv hu) (h5 j _ u hv hj)]
    subst e
    refine (h W hg).mono fun e W' ⟨hb,u,v,he,hp,hd⟩=>?_
    have hc:chH []=fun _=>.fresh:=by funext x;simp [chH]
    have hnb:∀ b,¬ blocks ρ (chH []) b:=fun b ⟨c,hl,_⟩=>by rw [hc] at hl;cases hl
    refine ⟨u,v,[],fun _=>default,he,⟨rfl,hp⟩,⟨hb.os,hb.tape,hb.output,hb.size,fun b hb1 _=>hb.block b hb1,fun c=>(by rw [hc];trivial),fun c hl=>(by rw [hc] at hl;cases hl),fun c c' hl=>(by rw [hc] at hl;cases hl),fun i hi=>absurd hi (Nat.not_lt_zero _)⟩, ?_⟩
    rw [hc]
    refine hd _ fun b hb=>?_
    rcases hb with hb|⟨c,hl,_⟩
    · exact hlt b hb
    · cases hl
theorem FnR.lib {f:FuncId} {vs:List V} {us:List Value} {v:V} {u:Value} (hn:entr P f=true) (h1:vs.mapM plainU=some us) (h2:plainR v=some u)
    (h:∀ W,G.g W→Calls P f us.toArray W fun e W'=>e=.returned u∧Below W.heap.size W W'):FnR P G f vs v:=by
  have:=FnP.lib (P:=P) (f:=f) (vs:=vs) (post:=fun r=>r=v) hn h1 ⟨v,rfl⟩ fun W hg=>(h W hg).mono fun e W' ⟨he,hb⟩=>⟨hb,u,v,he,rfl,fun O _=>plainR_den h2⟩
  exact ⟨this.en,this.ne.imp fun r ⟨o,h⟩=>⟨o,h.2,h.1⟩,fun W ρ ext us a b c d e f=>(this.run W ρ ext us a b c d e f).mono fun e W' ⟨u,r,o,ρ',he,⟨h1,h2⟩,h3⟩=>⟨u,r,o,ρ',he,⟨h2,h1⟩,h3⟩⟩
end
end Go.Proofs.YtfepdcpidkjklaaGreatDoor.W
namespace Go.Proofs.YtfepdcpidkjklaaGreatDoor.M
open Go Go.Proofs.YtfepdcpidkjklaaGreatDoor.VL
def E.row (e:E):List V:=[.int .i64 e.a,.int .i64 e.p]
def Pc.row (p:Pc):List V:=[.int .i64 p.size,.bool p.named,.int .i64 p.e.a,.int .i64 p.e.p]
def Pair.row (p:Pair):List V:=[.int .i64 p.port,.int .i64 p.ins.a,.int .i64 p.ins.p]
def Part.row (p:Part):List V:=[.int .i64 p.size,.str p.text]
def Strm.row (s:Strm):List V:=[.str s.inn,.sl 2 (s.parts.map Part.row)]
def Flw.row (f:Flw):List V:=[.int .i64 f.ins.a,.int .i64 f.ins.p,.int .i64 f.out.a,.int .i64 f.out.p,.str f.up.inn,.sl 2 (f.up.parts.map Part.row),.str f.down.inn,.sl 2 (f.down.parts.map Part.row)]
def Pk.row (p:Pk):List V:=[.int .i64 p.kind,.int .i64 p.frm.a,.int .i64 p.frm.p,.int .i64 p.to.a,.int .i64 p.to.p,.int .i64 p.at_,.str p.text]
def Door.row (d:Door):List V:=[.sl 3 (d.map.map Pair.row),.sl 8 (d.flows.map Flw.row)]
def Conv.row (c:Conv):List V:=[.int .i64 c.ins.a,.int .i64 c.ins.p,.int .i64 c.out.a,.int .i64 c.out.p,.str c.up,.str c.down,.int .i64 c.upAck,.int .i64 c.downAck,.str c.upGot,.str c.downGot]
def World.row (w:World):List V:=[.sl 10 (w.convs.map Conv.row),.sl 3 (w.door.map.map Pair.row),.sl 8 (w.door.flows.map Flw.row),.sl 7 (w.nets.map Pk.row)]
def Ev.row (e:Ev):List V:=[.int .i64 e.kind,.int .i64 e.a,.int .i64 e.b,.int .i64 e.c,.int .i64 e.pkt.kind,.int .i64 e.pkt.frm.a,.int .i64 e.pkt.frm.p,.int .i64 e.pkt.to.a,.int .i64 e.pkt.to.p,.int .i64 e.pkt.at_,.str e.pkt.text]
def rdV (o:Option E):V:=.tup [.agg [.int .i64 (o.getD .zero).a,.int .i64 (o.getD .zero).p],.bool o.isSome]
def byR (b:UInt8):List V:=[.int .u8 (b.toNat:Int)]
theorem E.eta (e:E):E.mk e.a e.p=e:=by cases e;rfl
theorem Pc.eta (q:Pc):Pc.mk q.size q.named q.e=q:=by cases q;rfl
theorem Pair.eta (q:Pair):Pair.mk q.port q.ins=q:=by cases q;rfl
theorem Part.eta (q:Part):Part.mk q.size q.text=q:=by cases q;rfl
theorem Strm.eta (q:Strm):Strm.mk q.inn q.parts=q:=by cases q;rfl
theorem Pk.eta (q:Pk):Pk.mk q.kind q.frm q.to q.at_ q.text=q:=by cases q;rfl
theorem Flw.eta (q:Flw):Flw.mk q.ins q.out q.up q.down=q:=by cases q;rfl
theorem Conv.eta (q:Conv):Conv.mk q.ins q.out q.up q.down q.upAck q.downAck q.upGot q.downGot=q:=by cases q;rfl
theorem Door.eta (q:Door):Door.mk q.map q.flows=q:=by cases q;rfl
theorem World.eta (q:World):World.mk q.convs q.door q.nets=q:=by cases q;rfl
theorem Ev.eta (q:Ev):Ev.mk q.kind q.a q.b q.c q.pkt=q:=by cases q;rfl
end Go.Proofs.YtfepdcpidkjklaaGreatDoor.M
namespace Go.Proofs.YtfepdcpidkjklaaGreatDoor.W
open Go Go.RowKit Go.Proofs Go.Proofs.YtfepdcpidkjklaaGreatDoor.VL Go.Proofs.YtfepdcpidkjklaaGreatDoor.M
attribute [local congr] optK_congr guardK_congr condK_congr runT_congr runD_congr wpI_congr CallV_congr LoopI_congr pureK_congr effK_congr calK_congr stepV_congr doV_congr exN_congr exB_congr retF_congr retQ_congr gK_congr condW_congr ldK_congr stoK_congr
attribute [local go_sem] argL_cons argL_nil argH_nil argH_cons chH_getH wpI_seq wpI_reg wpI_drw wpI_ret cond_k condW_t condW_f wpI_skip wpI_block wpI_exit wpI_loop exN_n exN_r exN_e exB_n exB_r exB_h exB_m runT_k kT_e runT_nil runD_k kD_e runD_nil step_u step_k gK_t gK_f do_mv do_bino bo_add bo_sub bo_mul bo_subu bo_quo bo_rem bo_xor bo_eql bo_neq bo_lss bo_leq bo_gtr bo_geq bo_cat bo_eqs bo_nes do_pick do_call do_cal calK_f do_box do_alloc do_ldk ldK_s do_stok stoK_s do_fad do_nilc do_not do_neg do_len do_lens do_ext do_eqs do_beq do_isn do_cvi do_sls do_idx do_mn do_mx do_build do_mkf do_s2b do_b2s do_slv do_iad do_bsl do_mks do_app ev_t ev_c app_some app_none
attribute [local go_sem] List.nil_append List.cons_append List.append_nil getL_hit getL_miss getH_nil getH_hit getH_miss nm_eq ne_eq Nat.reduceEqDiff not_false_eq_true Nat.reduceAdd Nat.add_zero Nat.zero_add if_true if_false ite_true ite_false pureK_s effK_s optK_s gdV_t gdV_f gdV_s pick_b ge_iff_le gt_iff_lt cond_true cond_false fresh_k cells_agg cells_int cells_bool cells_str cells_own cells_sl cells_nils ld_pv ld_pa ld_ip ldVar_t ldVar_f ldArr_t ldArr_f ldRow_t ldRow_f ldA_s ld1_s fad_pv fad_pa fad_ip nilc_pv nilc_pa nilc_ip not_b neg_i cvi_i ext_t retF_n retF_r
attribute [local go_sem] resV_k rvs_nil rvs_t rvs_c fstO_s consO_s resK_s resL_1 resL_2 resL_3 resL_4  Option.some.injEq List.map_cons List.map_nil List.all_cons List.all_nil Bool.and_true Bool.and_self Bool.not_true Bool.not_false Option.map_some Option.map_none sls_s slsG_s loV_n loV_i hiV_n hiV_i idx_s mn_i mx_i s2b_s b2s_s bytO_s bytes_nil bytes_cons conB_s slv_sl slv_own slv_nils slvG_s slvN_s slvO_s iad_sl iadG_map take_map drop_map List.length_map iad_own iad_view iadO_a iadW_a mks_i rowO_nils rowO_sl rowO_own rowA_a eq_self appG_nils appG_own appO_a guardP_T mapA_s bld_nil mkf_nil bldF_e fill_nil fill_cons mkf_e lens_s len_nils len_sl len_own len_view isn_nile isn_erre List.getElem?_cons_zero List.getElem?_cons_succ List.length_cons List.length_nil decide_true decide_false Int.toNat_natCast Int.cast_ofNat_Int Int.reduceLT Int.reduceLE Int.reduceEq Int.reduceAdd Int.reduceSub Int.reduceMul Int.reduceNeg Int.reduceToNat List.getD_cons_zero List.getD_cons_succ not_true_eq_false not_false_eq_true Bool.false_eq_true Bool.true_eq_false reduceCtorEq
attribute [local go_sem] E.row Pc.row Pair.row Part.row Strm.row Flw.row Pk.row Door.row Conv.row World.row Ev.row rdV E.eta Pc.eta Pair.eta Part.eta Strm.eta Pk.eta Flw.eta Conv.eta Door.eta World.eta Ev.eta
attribute [local go_sem] sub_ok st_pv st_pa stVar_v stArr_a Nat.le_refl List.drop_zero List.drop_succ_cons List.take_succ_cons List.take_zero setR Nat.reduceLeDiff
attribute [local go_sem] wk_bot wk2_bot wk1_bot wk_undef wk_tup_e wk2_agg_e wk_agg_e wk1_fn_e wk2_fn_e wk_fn_e wkl_nil wkl_cons wkh_var_e wkh_arr_e wkh_fresh_e wkh_dead_v wkh_dead_a wkh_dead_d wk0_undef wk0_int wk0_bool wk0_str wk0_nils wk0_nils_sl wk0_nilp wk0_nile wk0_erre wk0_sl wk0_iptr wk0_own wk0_view wk0_pv wk0_pa fzA_a fzW_a fzP_v wk0_own_sl wk0_view_sl wk0_pv_iptr WkS_nil WkS_cons WkN_nil WkN_cons nonB_nil nonB_cons getN_nil getN_hit getN_miss pinOk_0 pinOk_s and_true true_and and_self
attribute [local go_sem] bot_int one_int unt_int clo_int bot_bool one_bool unt_bool clo_bool bot_str one_str unt_str clo_str bot_nils one_nils unt_nils clo_nils bot_nilp one_nilp unt_nilp clo_nilp bot_nile one_nile unt_nile clo_nile bot_erre one_erre unt_erre clo_erre bot_raw one_raw unt_raw clo_raw bot_sl one_sl unt_sl clo_sl bot_own one_own unt_own clo_own bot_view one_view unt_view clo_view bot_pv one_pv unt_pv clo_pv bot_pa one_pa unt_pa clo_pa bot_iptr one_iptr unt_iptr clo_iptr unt_agg unt_fn one_fn
attribute [local go_sem] rn_tup rn_agg rn2_agg rn_fn rn2_fn rnfn1 rn_bot rn2_bot rn1_bot rn0_int rn0_bool rn0_str rn0_nils rn0_nilp rn0_nile rn0_erre rn0_sl rn0_iptr rn0_own rn0_view rn0_pv rn0_pa hrn_var hrn_arr hrn_dead outU_nil outU_cons deads_nil deads_cons bk_ge bk_lt nsF_0 nsF_s chH_0 chH_s chH_n newN_e andB_s eqR_nil eqR_i eqR_b eqR_s mapX_f mapX_t eqs_a beq_f beq_t live_arr live_var nsl_nil nsl_cons Nat.reduceMul Nat.reduceLT Nat.zero_le Nat.not_lt_zero
attribute [local go_sem] mV lD lA fD bN eX oP nP sR i0 s0
def ic73:IC:=sR [oP 6 (.mv (.c (.bool false)))] (sR [mV 7 0,mV 8 1,bN 9 .geq 7 8,mV 10 9,⟨some 11,some (10,true),.mv (.t 0)⟩,⟨some 12,some (10,true),.mv (.t 2)⟩,⟨some 13,some (10,true),.bin .leq (.t 11) (.t 12)⟩,oP 14 (.pick (.t 10) (.t 13) (.c (.bool false))),mV 6 14] .ret)
theorem dg73:Dg Tryz.prog 73 Tryz.f73 ic73 [(.t 6)]:=⟨Tryz.func73,by kernel_rfl,by kernel_rfl⟩
theorem c73 (a b c:Int):FnR Tryz.prog G 73 [.int .i64 a,.int .i64 b,.int .i64 c] (.bool (within a b c)):=by
  refine mF dg73 Tryz.ntmps73 ?_
  unfold within
  cases h:decide (b≤a)<;>simp only [ic73,go_sem,h,Bool.false_and,Bool.true_and]
def ic68:IC:=sR [oP 6 (.mv (.c (.bool false)))] (sR [mV 7 0,mV 8 1,bN 9 .geq 7 8,mV 10 9,⟨some 11,some (10,true),.mv (.t 0)⟩,⟨some 12,some (10,true),.mv (.t 2)⟩,⟨some 13,some (10,true),.bin .leq (.t 11) (.t 12)⟩,oP 14 (.pick (.t 10) (.t 13) (.c (.bool false))),mV 6 14] .ret)
theorem dg68:Dg Tryz.prog 68 Tryz.f68 ic68 [(.t 6)]:=⟨Tryz.func68,by kernel_rfl,by kernel_rfl⟩
theorem c68 (a b c:Int):FnR Tryz.prog G 68 [.int .i64 a,.int .i64 b,.int .i64 c] (.bool (within a b c)):=by
  refine mF dg68 Tryz.ntmps68 ?_
  unfold within
  cases h:decide (b≤a)<;>simp only [ic68,go_sem,h,Bool.false_and,Bool.true_and]
def ic41:IC:=sR [oP 1 (.box 28 (.t 0)),oP 2 (.mv (.c (.bool false)))] (sR [fD 3 0 1,lD 4 1 3,oP 5 (.call 73 [.t 4,.c (.int .i64 1),.c (.int .i64 3)]),mV 6 5,⟨some 7,some (6,true),.fad 1 (.t 1)⟩,⟨some 8,some (6,true),.ld 1 false (.t 7)⟩,⟨some 9,some (6,true),.call 73 [.t 8,.c (.int .i64 1),.c (.int .i64 9)]⟩,oP 10 (.pick (.t 6) (.t 9) (.c (.bool false))),mV 2 10] .ret)
theorem dg41:Dg Tryz.prog 41 Tryz.f41 ic41 [(.t 2)]:=⟨Tryz.func41,by kernel_rfl,by kernel_rfl⟩
theorem c41 (a p:Int):FnR Tryz.prog G 41 [.agg [.int .i64 a,.int .i64 p]] (.bool (E.inside ⟨a,p⟩)):=by
  refine mF dg41 Tryz.ntmps41 ?_
  unfold E.inside
  simp only [ic41,go_sem]
  refine callR (c73 _ _ _) rfl rfl ?_
  cases h:within a 1 3<;>simp only [go_sem,Bool.false_and,Bool.true_and]
  refine callR (c73 _ _ _) rfl rfl ?_
  simp only [go_sem]
def ic70:IC:=sR [oP 1 (.box 28 (.t 0)),oP 2 (.mv (.c (.bool false)))] (sR [fD 3 1 1,lD 4 1 3,oP 5 (.call 68 [.t 4,.c (.int .i64 1),.c (.int .i64 9)]),mV 2 5] .ret)
theorem dg70:Dg Tryz.prog 70 Tryz.f70 ic70 [(.t 2)]:=⟨Tryz.func70,by kernel_rfl,by kernel_rfl⟩
theorem c70 (a p:Int):FnR Tryz.prog G 70 [.agg [.int .i64 a,.int .i64 p]] (.bool (within p 1 9)):=by
  refine mF dg70 Tryz.ntmps70 ?_
  simp only [ic70,go_sem]
  refine callR (c68 _ _ _) rfl rfl ?_
  simp only [go_sem]
def ic50:IC:=sR [oP 1 (.box 28 (.t 0)),oP 2 (.mv (.c (.bool false)))] (sR [fD 3 0 1,lD 4 1 3,oP 5 (.call 68 [.t 4,.c (.int .i64 1),.c (.int .i64 3)]),mV 6 5,⟨some 7,some (6,true),.ld 2 true (.t 1)⟩,⟨some 8,some (6,true),.call 70 [.t 7]⟩,oP 9 (.pick (.t 6) (.t 8) (.c (.bool false))),mV 2 9] .ret)
theorem dg50:Dg Tryz.prog 50 Tryz.f50 ic50 [(.t 2)]:=⟨Tryz.func50,by kernel_rfl,by kernel_rfl⟩
theorem c50 (a p:Int):FnR Tryz.prog G 50 [.agg [.int .i64 a,.int .i64 p]] (.bool (E.inside ⟨a,p⟩)):=by
  refine mF dg50 Tryz.ntmps50 ?_
  unfold E.inside
  simp only [ic50,go_sem]
  refine callR (c68 _ _ _) rfl rfl ?_
  cases h:within a 1 3<;>simp only [go_sem,Bool.false_and,Bool.true_and]
  refine callR (c70 _ _) rfl rfl ?_
  simp only [go_sem]
def ic43:IC:=sR [oP 1 (.box 28 (.t 0)),oP 2 (.mv (.c (.bool false)))] (sR [fD 3 0 1,lD 4 1 3,oP 5 (.call 73 [.t 4,.c (.int .i64 4),.c (.int .i64 6)]),mV 6 5,⟨some 7,some (6,true),.fad 1 (.t 1)⟩,⟨some 8,some (6,true),.ld 1 false (.t 7)⟩,⟨some 9,some (6,true),.call 73 [.t 8,.c (.int .i64 1),.c (.int .i64 9)]⟩,oP 10 (.pick (.t 6) (.t 9) (.c (.bool false))),mV 2 10] .ret)
theorem dg43:Dg Tryz.prog 43 Tryz.f43 ic43 [(.t 2)]:=⟨Tryz.func43,by kernel_rfl,by kernel_rfl⟩
theorem c43 (a p:Int):FnR Tryz.prog G 43 [.agg [.int .i64 a,.int .i64 p]] (.bool (E.outside ⟨a,p⟩)):=by
  refine mF dg43 Tryz.ntmps43 ?_
  simp only [ic43,go_sem]
  with_reducible repeat' (first|refine br ?_ ?_<;>intro h e<;>(try simp only [e,go_sem])<;>clear e|rw [i64w (by omega)]|refine sd ?_<;>try simp only [go_sem]|(first|refine cr (c73 ..) ?_)<;>try simp only [go_sem]|fail)
  all_goals simp_all [E.outside]
def ic26:IC:=sR [oP 1 (.box 28 (.t 0)),oP 2 (.mv (.c (.bool false)))] (sR [fD 3 0 1,lD 4 1 3,oP 5 (.call 68 [.t 4,.c (.int .i64 4),.c (.int .i64 6)]),mV 6 5,⟨some 7,some (6,true),.ld 2 true (.t 1)⟩,⟨some 8,some (6,true),.call 70 [.t 7]⟩,oP 9 (.pick (.t 6) (.t 8) (.c (.bool false))),mV 2 9] .ret)
theorem dg26:Dg Tryz.prog 26 Tryz.f26 ic26 [(.t 2)]:=⟨Tryz.func26,by kernel_rfl,by kernel_rfl⟩
theorem c26 (a p:Int):FnR Tryz.prog G 26 [.agg [.int .i64 a,.int .i64 p]] (.bool (E.outside ⟨a,p⟩)):=by
  refine mF dg26 Tryz.ntmps26 ?_
  simp only [ic26,go_sem]
  with_reducible repeat' (first|refine br ?_ ?_<;>intro h e<;>(try simp only [e,go_sem])<;>clear e|rw [i64w (by omega)]|refine sd ?_<;>try simp only [go_sem]|(first|refine cr (c68 ..) ?_|refine cr (c70 ..) ?_)<;>try simp only [go_sem]|fail)
  all_goals simp_all [E.outside]
def ic33:IC:=sR [oP 1 (.box 28 (.t 0)),oP 2 (.mv (.c (.bool false)))] (sR [fD 3 0 1,lD 4 1 3,oP 5 (.bin .eql (.t 4) (.c (.int .i64 9))),mV 6 5,⟨some 7,some (6,true),.fad 1 (.t 1)⟩,⟨some 8,some (6,true),.ld 1 false (.t 7)⟩,⟨some 9,some (6,true),.call 73 [.t 8,.c (.int .i64 10),.c (.int .i64 17)]⟩,oP 10 (.pick (.t 6) (.t 9) (.c (.bool false))),mV 2 10] .ret)
theorem dg33:Dg Tryz.prog 33 Tryz.f33 ic33 [(.t 2)]:=⟨Tryz.func33,by kernel_rfl,by kernel_rfl⟩
theorem c33 (a p:Int):FnR Tryz.prog G 33 [.agg [.int .i64 a,.int .i64 p]] (.bool (E.door ⟨a,p⟩)):=by
  refine mF dg33 Tryz.ntmps33 ?_
  simp only [ic33,go_sem]
  with_reducible repeat' (first|refine br ?_ ?_<;>intro h e<;>(try simp only [e,go_sem])<;>clear e|rw [i64w (by omega)]|refine sd ?_<;>try simp only [go_sem]|(first|refine cr (c73 ..) ?_)<;>try simp only [go_sem]|fail)
  all_goals simp_all [E.door]
def ic27:IC:=sR [oP 1 (.box 28 (.t 0)),oP 2 (.mv (.c (.bool false)))] (sR [fD 3 0 1,lD 4 1 3,oP 5 (.bin .eql (.t 4) (.c (.int .i64 9))),mV 6 5,⟨some 7,some (6,true),.fad 1 (.t 1)⟩,⟨some 8,some (6,true),.ld 1 false (.t 7)⟩,⟨some 9,some (6,true),.call 68 [.t 8,.c (.int .i64 10),.c (.int .i64 17)]⟩,oP 10 (.pick (.t 6) (.t 9) (.c (.bool false))),mV 2 10] .ret)
theorem dg27:Dg Tryz.prog 27 Tryz.f27 ic27 [(.t 2)]:=⟨Tryz.func27,by kernel_rfl,by kernel_rfl⟩
theorem c27 (a p:Int):FnR Tryz.prog G 27 [.agg [.int .i64 a,.int .i64 p]] (.bool (E.door ⟨a,p⟩)):=by
  refine mF dg27 Tryz.ntmps27 ?_
  simp only [ic27,go_sem]
  with_reducible repeat' (first|refine br ?_ ?_<;>intro h e<;>(try simp only [e,go_sem])<;>clear e|rw [i64w (by omega)]|refine sd ?_<;>try simp only [go_sem]|(first|refine cr (c68 ..) ?_)<;>try simp only [go_sem]|fail)
  all_goals simp_all [E.door]
def ic72:IC:=sR [oP 1 (.box 28 (.t 0)),oP 2 (.mv (.c (.bool false)))] (sR [lA 3 2 1,oP 4 (.call 41 [.t 3]),mV 5 4,⟨some 6,some (5,false),.ld 2 true (.t 1)⟩,⟨some 7,some (5,false),.call 43 [.t 6]⟩,oP 8 (.pick (.t 5) (.c (.bool true)) (.t 7)),mV 9 8,⟨some 10,some (9,false),.ld 2 true (.t 1)⟩,⟨some 11,some (9,false),.call 33 [.t 10]⟩,oP 12 (.pick (.t 9) (.c (.bool true)) (.t 11)),mV 2 12] .ret)
theorem dg72:Dg Tryz.prog 72 Tryz.f72 ic72 [(.t 2)]:=⟨Tryz.func72,by kernel_rfl,by kernel_rfl⟩
theorem c72 (a p:Int):FnR Tryz.prog G 72 [.agg [.int .i64 a,.int .i64 p]] (.bool (E.any ⟨a,p⟩)):=by
  refine mF dg72 Tryz.ntmps72 ?_
  simp only [ic72,go_sem]
  with_reducible repeat' (first|refine br ?_ ?_<;>intro h e<;>(try simp only [e,go_sem])<;>clear e|rw [i64w (by omega)]|refine sd ?_<;>try simp only [go_sem]|(first|refine cr (c41 ..) ?_|refine cr (c43 ..) ?_|refine cr (c33 ..) ?_)<;>try simp only [go_sem]|fail)
  all_goals simp_all [E.any]
def ic67:IC:=sR [oP 1 (.box 28 (.t 0)),oP 2 (.mv (.c (.bool false)))] (sR [lA 3 2 1,oP 4 (.call 50 [.t 3]),mV 5 4,⟨some 6,some (5,false),.ld 2 true (.t 1)⟩,⟨some 7,some (5,false),.call 26 [.t 6]⟩,oP 8 (.pick (.t 5) (.c (.bool true)) (.t 7)),mV 9 8,⟨some 10,some (9,false),.ld 2 true (.t 1)⟩,⟨some 11,some (9,false),.call 27 [.t 10]⟩,oP 12 (.pick (.t 9) (.c (.bool true)) (.t 11)),mV 2 12] .ret)
theorem dg67:Dg Tryz.prog 67 Tryz.f67 ic67 [(.t 2)]:=⟨Tryz.func67,by kernel_rfl,by kernel_rfl⟩
theorem c67 (a p:Int):FnR Tryz.prog G 67 [.agg [.int .i64 a,.int .i64 p]] (.bool (E.any ⟨a,p⟩)):=by
  refine mF dg67 Tryz.ntmps67 ?_
  simp only [ic67,go_sem]
  with_reducible repeat' (first|refine br ?_ ?_<;>intro h e<;>(try simp only [e,go_sem])<;>clear e|rw [i64w (by omega)]|refine sd ?_<;>try simp only [go_sem]|(first|refine cr (c50 ..) ?_|refine cr (c26 ..) ?_|refine cr (c27 ..) ?_)<;>try simp only [go_sem]|fail)
  all_goals simp_all [E.any]
def dig (b:UInt8):Int:=if figB b 48 then (b.toNat:Int) - 48 else -1
def ic167:IC:=sR [oP 2 (.mv (.c i0))] (.seq (sR [mV 3 0,oP 4 (.bin .lss (.t 3) (.c (.int .u8 48))),mV 5 4,⟨some 6,some (5,false),.mv (.t 0)⟩,⟨some 7,some (5,false),.bin .gtr (.t 6) (.c (.int .u8 57))⟩,oP 8 (.pick (.t 5) (.c (.bool true)) (.t 7))] (.cond (.t 8) (sR [oP 2 (.mv (.c (.int .i64 (-1))))] .ret) .skip)) (sR [mV 9 0,oP 10 (.bin .sub (.t 9) (.c (.int .u8 48))),oP 11 (.cvi .i64 (.t 10)),mV 2 11] .ret))
theorem dg167:Dg Tryz.prog 167 Tryz.f167 ic167 [(.t 2)]:=⟨Tryz.func167,by kernel_rfl,by kernel_rfl⟩
theorem c167 (b:UInt8):FnR Tryz.prog G 167 [.int .u8 (b.toNat:Int)] (.int .i64 (dig b)):=by
  refine mF dg167 Tryz.ntmps167 ?_
  have hb:b.toNat<256:=b.toNat_lt
  have e:figB b 48=(decide (48≤(b.toNat:Int)) && decide ((b.toNat:Int)≤57)):=by
    simp only [figB,UInt8.le_iff_toNat_le]
    have:(48:UInt8).toNat=48:=rfl
    have:(57:UInt8).toNat=57:=rfl
    congr 1<;>(apply decide_eq_decide.2;omega)
  simp only [ic167,go_sem,dig,e]
  with_reducible repeat' (first|refine br ?_ ?_<;>intro h e<;>(try simp only [e,go_sem])<;>clear e|rw [i64w (by omega)]|refine sd ?_<;>try simp only [go_sem]|fail)
  all_goals first
    | (rw [if_neg (by simp;omega)])
    | (rw [if_pos (by simp;omega),u8w (by omega),i64w (by omega)])
def ic152:IC:=sR [oP 2 (.mv (.c s0))] (.seq (sR [mV 3 0,oP 4 (.bin .lss (.t 3) (.c (.int .i64 (-9223372036854775807))))] (.cond (.t 4) (sR [oP 2 (.mv (.c (.str [45,57,50,50,51,51,55,50,48,51,54,56,53,52,55,55,53,56,48,56])))] .ret) .skip)) (.seq (sR [mV 5 0,oP 6 (.bin .lss (.t 5) (.c i0))] (.cond (.t 6) (sR [mV 7 0,oP 8 (.un .neg (.t 7)),oP 9 (.call 152 [.t 8]),oP 10 (.bin .add (.c (.str [45])) (.t 9)),mV 2 10] .ret) .skip)) (.seq (sR [mV 11 0,oP 12 (.bin .lss (.t 11) (.c (.int .i64 10)))] (.cond (.t 12) (sR [mV 13 0,oP 14 (.bin .add (.c (.int .i64 48)) (.t 13)),oP 15 (.cvi .u8 (.t 14)),oP 16 (.bsl 5 1 [.t 15]),oP 17 (.b2s (.t 16)),mV 2 17] .ret) .skip)) (.seq (.drw [0,1,3,0,8,24,56,120,248,511,1023] [(0,mV 18 0),(1,oP 19 (.bin .quo (.t 18) (.c (.int .i64 10)))),(2,oP 20 (.call 152 [.t 19])),(3,mV 21 0),(4,oP 22 (.bin .rem (.t 21) (.c (.int .i64 10)))),(5,oP 23 (.bin .add (.c (.int .i64 48)) (.t 22))),(6,oP 24 (.cvi .u8 (.t 23))),(7,oP 25 (.bsl 5 1 [.t 24])),(8,oP 26 (.b2s (.t 25))),(9,bN 27 .add 20 26),(10,mV 2 27)]) .ret))))
theorem dg152:Dg Tryz.prog 152 Tryz.f152 ic152 [(.t 2)]:=⟨Tryz.func152,by kernel_rfl,by kernel_rfl⟩
theorem c0152 (n:Int) (h:0≤n∧n<10):FnR Tryz.prog G 152 [.int .i64 n] (.str (dec n)):=by
  refine mF dg152 Tryz.ntmps152 ?_
  simp only [ic152,go_sem]
  with_reducible repeat' (first|refine br ?_ ?_<;>intro h e<;>(try simp only [e,go_sem])<;>clear e|rw [i64w (by omega)]|refine sd ?_<;>try simp only [go_sem]|fail)
  all_goals first|omega|skip
  rw [u8w (by omega)]
  simp only [dec,decN]
  rw [if_pos (by omega)]
  congr 2
  omega
theorem c152 (n:Int) (h:0≤n∧n<100):FnR Tryz.prog G 152 [.int .i64 n] (.str (dec n)):=by
  by_cases h10:n<10
  · exact c0152 n ⟨h.1,h10⟩
  refine mF dg152 Tryz.ntmps152 ?_
  have e1:n.tdiv 10=n / 10:=Int.tdiv_eq_ediv_of_nonneg h.1
  have e2:n.tmod 10=n % 10:=Int.tmod_eq_emod_of_nonneg h.1
  have hl:(dec (n / 10)).length≤2:=by unfold dec decN;split<;>simp
  simp only [ic152,go_sem,e1,e2]
  with_reducible repeat' (first|refine br ?_ ?_<;>intro h e<;>(try simp only [e,go_sem])<;>clear e|rw [i64w (by omega)]|refine sd ?_<;>try simp only [go_sem]|fail)
  all_goals first|omega|skip
  refine callR (c0152 _ (by omega)) rfl rfl ?_
  simp only [go_sem,e1,e2]
  with_reducible repeat' (first|refine br ?_ ?_<;>intro h e<;>(try simp only [e,go_sem])<;>clear e|rw [i64w (by omega)]|refine sd ?_<;>try simp only [go_sem]|fail)
  simp only [dec,decN]
  rw [if_neg (by omega),if_pos (by omega),u8w (by omega)]
  have e3:n.toNat / 10=(n / 10).toNat:=by omega
  have e4:48+n.toNat % 10=(48+n % 10).toNat:=by omega
  simp only [List.cons_append,List.nil_append,e3,e4]
theorem dec_len (n:Int):(dec n).length≤2:=by unfold dec decN;split<;>simp
def ic111:IC:=sR [oP 4 (.mv (.c (.bool false)))] (sR [mV 5 0,mV 6 1,bN 7 .geq 5 6,mV 8 7,⟨some 9,some (8,true),.mv (.t 0)⟩,⟨some 10,some (8,true),.bin .leq (.t 9) (.c (.int .u8 57))⟩,oP 11 (.pick (.t 8) (.t 10) (.c (.bool false))),mV 4 11] .ret)
theorem dg111:Dg Tryz.prog 111 Tryz.f111 ic111 [(.t 4)]:=⟨Tryz.func111,by kernel_rfl,by kernel_rfl⟩
theorem c111 (b lo:UInt8):FnR Tryz.prog G 111 [.int .u8 (b.toNat:Int),.int .u8 (lo.toNat:Int)] (.bool (figB b lo)):=by
  refine mF dg111 Tryz.ntmps111 ?_
  have e:figB b lo=(decide ((lo.toNat:Int)≤(b.toNat:Int)) && decide ((b.toNat:Int)≤57)):=by
    simp only [figB,UInt8.le_iff_toNat_le]
    have:(57:UInt8).toNat=57:=rfl
    congr 1<;>(apply decide_eq_decide.2;omega)
  simp only [ic111,go_sem,e]
  with_reducible repeat' (first|refine br ?_ ?_<;>intro h e<;>(try simp only [e,go_sem])<;>clear e|rw [i64w (by omega)]|refine sd ?_<;>try simp only [go_sem]|fail)
  all_goals simp_all
theorem u8cmp (b:UInt8):(decide ((97:Int)≤(b.toNat:Int))=decide (97≤b))∧(decide ((b.toNat:Int)≤122)=decide (b≤122))∧(decide ((48:Int)≤(b.toNat:Int))=decide (48≤b))∧(decide ((b.toNat:Int)≤57)=decide (b≤57)) ∧
    (decide ((b.toNat:Int)=64)=decide (b=64))∧(decide ((b.toNat:Int)=58)=decide (b=58))∧(decide ((b.toNat:Int)=59)=decide (b=59))∧(decide ((b.toNat:Int)<97)=decide (b<97))∧(decide (122<(b.toNat:Int))=decide (122<b)):=by
  refine ⟨?_, ?_, ?_, ?_, ?_, ?_, ?_, ?_, ?_⟩<;>apply decide_eq_decide.2<;>simp only [UInt8.le_iff_toNat_le,UInt8.lt_iff_toNat_lt,← UInt8.toNat_inj] <;>
    (have e1:(97:UInt8).toNat=97:=rfl;have e2:(122:UInt8).toNat=122:=rfl;have e3:(48:UInt8).toNat=48:=rfl;have e4:(57:UInt8).toNat=57:=rfl
     have e5:(64:UInt8).toNat=64:=rfl;have e6:(58:UInt8).toNat=58:=rfl;have e7:(59:UInt8).toNat=59:=rfl
     omega)
def ic110:IC:=sR [oP 2 (.mv (.c (.bool false)))] (sR [mV 3 0,oP 4 (.bin .geq (.t 3) (.c (.int .u8 97))),mV 5 4,⟨some 6,some (5,true),.mv (.t 0)⟩,⟨some 7,some (5,true),.bin .leq (.t 6) (.c (.int .u8 122))⟩,oP 8 (.pick (.t 5) (.t 7) (.c (.bool false))),mV 9 8,⟨some 10,some (9,false),.mv (.t 0)⟩,⟨some 11,some (9,false),.bin .geq (.t 10) (.c (.int .u8 48))⟩,⟨some 12,some (9,false),.mv (.t 11)⟩,⟨some 13,some (12,true),.mv (.t 0)⟩,⟨some 14,some (12,true),.bin .leq (.t 13) (.c (.int .u8 57))⟩,⟨some 15,some (9,false),.pick (.t 12) (.t 14) (.c (.bool false))⟩,oP 16 (.pick (.t 9) (.c (.bool true)) (.t 15)),mV 17 16,⟨some 18,some (17,false),.mv (.t 0)⟩,⟨some 19,some (17,false),.bin .eql (.t 18) (.c (.int .u8 64))⟩,oP 20 (.pick (.t 17) (.c (.bool true)) (.t 19)),mV 21 20,⟨some 22,some (21,false),.mv (.t 0)⟩,⟨some 23,some (21,false),.bin .eql (.t 22) (.c (.int .u8 58))⟩,oP 24 (.pick (.t 21) (.c (.bool true)) (.t 23)),mV 25 24,⟨some 26,some (25,false),.mv (.t 0)⟩,⟨some 27,some (25,false),.bin .eql (.t 26) (.c (.int .u8 59))⟩,oP 28 (.pick (.t 25) (.c (.bool true)) (.t 27)),mV 2 28] .ret)
theorem dg110:Dg Tryz.prog 110 Tryz.f110 ic110 [(.t 2)]:=⟨Tryz.func110,by kernel_rfl,by kernel_rfl⟩
theorem c110 (b:UInt8):FnR Tryz.prog G 110 [.int .u8 (b.toNat:Int)] (.bool (okB b)):=by
  refine mF dg110 Tryz.ntmps110 ?_
  obtain ⟨e1,e2,e3,e4,e5,e6,e7,e8,e9⟩:=u8cmp b
  simp only [ic110,go_sem,e1,e2,e3,e4,e5,e6,e7]
  repeat' (first
    | (with_reducible refine gBn (fun h=>?_) (fun h=>?_)<;>(try simp only [h,go_sem,e1,e2,e3,e4,e5,e6,e7]))
    | (with_reducible refine gB (fun h=>?_) (fun h=>?_)<;>(try simp only [h,go_sem,e1,e2,e3,e4,e5,e6,e7])))
  all_goals (clear e1 e2 e3 e4 e5 e6 e7 e8 e9;simp only [okB,figB, *,Bool.and_true,Bool.true_and,Bool.false_and,Bool.or_true,Bool.true_or,Bool.false_or,Bool.or_false,Bool.and_self])
theorem all_take_succ {t:B} {i:Nat} (h:i<t.length) {p:UInt8→Bool} (hi:(t.take i).all p=true) (hp:p (t.getD i 0)=true):(t.take (i+1)).all p=true:=by
  rw [List.take_add_one,List.all_append,hi]
  simp only [List.getD,List.getElem?_eq_getElem h,Option.getD_some] at hp
  simp [List.getElem?_eq_getElem h,hp]
theorem txOk_false {t:B} {i:Nat} (h:i<t.length) (hp:okB (t.getD i 0)=false):txOk t=false:=by
  have:t.all okB=false:=by
    rw [List.all_eq_false]
    exact ⟨t[i],List.getElem_mem h,by simpa [List.getD,List.getElem?_eq_getElem h] using hp⟩
  simp [txOk,this]
def ic69:IC:=sR [oP 2 (.mv (.c (.bool false)))] (.seq (sR [oP 3 (.mv (.c i0))] (.block 0 (.loop (.seq (sR [mV 4 3,mV 5 0,oP 6 (.lens (.t 5)),bN 7 .lss 4 6] (.cond (.t 7) .skip (.exit 0))) (.seq (.block 1 (sR [mV 10 0,mV 11 3,oP 12 (.idx (.t 10) (.t 11)),oP 13 (.call 110 [.t 12]),oP 14 (.un .not (.t 13))] (.cond (.t 14) (sR [oP 2 (.mv (.c (.bool false)))] .ret) .skip))) (.reg [mV 8 3,oP 9 (.bin .add (.t 8) (.c (.int .i64 1))),mV 3 9])))))) (sR [mV 15 0,oP 16 (.lens (.t 15)),oP 17 (.bin .leq (.t 16) (.c (.int .i64 40))),mV 2 17] .ret))
theorem dg69:Dg Tryz.prog 69 Tryz.f69 ic69 [(.t 2)]:=⟨Tryz.func69,by kernel_rfl,by kernel_rfl⟩
theorem c69 (t:B) (hl:t.length≤2000000:=by omega):FnR Tryz.prog G 69 [.str t] (.bool (txOk t)):=by
  refine mF dg69 Tryz.ntmps69 ?_
  simp only [ic69,go_sem]
  refine loopN (fun i:Nat=>⟨getL [(0,.str t),(3,.int .i64 (i:Int))],getH []⟩) (fun i=>t.length - i) (fun i=>i≤t.length∧(t.take i).all okB=true) 0 (leQ []) ⟨Nat.zero_le _,by simp⟩ ?_
  intro i ⟨hi,ha⟩
  simp only [go_sem]
  with_reducible repeat' (first|refine br ?_ ?_<;>intro h e<;>(try simp only [e,go_sem])<;>clear e|rw [i64w (by omega)]|refine sd ?_<;>try simp only [go_sem]|(first|refine cr (c110 ..) ?_)<;>try simp only [go_sem]|fail)
  · exact ⟨i+1,by omega,⟨by omega,all_take_succ (by omega) ha h⟩,(leQ [])⟩
  · exact txOk_false (by omega) h
  · have:i=t.length:=by omega
    subst this
    simp only [List.take_length] at ha
    simp only [txOk,ha,Bool.true_and]
    apply decide_eq_decide.2;omega
end Go.Proofs.YtfepdcpidkjklaaGreatDoor.W
namespace Go.Proofs
open Go.Shelf
def Tryz.lays169_ren:Go.Shelf.Ren:=⟨fun|169=>113|n=>n,fun|70=>128|9=>9|0=>0|72=>130|37=>22|127=>156|3=>3|5=>5|n=>n,fun|n=>n⟩
theorem Tryz.lays169:Go.Proofs.Lays.n169 Tryz.prog Tryz.lays169_ren:={
  mixed:=by kernel_rfl
  f169:=Tryz.func113.trans (congrArg some (by kernel_rfl))
  t0:=Tryz.underlying0
  a0:=Tryz.isAgg0
  z0:=Tryz.sizeOf0
  v0:=Tryz.zeroValue0
  t3:=Tryz.underlying3
  a3:=Tryz.isAgg3
  z3:=Tryz.sizeOf3
  v3:=Tryz.zeroValue3
  t9:=Tryz.underlying9
  a9:=Tryz.isAgg9
  z9:=Tryz.sizeOf9
  v9:=Tryz.zeroValue9
  t37:=Tryz.underlying22
  a37:=Tryz.isAgg22
  z37:=Tryz.sizeOf22
  v37:=Tryz.zeroValue22
  t70:=Tryz.underlying128
  a70:=Tryz.isAgg128
  z70:=Tryz.sizeOf128
  v70:=Tryz.zeroValue128
  t72:=Tryz.underlying130
  a72:=Tryz.isAgg130
  z72:=Tryz.sizeOf130
  v72:=Tryz.zeroValue130
  t127:=Tryz.underlying156
  a127:=Tryz.isAgg156
  z127:=Tryz.sizeOf156
  v127:=Tryz.zeroValue156 }
theorem Tryz.Builder_Extra_169:Builder.Extra Tryz.prog Tryz.lays169_ren:={
  sizeBuilder:=by kernel_rfl
  liesBuilder:=by kernel_rfl
  t5:=Tryz.underlying5
  a5:=Tryz.isAgg5
  z5:=Tryz.sizeOf5
  v5:=Tryz.zeroValue5
  infoByte:=by kernel_rfl
  cellsByte:=by kernel_rfl
  sizeByte:=by kernel_rfl
  neB5:=by decide }
open Go.RowKit in
theorem Tryz.Builder_String_any (B b:Nat) (l:List UInt8) (w:World) (h:Lib.IsBuilder 130 5 B b (Lib.byteCells l) w) (hBw:B≤w.heap.size) :
    Calls Tryz.prog 113 #[.pointer (some ⟨b,0,none⟩)] w fun e w'=>e=.returned (.string ⟨l.toArray⟩)∧Below B w w':=Any.Builder_String_any Tryz.lays169 Tryz.Builder_Extra_169 B b l w h hBw
def Tryz.lays103_ren:Go.Shelf.Ren:=⟨fun|103=>148|210=>161|206=>169|n=>n,fun|9=>9|4=>4|24=>168|3=>3|n=>n,fun|n=>n⟩
theorem Tryz.lays103:Go.Proofs.Lays.n103 Tryz.prog Tryz.lays103_ren:={
  mixed:=by kernel_rfl
  f103:=Tryz.func148.trans (congrArg some (by kernel_rfl))
  f206:=Tryz.func169.trans (congrArg some (by kernel_rfl))
  f210:=Tryz.func161.trans (congrArg some (by kernel_rfl))
  t3:=Tryz.underlying3
  a3:=Tryz.isAgg3
  z3:=Tryz.sizeOf3
  v3:=Tryz.zeroValue3
  t4:=Tryz.underlying4
  a4:=Tryz.isAgg4
  z4:=Tryz.sizeOf4
  v4:=Tryz.zeroValue4
  t9:=Tryz.underlying9
  a9:=Tryz.isAgg9
  z9:=Tryz.sizeOf9
  v9:=Tryz.zeroValue9
  t24:=Tryz.underlying168
  a24:=Tryz.isAgg168
  z24:=Tryz.sizeOf168
  v24:=Tryz.zeroValue168 }
open Go.RowKit in
theorem Tryz.strings_CutPrefix (s p:ByteArray) (w:World) :
    Calls Tryz.prog 148 #[.string s,.string p] w fun e w'=>e=.returned (.tuple #[.string ⟨(Lib.trimPrefix s.data.toList p.data.toList).toArray⟩,.bool (Lib.hasPrefix s.data.toList p.data.toList)])∧w'=w:=Any.strings_CutPrefix Tryz.lays103 s p w
def Tryz.lays171_ren:Go.Shelf.Ren:=⟨fun|171=>172|243=>177|246=>188|283=>193|284=>194|285=>195|286=>196|129=>200|317=>199|318=>201|319=>202|320=>203|337=>204|338=>205|n=>n,fun|3=>3|9=>9|2=>2|4=>4|171=>207|0=>0|53=>201|37=>22|5=>5|173=>210|212=>217|51=>198|20=>20|213=>218|46=>190|232=>222|233=>223|n=>n,fun|17=>3|18=>4|19=>5|n=>n⟩
theorem Tryz.lays171:Go.Proofs.Lays.n171 Tryz.prog Tryz.lays171_ren:={
  mixed:=by kernel_rfl
  f129:=Tryz.func200.trans (congrArg some (by kernel_rfl))
  f171:=Tryz.func172.trans (congrArg some (by kernel_rfl))
  f243:=Tryz.func177.trans (congrArg some (by kernel_rfl))
  f246:=Tryz.func188.trans (congrArg some (by kernel_rfl))
  f283:=Tryz.func193.trans (congrArg some (by kernel_rfl))
  f284:=Tryz.func194.trans (congrArg some (by kernel_rfl))
  f285:=Tryz.func195.trans (congrArg some (by kernel_rfl))
  f286:=Tryz.func196.trans (congrArg some (by kernel_rfl))
  f317:=Tryz.func199.trans (congrArg some (by kernel_rfl))
  f318:=Tryz.func201.trans (congrArg some (by kernel_rfl))
  f319:=Tryz.func202.trans (congrArg some (by kernel_rfl))
  f320:=Tryz.func203.trans (congrArg some (by kernel_rfl))
  f337:=Tryz.func204.trans (congrArg some (by kernel_rfl))
  f338:=Tryz.func205.trans (congrArg some (by kernel_rfl))
  t0:=Tryz.underlying0
  a0:=Tryz.isAgg0
  z0:=Tryz.sizeOf0
  v0:=Tryz.zeroValue0
  t2:=Tryz.underlying2
  a2:=Tryz.isAgg2
  z2:=Tryz.sizeOf2
  v2:=Tryz.zeroValue2
  t3:=Tryz.underlying3
  a3:=Tryz.isAgg3
  z3:=Tryz.sizeOf3
  v3:=Tryz.zeroValue3
  t4:=Tryz.underlying4
  a4:=Tryz.isAgg4
  z4:=Tryz.sizeOf4
  v4:=Tryz.zeroValue4
  t5:=Tryz.underlying5
  a5:=Tryz.isAgg5
  z5:=Tryz.sizeOf5
  v5:=Tryz.zeroValue5
  t9:=Tryz.underlying9
  a9:=Tryz.isAgg9
  z9:=Tryz.sizeOf9
  v9:=Tryz.zeroValue9
  t20:=Tryz.underlying20
  a20:=Tryz.isAgg20
  z20:=Tryz.sizeOf20
  v20:=Tryz.zeroValue20
  t37:=Tryz.underlying22
  a37:=Tryz.isAgg22
  z37:=Tryz.sizeOf22
  v37:=Tryz.zeroValue22
  t46:=Tryz.underlying190
  a46:=Tryz.isAgg190
  z46:=Tryz.sizeOf190
  v46:=Tryz.zeroValue190
  t51:=Tryz.underlying198
  a51:=Tryz.isAgg198
  z51:=Tryz.sizeOf198
  v51:=Tryz.zeroValue198
  t53:=Tryz.underlying201
  a53:=Tryz.isAgg201
  z53:=Tryz.sizeOf201
  v53:=Tryz.zeroValue201
  t171:=Tryz.underlying207
  a171:=Tryz.isAgg207
  z171:=Tryz.sizeOf207
  v171:=Tryz.zeroValue207
  t173:=Tryz.underlying210
  a173:=Tryz.isAgg210
  z173:=Tryz.sizeOf210
  v173:=Tryz.zeroValue210
  t212:=Tryz.underlying217
  a212:=Tryz.isAgg217
  z212:=Tryz.sizeOf217
  v212:=Tryz.zeroValue217
  t213:=Tryz.underlying218
  a213:=Tryz.isAgg218
  z213:=Tryz.sizeOf218
  t232:=Tryz.underlying222
  a232:=Tryz.isAgg222
  z232:=Tryz.sizeOf222
  v232:=Tryz.zeroValue222
  t233:=Tryz.underlying223
  a233:=Tryz.isAgg223
  z233:=Tryz.sizeOf223
  v233:=Tryz.zeroValue223
  g17:=by kernel_rfl
  g18:=by kernel_rfl
  g19:=by kernel_rfl }
open Go.RowKit Go.Sort Go.Lib in
theorem Tryz.strconv_Itoa_small (i:Nat) (hi:i<100) (w:World) :
    Calls Tryz.prog 172 #[.int .i64 i] w fun e w'=>e=.returned (.string ⟨(Lib.decDigits i).toArray⟩)∧w'=w:=Any.strconv_Itoa_small Tryz.lays171 i hi w
def Tryz.laysM316_ren:Go.Shelf.Ren:=⟨fun|316=>168|n=>n,fun|9=>9|3=>3|4=>4|37=>22|0=>0|127=>156|5=>5|n=>n,fun|n=>n⟩
theorem Tryz.laysM316:Go.Proofs.LaysM.n316 Tryz.prog Tryz.laysM316_ren:={
  mixed:=by kernel_rfl
  f316:=Tryz.func168.trans (congrArg some (by kernel_rfl))
  t0:=Tryz.underlying0
  a0:=Tryz.isAgg0
  z0:=Tryz.sizeOf0
  v0:=Tryz.zeroValue0
  t3:=Tryz.underlying3
  a3:=Tryz.isAgg3
  z3:=Tryz.sizeOf3
  v3:=Tryz.zeroValue3
  t4:=Tryz.underlying4
  a4:=Tryz.isAgg4
  z4:=Tryz.sizeOf4
  v4:=Tryz.zeroValue4
  t9:=Tryz.underlying9
  a9:=Tryz.isAgg9
  z9:=Tryz.sizeOf9
  v9:=Tryz.zeroValue9
  t37:=Tryz.underlying22
  a37:=Tryz.isAgg22
  z37:=Tryz.sizeOf22
  v37:=Tryz.zeroValue22
  t127:=Tryz.underlying156
  a127:=Tryz.isAgg156
  z127:=Tryz.sizeOf156
  v127:=Tryz.zeroValue156
  t5:=Tryz.underlying5
  a5:=Tryz.isAgg5
  z5:=Tryz.sizeOf5
  v5:=Tryz.zeroValue5
  i0:=by kernel_rfl
  i3:=by kernel_rfl
  i4:=by kernel_rfl
  i5:=by kernel_rfl
  i9:=by kernel_rfl
  i37:=by kernel_rfl
  i127:=by kernel_rfl }
open Go.RowKit in
theorem Tryz.stringslite_Clone (s:ByteArray) (w:World) (hlim:s.size≤281474976710656) :
    Calls Tryz.prog 168 #[.string s] w fun e w'=>e=.returned (.string s)∧Below w.heap.size w w':=Any.stringslite_Clone Tryz.laysM316 s w hlim
def Tryz.laysC172_ren:Go.Shelf.Ren:=⟨fun|172=>171|244=>175|245=>176|247=>183|279=>184|280=>185|281=>186|282=>187|287=>191|316=>168|171=>172|205=>192|321=>197|322=>198|243=>177|246=>188|283=>193|284=>194|285=>195|286=>196|129=>200|317=>199|318=>201|319=>202|320=>203|337=>204|338=>205|n=>n,fun|9=>9|3=>3|75=>132|76=>133|4=>4|5=>5|167=>191|37=>22|0=>0|85=>192|2=>2|168=>194|53=>201|175=>202|46=>190|210=>205|127=>156|145=>215|143=>213|21=>21|171=>207|173=>210|212=>217|51=>198|20=>20|213=>218|232=>222|233=>223|80=>87|n=>n,fun|15=>1|16=>2|17=>3|18=>4|19=>5|n=>n⟩
theorem Tryz.laysC172:Go.Proofs.LaysC.n172 Tryz.prog Tryz.laysC172_ren:={
  mixed:=by kernel_rfl
  f129:=Tryz.func200.trans (congrArg some (by kernel_rfl))
  f171:=Tryz.func172.trans (congrArg some (by kernel_rfl))
  f172:=Tryz.func171.trans (congrArg some (by kernel_rfl))
  f205:=Tryz.func192.trans (congrArg some (by kernel_rfl))
  f243:=Tryz.func177.trans (congrArg some (by kernel_rfl))
  f244:=Tryz.func175.trans (congrArg some (by kernel_rfl))
  f245:=Tryz.func176.trans (congrArg some (by kernel_rfl))
  f246:=Tryz.func188.trans (congrArg some (by kernel_rfl))
  f247:=Tryz.func183.trans (congrArg some (by kernel_rfl))
  f279:=Tryz.func184.trans (congrArg some (by kernel_rfl))
  f280:=Tryz.func185.trans (congrArg some (by kernel_rfl))
  f281:=Tryz.func186.trans (congrArg some (by kernel_rfl))
  f282:=Tryz.func187.trans (congrArg some (by kernel_rfl))
  f283:=Tryz.func193.trans (congrArg some (by kernel_rfl))
  f284:=Tryz.func194.trans (congrArg some (by kernel_rfl))
  f285:=Tryz.func195.trans (congrArg some (by kernel_rfl))
  f286:=Tryz.func196.trans (congrArg some (by kernel_rfl))
  f287:=Tryz.func191.trans (congrArg some (by kernel_rfl))
  f316:=Tryz.func168.trans (congrArg some (by kernel_rfl))
  f317:=Tryz.func199.trans (congrArg some (by kernel_rfl))
  f318:=Tryz.func201.trans (congrArg some (by kernel_rfl))
  f319:=Tryz.func202.trans (congrArg some (by kernel_rfl))
  f320:=Tryz.func203.trans (congrArg some (by kernel_rfl))
  f321:=Tryz.func197.trans (congrArg some (by kernel_rfl))
  f322:=Tryz.func198.trans (congrArg some (by kernel_rfl))
  f337:=Tryz.func204.trans (congrArg some (by kernel_rfl))
  f338:=Tryz.func205.trans (congrArg some (by kernel_rfl))
  t0:=Tryz.underlying0
  a0:=Tryz.isAgg0
  z0:=Tryz.sizeOf0
  v0:=Tryz.zeroValue0
  t2:=Tryz.underlying2
  a2:=Tryz.isAgg2
  z2:=Tryz.sizeOf2
  v2:=Tryz.zeroValue2
  t3:=Tryz.underlying3
  a3:=Tryz.isAgg3
  z3:=Tryz.sizeOf3
  v3:=Tryz.zeroValue3
  t4:=Tryz.underlying4
  a4:=Tryz.isAgg4
  z4:=Tryz.sizeOf4
  v4:=Tryz.zeroValue4
  t5:=Tryz.underlying5
  a5:=Tryz.isAgg5
  z5:=Tryz.sizeOf5
  v5:=Tryz.zeroValue5
  t9:=Tryz.underlying9
  a9:=Tryz.isAgg9
  z9:=Tryz.sizeOf9
  v9:=Tryz.zeroValue9
  t20:=Tryz.underlying20
  a20:=Tryz.isAgg20
  z20:=Tryz.sizeOf20
  v20:=Tryz.zeroValue20
  t21:=Tryz.underlying21
  a21:=Tryz.isAgg21
  z21:=Tryz.sizeOf21
  v21:=Tryz.zeroValue21
  t37:=Tryz.underlying22
  a37:=Tryz.isAgg22
  z37:=Tryz.sizeOf22
  v37:=Tryz.zeroValue22
  t46:=Tryz.underlying190
  a46:=Tryz.isAgg190
  z46:=Tryz.sizeOf190
  v46:=Tryz.zeroValue190
  t51:=Tryz.underlying198
  a51:=Tryz.isAgg198
  z51:=Tryz.sizeOf198
  v51:=Tryz.zeroValue198
  t53:=Tryz.underlying201
  a53:=Tryz.isAgg201
  z53:=Tryz.sizeOf201
  v53:=Tryz.zeroValue201
  t75:=Tryz.underlying132
  a75:=Tryz.isAgg132
  z75:=Tryz.sizeOf132
  v75:=Tryz.zeroValue132
  t76:=Tryz.underlying133
  a76:=Tryz.isAgg133
  z76:=Tryz.sizeOf133
  v76:=Tryz.zeroValue133
  t85:=Tryz.underlying192
  a85:=Tryz.isAgg192
  z85:=Tryz.sizeOf192
  v85:=Tryz.zeroValue192
  t127:=Tryz.underlying156
  a127:=Tryz.isAgg156
  z127:=Tryz.sizeOf156
  v127:=Tryz.zeroValue156
  t143:=Tryz.underlying213
  a143:=Tryz.isAgg213
  z143:=Tryz.sizeOf213
  v143:=Tryz.zeroValue213
  t145:=Tryz.underlying215
  a145:=Tryz.isAgg215
  z145:=Tryz.sizeOf215
  v145:=Tryz.zeroValue215
  t167:=Tryz.underlying191
  a167:=Tryz.isAgg191
  z167:=Tryz.sizeOf191
  v167:=Tryz.zeroValue191
  t168:=Tryz.underlying194
  a168:=Tryz.isAgg194
  z168:=Tryz.sizeOf194
  v168:=Tryz.zeroValue194
  t171:=Tryz.underlying207
  a171:=Tryz.isAgg207
  z171:=Tryz.sizeOf207
  v171:=Tryz.zeroValue207
  t173:=Tryz.underlying210
  a173:=Tryz.isAgg210
  z173:=Tryz.sizeOf210
  v173:=Tryz.zeroValue210
  t175:=Tryz.underlying202
  a175:=Tryz.isAgg202
  z175:=Tryz.sizeOf202
  v175:=Tryz.zeroValue202
  t210:=Tryz.underlying205
  a210:=Tryz.isAgg205
  z210:=Tryz.sizeOf205
  v210:=Tryz.zeroValue205
  t212:=Tryz.underlying217
  a212:=Tryz.isAgg217
  z212:=Tryz.sizeOf217
  v212:=Tryz.zeroValue217
  t213:=Tryz.underlying218
  a213:=Tryz.isAgg218
  z213:=Tryz.sizeOf218
  t232:=Tryz.underlying222
  a232:=Tryz.isAgg222
  z232:=Tryz.sizeOf222
  v232:=Tryz.zeroValue222
  t233:=Tryz.underlying223
  a233:=Tryz.isAgg223
  z233:=Tryz.sizeOf223
  v233:=Tryz.zeroValue223
  g15:=by kernel_rfl
  g16:=by kernel_rfl
  g17:=by kernel_rfl
  g18:=by kernel_rfl
  g19:=by kernel_rfl
  t80:=Tryz.underlying87
  a80:=Tryz.isAgg87
  z80:=Tryz.sizeOf87
  v80:=Tryz.zeroValue87
  i0:=by kernel_rfl
  i2:=by kernel_rfl
  i3:=by kernel_rfl
  i4:=by kernel_rfl
  i5:=by kernel_rfl
  i9:=by kernel_rfl
  i20:=by kernel_rfl
  i21:=by kernel_rfl
  i37:=by kernel_rfl
  i46:=by kernel_rfl
  i51:=by kernel_rfl
  i53:=by kernel_rfl
  i75:=by kernel_rfl
  i76:=by kernel_rfl
  i80:=by kernel_rfl
  i85:=by kernel_rfl
  i127:=by kernel_rfl
  i143:=by kernel_rfl
  i145:=by kernel_rfl
  i167:=by kernel_rfl
  i168:=by kernel_rfl
  i171:=by kernel_rfl
  i173:=by kernel_rfl
  i175:=by kernel_rfl
  i210:=by kernel_rfl
  i212:=by kernel_rfl
  i232:=by kernel_rfl
  i233:=by kernel_rfl
  m15:=by kernel_rfl
  m16:=by kernel_rfl
  m17:=by kernel_rfl
  m18:=by kernel_rfl
  m19:=by kernel_rfl
  c0:=by kernel_rfl
  c2:=by kernel_rfl
  c3:=by kernel_rfl
  c4:=by kernel_rfl
  c5:=by kernel_rfl
  c9:=by kernel_rfl
  c20:=by kernel_rfl
  c21:=by kernel_rfl
  c37:=by kernel_rfl
  c46:=by kernel_rfl
  c51:=by kernel_rfl
  c53:=by kernel_rfl
  c75:=by kernel_rfl
  c76:=by kernel_rfl
  c80:=by kernel_rfl
  c85:=by kernel_rfl
  c127:=by kernel_rfl
  c143:=by kernel_rfl
  c145:=by kernel_rfl
  c167:=by kernel_rfl
  c168:=by kernel_rfl
  c171:=by kernel_rfl
  c173:=by kernel_rfl
  c175:=by kernel_rfl
  c210:=by kernel_rfl
  c212:=by kernel_rfl
  c213:=by kernel_rfl
  c232:=by kernel_rfl
  c233:=by kernel_rfl }
def Tryz.lays145_ren:Go.Shelf.Ren:=⟨fun|145=>162|220=>170|219=>174|217=>179|225=>180|224=>181|267=>182|266=>189|314=>190|n=>n,fun|9=>9|4=>4|59=>182|3=>3|5=>5|46=>190|146=>199|51=>198|n=>n,fun|1=>0|n=>n⟩
theorem Tryz.lays145:Go.Proofs.Lays.n145 Tryz.prog Tryz.lays145_ren:={
  mixed:=by kernel_rfl
  f145:=Tryz.func162.trans (congrArg some (by kernel_rfl))
  f217:=Tryz.func179.trans (congrArg some (by kernel_rfl))
  f219:=Tryz.func174.trans (congrArg some (by kernel_rfl))
  f220:=Tryz.func170.trans (congrArg some (by kernel_rfl))
  f224:=Tryz.func181.trans (congrArg some (by kernel_rfl))
  f225:=Tryz.func180.trans (congrArg some (by kernel_rfl))
  f266:=Tryz.func189.trans (congrArg some (by kernel_rfl))
  f267:=Tryz.func182.trans (congrArg some (by kernel_rfl))
  f314:=Tryz.func190.trans (congrArg some (by kernel_rfl))
  t3:=Tryz.underlying3
  a3:=Tryz.isAgg3
  z3:=Tryz.sizeOf3
  v3:=Tryz.zeroValue3
  t4:=Tryz.underlying4
  a4:=Tryz.isAgg4
  z4:=Tryz.sizeOf4
  v4:=Tryz.zeroValue4
  t5:=Tryz.underlying5
  a5:=Tryz.isAgg5
  z5:=Tryz.sizeOf5
  v5:=Tryz.zeroValue5
  t9:=Tryz.underlying9
  a9:=Tryz.isAgg9
  z9:=Tryz.sizeOf9
  v9:=Tryz.zeroValue9
  t46:=Tryz.underlying190
  a46:=Tryz.isAgg190
  z46:=Tryz.sizeOf190
  v46:=Tryz.zeroValue190
  t51:=Tryz.underlying198
  a51:=Tryz.isAgg198
  z51:=Tryz.sizeOf198
  v51:=Tryz.zeroValue198
  t59:=Tryz.underlying182
  a59:=Tryz.isAgg182
  z59:=Tryz.sizeOf182
  v59:=Tryz.zeroValue182
  t146:=Tryz.underlying199
  a146:=Tryz.isAgg199
  z146:=Tryz.sizeOf199
  v146:=Tryz.zeroValue199
  g1:=by kernel_rfl }
open Go.RowKit Go.Lib in
theorem Tryz.strings_Cut (s sep:ByteArray) (m:Int) (w:World) (hs:s.size<4294967281) (hm:w.cell? ⟨0,0,none⟩=some (.int .i64 m)) :
    Calls Tryz.prog 162 #[.string s,.string sep] w fun e w'=>e=.returned (.tuple #[.string ⟨(Lib.cut s.data.toList sep.data.toList).1.toArray⟩,.string ⟨(Lib.cut s.data.toList sep.data.toList).2.1.toArray⟩,.bool (Lib.cut s.data.toList sep.data.toList).2.2])∧∃ n,w'=w.drewN n:=Any.strings_Cut Tryz.lays145 s sep m w hs hm
end Go.Proofs
namespace Go.Proofs.YtfepdcpidkjklaaGreatDoor.W
open Go Go.RowKit Go.Proofs Go.Proofs.YtfepdcpidkjklaaGreatDoor.VL Go.Proofs.YtfepdcpidkjklaaGreatDoor.M
attribute [local congr] optK_congr guardK_congr condK_congr runT_congr runD_congr wpI_congr CallV_congr LoopI_congr pureK_congr effK_congr calK_congr stepV_congr doV_congr exN_congr exB_congr retF_congr retQ_congr gK_congr condW_congr ldK_congr stoK_congr
attribute [local go_sem] argL_cons argL_nil argH_nil argH_cons chH_getH wpI_seq wpI_reg wpI_drw wpI_ret cond_k condW_t condW_f wpI_skip wpI_block wpI_exit wpI_loop exN_n exN_r exN_e exB_n exB_r exB_h exB_m runT_k kT_e runT_nil runD_k kD_e runD_nil step_u step_k gK_t gK_f do_mv do_bino bo_add bo_sub bo_mul bo_subu bo_quo bo_rem bo_xor bo_eql bo_neq bo_lss bo_leq bo_gtr bo_geq bo_cat bo_eqs bo_nes do_pick do_call do_cal calK_f do_box do_alloc do_ldk ldK_s do_stok stoK_s do_fad do_nilc do_not do_neg do_len do_lens do_ext do_eqs do_beq do_isn do_cvi do_sls do_idx do_mn do_mx do_build do_mkf do_s2b do_b2s do_slv do_iad do_bsl do_mks do_app ev_t ev_c app_some app_none
attribute [local go_sem] List.nil_append List.cons_append List.append_nil getL_hit getL_miss getH_nil getH_hit getH_miss nm_eq ne_eq Nat.reduceEqDiff not_false_eq_true Nat.reduceAdd Nat.add_zero Nat.zero_add if_true if_false ite_true ite_false pureK_s effK_s optK_s gdV_t gdV_f gdV_s pick_b ge_iff_le gt_iff_lt cond_true cond_false fresh_k cells_agg cells_int cells_bool cells_str cells_own cells_sl cells_nils ld_pv ld_pa ld_ip ldVar_t ldVar_f ldArr_t ldArr_f ldRow_t ldRow_f ldA_s ld1_s fad_pv fad_pa fad_ip nilc_pv nilc_pa nilc_ip not_b neg_i cvi_i ext_t retF_n retF_r
attribute [local go_sem] resV_k rvs_nil rvs_t rvs_c fstO_s consO_s resK_s resL_1 resL_2 resL_3 resL_4  Option.some.injEq List.map_cons List.map_nil List.all_cons List.all_nil Bool.and_true Bool.and_self Bool.not_true Bool.not_false Option.map_some Option.map_none sls_s slsG_s loV_n loV_i hiV_n hiV_i idx_s mn_i mx_i s2b_s b2s_s bytO_s bytes_nil bytes_cons conB_s slv_sl slv_own slv_nils slvG_s slvN_s slvO_s iad_sl iadG_map take_map drop_map List.length_map iad_own iad_view iadO_a iadW_a mks_i rowO_nils rowO_sl rowO_own rowA_a eq_self appG_nils appG_own appO_a guardP_T mapA_s bld_nil mkf_nil bldF_e fill_nil fill_cons mkf_e lens_s len_nils len_sl len_own len_view isn_nile isn_erre List.getElem?_cons_zero List.getElem?_cons_succ List.length_cons List.length_nil decide_true decide_false Int.toNat_natCast Int.cast_ofNat_Int Int.reduceLT Int.reduceLE Int.reduceEq Int.reduceAdd Int.reduceSub Int.reduceMul Int.reduceNeg Int.reduceToNat List.getD_cons_zero List.getD_cons_succ not_true_eq_false not_false_eq_true Bool.false_eq_true Bool.true_eq_false reduceCtorEq
attribute [local go_sem] E.row Pc.row Pair.row Part.row Strm.row Flw.row Pk.row Door.row Conv.row World.row Ev.row rdV E.eta Pc.eta Pair.eta Part.eta Strm.eta Pk.eta Flw.eta Conv.eta Door.eta World.eta Ev.eta
attribute [local go_sem] sub_ok st_pv st_pa stVar_v stArr_a Nat.le_refl List.drop_zero List.drop_succ_cons List.take_succ_cons List.take_zero setR Nat.reduceLeDiff
attribute [local go_sem] wk_bot wk2_bot wk1_bot wk_undef wk_tup_e wk2_agg_e wk_agg_e wk1_fn_e wk2_fn_e wk_fn_e wkl_nil wkl_cons wkh_var_e wkh_arr_e wkh_fresh_e wkh_dead_v wkh_dead_a wkh_dead_d wk0_undef wk0_int wk0_bool wk0_str wk0_nils wk0_nils_sl wk0_nilp wk0_nile wk0_erre wk0_sl wk0_iptr wk0_own wk0_view wk0_pv wk0_pa fzA_a fzW_a fzP_v wk0_own_sl wk0_view_sl wk0_pv_iptr WkS_nil WkS_cons WkN_nil WkN_cons nonB_nil nonB_cons getN_nil getN_hit getN_miss pinOk_0 pinOk_s and_true true_and and_self
attribute [local go_sem] bot_int one_int unt_int clo_int bot_bool one_bool unt_bool clo_bool bot_str one_str unt_str clo_str bot_nils one_nils unt_nils clo_nils bot_nilp one_nilp unt_nilp clo_nilp bot_nile one_nile unt_nile clo_nile bot_erre one_erre unt_erre clo_erre bot_raw one_raw unt_raw clo_raw bot_sl one_sl unt_sl clo_sl bot_own one_own unt_own clo_own bot_view one_view unt_view clo_view bot_pv one_pv unt_pv clo_pv bot_pa one_pa unt_pa clo_pa bot_iptr one_iptr unt_iptr clo_iptr unt_agg unt_fn one_fn
attribute [local go_sem] rn_tup rn_agg rn2_agg rn_fn rn2_fn rnfn1 rn_bot rn2_bot rn1_bot rn0_int rn0_bool rn0_str rn0_nils rn0_nilp rn0_nile rn0_erre rn0_sl rn0_iptr rn0_own rn0_view rn0_pv rn0_pa hrn_var hrn_arr hrn_dead outU_nil outU_cons deads_nil deads_cons bk_ge bk_lt nsF_0 nsF_s chH_0 chH_s chH_n newN_e andB_s eqR_nil eqR_i eqR_b eqR_s mapX_f mapX_t eqs_a beq_f beq_t live_arr live_var nsl_nil nsl_cons Nat.reduceMul Nat.reduceLT Nat.zero_le Nat.not_lt_zero
attribute [local go_sem] mV lD lA fD bN eX oP nP sR i0 s0
theorem index_one (c:UInt8) (s:B):Lib.index s [c]=if c∈s then ((s.takeWhile fun b=>decide (b≠c)).length:Int) else -1:=by
  induction s with
  | nil=>rfl
  | cons b l ih =>
    unfold Lib.index
    by_cases h:b=c
    · subst h;simp [List.isPrefixOf]
    · have h':¬ c=b:=fun e=>h e.symm
      have hp:([c]:B).isPrefixOf (b :: l)=false:=by simp [List.isPrefixOf,h']
      rw [hp,if_neg (by simp),ih]
      by_cases hm:c∈l
      · simp [hm,h,h']
      · simp [hm,h']
theorem take_tw (p:UInt8→Bool):∀ s:B,s.take (s.takeWhile p).length=s.takeWhile p
  | []=>rfl
  | b :: l=>by
    by_cases h:p b=true
    · simp [h,take_tw p l]
    · simp [h]
theorem drop_tw (p:UInt8→Bool):∀ s:B,s.drop (s.takeWhile p).length=s.dropWhile p
  | []=>rfl
  | b :: l=>by
    by_cases h:p b=true
    · simp [h,drop_tw p l]
    · simp [h]
theorem cut_one (s:B) (c:UInt8):Lib.cut s [c]=cutB s c:=by
  unfold Lib.cut cutB
  rw [index_one]
  by_cases h:c∈s
  · rw [if_pos h,if_pos (by omega),if_pos h]
    simp only [Int.toNat_natCast,take_tw,List.length_cons,List.length_nil,← List.drop_drop,drop_tw,List.drop_one,Nat.zero_add]
  · rw [if_neg h,if_neg (by decide),if_neg h]
theorem digits_two (n:Nat) (h:n<100):Lib.decDigits n=decN n:=by
  unfold decN
  rw [Lib.decDigits]
  split
  · rfl
  · rw [Lib.decDigits,dif_pos (by omega)]
    rfl
theorem atoi_two:∀ k:Fin 100,Lib.atoiAll (decN k.val)=.ok (k.val:Int):=by decide +kernel
theorem atoi_dec (k:Int) (h0:0≤k) (h1:k<100):Lib.atoiAll (dec k)=.ok k:=by
  have:=atoi_two ⟨k.toNat,by omega⟩
  simp only at this
  unfold dec
  rw [this]
  congr 1
  omega
theorem e172:entr Tryz.prog 172=true:=by kernel_rfl
theorem c172 (n:Int) (h:0≤n∧n<100:=by omega):FnR Tryz.prog G 172 [.int .i64 n] (.str (dec n)):=by
  obtain ⟨k,rfl⟩:∃ k:Nat,n=(k:Int):=⟨n.toNat,by omega⟩
  refine FnR.lib e172 rfl rfl fun W hg=>(Tryz.strconv_Itoa_small k (by omega) W).mono fun e W' ⟨he,hw⟩=>⟨?_,by subst hw;exact Below.refl _ _⟩
  rw [he,digits_two k (by omega)]
  rfl
theorem e162:entr Tryz.prog 162=true:=by kernel_rfl
theorem c162 (s:B) (c:UInt8) (hs:s.length<4294967281:=by omega):FnR Tryz.prog G 162 [.str s,.str [c]] (.tup [.str (cutB s c).1,.str (cutB s c).2.1,.bool (cutB s c).2.2]):=by
  refine FnR.lib e162 rfl rfl fun W hg=>?_
  obtain ⟨⟨m,hm⟩,_⟩:=hg
  refine (Tryz.strings_Cut (mkStr s) (mkStr [c]) m W (by simpa [mkStr,ByteArray.size] using hs) hm).mono fun e W' ⟨he,n,hw⟩=>⟨?_, ?_⟩
  · rw [he]
    simp only [mkStr,cut_one]
    rfl
  · subst hw
    exact ⟨rfl,rfl,rfl,Nat.le_refl _,fun _ _=>rfl⟩
theorem e148:entr Tryz.prog 148=true:=by kernel_rfl
theorem c148 (s p:B):FnR Tryz.prog G 148 [.str s,.str p] (.tup [.str (if p.isPrefixOf s then s.drop p.length else s),.bool (p.isPrefixOf s)]) :=
  FnR.lib e148 rfl rfl fun W hg=>(Tryz.strings_CutPrefix (mkStr s) (mkStr p) W).mono fun e W' ⟨he,hw⟩=>⟨he,by subst hw;exact Below.refl _ _⟩
theorem e168:entr Tryz.prog 168=true:=by kernel_rfl
theorem c168 (s:B) (hs:s.length≤281474976710656:=by omega):FnR Tryz.prog G 168 [.str s] (.str s) :=
  FnR.lib e168 rfl rfl fun W hg=>(Tryz.stringslite_Clone (mkStr s) W (by simpa [mkStr,ByteArray.size] using hs)).mono fun e W' ⟨he,hw⟩=>⟨he,hw⟩
def ic160:IC:=sR [oP 2 (.mv (.c s0))] (sR [mV 3 0,oP 4 (.call 168 [.t 3]),mV 2 4] .ret)
theorem dg160:Dg Tryz.prog 160 Tryz.f160 ic160 [(.t 2)]:=⟨Tryz.func160,by kernel_rfl,by kernel_rfl⟩
theorem c160 (s:B) (hs:s.length≤281474976710656:=by omega):FnR Tryz.prog G 160 [.str s] (.str s):=by
  refine mF dg160 Tryz.ntmps160 ?_
  simp only [ic160,go_sem]
  refine callR (c168 _ hs) rfl rfl ?_
  simp only [go_sem]
def AtoiP (s:B) (r:V) (o:List Hs):Prop:=o=[]∧((∃ n:Int,r=.tup [.int .i64 n,.nile]∧∀ k:Int,0≤k→k<100→s=dec k→n=k)∨(∃ n:Int,r=.tup [.int .i64 n,.erre]∧∀ k:Int,0≤k→k<100→s≠dec k))
theorem e171:entr Tryz.prog 171=true:=by kernel_rfl
theorem den_err {w:World} {O:Nat→Prop} {ρ:Nat→VL.Loc} {h:Nat→Hs} (n:Int) (t:TypeId) (N:Nat):Den w O ρ h (.tup [.int .i64 n,.erre]) (.tuple #[.int .i64 n,.iface t (.pointer (some ⟨N,0,none⟩))]):=by
  refine ⟨[.int .i64 n,.iface t (.pointer (some ⟨N,0,none⟩))],rfl,rfl,fun j v u hv hu=>?_⟩
  match j,hv,hu with
  | 0,hv,hu=>cases hv;cases hu;exact Imm.int _ _
  | 1,hv,hu=>cases hv;cases hu;exact Imm.erre _ _
theorem c171 (s:B) (hs:s.length≤2000000:=by omega):FnP Tryz.prog G 171 0 [] [.str s] (AtoiP s):=by
  have key:FnP Tryz.prog G 171 0 [] [.str s] (fun r o=>o=[]∧((∃ n:Int,r=.tup [.int .i64 n,.nile]∧∀ k:Int,0≤k→k<100→s=dec k→n=k)∨(∃ n:Int,r=.tup [.int .i64 n,.erre]∧∀ k:Int,0≤k→k<100→s≠dec k))):=by
    have hz:(mkStr s).size≤2000000:=by simpa [mkStr,ByteArray.size] using hs
    have hl:(mkStr s).data.toList=s:=by simp [mkStr]
    rcases ha:Lib.atoiAll s with v|_|_
    · refine FnP.lib (us:=[.string (mkStr s)]) e171 rfl ⟨_,.inl ⟨v,rfl,fun k h0 h1 h2=>?_⟩⟩ fun W hg=>(Any.strconv_Atoi_ok Tryz.laysC172 (mkStr s) (by omega) v (by rw [hl];exact ha) W).mono fun e W' ⟨he,hw⟩=>⟨?_,_,_,he,.inl ⟨v,rfl,fun k h0 h1 h2=>?_⟩,fun O _=>plainR_den rfl⟩
      · rw [h2,atoi_dec k h0 h1] at ha;cases ha;rfl
      · rcases hw with rfl|⟨t,rfl⟩
        · exact Below.refl _ _
        · exact Lib.bytesWorld_below W _ t
      · rw [h2,atoi_dec k h0 h1] at ha;cases ha;rfl
    · refine FnP.lib (us:=[.string (mkStr s)]) e171 rfl ⟨_,.inr ⟨0,rfl,fun k h0 h1 h2=>?_⟩⟩ fun W hg=>?_
      · rw [h2,atoi_dec k h0 h1] at ha;cases ha
      obtain ⟨_,⟨ev,hv,hev⟩,_⟩:=hg
      refine (Any.strconv_Atoi_syntax Tryz.laysC172 (mkStr s) (by omega) (by rw [hl];exact ha) ev W hv hev).mono fun e W' ⟨N,he,hN,_,hb⟩=>⟨hb,_,_,he,.inr ⟨0,rfl,fun k h0 h1 h2=>?_⟩,fun O hO=>den_err _ _ N⟩
      · rw [h2,atoi_dec k h0 h1] at ha;cases ha
    · refine FnP.lib (us:=[.string (mkStr s)]) e171 rfl ⟨_,.inr ⟨0,rfl,fun k h0 h1 h2=>?_⟩⟩ fun W hg=>?_
      · rw [h2,atoi_dec k h0 h1] at ha;cases ha
      obtain ⟨_,_,ev,hv,hev⟩:=hg
      refine (Any.strconv_Atoi_range Tryz.laysC172 (mkStr s) (by omega) (by rw [hl];exact ha) ev W hv hev).mono fun e W' ⟨N,he,hN,_,hb⟩=>⟨hb,_,_,he,.inr ⟨_,rfl,fun k h0 h1 h2=>?_⟩,fun O hO=>den_err _ _ N⟩
      · rw [h2,atoi_dec k h0 h1] at ha;cases ha
  exact key
theorem fig48 (b:UInt8):FnR Tryz.prog G 111 [.int .u8 (b.toNat:Int),.int .u8 48] (.bool (figB b 48)):=c111 b 48
theorem fig49 (b:UInt8):FnR Tryz.prog G 111 [.int .u8 (b.toNat:Int),.int .u8 49] (.bool (figB b 49)):=c111 b 49
theorem txOk_false' {t:B} {i:Nat} (h:i<t.length) (hp:okB (t.getD i default)=false):txOk t=false:=by
  refine txOk_false h ?_
  have:t.getD i default=t.getD i 0:=by simp [List.getD,h]
  rwa [← this]
theorem all_take_succ' {t:B} {i:Nat} (h:i<t.length) {p:UInt8→Bool} (hi:(t.take i).all p=true) (hp:p (t.getD i default)=true):(t.take (i+1)).all p=true:=by
  refine all_take_succ h hi ?_
  have:t.getD i default=t.getD i 0:=by simp [List.getD,h]
  rwa [← this]
theorem okB_e (b:UInt8):okB b=((!decide (b<97) && !decide (122<b)) || figB b 48 || decide (b=64) || decide (b=58) || decide (b=59)):=by
  have h1:decide (97≤b)=!decide (b<97):=by rw [← decide_not];exact decide_eq_decide.2 UInt8.not_lt.symm
  have h2:decide (b≤122)=!decide (122<b):=by rw [← decide_not];exact decide_eq_decide.2 UInt8.not_lt.symm
  simp only [okB,h1,h2]
def ic74:IC:=sR [oP 2 (.mv (.c (.bool false)))] (.seq (sR [mV 5 0,oP 6 (.s2b (.t 5)),oP 7 (.len (.t 6)),oP 8 (.mv (.c i0))] (.block 0 (.loop (sR [bN 9 .lss 8 7] (.seq (.cond (.t 9) .skip (.exit 0)) (.seq (.block 1 (sR [oP 10 (.iad 1 (.t 6) (.t 8)),lD 11 1 10,mV 4 11] (sR [mV 12 4,oP 13 (.call 111 [.t 12,.c (.int .u8 48)]),oP 14 (.un .not (.t 13)),mV 15 14,⟨some 16,some (15,true),.mv (.t 4)⟩,⟨some 17,some (15,true),.bin .neq (.t 16) (.c (.int .u8 64))⟩,oP 18 (.pick (.t 15) (.t 17) (.c (.bool false))),mV 19 18,⟨some 20,some (19,true),.mv (.t 4)⟩,⟨some 21,some (19,true),.bin .neq (.t 20) (.c (.int .u8 58))⟩,oP 22 (.pick (.t 19) (.t 21) (.c (.bool false))),mV 23 22,⟨some 24,some (23,true),.mv (.t 4)⟩,⟨some 25,some (23,true),.bin .neq (.t 24) (.c (.int .u8 59))⟩,oP 26 (.pick (.t 23) (.t 25) (.c (.bool false))),mV 27 26,⟨some 28,some (27,true),.mv (.t 4)⟩,⟨some 29,some (27,true),.bin .lss (.t 28) (.c (.int .u8 97))⟩,⟨some 30,some (27,true),.mv (.t 29)⟩,⟨some 31,some (30,false),.mv (.t 4)⟩,⟨some 32,some (30,false),.bin .gtr (.t 31) (.c (.int .u8 122))⟩,⟨some 33,some (27,true),.pick (.t 30) (.c (.bool true)) (.t 32)⟩,oP 34 (.pick (.t 27) (.t 33) (.c (.bool false)))] (.cond (.t 34) (sR [oP 2 (.mv (.c (.bool false)))] .ret) .skip)))) (.reg [oP 35 (.bin .add (.t 8) (.c (.int .i64 1))),mV 8 35]))))))) (sR [mV 36 0,oP 37 (.lens (.t 36)),oP 38 (.bin .leq (.t 37) (.c (.int .i64 40))),mV 2 38] .ret))
theorem dg74:Dg Tryz.prog 74 Tryz.f74 ic74 [(.t 2)]:=⟨Tryz.func74,by kernel_rfl,by kernel_rfl⟩
theorem c74 (t:B) (hl:t.length≤2000000:=by omega):FnR Tryz.prog G 74 [.str t] (.bool (txOk t)):=by
  refine mF dg74 Tryz.ntmps74 ?_
  simp only [ic74,go_sem]
  with_reducible repeat' (first|refine br ?_ ?_<;>intro h e<;>(try simp only [e,go_sem])<;>clear e|rw [i64w (by omega)]|refine sd ?_<;>try simp only [go_sem]|fail)
  refine loopN (fun i:Nat=>⟨getL [(0,.str t),(6,.sl 1 (t.map fun b=>[.int .u8 (b.toNat:Int)])),(7,.int .i64 t.length),(8,.int .i64 (i:Int))],getH []⟩) (fun i=>t.length - i) (fun i=>i≤t.length∧(t.take i).all okB=true) 0 (leQ []) ⟨Nat.zero_le _,by simp⟩ ?_
  intro i ⟨hi,ha⟩
  simp only [go_sem]
  by_cases h:(i:Int)<t.length
  · simp only [h,go_sem]
    refine effG (by omega) ?_
    generalize hb:t.getD i default=b
    obtain ⟨e1,e2,e3,e4,e5,e6,e7,e8,e9⟩:=u8cmp b
    simp only [go_sem]
    refine callR (fig48 _) rfl rfl ?_
    simp only [go_sem,e5,e6,e7,e8,e9]
    repeat' (first
      | (with_reducible refine gBn (fun h=>?_) (fun h=>?_)<;>(try simp only [h,go_sem,e5,e6,e7,e8,e9]))
      | (with_reducible refine cBn (fun h=>?_) (fun h=>?_)<;>(try simp only [h,go_sem,e5,e6,e7,e8,e9]))
      | (with_reducible refine cB (fun h=>?_) (fun h=>?_)<;>(try simp only [h,go_sem,e5,e6,e7,e8,e9]))
      | (with_reducible refine gB (fun h=>?_) (fun h=>?_)<;>(try simp only [h,go_sem,e5,e6,e7,e8,e9])))
    all_goals (clear e1 e2 e3 e4 e5 e6 e7 e8 e9)
    all_goals first
      | (refine ⟨i+1,by omega,⟨by omega,all_take_succ' (t:=t) (i:=i) (by omega) ha (by rw [hb];simp only [okB_e, *,Bool.or_true,Bool.true_or,Bool.not_false,Bool.and_self])⟩, ?_⟩;rw [i64w (by omega)];exact (leQ []))
      | (exact txOk_false' (t:=t) (i:=i) (by omega) (by rw [hb];simp only [okB_e, *,Bool.or_false,Bool.false_or,Bool.not_true,Bool.not_false,Bool.false_and,Bool.and_false,Bool.and_self]))
  · simp only [h,go_sem]
    have:i=t.length:=by omega
    subst this
    simp only [List.take_length] at ha
    simp only [txOk,ha,Bool.true_and]
    apply decide_eq_decide.2;omega
def bego (i:Nat) (b:UInt8):Bool:=match i with
  | 0=>decide (b=64)
  | 1=>figB b 49
  | 2=>decide (b=58)
  | 3=>figB b 49
  | 4=>figB b 48
  | _=>false
theorem bego_e (i:Nat) (b:UInt8):bego i b=if (i:Int)=0 then decide ((b.toNat:Int)=64) else if (i:Int)=1 then figB b 49 else if (i:Int)=3 then figB b 49 else if (i:Int)=2 then decide ((b.toNat:Int)=58) else if (i:Int)=4 then figB b 48 else false:=by
  obtain ⟨_,_,_,_,e5,e6,_,_,_⟩:=u8cmp b
  rw [e5,e6]
  match i with
  | 0=>rfl
  | 1=>rfl
  | 2=>rfl
  | 3=>rfl
  | 4=>rfl
  | n+5=>simp only [bego];rw [if_neg (by omega),if_neg (by omega),if_neg (by omega),if_neg (by omega),if_neg (by omega)]
def begK:Nat→B→Bool
  | _,[]=>true
  | k,b :: r=>bego k b && begK (k+1) r
theorem begs_K (s:B) (h:s≠[]):begs s=begK 0 s:=by
  rcases s with _|⟨a,_|⟨b,_|⟨c,_|⟨d,_|⟨e,_|⟨f,r⟩⟩⟩⟩⟩⟩<;>simp [begs,begK,bego,Bool.and_assoc] at h ⊢
theorem begK_step {s:B} {i:Nat} (h:i<s.length):begK i (s.drop i)=(bego i (s.getD i default) && begK (i+1) (s.drop (i+1))):=by
  rw [List.drop_eq_getElem_cons h]
  simp [begK,List.getD,h]
def ic114:IC:=sR [oP 2 (.mv (.c (.bool false)))] (.seq (sR [mV 6 0,oP 7 (.s2b (.t 6)),oP 8 (.len (.t 7)),oP 9 (.mv (.c i0))] (.block 0 (.loop (sR [bN 10 .lss 9 8] (.seq (.cond (.t 10) .skip (.exit 0)) (.seq (.block 1 (sR [mV 11 9,oP 12 (.iad 1 (.t 7) (.t 9)),lD 13 1 12,mV 3 11,mV 4 13] (sR [oP 5 (.mv (.c (.bool false)))] (.seq (sR [mV 14 3] (.block 2 (sR [oP 16 (.bin .eql (.t 14) (.c i0)),mV 15 16] (.cond (.t 15) (.reg [mV 17 4,oP 18 (.bin .eql (.t 17) (.c (.int .u8 64))),mV 5 18]) (.seq (sR [oP 20 (.bin .eql (.t 14) (.c (.int .i64 1))),mV 19 20] (.cond (.t 19) .skip (.reg [oP 21 (.bin .eql (.t 14) (.c (.int .i64 3))),mV 19 21]))) (.cond (.t 19) (.reg [mV 22 4,oP 23 (.call 111 [.t 22,.c (.int .u8 49)]),mV 5 23]) (sR [oP 25 (.bin .eql (.t 14) (.c (.int .i64 2))),mV 24 25] (.cond (.t 24) (.reg [mV 26 4,oP 27 (.bin .eql (.t 26) (.c (.int .u8 58))),mV 5 27]) (sR [oP 29 (.bin .eql (.t 14) (.c (.int .i64 4))),mV 28 29] (.cond (.t 28) (.reg [mV 30 4,oP 31 (.call 111 [.t 30,.c (.int .u8 48)]),mV 5 31]) .skip)))))))))) (sR [mV 32 5,oP 33 (.un .not (.t 32))] (.cond (.t 33) (sR [oP 2 (.mv (.c (.bool false)))] .ret) .skip)))))) (.reg [oP 34 (.bin .add (.t 9) (.c (.int .i64 1))),mV 9 34]))))))) (sR [oP 2 (.mv (.c (.bool true)))] .ret))
theorem dg114:Dg Tryz.prog 114 Tryz.f114 ic114 [(.t 2)]:=⟨Tryz.func114,by kernel_rfl,by kernel_rfl⟩
theorem c114 (s:B) (hs:s≠[]) (hl:s.length≤2000000:=by omega):FnR Tryz.prog G 114 [.str s] (.bool (begs s)):=by
  refine mF dg114 Tryz.ntmps114 ?_
  simp only [ic114,go_sem]
  with_reducible repeat' (first|refine br ?_ ?_<;>intro h e<;>(try simp only [e,go_sem])<;>clear e|rw [i64w (by omega)]|refine sd ?_<;>try simp only [go_sem]|fail)
  refine loopN (fun i:Nat=>⟨getL [(7,.sl 1 (s.map fun b=>[.int .u8 (b.toNat:Int)])),(8,.int .i64 s.length),(9,.int .i64 (i:Int))],getH []⟩) (fun i=>s.length - i) (fun i=>i≤s.length∧begs s=begK i (s.drop i)) 0 (leQ []) ⟨Nat.zero_le _,by simpa using begs_K s hs⟩ ?_
  intro i ⟨hi,ha⟩
  simp only [go_sem]
  by_cases h:(i:Int)<s.length
  · simp only [h,go_sem]
    refine effG (by omega) ?_
    have hst:=begK_step (show i<s.length by omega)
    generalize hb:s.getD i default=b at hst ⊢
    obtain ⟨_,_,_,_,e5,e6,_,_,_⟩:=u8cmp b
    simp only [go_sem]
    have hT:bego i b=true→begs s=begK (i+1) (s.drop (i+1)):=fun h1=>by rw [ha,hst,h1,Bool.true_and]
    have hF:bego i b=false→begs s=false:=fun h1=>by rw [ha,hst,h1,Bool.false_and]
    try simp only [go_sem,e5,e6]
    with_reducible repeat' (first|refine br ?_ ?_<;>intro h e<;>(try simp only [e,go_sem])<;>clear e|rw [i64w (by omega)]|refine sd ?_<;>try simp only [go_sem]|(first|refine cr (fig48 ..) ?_|refine cr (fig49 ..) ?_)<;>try simp only [go_sem]|fail)
    all_goals first
      | exact hF (by clear hF hT ha hst hb;rw [bego_e];first|(simp only [*,if_false];done)|simp [*])
      | (refine ⟨i+1,by omega,⟨by omega,hT (by clear hF hT ha hst hb;rw [bego_e];first|(simp only [*,if_false];done)|simp [*])⟩, ?_⟩;exact (leQ []))
  · simp only [h,go_sem]
    have:i=s.length:=by omega
    subst this
    simpa [begK] using ha.symm
theorem dig_lt (b:UInt8):decide (dig b<1)=!figB b 49:=by
  have hb:=b.toNat_lt
  have h1:(48:UInt8).toNat=48:=rfl
  have h2:(49:UInt8).toNat=49:=rfl
  have h3:(57:UInt8).toNat=57:=rfl
  simp only [dig,figB,UInt8.le_iff_toNat_le,h1,h2,h3]
  by_cases c1:49≤b.toNat<;>by_cases c2:b.toNat≤57<;>by_cases c3:48≤b.toNat<;>simp [c1,c2,c3]<;>omega
theorem dig_ge (b:UInt8):decide (0≤dig b)=figB b 48:=by
  have hb:=b.toNat_lt
  have h1:(48:UInt8).toNat=48:=rfl
  have h3:(57:UInt8).toNat=57:=rfl
  simp only [dig,figB,UInt8.le_iff_toNat_le,h1,h3]
  by_cases c2:b.toNat≤57<;>by_cases c3:48≤b.toNat<;>simp [c2,c3]
  omega
def ic157:IC:=sR [oP 2 (.mv (.c (.bool false)))] (sR [mV 4 0,oP 5 (.lens (.t 4)),mV 3 5] (.seq (sR [mV 6 3,oP 7 (.call 68 [.t 6,.c (.int .i64 1),.c (.int .i64 5)]),oP 8 (.un .not (.t 7)),mV 9 8,⟨some 10,some (9,false),.mv (.t 0)⟩,⟨some 11,some (9,false),.idx (.t 10) (.c i0)⟩,⟨some 12,some (9,false),.bin .neq (.t 11) (.c (.int .u8 64))⟩,oP 13 (.pick (.t 9) (.c (.bool true)) (.t 12)),mV 14 13,⟨some 15,some (14,false),.mv (.t 3)⟩,⟨some 16,some (14,false),.bin .gtr (.t 15) (.c (.int .i64 1))⟩,⟨some 17,some (14,false),.mv (.t 16)⟩,⟨some 18,some (17,true),.mv (.t 0)⟩,⟨some 19,some (17,true),.idx (.t 18) (.c (.int .i64 1))⟩,⟨some 20,some (17,true),.call 167 [.t 19]⟩,⟨some 21,some (17,true),.bin .lss (.t 20) (.c (.int .i64 1))⟩,⟨some 22,some (14,false),.pick (.t 17) (.t 21) (.c (.bool false))⟩,oP 23 (.pick (.t 14) (.c (.bool true)) (.t 22)),mV 24 23,⟨some 25,some (24,false),.mv (.t 3)⟩,⟨some 26,some (24,false),.bin .gtr (.t 25) (.c (.int .i64 2))⟩,⟨some 27,some (24,false),.mv (.t 26)⟩,⟨some 28,some (27,true),.mv (.t 0)⟩,⟨some 29,some (27,true),.idx (.t 28) (.c (.int .i64 2))⟩,⟨some 30,some (27,true),.bin .neq (.t 29) (.c (.int .u8 58))⟩,⟨some 31,some (24,false),.pick (.t 27) (.t 30) (.c (.bool false))⟩,oP 32 (.pick (.t 24) (.c (.bool true)) (.t 31)),mV 33 32,⟨some 34,some (33,false),.mv (.t 3)⟩,⟨some 35,some (33,false),.bin .gtr (.t 34) (.c (.int .i64 3))⟩,⟨some 36,some (33,false),.mv (.t 35)⟩,⟨some 37,some (36,true),.mv (.t 0)⟩,⟨some 38,some (36,true),.idx (.t 37) (.c (.int .i64 3))⟩,⟨some 39,some (36,true),.call 167 [.t 38]⟩,⟨some 40,some (36,true),.bin .lss (.t 39) (.c (.int .i64 1))⟩,⟨some 41,some (33,false),.pick (.t 36) (.t 40) (.c (.bool false))⟩,oP 42 (.pick (.t 33) (.c (.bool true)) (.t 41))] (.cond (.t 42) (sR [oP 2 (.mv (.c (.bool false)))] .ret) .skip)) (sR [mV 43 3,oP 44 (.bin .lss (.t 43) (.c (.int .i64 5))),mV 45 44,⟨some 46,some (45,false),.mv (.t 0)⟩,⟨some 47,some (45,false),.idx (.t 46) (.c (.int .i64 4))⟩,⟨some 48,some (45,false),.call 167 [.t 47]⟩,⟨some 49,some (45,false),.bin .geq (.t 48) (.c i0)⟩,oP 50 (.pick (.t 45) (.c (.bool true)) (.t 49)),mV 2 50] .ret)))
theorem dg157:Dg Tryz.prog 157 Tryz.f157 ic157 [(.t 2)]:=⟨Tryz.func157,by kernel_rfl,by kernel_rfl⟩
theorem c157 (s:B):FnR Tryz.prog G 157 [.str s] (.bool (begs s)):=by
  refine mF dg157 Tryz.ntmps157 ?_
  simp only [ic157,go_sem]
  refine callR (c68 ..) rfl rfl ?_
  simp only [go_sem]
  have key:within s.length 1 5=true→(1≤s.length∧s.length≤5):=fun h=>by rw [M.within_iff] at h;omega
  cases hw:within s.length 1 5<;>simp only [go_sem]
  · rcases s with _|⟨a,_|⟨b,_|⟨c,_|⟨d,_|⟨e,_|⟨f,r⟩⟩⟩⟩⟩⟩<;>first|rfl|(exfalso;simp [within] at hw;done)
  · obtain ⟨k1,k2⟩:=key hw
    clear key hw
    have f49:∀ x,figB x 49=!decide (dig x<1):=fun x=>by rw [dig_lt,Bool.not_not]
    have f48:∀ x,figB x 48=decide (0≤dig x):=fun x=>(dig_ge x).symm
    have f64:∀ x:UInt8,decide (x=64)=decide ((x.toNat:Int)=64):=fun x=>(u8cmp x).2.2.2.2.1.symm
    have f58:∀ x:UInt8,decide (x=58)=decide ((x.toNat:Int)=58):=fun x=>(u8cmp x).2.2.2.2.2.1.symm
    rcases s with _|⟨a,_|⟨b,_|⟨c,_|⟨d,_|⟨e,_|⟨f,r⟩⟩⟩⟩⟩⟩
    · simp at k1
    · simp only [go_sem]
      with_reducible repeat' (first|refine br ?_ ?_<;>intro h e<;>(try simp only [e,go_sem])<;>clear e|rw [i64w (by omega)]|refine sd ?_<;>try simp only [go_sem]|(first|refine cr (c167 ..) ?_)<;>try simp only [go_sem]|fail)
      all_goals first|omega|(simp only [begs,f49,f48,f58,f64];simp_all)
    · simp only [go_sem]
      with_reducible repeat' (first|refine br ?_ ?_<;>intro h e<;>(try simp only [e,go_sem])<;>clear e|rw [i64w (by omega)]|refine sd ?_<;>try simp only [go_sem]|(first|refine cr (c167 ..) ?_)<;>try simp only [go_sem]|fail)
      all_goals first|omega|(simp only [begs,f49,f48,f58,f64];simp_all)
    · simp only [go_sem]
      with_reducible repeat' (first|refine br ?_ ?_<;>intro h e<;>(try simp only [e,go_sem])<;>clear e|rw [i64w (by omega)]|refine sd ?_<;>try simp only [go_sem]|(first|refine cr (c167 ..) ?_)<;>try simp only [go_sem]|fail)
      all_goals first|omega|(simp only [begs,f49,f48,f58,f64];simp_all)
    · simp only [go_sem]
      with_reducible repeat' (first|refine br ?_ ?_<;>intro h e<;>(try simp only [e,go_sem])<;>clear e|rw [i64w (by omega)]|refine sd ?_<;>try simp only [go_sem]|(first|refine cr (c167 ..) ?_)<;>try simp only [go_sem]|fail)
      all_goals first|omega|(simp only [begs,f49,f48,f58,f64];simp_all)
    · simp only [go_sem]
      with_reducible repeat' (first|refine br ?_ ?_<;>intro h e<;>(try simp only [e,go_sem])<;>clear e|rw [i64w (by omega)]|refine sd ?_<;>try simp only [go_sem]|(first|refine cr (c167 ..) ?_)<;>try simp only [go_sem]|fail)
      all_goals first|omega|(simp only [begs,f49,f48,f58,f64];simp_all)
    · simp at k2
theorem heldK_step {t:B} {k:Nat} (h:k+1≤t.length):heldK t (k+1)=if begs (t.drop (t.length - (k+1))) then k+1 else heldK t k:=by
  simp [heldK,h]
theorem held_min (t:B):held t=heldK t (min 5 t.length):=by
  have:∀ n,heldK t (t.length+n)=heldK t t.length:=fun n=>by
    induction n with
    | zero=>rfl
    | succ n ih=>rw [← Nat.add_assoc,heldK,ih];simp;omega
  by_cases h:5≤t.length
  · rw [Nat.min_eq_left h];rfl
  · rw [Nat.min_eq_right (by omega),held]
    have:=this (5 - t.length)
    rwa [show t.length+(5 - t.length)=5 by omega] at this
theorem heldK_le (t:B):∀ n,heldK t n≤n∧heldK t n≤t.length
  | 0=>⟨Nat.le_refl _,Nat.zero_le _⟩
  | n+1=>by
    have:=heldK_le t n
    simp only [heldK]
    split
    · rename_i h;simp at h;omega
    · omega
theorem held_le (t:B):held t≤5∧held t≤t.length:=heldK_le t 5
def ic76:IC:=sR [oP 2 (.mv (.c i0))] (.seq (sR [mV 4 0,oP 5 (.lens (.t 4)),oP 6 (.mn (.c (.int .i64 5)) (.t 5)),mV 3 6] (.block 0 (.loop (.seq (sR [mV 7 3,oP 8 (.bin .gtr (.t 7) (.c i0))] (.cond (.t 8) .skip (.exit 0))) (.seq (.block 1 (sR [mV 11 0,mV 12 0,oP 13 (.lens (.t 12)),mV 14 3,bN 15 .sub 13 14,oP 16 (.sls (.t 11) (some (.t 15)) none),oP 17 (.call 114 [.t 16])] (.cond (.t 17) (sR [mV 18 3,mV 2 18] .ret) .skip))) (.reg [mV 9 3,oP 10 (.bin .sub (.t 9) (.c (.int .i64 1))),mV 3 10])))))) (sR [oP 2 (.mv (.c i0))] .ret))
theorem dg76:Dg Tryz.prog 76 Tryz.f76 ic76 [(.t 2)]:=⟨Tryz.func76,by kernel_rfl,by kernel_rfl⟩
theorem c76 (t:B) (hl:t.length≤2000000:=by omega):FnR Tryz.prog G 76 [.str t] (.int .i64 (held t)):=by
  refine mF dg76 Tryz.ntmps76 ?_
  simp only [ic76,go_sem]
  refine loopN (fun k:Nat=>⟨getL [(0,.str t),(3,.int .i64 (k:Int))],getH []⟩) (fun k=>k) (fun k=>k≤t.length∧held t=heldK t k) (min 5 t.length) (leQ []) ⟨Nat.min_le_right _ _,held_min t⟩ ?_
  intro k ⟨hk,ha⟩
  simp only [go_sem]
  by_cases h:(0:Int)<k
  · simp only [eq_true h,go_sem]
    with_reducible repeat' (first|refine br ?_ ?_<;>intro h e<;>(try simp only [e,go_sem])<;>clear e|rw [i64w (by omega)]|refine sd ?_<;>try simp only [go_sem]|fail)
    have e:((t.length:Int) - (k:Int)).toNat=t.length - k:=by omega
    obtain ⟨k,rfl⟩:∃ m,k=m+1:=⟨k - 1,by omega⟩
    simp only [e,go_sem,List.take_length]
    have hst:=heldK_step hk
    refine callR (c114 _ (by intro h;have:=congrArg List.length h;simp at this;omega) (by simp;omega)) rfl rfl ?_
    simp only [go_sem]
    with_reducible repeat' (first|refine br ?_ ?_<;>intro h e<;>(try simp only [e,go_sem])<;>clear e|rw [i64w (by omega)]|refine sd ?_<;>try simp only [go_sem]|fail)
    · rw [ha,hst,if_pos h]
    · refine ⟨k,by omega,⟨by omega,by rw [ha,hst,h];rfl⟩,(leQ [])⟩
  · simp only [eq_false h,go_sem]
    have:k=0:=by omega
    subst this
    rw [ha];rfl
def ic142:IC:=sR [oP 2 (.mv (.c i0))] (.seq (sR [mV 4 0,oP 5 (.lens (.t 4)),oP 6 (.mn (.c (.int .i64 5)) (.t 5)),mV 3 6] (.block 0 (.loop (.seq (sR [mV 7 3,oP 8 (.bin .gtr (.t 7) (.c i0))] (.cond (.t 8) .skip (.exit 0))) (.seq (.block 1 (sR [mV 11 0,mV 12 0,oP 13 (.lens (.t 12)),mV 14 3,bN 15 .sub 13 14,oP 16 (.sls (.t 11) (some (.t 15)) none),oP 17 (.call 157 [.t 16])] (.cond (.t 17) (sR [mV 18 3,mV 2 18] .ret) .skip))) (.reg [mV 9 3,oP 10 (.bin .sub (.t 9) (.c (.int .i64 1))),mV 3 10])))))) (sR [oP 2 (.mv (.c i0))] .ret))
theorem dg142:Dg Tryz.prog 142 Tryz.f142 ic142 [(.t 2)]:=⟨Tryz.func142,by kernel_rfl,by kernel_rfl⟩
theorem c142 (t:B) (hl:t.length≤2000000:=by omega):FnR Tryz.prog G 142 [.str t] (.int .i64 (held t)):=by
  refine mF dg142 Tryz.ntmps142 ?_
  simp only [ic142,go_sem]
  refine loopN (fun k:Nat=>⟨getL [(0,.str t),(3,.int .i64 (k:Int))],getH []⟩) (fun k=>k) (fun k=>k≤t.length∧held t=heldK t k) (min 5 t.length) (leQ []) ⟨Nat.min_le_right _ _,held_min t⟩ ?_
  intro k ⟨hk,ha⟩
  simp only [go_sem]
  by_cases h:(0:Int)<k
  · simp only [eq_true h,go_sem]
    with_reducible repeat' (first|refine br ?_ ?_<;>intro h e<;>(try simp only [e,go_sem])<;>clear e|rw [i64w (by omega)]|refine sd ?_<;>try simp only [go_sem]|fail)
    have e:((t.length:Int) - (k:Int)).toNat=t.length - k:=by omega
    obtain ⟨k,rfl⟩:∃ m,k=m+1:=⟨k - 1,by omega⟩
    simp only [e,go_sem,List.take_length]
    have hst:=heldK_step hk
    with_reducible repeat' (first|refine br ?_ ?_<;>intro h e<;>(try simp only [e,go_sem])<;>clear e|rw [i64w (by omega)]|refine sd ?_<;>try simp only [go_sem]|(first|refine cr (c157 ..) ?_)<;>try simp only [go_sem]|fail)
    · rw [ha,hst,if_pos h]
    · refine ⟨k,by omega,⟨by omega,by rw [ha,hst,h];rfl⟩,(leQ [])⟩
  · simp only [eq_false h,go_sem]
    have:k=0:=by omega
    subst this
    rw [ha];rfl
theorem any_rng {a p:Int} (h:E.any ⟨a,p⟩=true):(0≤a∧a<100)∧(0≤p∧p<100):=by
  obtain ⟨h1,h2,_⟩:=ends_ok _ (E.any_iff.1 h)
  exact ⟨h1,h2⟩
theorem text_le {e:E}:e.text.length≤4:=by
  by_cases h:e.any=true
  · rw [text_len h];split<;>omega
  · simp [E.text,h]
def ic134:IC:=sR [oP 1 (.box 28 (.t 0)),oP 2 (.mv (.c s0))] (.seq (sR [lA 3 2 1,oP 4 (.call 67 [.t 3]),oP 5 (.un .not (.t 4))] (.cond (.t 5) (sR [oP 2 (.mv (.c s0))] .ret) .skip)) (.seq (.drw [0,1,3,7,0,16,55,127,255] [(0,fD 6 0 1),(1,lD 7 1 6),(2,oP 8 (.call 152 [.t 7])),(3,oP 9 (.bin .add (.t 8) (.c (.str [58])))),(4,fD 10 1 1),(5,lD 11 1 10),(6,oP 12 (.call 152 [.t 11])),(7,bN 13 .add 9 12),(8,mV 2 13)]) .ret))
theorem dg134:Dg Tryz.prog 134 Tryz.f134 ic134 [(.t 2)]:=⟨Tryz.func134,by kernel_rfl,by kernel_rfl⟩
theorem c134 (a p:Int):FnR Tryz.prog G 134 [.agg [.int .i64 a,.int .i64 p]] (.str (E.text ⟨a,p⟩)):=by
  refine mF dg134 Tryz.ntmps134 ?_
  simp only [ic134,go_sem]
  refine callR (c67 ..) rfl rfl ?_
  have d1:=dec_len a
  have d2:=dec_len p
  cases h:E.any ⟨a,p⟩<;>simp only [go_sem]
  · simp [E.text,h]
  · obtain ⟨h1,h2⟩:=any_rng h
    repeat' (first
      | (with_reducible refine chkI ?_ ?_;· kernel_rfl;try simp only [go_sem])
      | (with_reducible refine pureG (by simp;omega) ?_;try simp only [go_sem])
      | (refine callR (c152 _ (by omega)) rfl rfl ?_;try simp only [go_sem]))
    simp [E.text,h]
def ic164:IC:=sR [oP 1 (.box 28 (.t 0)),oP 2 (.mv (.c s0))] (.seq (sR [lA 3 2 1,oP 4 (.call 72 [.t 3]),oP 5 (.un .not (.t 4))] (.cond (.t 5) (sR [oP 2 (.mv (.c s0))] .ret) .skip)) (.seq (.drw [0,1,3,7,0,16,55,127,255] [(0,fD 6 0 1),(1,lD 7 1 6),(2,oP 8 (.call 172 [.t 7])),(3,oP 9 (.bin .add (.t 8) (.c (.str [58])))),(4,fD 10 1 1),(5,lD 11 1 10),(6,oP 12 (.call 172 [.t 11])),(7,bN 13 .add 9 12),(8,mV 2 13)]) .ret))
theorem dg164:Dg Tryz.prog 164 Tryz.f164 ic164 [(.t 2)]:=⟨Tryz.func164,by kernel_rfl,by kernel_rfl⟩
theorem c164 (a p:Int):FnR Tryz.prog G 164 [.agg [.int .i64 a,.int .i64 p]] (.str (E.text ⟨a,p⟩)):=by
  refine mF dg164 Tryz.ntmps164 ?_
  simp only [ic164,go_sem]
  refine callR (c72 ..) rfl rfl ?_
  have d1:=dec_len a
  have d2:=dec_len p
  cases h:E.any ⟨a,p⟩<;>simp only [go_sem]
  · simp [E.text,h]
  · obtain ⟨h1,h2⟩:=any_rng h
    repeat' (first
      | (with_reducible refine chkI ?_ ?_;· kernel_rfl;try simp only [go_sem])
      | (with_reducible refine pureG (by simp;omega) ?_;try simp only [go_sem])
      | (refine callR (c172 _ (by omega)) rfl rfl ?_;try simp only [go_sem]))
    simp [E.text,h]
def ic150:IC:=sR [oP 1 (.box 28 (.t 0)),oP 2 (.mv (.c s0))] (sR [lA 3 2 1,oP 4 (.call 164 [.t 3]),oP 5 (.bin .add (.c (.str [64])) (.t 4)),oP 6 (.bin .add (.t 5) (.c (.str [59]))),mV 2 6] .ret)
theorem dg150:Dg Tryz.prog 150 Tryz.f150 ic150 [(.t 2)]:=⟨Tryz.func150,by kernel_rfl,by kernel_rfl⟩
theorem c150 (a p:Int):FnR Tryz.prog G 150 [.agg [.int .i64 a,.int .i64 p]] (.str (name ⟨a,p⟩)):=by
  refine mF dg150 Tryz.ntmps150 ?_
  simp only [ic150,go_sem]
  have d:=text_le (e:=⟨a,p⟩)
  refine callR (c164 ..) rfl rfl ?_
  simp only [go_sem]
  repeat' (with_reducible refine pureG (by simp;omega) ?_;try simp only [go_sem])
  simp [name]
end Go.Proofs.YtfepdcpidkjklaaGreatDoor.W
namespace Go.Proofs.YtfepdcpidkjklaaGreatDoor.W
open Go Go.RowKit Go.Proofs Go.Proofs.YtfepdcpidkjklaaGreatDoor.VL
theorem infoP {P:Program} {t sz:Nat} (h:(P.info? t).map (fun i=>(i.size,i.zero.map (·.cells.size),decide (i.bytes≤100000)))=some (sz,some sz,true)) :
    ∃ i z,P.info? t=some i∧i.zero=some z∧i.size=sz∧z.cells.size=sz∧i.bytes≤100000:=by
  obtain ⟨i,hi,h⟩:=Option.map_eq_some_iff.1 h
  simp only [Prod.mk.injEq,decide_eq_true_eq,Option.map_eq_some_iff] at h
  obtain ⟨h1,⟨z,hz,h2⟩,h3⟩:=h
  exact ⟨i,z,hi,hz,h1,h2,h3⟩
set_option maxRecDepth 100000
set_option maxHeartbeats 2000000
theorem m132:ClipM Tryz.prog 132:=by
  intro A n c W hc
  have u:Tryz.prog.underlying 91=some (.slice 94):=by kernel_rfl
  have u72:∀ w,Sem.run Tryz.prog (underlying 91) w=.ok (TypeDesc.slice 94) w:=run_underlying u
  go_enter Tryz.func132,Tryz.ntmps132
  go_wp2
  go_ret
  exact ⟨rfl,rfl⟩
theorem c132 (rows:List (List V)):FnR Tryz.prog G 132 [.sl 4 rows] (.sl 4 rows):=clipR (by kernel_rfl) m132 4 rows
theorem m81:ClipM Tryz.prog 81:=by
  intro A n c W hc
  have u:Tryz.prog.underlying 55=some (.slice 28):=by kernel_rfl
  have u72:∀ w,Sem.run Tryz.prog (underlying 55) w=.ok (TypeDesc.slice 28) w:=run_underlying u
  go_enter Tryz.func81,Tryz.ntmps81
  go_wp2
  go_ret
  exact ⟨rfl,rfl⟩
theorem c81 (rows:List (List V)):FnR Tryz.prog G 81 [.sl 2 rows] (.sl 2 rows):=clipR (by kernel_rfl) m81 2 rows
theorem m118:ClipM Tryz.prog 118:=by
  intro A n c W hc
  have u:Tryz.prog.underlying 23=some (.slice 82):=by kernel_rfl
  have u72:∀ w,Sem.run Tryz.prog (underlying 23) w=.ok (TypeDesc.slice 82) w:=run_underlying u
  go_enter Tryz.func118,Tryz.ntmps118
  go_wp2
  go_ret
  exact ⟨rfl,rfl⟩
theorem c118 (rows:List (List V)):FnR Tryz.prog G 118 [.sl 3 rows] (.sl 3 rows):=clipR (by kernel_rfl) m118 3 rows
theorem o118 (rows:List (List V)) (n:Nat) (h:rows.length=n):FnP Tryz.prog G 118 0 [.arr 82 3 rows] [.own 0 n] (fun r o=>r=.own 0 n∧o=[.arr 82 3 rows]):=clipOwn (by kernel_rfl) m118 82 3 rows n h
theorem m144:ClipM Tryz.prog 144:=by
  intro A n c W hc
  have u:Tryz.prog.underlying 42=some (.slice 89):=by kernel_rfl
  have u72:∀ w,Sem.run Tryz.prog (underlying 42) w=.ok (TypeDesc.slice 89) w:=run_underlying u
  go_enter Tryz.func144,Tryz.ntmps144
  go_wp2
  go_ret
  exact ⟨rfl,rfl⟩
theorem o144 (rows:List (List V)) (n:Nat) (h:rows.length=n):FnP Tryz.prog G 144 0 [.arr 89 2 rows] [.own 0 n] (fun r o=>r=.own 0 n∧o=[.arr 89 2 rows]):=clipOwn (by kernel_rfl) m144 89 2 rows n h
theorem m128:CloneM Tryz.prog 128 82 3:=by
  have t27:Tryz.prog.underlying 23=some (.slice 82):=by kernel_rfl
  have u27:∀ w,Sem.run Tryz.prog (underlying 23) w=.ok (TypeDesc.slice 82) w:=run_underlying t27
  have q27:∀ (w:World) (a:Option Addr) (n c n' c':Nat),(binOp .eql 23 (.slice a n c) (.slice none n' c')).run Tryz.prog w=.ok (.bool a.isNone) w:=fun w a n c n' c'=>Lib.run_eql_slice_nil w _ _ a n c n' c' t27
  obtain ⟨i0,z0,hi,hz,hs,hzs,hb⟩:=infoP (P:=Tryz.prog) (t:=82) (sz:=3) (by kernel_rfl)
  refine ⟨fun n c W=>?_,fun a n c us W h1 h2 h3 h4=>?_⟩
  · go_enter Tryz.func128,Tryz.ntmps128
    go_wp2
    go_ret
    exact ⟨rfl,rfl⟩
  · go_enter Tryz.func128,Tryz.ntmps128
    go_wp2_with (at_builtin;refine wpList_append_own _ rfl _ _ 23 rfl W.heap.size 82 i0 z0 3 i0.bytes t27 hi hz hs rfl hzs (by decide) _ _ _ rfl (World.ownsRow_made W #[] 0 (Nat.le_refl _) (Nat.zero_le _) rfl) a n c us rfl h1 ?qc2 h3 ?qc4 ?qc5 ?qc6 ?_)
    case qc2=>intro j u hj;exact Lib.cell?_alloc_some _ (h2 j u hj)
    case qc4=>unfold maxLen;omega
    case qc5=>exact Nat.le_trans (Nat.mul_le_mul (show 0+n≤2000000 by omega) hb) (by decide)
    case qc6=>simp
    intro v' w1 hown hgrow hnil
    go_wp2
    go_ret
    refine ⟨v',rfl,by simpa using hown, ?_⟩
    exact ((Below.refl _ W).alloc (Nat.le_refl _) _).grown hgrow (by simp) (by intro k hk;simp [Value.ownBlock] at hk;omega)
theorem c128 (rows:List (List V)) (hr:rows.length≤2000000):FnP Tryz.prog G 128 0 [] [.sl 3 rows] (fun r o=>r=.own 0 rows.length∧o=[.arr 82 3 rows]):=cloneOwn (by kernel_rfl) m128 rows hr
theorem m145:CloneM Tryz.prog 145 89 2:=by
  have t27:Tryz.prog.underlying 42=some (.slice 89):=by kernel_rfl
  have u27:∀ w,Sem.run Tryz.prog (underlying 42) w=.ok (TypeDesc.slice 89) w:=run_underlying t27
  have q27:∀ (w:World) (a:Option Addr) (n c n' c':Nat),(binOp .eql 42 (.slice a n c) (.slice none n' c')).run Tryz.prog w=.ok (.bool a.isNone) w:=fun w a n c n' c'=>Lib.run_eql_slice_nil w _ _ a n c n' c' t27
  obtain ⟨i0,z0,hi,hz,hs,hzs,hb⟩:=infoP (P:=Tryz.prog) (t:=89) (sz:=2) (by kernel_rfl)
  refine ⟨fun n c W=>?_,fun a n c us W h1 h2 h3 h4=>?_⟩
  · go_enter Tryz.func145,Tryz.ntmps145
    go_wp2
    go_ret
    exact ⟨rfl,rfl⟩
  · go_enter Tryz.func145,Tryz.ntmps145
    go_wp2_with (at_builtin;refine wpList_append_own _ rfl _ _ 42 rfl W.heap.size 89 i0 z0 2 i0.bytes t27 hi hz hs rfl hzs (by decide) _ _ _ rfl (World.ownsRow_made W #[] 0 (Nat.le_refl _) (Nat.zero_le _) rfl) a n c us rfl h1 ?qc2 h3 ?qc4 ?qc5 ?qc6 ?_)
    case qc2=>intro j u hj;exact Lib.cell?_alloc_some _ (h2 j u hj)
    case qc4=>unfold maxLen;omega
    case qc5=>exact Nat.le_trans (Nat.mul_le_mul (show 0+n≤2000000 by omega) hb) (by decide)
    case qc6=>simp
    intro v' w1 hown hgrow hnil
    go_wp2
    go_ret
    refine ⟨v',rfl,by simpa using hown, ?_⟩
    exact ((Below.refl _ W).alloc (Nat.le_refl _) _).grown hgrow (by simp) (by intro k hk;simp [Value.ownBlock] at hk;omega)
theorem c145 (rows:List (List V)) (hr:rows.length≤2000000):FnP Tryz.prog G 145 0 [] [.sl 2 rows] (fun r o=>r=.own 0 rows.length∧o=[.arr 89 2 rows]):=cloneOwn (by kernel_rfl) m145 rows hr
end Go.Proofs.YtfepdcpidkjklaaGreatDoor.W
namespace Go.Proofs.YtfepdcpidkjklaaGreatDoor.W
open Go Go.RowKit Go.Proofs Go.Proofs.YtfepdcpidkjklaaGreatDoor.VL Go.Proofs.YtfepdcpidkjklaaGreatDoor.M
attribute [local congr] optK_congr guardK_congr condK_congr runT_congr runD_congr wpI_congr CallV_congr LoopI_congr pureK_congr effK_congr calK_congr stepV_congr doV_congr exN_congr exB_congr retF_congr retQ_congr gK_congr condW_congr ldK_congr stoK_congr
attribute [local go_sem] argL_cons argL_nil argH_nil argH_cons chH_getH wpI_seq wpI_reg wpI_drw wpI_ret cond_k condW_t condW_f wpI_skip wpI_block wpI_exit wpI_loop exN_n exN_r exN_e exB_n exB_r exB_h exB_m runT_k kT_e runT_nil runD_k kD_e runD_nil step_u step_k gK_t gK_f do_mv do_bino bo_add bo_sub bo_mul bo_subu bo_quo bo_rem bo_xor bo_eql bo_neq bo_lss bo_leq bo_gtr bo_geq bo_cat bo_eqs bo_nes do_pick do_call do_cal calK_f do_box do_alloc do_ldk ldK_s do_stok stoK_s do_fad do_nilc do_not do_neg do_len do_lens do_ext do_eqs do_beq do_isn do_cvi do_sls do_idx do_mn do_mx do_build do_mkf do_s2b do_b2s do_slv do_iad do_bsl do_mks do_app ev_t ev_c app_some app_none
attribute [local go_sem] List.nil_append List.cons_append List.append_nil getL_hit getL_miss getH_nil getH_hit getH_miss nm_eq ne_eq Nat.reduceEqDiff not_false_eq_true Nat.reduceAdd Nat.add_zero Nat.zero_add if_true if_false ite_true ite_false pureK_s effK_s optK_s gdV_t gdV_f gdV_s pick_b ge_iff_le gt_iff_lt cond_true cond_false fresh_k cells_agg cells_int cells_bool cells_str cells_own cells_sl cells_nils ld_pv ld_pa ld_ip ldVar_t ldVar_f ldArr_t ldArr_f ldRow_t ldRow_f ldA_s ld1_s fad_pv fad_pa fad_ip nilc_pv nilc_pa nilc_ip not_b neg_i cvi_i ext_t retF_n retF_r
attribute [local go_sem] resV_k rvs_nil rvs_t rvs_c fstO_s consO_s resK_s resL_1 resL_2 resL_3 resL_4  Option.some.injEq List.map_cons List.map_nil List.all_cons List.all_nil Bool.and_true Bool.and_self Bool.not_true Bool.not_false Option.map_some Option.map_none sls_s slsG_s loV_n loV_i hiV_n hiV_i idx_s mn_i mx_i s2b_s b2s_s bytO_s bytes_nil bytes_cons conB_s slv_sl slv_own slv_nils slvG_s slvN_s slvO_s iad_sl iadG_map take_map drop_map List.length_map iad_own iad_view iadO_a iadW_a mks_i rowO_nils rowO_sl rowO_own rowA_a eq_self appG_nils appG_own appO_a guardP_T mapA_s bld_nil mkf_nil bldF_e fill_nil fill_cons mkf_e lens_s len_nils len_sl len_own len_view isn_nile isn_erre List.getElem?_cons_zero List.getElem?_cons_succ List.length_cons List.length_nil decide_true decide_false Int.toNat_natCast Int.cast_ofNat_Int Int.reduceLT Int.reduceLE Int.reduceEq Int.reduceAdd Int.reduceSub Int.reduceMul Int.reduceNeg Int.reduceToNat List.getD_cons_zero List.getD_cons_succ not_true_eq_false not_false_eq_true Bool.false_eq_true Bool.true_eq_false reduceCtorEq
attribute [local go_sem] E.row Pc.row Pair.row Part.row Strm.row Flw.row Pk.row Door.row Conv.row World.row Ev.row rdV E.eta Pc.eta Pair.eta Part.eta Strm.eta Pk.eta Flw.eta Conv.eta Door.eta World.eta Ev.eta
attribute [local go_sem] sub_ok st_pv st_pa stVar_v stArr_a Nat.le_refl List.drop_zero List.drop_succ_cons List.take_succ_cons List.take_zero setR Nat.reduceLeDiff
attribute [local go_sem] wk_bot wk2_bot wk1_bot wk_undef wk_tup_e wk2_agg_e wk_agg_e wk1_fn_e wk2_fn_e wk_fn_e wkl_nil wkl_cons wkh_var_e wkh_arr_e wkh_fresh_e wkh_dead_v wkh_dead_a wkh_dead_d wk0_undef wk0_int wk0_bool wk0_str wk0_nils wk0_nils_sl wk0_nilp wk0_nile wk0_erre wk0_sl wk0_iptr wk0_own wk0_view wk0_pv wk0_pa fzA_a fzW_a fzP_v wk0_own_sl wk0_view_sl wk0_pv_iptr WkS_nil WkS_cons WkN_nil WkN_cons nonB_nil nonB_cons getN_nil getN_hit getN_miss pinOk_0 pinOk_s and_true true_and and_self
attribute [local go_sem] bot_int one_int unt_int clo_int bot_bool one_bool unt_bool clo_bool bot_str one_str unt_str clo_str bot_nils one_nils unt_nils clo_nils bot_nilp one_nilp unt_nilp clo_nilp bot_nile one_nile unt_nile clo_nile bot_erre one_erre unt_erre clo_erre bot_raw one_raw unt_raw clo_raw bot_sl one_sl unt_sl clo_sl bot_own one_own unt_own clo_own bot_view one_view unt_view clo_view bot_pv one_pv unt_pv clo_pv bot_pa one_pa unt_pa clo_pa bot_iptr one_iptr unt_iptr clo_iptr unt_agg unt_fn one_fn
attribute [local go_sem] rn_tup rn_agg rn2_agg rn_fn rn2_fn rnfn1 rn_bot rn2_bot rn1_bot rn0_int rn0_bool rn0_str rn0_nils rn0_nilp rn0_nile rn0_erre rn0_sl rn0_iptr rn0_own rn0_view rn0_pv rn0_pa hrn_var hrn_arr hrn_dead outU_nil outU_cons deads_nil deads_cons bk_ge bk_lt nsF_0 nsF_s chH_0 chH_s chH_n newN_e andB_s eqR_nil eqR_i eqR_b eqR_s mapX_f mapX_t eqs_a beq_f beq_t live_arr live_var nsl_nil nsl_cons Nat.reduceMul Nat.reduceLT Nat.zero_le Nat.not_lt_zero
attribute [local go_sem] mV lD lA fD bN eX oP nP sR i0 s0
theorem endRead_eq {t:B} {a p:Int} (h:E.text ⟨a,p⟩=t) (h1:E.any ⟨a,p⟩=true):endRead t=some ⟨a,p⟩:=by rw [← h];exact endRead_text h1
def portAt (t:B) (i:Nat):Int:=if i≤2 then 0 else if i=3 then dig (t.getD 2 0) else 10 * dig (t.getD 2 0)+dig (t.getD 3 0)
theorem ends_dig:∀ e∈ends,dig (e.text.getD 0 0)=e.a∧portAt e.text e.text.length=e.p:=by decide
theorem dig_rng (b:UInt8) : -1≤dig b∧dig b≤9:=by
  unfold dig figB
  split
  · rename_i h
    simp only [UInt8.le_iff_toNat_le,Bool.and_eq_true,decide_eq_true_eq] at h
    have h1:(48:UInt8).toNat=48:=rfl
    have h3:(57:UInt8).toNat=57:=rfl
    omega
  · omega
def ic158:IC:=sR [oP 2 (.alloc 28 [i0,i0]),oP 3 (.mv (.c (.bool false)))] (sR [mV 7 0,oP 8 (.lens (.t 7)),mV 4 8] (.seq (sR [mV 9 4,oP 10 (.call 68 [.t 9,.c (.int .i64 3),.c (.int .i64 4)]),oP 11 (.un .not (.t 10))] (.cond (.t 11) (sR [oP 12 (.build [i0,i0] []),nP (.sto 2 (.t 2) (.t 12)),oP 3 (.mv (.c (.bool false)))] .ret) .skip)) (sR [mV 13 0,oP 14 (.idx (.t 13) (.c i0)),oP 15 (.call 167 [.t 14]),oP 16 (.build [i0,i0] [(0,(1,.t 15))]),oP 5 (.alloc 28 [i0,i0]),nP (.sto 2 (.t 5) (.t 16))] (.seq (sR [oP 6 (.mv (.c (.int .i64 2)))] (.block 0 (.loop (.seq (sR [mV 17 6,mV 18 4,bN 19 .lss 17 18] (.cond (.t 19) .skip (.exit 0))) (.seq (.block 1 (.drw [0,1,3,0,0,24,56,127,255,511] [(0,fD 22 1 5),(1,lD 23 1 22),(2,oP 24 (.bin .mul (.c (.int .i64 10)) (.t 23))),(3,mV 25 0),(4,mV 26 6),(5,oP 27 (.idx (.t 25) (.t 26))),(6,oP 28 (.call 167 [.t 27])),(7,bN 29 .add 24 28),(8,fD 30 1 5),(9,nP (.sto 1 (.t 30) (.t 29)))])) (.reg [mV 20 6,oP 21 (.bin .add (.t 20) (.c (.int .i64 1))),mV 6 21])))))) (.seq (sR [lA 31 2 5,oP 32 (.call 134 [.t 31]),mV 33 0,bN 34 .neq 32 33] (.cond (.t 34) (sR [oP 35 (.build [i0,i0] []),nP (.sto 2 (.t 2) (.t 35)),oP 3 (.mv (.c (.bool false)))] .ret) .skip)) (sR [lA 36 2 5,nP (.sto 2 (.t 2) (.t 36)),oP 3 (.mv (.c (.bool true)))] .ret))))))
theorem dg158:Dg Tryz.prog 158 Tryz.f158 ic158 [(.cell 2 2 true),(.t 3)]:=⟨Tryz.func158,by kernel_rfl,by kernel_rfl⟩
theorem c158 (t:B) (hl:t.length≤2000000:=by omega):FnR Tryz.prog G 158 [.str t] (rdV (endRead t)):=by
  refine mF dg158 Tryz.ntmps158 ?_
  have hlen:∀ e,endRead t=some e→3≤t.length∧t.length≤4:=fun e he=>by
    obtain ⟨h1,h2⟩:=endRead_some he
    have:=text_len h1
    rw [h2] at this
    split at this<;>omega
  simp only [ic158,go_sem]
  refine callR (c68 ..) rfl rfl ?_
  simp only [go_sem]
  cases hw:within t.length 3 4<;>simp only [go_sem]
  · have:endRead t=none:=by
      cases h:endRead t with
      | none=>rfl
      | some e =>
        have:=hlen e h
        have:within t.length 3 4=true:=M.within_iff.2 (by omega)
        rw [hw] at this;cases this
    simp [this,rdV,go_sem,E.zero]
  · rw [M.within_iff] at hw
    with_reducible repeat' (first|refine br ?_ ?_<;>intro h e<;>(try simp only [e,go_sem])<;>clear e|rw [i64w (by omega)]|refine sd ?_<;>try simp only [go_sem]|(first|refine cr (c167 ..) ?_)<;>try simp only [go_sem]|fail)
    refine loopN (fun i:Nat=>⟨getL [(0,.str t),(2,.pv 1002 0),(4,.int .i64 t.length),(5,.pv 1005 0),(6,.int .i64 (i:Int))],getH [(1002,.var 28 [.int .i64 0,.int .i64 0]),(1005,.var 28 [.int .i64 (dig (t.getD 0 0)),.int .i64 (portAt t i)])]⟩) (fun i=>t.length - i) (fun i=>2≤i∧i≤t.length) 2 (leQ []) ⟨by omega,by omega⟩ ?_
    intro i ⟨hi,hil⟩
    simp only [go_sem]
    have dr:=dig_rng (t.getD i 0)
    have dr2:=dig_rng (t.getD 2 0)
    have pi:i<t.length → -10≤portAt t i∧portAt t i≤9∧portAt t (i+1)=10 * portAt t i+dig (t.getD i 0):=fun h=>by
      have:i=2∨i=3:=by omega
      rcases this with rfl|rfl<;>simp [portAt] at dr dr2 ⊢<;>omega
    by_cases h:(i:Int)<t.length
    · simp only [eq_true h,go_sem]
      obtain ⟨p1,p2,p3⟩:=pi (by omega)
      with_reducible repeat' (first|refine br ?_ ?_<;>intro h e<;>(try simp only [e,go_sem])<;>clear e|rw [i64w (by omega)]|refine sd ?_<;>try simp only [go_sem]|(first|refine cr (c167 ..) ?_)<;>try simp only [go_sem]|fail)
      refine ⟨i+1,by omega,⟨by omega,by omega⟩,(leQ [])⟩
    · simp only [eq_false h,go_sem]
      have:i=t.length:=by omega
      subst this
      refine callR (c134 ..) rfl rfl ?_
      simp only [go_sem]
      with_reducible repeat' (first|refine br ?_ ?_<;>intro h e<;>(try simp only [e,go_sem])<;>clear e|rw [i64w (by omega)]|refine sd ?_<;>try simp only [go_sem]|fail)
      · have ha:E.any ⟨dig (t.getD 0 0),portAt t t.length⟩=true:=by
          cases hc:E.any ⟨dig (t.getD 0 0),portAt t t.length⟩ with
          | true=>rfl
          | false =>
            exfalso
            simp only [E.text,hc] at h
            rw [← h] at hw
            simp at hw
        simp [endRead_eq h ha,rdV,go_sem]
      · have hn:endRead t=none:=by
          cases hr:endRead t with
          | none=>rfl
          | some e =>
            exfalso
            obtain ⟨e1,e2⟩:=endRead_some hr
            obtain ⟨d1,d2⟩:=ends_dig e (E.any_iff.1 e1)
            rw [e2] at d1 d2
            rw [d1,d2] at h
            exact h e2
        simp [hn,rdV,go_sem,E.zero]
def ic163:IC:=sR [oP 2 (.alloc 28 [i0,i0]),oP 3 (.mv (.c (.bool false)))] (sR [mV 13 0,oP 14 (.call 162 [.t 13,.c (.str [58])]),mV 12 14,eX 15 12 0,eX 16 12 1,eX 17 12 2,mV 4 15,mV 5 16,mV 6 17] (sR [mV 19 4,oP 20 (.call 171 [.t 19]),mV 18 20,eX 21 18 0,eX 22 18 1,mV 7 21,mV 8 22] (sR [mV 24 5,oP 25 (.call 171 [.t 24]),mV 23 25,eX 26 23 0,eX 27 23 1,mV 9 26,mV 10 27] (sR [mV 28 7,mV 29 9,oP 30 (.build [i0,i0] [(0,(1,.t 28)),(1,(1,.t 29))]),oP 11 (.alloc 28 [i0,i0]),nP (.sto 2 (.t 11) (.t 30))] (.seq (sR [mV 31 8,oP 32 (.isn true (.t 31)),mV 33 32,⟨some 34,some (33,false),.mv (.t 10)⟩,⟨some 35,some (33,false),.isn true (.t 34)⟩,oP 36 (.pick (.t 33) (.c (.bool true)) (.t 35)),mV 37 36,⟨some 38,some (37,false),.ld 2 true (.t 11)⟩,⟨some 39,some (37,false),.call 72 [.t 38]⟩,⟨some 40,some (37,false),.un .not (.t 39)⟩,oP 41 (.pick (.t 37) (.c (.bool true)) (.t 40)),mV 42 41,⟨some 43,some (42,false),.ld 2 true (.t 11)⟩,⟨some 44,some (42,false),.call 164 [.t 43]⟩,⟨some 45,some (42,false),.mv (.t 0)⟩,⟨some 46,some (42,false),.bin .neq (.t 44) (.t 45)⟩,oP 47 (.pick (.t 42) (.c (.bool true)) (.t 46))] (.cond (.t 47) (sR [oP 48 (.build [i0,i0] []),nP (.sto 2 (.t 2) (.t 48)),oP 3 (.mv (.c (.bool false)))] .ret) .skip)) (sR [lA 49 2 11,nP (.sto 2 (.t 2) (.t 49)),oP 3 (.mv (.c (.bool true)))] .ret))))))
theorem dg163:Dg Tryz.prog 163 Tryz.f163 ic163 [(.cell 2 2 true),(.t 3)]:=⟨Tryz.func163,by kernel_rfl,by kernel_rfl⟩
theorem c163 (t:B) (hl:t.length≤2000000:=by omega):FnR Tryz.prog G 163 [.str t] (rdV (endRead t)):=by
  refine mF dg163 Tryz.ntmps163 ?_
  simp only [ic163,go_sem]
  refine callR (c162 t 58) rfl rfl ?_
  simp only [go_sem]
  have hcl:(cutB t 58).1.length≤2000000∧(cutB t 58).2.1.length≤2000000:=by
    have:=cutB_len t 58
    omega
  have hr:∀ e,endRead t=some e→(cutB t 58).1=dec e.a∧(cutB t 58).2.1=dec e.p∧(0≤e.a∧e.a<100)∧(0≤e.p∧e.p<100):=fun e he=>by
    obtain ⟨h1,h2,h3⟩:=endRead_cut he
    rw [h1];exact ⟨rfl,rfl,h2,h3⟩
  refine callV0 (c171 _ (by omega)) rfl (fun r o hp=>⟨by rcases hp.2 with ⟨n,rfl,_⟩|⟨n,rfl,_⟩<;>rfl,hp.1⟩) (fun r1 hp1=>?_)
  rcases hp1.2 with ⟨n1,rfl,hn1⟩|⟨n1,rfl,hn1⟩<;>simp only [go_sem] <;>
    (refine callV0 (c171 _ (by omega)) rfl (fun r o hp=>⟨by rcases hp.2 with ⟨n,rfl,_⟩|⟨n,rfl,_⟩<;>rfl,hp.1⟩) (fun r2 hp2=>?_)
     rcases hp2.2 with ⟨n2,rfl,hn2⟩|⟨n2,rfl,hn2⟩<;>simp only [go_sem])
  · have hx:∀ e,endRead t=some e→n1=e.a∧n2=e.p:=fun e he=>by
      obtain ⟨a1,a2,a3,a4⟩:=hr e he
      exact ⟨hn1 _ a3.1 a3.2 a1,hn2 _ a4.1 a4.2 a2⟩
    with_reducible repeat' (first|refine br ?_ ?_<;>intro h e<;>(try simp only [e,go_sem])<;>clear e|rw [i64w (by omega)]|refine sd ?_<;>try simp only [go_sem]|(first|refine cr (c72 ..) ?_|refine cr (c164 ..) ?_)<;>try simp only [go_sem]|fail)
    · have hn:endRead t=none:=by
        cases hr2:endRead t with
        | none=>rfl
        | some e =>
          exfalso
          obtain ⟨rfl,rfl⟩:=hx e hr2
          rw [(endRead_some hr2).1] at h
          cases h
      simp [hn,rdV,go_sem,E.zero]
    · rename_i ha
      simp [endRead_eq h (by simpa using ha),rdV,go_sem]
    · have hn:endRead t=none:=by
        cases hr2:endRead t with
        | none=>rfl
        | some e =>
          exfalso
          obtain ⟨rfl,rfl⟩:=hx e hr2
          exact h (endRead_some hr2).2
      simp [hn,rdV,go_sem,E.zero]
  all_goals
    have hn:endRead t=none:=by
      cases hr2:endRead t with
      | none=>rfl
      | some e =>
        exfalso
        obtain ⟨a1,a2,a3,a4⟩:=hr e hr2
        first|exact hn1 _ a3.1 a3.2 a1|exact hn2 _ a4.1 a4.2 a2
    simp [hn,rdV,go_sem,E.zero]
def ic143:IC:=sR [oP 2 (.alloc 28 [i0,i0]),oP 3 (.mv (.c i0))] (.seq (sR [oP 4 (.mv (.c (.int .i64 5)))] (.block 0 (.loop (.seq (sR [mV 7 4,oP 8 (.bin .leq (.t 7) (.c (.int .i64 6))),mV 9 8,⟨some 10,some (9,true),.mv (.t 4)⟩,⟨some 11,some (9,true),.mv (.t 0)⟩,⟨some 12,some (9,true),.lens (.t 11)⟩,⟨some 13,some (9,true),.bin .leq (.t 10) (.t 12)⟩,oP 14 (.pick (.t 9) (.t 13) (.c (.bool false)))] (.cond (.t 14) .skip (.exit 0))) (.seq (.block 1 (sR [mV 17 0,oP 18 (.idx (.t 17) (.c i0)),oP 19 (.bin .eql (.t 18) (.c (.int .u8 64))),mV 20 19,⟨some 21,some (20,true),.mv (.t 0)⟩,⟨some 22,some (20,true),.mv (.t 4)⟩,⟨some 23,some (20,true),.bin .sub (.t 22) (.c (.int .i64 1))⟩,⟨some 24,some (20,true),.idx (.t 21) (.t 23)⟩,⟨some 25,some (20,true),.bin .eql (.t 24) (.c (.int .u8 59))⟩,oP 26 (.pick (.t 20) (.t 25) (.c (.bool false)))] (.cond (.t 26) (sR [mV 28 0,mV 29 4,oP 30 (.bin .sub (.t 29) (.c (.int .i64 1))),oP 31 (.sls (.t 28) (some (.c (.int .i64 1))) (some (.t 30))),oP 32 (.call 158 [.t 31]),mV 27 32,eX 33 27 0,eX 34 27 1,oP 5 (.alloc 28 [i0,i0]),nP (.sto 2 (.t 5) (.t 33)),mV 6 34] (sR [mV 35 6] (.cond (.t 35) (sR [lA 36 2 5,mV 37 4,nP (.sto 2 (.t 2) (.t 36)),mV 3 37] .ret) .skip))) .skip))) (.reg [mV 15 4,oP 16 (.bin .add (.t 15) (.c (.int .i64 1))),mV 4 16])))))) (sR [oP 38 (.build [i0,i0] []),nP (.sto 2 (.t 2) (.t 38)),oP 3 (.mv (.c i0))] .ret))
theorem dg143:Dg Tryz.prog 143 Tryz.f143 ic143 [(.cell 2 2 true),(.t 3)]:=⟨Tryz.func143,by kernel_rfl,by kernel_rfl⟩
theorem nameAt_5 {s:B} {e:E} (h:nameAt s=some e):∃ k,(k=3∨k=4)∧e.text.length=k∧s.getD 0 0=64∧s.getD (k+1) 0=59∧(s.take (k+1)).drop 1=e.text∧k+2≤s.length:=by
  obtain ⟨h1,r,rfl⟩:=nameAt_some h
  have hl:=text_len h1
  refine ⟨e.text.length,by rw [hl];split<;>simp,rfl,by simp [name], ?_, ?_, ?_⟩
  · simp [name,List.getD]
  · simp [name]
  · simp [name]
theorem nameAt_of {s:B} {e:E} {k:Nat} (h0:s.getD 0 0=64) (h1:s.getD (k+1) 0=59) (h2:endRead ((s.take (k+1)).drop 1)=some e) (hl:k+2≤s.length):nameAt s=some e:=by
  obtain ⟨c,r,rfl⟩:∃ c r,s=c :: r:=by cases s with|nil=>simp at hl|cons c r=>exact ⟨c,r,rfl⟩
  obtain ⟨a1,a2⟩:=endRead_some h2
  simp only [List.getD_cons_zero] at h0
  subst h0
  simp only [List.getD_cons_succ,List.length_cons,List.take_succ_cons,List.drop_succ_cons,List.drop_zero] at h1 h2 hl a2
  have:(64 :: r:B)=name e++r.drop (k+1):=by
    simp only [name,a2,List.cons_append,List.cons.injEq,true_and,List.append_assoc]
    have hk:r[k]?=some 59:=by
      have:k<r.length:=by omega
      simp [List.getD,this] at h1 ⊢
      exact h1
    conv=>lhs;rw [← List.take_append_drop k r]
    congr 1
    rw [List.drop_eq_getElem_cons (show k<r.length by omega)]
    simp [List.getElem?_eq_getElem (show k<r.length by omega)] at hk
    simp [hk]
  rw [this]
  exact nameAt_name a1 _
theorem c143 (s:B) (hs:s≠[]) (hl:s.length≤2000000:=by omega):FnR Tryz.prog G 143 [.str s] (.tup [.agg [.int .i64 ((nameAt s).getD .zero).a,.int .i64 ((nameAt s).getD .zero).p],.int .i64 (match nameAt s with|some e=>(name e).length|none=>0)]):=by
  refine mF dg143 Tryz.ntmps143 ?_
  simp only [ic143,go_sem]
  have hp:1≤s.length:=List.length_pos_iff.2 hs
  refine loopN (fun i:Nat=>⟨getL [(0,.str s),(2,.pv 1002 0),(4,.int .i64 (i:Int))],getH [(1002,.var 28 [.int .i64 0,.int .i64 0])]⟩) (fun i=>7 - i) (fun i=>5≤i∧i≤7∧∀ e,nameAt s=some e→i≤e.text.length+2) 5 (leQ []) ⟨by omega,by omega,fun e he=>by obtain ⟨k,h1,h2,_⟩:=nameAt_5 he;omega⟩ ?_
  intro i ⟨h5,h7,hn⟩
  simp only [go_sem]
  obtain ⟨k,rfl⟩:∃ k,i=k+2:=⟨i - 2,by omega⟩
  have e2:(((k+2:Nat):Int) - 1).toNat=k+1:=by omega
  with_reducible repeat' (first|refine br ?_ ?_<;>intro h e<;>(try simp only [e,go_sem])<;>clear e|rw [i64w (by omega)]|refine sd ?_<;>try simp only [go_sem]|fail)
  · rename_i g0
    simp only [e2] at *
    refine callR (c158 _ (by simp;omega)) rfl rfl ?_
    simp only [go_sem]
    have g1:s.getD 0 0=64:=UInt8.toNat_inj.1 (Int.ofNat_inj.1 g0)
    have g2:s.getD (k+1) 0=59:=UInt8.toNat_inj.1 (Int.ofNat_inj.1 h)
    have hk:k+2≤s.length:=by omega
    cases hr:endRead ((s.take (k+1)).drop 1) with
    | some e =>
      have he:=nameAt_of g1 g2 hr hk
      obtain ⟨a1,a2⟩:=endRead_some hr
      simp only [go_sem,Option.isSome_some,he,Option.getD_some]
      have:(name e).length=k+2:=by rw [name];simp [a2];omega
      simp [this]
    | none =>
      simp only [go_sem,Option.isSome_none]
      with_reducible repeat' (first|refine br ?_ ?_<;>intro h e<;>(try simp only [e,go_sem])<;>clear e|rw [i64w (by omega)]|refine sd ?_<;>try simp only [go_sem]|fail)
      refine ⟨k+3,by omega,⟨by omega,by omega,fun e he=>?_⟩,(leQ [])⟩
      obtain ⟨k',b1,b2,b3,b4,b5,b6⟩:=nameAt_5 he
      have:=hn e he
      rcases Nat.lt_or_ge k k' with h|h
      · omega
      · exfalso
        have:k'=k:=by omega
        subst this
        rw [b5,endRead_text (nameAt_some he).1] at hr
        cases hr
  · refine ⟨k+3,by omega,⟨by omega,by omega,fun e he=>?_⟩,(leQ [])⟩
    obtain ⟨k',b1,b2,b3,b4,b5,b6⟩:=nameAt_5 he
    have:=hn e he
    rcases Nat.lt_or_ge k k' with h|h
    · omega
    · exfalso
      have:k'=k:=by omega
      subst this
      rename_i hq
      rw [e2,b4] at hq
      exact absurd rfl hq
  · refine ⟨k+3,by omega,⟨by omega,by omega,fun e he=>?_⟩,(leQ [])⟩
    obtain ⟨k',b1,b2,b3,b4,b5,b6⟩:=nameAt_5 he
    rw [b3] at h
    exact absurd rfl h
  · have:nameAt s=none:=by
      cases hq:nameAt s with
      | none=>rfl
      | some e =>
        obtain ⟨k',b1,b2,b3,b4,b5,b6⟩:=nameAt_5 hq
        have:=hn e hq
        omega
    simp [this,E.zero]
  · have:nameAt s=none:=by
      cases hq:nameAt s with
      | none=>rfl
      | some e =>
        obtain ⟨k',b1,b2,b3,b4,b5,b6⟩:=nameAt_5 hq
        have:=hn e hq
        omega
    simp [this,E.zero]
def ic149:IC:=sR [oP 2 (.alloc 28 [i0,i0]),oP 3 (.mv (.c (.bool false)))] (sR [mV 10 0,oP 11 (.call 162 [.t 10,.c (.str [59])]),mV 9 11,eX 12 9 0,eX 13 9 1,eX 14 9 2,mV 4 12,mV 5 13,mV 6 14] (sR [mV 16 4,oP 17 (.call 163 [.t 16]),mV 15 17,eX 18 15 0,eX 19 15 1,oP 7 (.alloc 28 [i0,i0]),nP (.sto 2 (.t 7) (.t 18)),mV 8 19] (sR [lA 20 2 7,mV 21 6,mV 22 21,⟨some 23,some (22,true),.mv (.t 8)⟩,oP 24 (.pick (.t 22) (.t 23) (.c (.bool false))),nP (.sto 2 (.t 2) (.t 20)),mV 3 24] .ret)))
theorem dg149:Dg Tryz.prog 149 Tryz.f149 ic149 [(.cell 2 2 true),(.t 3)]:=⟨Tryz.func149,by kernel_rfl,by kernel_rfl⟩
def rdN (s:B):Option E:=if 59∈s then endRead (s.takeWhile fun b=>decide (b≠59)) else none
theorem c149 (s:B) (hl:s.length≤2000000:=by omega):FnR Tryz.prog G 149 [.str s] (.tup [.agg [.int .i64 ((endRead (cutB s 59).1).getD .zero).a,.int .i64 ((endRead (cutB s 59).1).getD .zero).p],.bool (rdN s).isSome]):=by
  refine mF dg149 Tryz.ntmps149 ?_
  simp only [ic149,go_sem]
  refine callR (c162 s 59) rfl rfl ?_
  simp only [go_sem]
  have:=cutB_len s 59
  refine callR (c163 (cutB s 59).1 (by omega)) rfl rfl ?_
  simp only [go_sem]
  with_reducible repeat' (first|refine br ?_ ?_<;>intro h e<;>(try simp only [e,go_sem])<;>clear e|rw [i64w (by omega)]|refine sd ?_<;>try simp only [go_sem]|fail)
  all_goals (simp only [cutB] at *;split at h<;>rename_i hm<;>simp_all [rdN])
def ic131:IC:=sR [oP 2 (.alloc 94 [i0,.bool false,i0,i0])] (.seq (sR [mV 8 0,oP 9 (.call 148 [.t 8,.c (.str [64])]),mV 7 9,eX 10 7 0,eX 11 7 1,mV 3 10,mV 4 11] (sR [mV 12 4] (.cond (.t 12) (sR [mV 14 3,oP 15 (.call 149 [.t 14]),mV 13 15,eX 16 13 0,eX 17 13 1,oP 5 (.alloc 28 [i0,i0]),nP (.sto 2 (.t 5) (.t 16)),mV 6 17] (sR [mV 18 6] (.cond (.t 18) (.seq (.drw [0,1,3,0,15,31] [(0,lA 19 2 5),(1,oP 20 (.call 150 [.t 19])),(2,oP 21 (.lens (.t 20))),(3,lA 22 2 5),(4,oP 23 (.build [i0,.bool false,i0,i0] [(0,(1,.t 21)),(1,(1,.c (.bool true))),(2,(2,.t 22))])),(5,nP (.sto 4 (.t 2) (.t 23)))]) .ret) .skip))) .skip))) (sR [oP 24 (.build [i0,.bool false,i0,i0] [(0,(1,.c (.int .i64 1)))]),nP (.sto 4 (.t 2) (.t 24))] .ret))
theorem dg131:Dg Tryz.prog 131 Tryz.f131 ic131 [(.cell 2 4 true)]:=⟨Tryz.func131,by kernel_rfl,by kernel_rfl⟩
theorem c131 (s:B) (hs:s≠[]) (hl:s.length≤2000000:=by omega):FnR Tryz.prog G 131 [.str s] (.agg [.int .i64 (pc1 s).size,.bool (pc1 s).named,.int .i64 (pc1 s).e.a,.int .i64 (pc1 s).e.p]):=by
  refine mF dg131 Tryz.ntmps131 ?_
  simp only [ic131,go_sem]
  obtain ⟨c,r,rfl⟩:∃ c r,s=c :: r:=by cases s with|nil=>exact absurd rfl hs|cons c r=>exact ⟨c,r,rfl⟩
  refine callR (c148 _ _) rfl rfl ?_
  simp only [go_sem]
  simp only [List.length_cons] at hl
  have key:nameAt (c :: r)=if c=64 then rdN r else none:=by
    simp only [nameAt,rdN]
    by_cases hc:c=64<;>by_cases h59:59∈r<;>simp [hc,h59]
  by_cases hc:c=64
  · subst hc
    have e1:List.isPrefixOf [64] (64 :: r:B)=true:=by simp [List.isPrefixOf]
    simp only [e1,go_sem]
    refine callR (c149 r) rfl rfl ?_
    simp only [go_sem]
    rw [if_pos rfl] at key
    cases hn:rdN r with
    | some e =>
      rw [hn] at key
      have h59:59∈r:=by
        by_cases h:59∈r
        · exact h
        · simp [rdN,h] at hn
      have he:endRead (cutB r 59).1=some e:=by
        simp only [rdN,if_pos h59] at hn
        simp only [cutB,if_pos h59];exact hn
      simp only [go_sem,Option.isSome_some,he,Option.getD_some]
      with_reducible repeat' (first|refine br ?_ ?_<;>intro h e<;>(try simp only [e,go_sem])<;>clear e|rw [i64w (by omega)]|refine sd ?_<;>try simp only [go_sem]|(first|refine cr (c150 ..) ?_)<;>try simp only [go_sem]|fail)
      simp [pc1,key]
    | none =>
      rw [hn] at key
      simp only [go_sem,Option.isSome_none]
      simp [pc1,key,E.zero]
  · have e1:List.isPrefixOf [64] (c :: r:B)=false:=by simp [List.isPrefixOf];exact fun h=>hc h.symm
    rw [if_neg hc] at key
    simp only [e1,go_sem]
    simp [pc1,key,E.zero]
def ic106:IC:=sR [oP 2 (.mv (.c .nils))] (sR [oP 6 (.bsl 94 4 []),mV 3 6] (.seq (sR [mV 7 0,mV 8 0,oP 9 (.lens (.t 8)),mV 10 0,oP 11 (.call 76 [.t 10]),bN 12 .sub 9 11,oP 13 (.sls (.t 7) none (some (.t 12))),mV 4 13] (.block 0 (.loop (.seq (sR [mV 14 4,oP 15 (.bin .neq (.t 14) (.c s0))] (.cond (.t 15) .skip (.exit 0))) (.block 1 (sR [mV 16 4,oP 17 (.call 131 [.t 16]),oP 5 (.alloc 94 [i0,.bool false,i0,i0]),nP (.sto 4 (.t 5) (.t 17))] (sR [mV 18 3,lA 19 4 5,oP 20 (.bsl 94 4 [.t 19]),oP 21 (.app 94 4 (.t 18) (.t 20)),mV 3 21] (.reg [mV 22 4,fD 23 0 5,lD 24 1 23,oP 25 (.sls (.t 22) (some (.t 24)) none),mV 4 25])))))))) (sR [mV 26 3,oP 27 (.call 132 [.t 26]),mV 2 27] .ret)))
theorem dg106:Dg Tryz.prog 106 Tryz.f106 ic106 [(.t 2)]:=⟨Tryz.func106,by kernel_rfl,by kernel_rfl⟩
theorem c106 (t:B) (hl:t.length≤2000000:=by omega):FnR Tryz.prog G 106 [.str t] (.sl 4 ((pieces t).map Pc.row)):=by
  refine mF dg106 Tryz.ntmps106 ?_
  simp only [ic106,go_sem]
  have hh:=held_le t
  with_reducible repeat' (first|refine br ?_ ?_<;>intro h e<;>(try simp only [e,go_sem])<;>clear e|rw [i64w (by omega)]|refine sd ?_<;>try simp only [go_sem]|(first|refine cr (c76 ..) ?_)<;>try simp only [go_sem]|fail)
  have e0:((t.take ((t.length:Int) - (held t:Int)).toNat).drop 0)=body t:=by
    rw [List.drop_zero];unfold body;congr 1;omega
  refine loopN (fun a:List Pc × B=>⟨getL [(3,.own 1006 a.1.length),(4,.str a.2)],getH [(1006,.arr 94 4 (a.1.map Pc.row))]⟩) (fun a=>a.2.length) (fun a=>a.1++pcs a.2=pieces t∧a.1.length+a.2.length≤t.length) ([],body t)
    (leN [] (by simp only [go_sem];first|done|exact e0.symm) (by simp only [go_sem];first|done|rfl) (by simp [getN]) (by simp only [go_sem])) ⟨by rw [pieces_eq];rfl,by have:=body_len t;simp;omega⟩ ?_
  intro ⟨acc,rest⟩ ⟨h1,h2⟩
  simp only [go_sem]
  simp only at h1 h2
  by_cases hr:rest=[]
  · subst hr
    simp only [go_sem]
    refine callF (c132 (acc.map Pc.row)) [1006] true (by simp only [go_sem];simp) (by simp only [List.mem_singleton];rintro c rfl;rfl) rfl (.inl rfl) ?_
    simp only [go_sem]
    rw [← h1,pcs_nil,List.append_nil]
  · simp only [eq_false hr,go_sem]
    refine callR (c131 rest hr) rfl rfl ?_
    simp only [go_sem]
    obtain ⟨p1,p2,p3⟩:=pc1_size hr
    with_reducible repeat' (first|refine br ?_ ?_<;>intro h e<;>(try simp only [e,go_sem])<;>clear e|rw [i64w (by omega)]|refine sd ?_<;>try simp only [go_sem]|fail)
    refine ⟨(acc++[pc1 rest],rest.drop (pc1 rest).size),by simp;omega,⟨?_,by simp;omega⟩,leN [(1006,1021)] ?_ ?_ (by simp [getN]) (by simp only [go_sem])⟩
    · rw [← h1,pcs_cons hr,List.append_assoc];rfl
    · simp only [go_sem];simp
    · simp only [go_sem];simp [Pc.row]
def ic124:IC:=sR [oP 2 (.mv (.c .nils))] (sR [oP 8 (.bsl 94 4 []),mV 3 8] (sR [mV 9 0,oP 10 (.lens (.t 9)),mV 11 0,oP 12 (.call 142 [.t 11]),bN 13 .sub 10 12,mV 4 13] (sR [oP 5 (.mv (.c i0))] (.seq (.block 0 (.loop (.seq (sR [mV 14 5,mV 15 4,bN 16 .lss 14 15] (.cond (.t 16) .skip (.exit 0))) (.block 1 (sR [mV 18 0,mV 19 5,mV 20 4,oP 21 (.sls (.t 18) (some (.t 19)) (some (.t 20))),oP 22 (.call 143 [.t 21]),mV 17 22,eX 23 17 0,eX 24 17 1,oP 6 (.alloc 28 [i0,i0]),nP (.sto 2 (.t 6) (.t 23)),mV 7 24] (.seq (sR [mV 25 7,oP 26 (.bin .gtr (.t 25) (.c i0))] (.cond (.t 26) (.reg [mV 27 3,mV 28 7,lA 29 2 6,oP 30 (.build [i0,.bool false,i0,i0] [(0,(1,.t 28)),(1,(1,.c (.bool true))),(2,(2,.t 29))]),oP 31 (.bsl 94 4 [.t 30]),oP 32 (.app 94 4 (.t 27) (.t 31)),mV 3 32]) (sR [oP 7 (.mv (.c (.int .i64 1)))] (.reg [mV 33 3,oP 34 (.build [i0,.bool false,i0,i0] [(0,(1,.c (.int .i64 1)))]),oP 35 (.bsl 94 4 [.t 34]),oP 36 (.app 94 4 (.t 33) (.t 35)),mV 3 36])))) (.reg [mV 37 5,mV 38 7,bN 39 .add 37 38,mV 5 39]))))))) (sR [mV 40 3,mV 2 40] .ret)))))
theorem dg124:Dg Tryz.prog 124 Tryz.f124 ic124 [(.t 2)]:=⟨Tryz.func124,by kernel_rfl,by kernel_rfl⟩
theorem c124 (t:B) (hl:t.length≤2000000:=by omega):FnR Tryz.prog G 124 [.str t] (.sl 4 ((pieces t).map Pc.row)):=by
  refine mF dg124 Tryz.ntmps124 ?_
  simp only [ic124,go_sem]
  have hh:=held_le t
  with_reducible repeat' (first|refine br ?_ ?_<;>intro h e<;>(try simp only [e,go_sem])<;>clear e|rw [i64w (by omega)]|refine sd ?_<;>try simp only [go_sem]|(first|refine cr (c142 ..) ?_)<;>try simp only [go_sem]|fail)
  have hb:body t=t.take (t.length - held t):=rfl
  have hbl:=body_len t
  refine loopN (fun a:List Pc × Nat=>⟨getL [(0,.str t),(3,.own 1008 a.1.length),(4,.int .i64 (body t).length),(5,.int .i64 (a.2:Int))],getH [(1008,.arr 94 4 (a.1.map Pc.row))]⟩) (fun a=>(body t).length - a.2) (fun a=>a.1++pcs ((body t).drop a.2)=pieces t∧a.1.length≤a.2∧a.2≤(body t).length) ([],0)
    (leN [] (by simp only [go_sem];first|done|omega) (by simp only [go_sem];first|done|rfl) (by simp [getN]) (by simp only [go_sem])) ⟨by rw [pieces_eq];rfl,by simp⟩ ?_
  intro ⟨acc,i⟩ ⟨h1,h2,h3⟩
  simp only at h1 h2 h3
  simp only [go_sem]
  by_cases hr:(i:Int)<(body t).length
  · simp only [eq_true hr,go_sem]
    with_reducible repeat' (first|refine br ?_ ?_<;>intro h e<;>(try simp only [e,go_sem])<;>clear e|rw [i64w (by omega)]|refine sd ?_<;>try simp only [go_sem]|fail)
    have e1:(t.take (body t).length).drop i=(body t).drop i:=by rw [hb];simp
    have hne:(body t).drop i≠[]:=by intro h;have:=congrArg List.length h;simp at this;omega
    simp only [e1]
    refine callR (c143 _ hne (by simp;omega)) rfl rfl ?_
    simp only [go_sem]
    obtain ⟨p1,p2,p3⟩:=pc1_size hne
    have hpc:=pcs_cons hne
    simp only [List.length_drop] at p2
    have hdrop:((body t).drop i).drop (pc1 ((body t).drop i)).size=(body t).drop (i+(pc1 ((body t).drop i)).size):=by simp
    rw [hdrop] at hpc
    generalize hg:pc1 ((body t).drop i)=q at *
    have hgen:(q.size=(match nameAt ((body t).drop i) with|some e=>(name e).length|none=>1))∧q=(match nameAt ((body t).drop i) with|some e=>⟨(name e).length,true,e⟩|none=>⟨1,false,.zero⟩):=by
      rw [← hg];unfold pc1;cases nameAt ((body t).drop i)<;>exact ⟨rfl,rfl⟩
    have hnn:∀ e,nameAt ((body t).drop i)=some e→1≤(name e).length:=fun e _=>by simp [name]
    cases hn:nameAt ((body t).drop i) with
    | none =>
      rw [hn] at hgen
      obtain ⟨hq1,hq2⟩:=hgen
      simp only at hq1 hq2
      simp only [go_sem]
      with_reducible repeat' (first|refine br ?_ ?_<;>intro h e<;>(try simp only [e,go_sem])<;>clear e|rw [i64w (by omega)]|refine sd ?_<;>try simp only [go_sem]|fail)
      refine ⟨(acc++[q],i+1),by simp;omega,⟨?_,by simp;omega,by simp;omega⟩,leN [(1008,1036)] ?_ ?_ (by simp [getN]) (by simp only [go_sem])⟩
      · rw [← h1,hpc,hq1,List.append_assoc];rfl
      · simp only [go_sem];simp
      · simp only [go_sem];simp [Pc.row,hq2,E.zero]
    | some e =>
      rw [hn] at hgen
      obtain ⟨hq1,hq2⟩:=hgen
      have hnl:=hnn e hn
      simp only at hq1 hq2
      simp only [go_sem,Option.getD_some]
      with_reducible repeat' (first|refine br ?_ ?_<;>intro h e<;>(try simp only [e,go_sem])<;>clear e|rw [i64w (by omega)]|refine sd ?_<;>try simp only [go_sem]|fail)
      · refine ⟨(acc++[q],i+(name e).length),by simp;omega,⟨?_,by simp;omega,by simp;omega⟩,leN [(1008,1032)] ?_ ?_ (by simp [getN]) (by simp only [go_sem])⟩
        · rw [← h1,hpc,hq1,List.append_assoc];rfl
        · simp only [go_sem];simp
        · simp only [go_sem];simp [Pc.row,hq2]
      · omega
  · simp only [eq_false hr,go_sem]
    have:i=(body t).length:=by omega
    subst this
    rw [← h1,List.drop_length,pcs_nil,List.append_nil]
    exact ⟨rfl,rfl⟩
def ic80:IC:=sR [oP 2 (.mv (.c .nils))] (.seq (sR [mV 3 0,oP 4 (.call 74 [.t 3]),oP 5 (.un .not (.t 4))] (.cond (.t 5) (sR [oP 2 (.mv (.c .nils))] .ret) .skip)) (sR [mV 6 0,oP 7 (.call 106 [.t 6]),mV 2 7] .ret))
theorem dg80:Dg Tryz.prog 80 Tryz.f80 ic80 [(.t 2)]:=⟨Tryz.func80,by kernel_rfl,by kernel_rfl⟩
theorem c80 (t:B) (hl:t.length≤2000000:=by omega):FnR Tryz.prog G 80 [.str t] (.sl 4 ((textPieces t).map Pc.row)):=by
  refine mF dg80 Tryz.ntmps80 ?_
  simp only [ic80,go_sem]
  with_reducible repeat' (first|refine br ?_ ?_<;>intro h e<;>(try simp only [e,go_sem])<;>clear e|rw [i64w (by omega)]|refine sd ?_<;>try simp only [go_sem]|(first|refine cr (c74 ..) ?_|refine cr (c106 ..) ?_)<;>try simp only [go_sem]|fail)
  all_goals simp [textPieces, *]
def ic109:IC:=sR [oP 2 (.mv (.c .nils))] (.seq (sR [mV 3 0,oP 4 (.call 69 [.t 3]),oP 5 (.un .not (.t 4))] (.cond (.t 5) (sR [oP 6 (.bsl 94 4 []),mV 2 6] .ret) .skip)) (sR [mV 7 0,oP 8 (.call 124 [.t 7]),mV 2 8] .ret))
theorem dg109:Dg Tryz.prog 109 Tryz.f109 ic109 [(.t 2)]:=⟨Tryz.func109,by kernel_rfl,by kernel_rfl⟩
theorem c109 (t:B) (hl:t.length≤2000000:=by omega):FnR Tryz.prog G 109 [.str t] (.sl 4 ((textPieces t).map Pc.row)):=by
  refine mF dg109 Tryz.ntmps109 ?_
  simp only [ic109,go_sem]
  with_reducible repeat' (first|refine br ?_ ?_<;>intro h e<;>(try simp only [e,go_sem])<;>clear e|rw [i64w (by omega)]|refine sd ?_<;>try simp only [go_sem]|(first|refine cr (c69 ..) ?_|refine cr (c124 ..) ?_)<;>try simp only [go_sem]|fail)
  all_goals simp [textPieces, *]
theorem names_step {l:List Pc} {i:Nat} (h:i<l.length):namesOf (l.take (i+1))=namesOf (l.take i)++(if (l.getD i default).named then [(l.getD i default).e] else []):=by
  unfold namesOf
  rw [List.take_add_one,List.getElem?_eq_getElem h]
  simp only [Option.toList_some,List.filter_append,List.map_append,List.getD,List.getElem?_eq_getElem h,Option.getD_some]
  congr 1
  cases hn:l[i].named<;>simp [hn]
theorem names_le (l:List Pc):(namesOf l).length≤l.length:=by
  simp only [namesOf,List.length_map]
  exact List.length_filter_le _ _
def ic40:IC:=sR [oP 2 (.mv (.c .nils))] (sR [oP 6 (.bsl 28 2 []),mV 3 6] (.seq (sR [mV 7 0,oP 8 (.call 80 [.t 7]),oP 9 (.len (.t 8)),oP 10 (.mv (.c i0))] (.block 0 (.loop (sR [bN 11 .lss 10 9] (.seq (.cond (.t 11) .skip (.exit 0)) (.seq (.block 1 (sR [oP 12 (.iad 4 (.t 8) (.t 10)),lA 13 4 12,oP 5 (.alloc 94 [i0,.bool false,i0,i0]),nP (.sto 4 (.t 5) (.t 13))] (sR [fD 14 1 5,lD 15 1 14] (.cond (.t 15) (.reg [mV 16 3,fD 17 2 5,lA 18 2 17,oP 19 (.bsl 28 2 [.t 18]),oP 20 (.app 28 2 (.t 16) (.t 19)),mV 3 20]) .skip)))) (.reg [oP 21 (.bin .add (.t 10) (.c (.int .i64 1))),mV 10 21]))))))) (sR [mV 22 3,oP 23 (.call 81 [.t 22]),mV 2 23] .ret)))
theorem dg40:Dg Tryz.prog 40 Tryz.f40 ic40 [(.t 2)]:=⟨Tryz.func40,by kernel_rfl,by kernel_rfl⟩
theorem c40 (t:B) (hl:t.length≤2000000:=by omega):FnR Tryz.prog G 40 [.str t] (.sl 2 ((textNames t).map E.row)):=by
  refine mF dg40 Tryz.ntmps40 ?_
  simp only [ic40,go_sem]
  with_reducible repeat' (first|refine br ?_ ?_<;>intro h e<;>(try simp only [e,go_sem])<;>clear e|rw [i64w (by omega)]|refine sd ?_<;>try simp only [go_sem]|(first|refine cr (c80 ..) ?_)<;>try simp only [go_sem]|fail)
  have hl2:=textPieces_len t
  unfold textNames
  generalize hp:textPieces t=l at *
  refine loopN (fun i:Nat=>⟨getL [(3,.own 1006 (namesOf (l.take i)).length),(8,.sl 4 (l.map Pc.row)),(9,.int .i64 l.length),(10,.int .i64 (i:Int))],getH [(1006,.arr 28 2 ((namesOf (l.take i)).map E.row))]⟩) (fun i=>l.length - i) (fun i=>i≤l.length) 0 (leQ []) (Nat.zero_le _) ?_
  intro i hi
  simp only [go_sem]
  by_cases h:(i:Int)<l.length
  · simp only [eq_true h,go_sem]
    refine effG (by omega) ?_
    have hst:=names_step (show i<l.length by omega)
    have hle:=names_le (l.take i)
    simp only [List.length_take] at hle
    generalize hq:l.getD i default=q at hst ⊢
    simp only [go_sem]
    cases hn:q.named<;>simp only [hn,go_sem,Bool.false_eq_true] at hst ⊢
    · with_reducible repeat' (first|refine br ?_ ?_<;>intro h e<;>(try simp only [e,go_sem])<;>clear e|rw [i64w (by omega)]|refine sd ?_<;>try simp only [go_sem]|fail)
      refine ⟨i+1,by omega,by omega,leN [] ?_ ?_ (by simp [getN]) (by simp only [go_sem])⟩
      · simp only [go_sem,hst];omega
      · simp only [go_sem,hst]
    · with_reducible repeat' (first|refine br ?_ ?_<;>intro h e<;>(try simp only [e,go_sem])<;>clear e|rw [i64w (by omega)]|refine sd ?_<;>try simp only [go_sem]|fail)
      refine ⟨i+1,by omega,by omega,leN [(1006,1020)] ?_ ?_ (by simp [getN]) (by simp only [go_sem])⟩
      · simp only [go_sem,hst];simp
      · simp only [go_sem,hst];simp [E.row]
  · simp only [eq_false h,go_sem]
    have:i=l.length:=by omega
    subst this
    refine callF (c81 ((namesOf l).map E.row)) [1006] true (by simp only [go_sem];simp) (by simp only [List.mem_singleton];rintro c rfl;rfl) rfl (.inl rfl) ?_
    simp only [go_sem]
def ic165:IC:=sR [oP 2 (.mv (.c .nils))] (sR [oP 6 (.bsl 28 2 []),mV 3 6] (sR [mV 7 0,oP 8 (.call 109 [.t 7]),mV 4 8] (.seq (sR [oP 5 (.mv (.c i0))] (.block 0 (.loop (.seq (sR [mV 9 5,mV 10 4,oP 11 (.len (.t 10)),bN 12 .lss 9 11] (.cond (.t 12) .skip (.exit 0))) (.seq (.block 1 (sR [mV 15 4,mV 16 5,oP 17 (.iad 4 (.t 15) (.t 16)),fD 18 1 17,lD 19 1 18] (.cond (.t 19) (.reg [mV 20 3,mV 21 4,mV 22 5,oP 23 (.iad 4 (.t 21) (.t 22)),fD 24 2 23,lA 25 2 24,oP 26 (.bsl 28 2 [.t 25]),oP 27 (.app 28 2 (.t 20) (.t 26)),mV 3 27]) .skip))) (.reg [mV 13 5,oP 14 (.bin .add (.t 13) (.c (.int .i64 1))),mV 5 14])))))) (sR [mV 28 3,mV 2 28] .ret))))
theorem dg165:Dg Tryz.prog 165 Tryz.f165 ic165 [(.t 2)]:=⟨Tryz.func165,by kernel_rfl,by kernel_rfl⟩
theorem c165 (t:B) (hl:t.length≤2000000:=by omega):FnR Tryz.prog G 165 [.str t] (.sl 2 ((textNames t).map E.row)):=by
  refine mF dg165 Tryz.ntmps165 ?_
  simp only [ic165,go_sem]
  with_reducible repeat' (first|refine br ?_ ?_<;>intro h e<;>(try simp only [e,go_sem])<;>clear e|rw [i64w (by omega)]|refine sd ?_<;>try simp only [go_sem]|(first|refine cr (c109 ..) ?_)<;>try simp only [go_sem]|fail)
  have hl2:=textPieces_len t
  unfold textNames
  generalize hp:textPieces t=l at *
  refine loopN (fun i:Nat=>⟨getL [(3,.own 1006 (namesOf (l.take i)).length),(4,.sl 4 (l.map Pc.row)),(5,.int .i64 (i:Int))],getH [(1006,.arr 28 2 ((namesOf (l.take i)).map E.row))]⟩) (fun i=>l.length - i) (fun i=>i≤l.length) 0 (leQ []) (Nat.zero_le _) ?_
  intro i hi
  simp only [go_sem]
  by_cases h:(i:Int)<l.length
  · simp only [eq_true h,go_sem]
    refine effG (by omega) ?_
    have hst:=names_step (show i<l.length by omega)
    have hle:=names_le (l.take i)
    simp only [List.length_take] at hle
    generalize hq:l.getD i default=q at hst ⊢
    simp only [go_sem]
    cases hn:q.named<;>simp only [hn,go_sem,Bool.false_eq_true] at hst ⊢
    · with_reducible repeat' (first|refine br ?_ ?_<;>intro h e<;>(try simp only [e,go_sem])<;>clear e|rw [i64w (by omega)]|refine sd ?_<;>try simp only [go_sem]|fail)
      refine ⟨i+1,by omega,by omega,leN [] ?_ ?_ (by simp [getN]) (by simp only [go_sem])⟩
      · simp only [go_sem,hst];omega
      · simp only [go_sem,hst]
    · with_reducible repeat' (first|refine br ?_ ?_<;>intro h e<;>(try simp only [e,go_sem])<;>clear e|rw [i64w (by omega)]|refine sd ?_<;>try simp only [go_sem]|fail)
      simp only [hq,go_sem]
      with_reducible repeat' (first|refine br ?_ ?_<;>intro h e<;>(try simp only [e,go_sem])<;>clear e|rw [i64w (by omega)]|refine sd ?_<;>try simp only [go_sem]|fail)
      refine ⟨i+1,by omega,by omega,leN [(1006,1027)] ?_ ?_ (by simp [getN]) (by simp only [go_sem])⟩
      · simp only [go_sem,hst];simp
      · simp only [go_sem,hst];simp [E.row]
  · simp only [eq_false h,go_sem]
    have:i=l.length:=by omega
    subst this
    simp only [List.take_length]
    exact ⟨trivial,trivial⟩
end Go.Proofs.YtfepdcpidkjklaaGreatDoor.W
