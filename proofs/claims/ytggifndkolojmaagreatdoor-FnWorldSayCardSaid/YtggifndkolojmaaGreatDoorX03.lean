/- Part 3 of the proof: the walk over values, the plain model, contracts of the functions of the program. -/
import Derived.Test.YtggifndkolojmaaGreatDoorX02
import Derived.Test.YtggifndkolojmaaGreatDoorChecked
import Derived.Shelf.LaysC
import Derived.Shelf.LaysM
import Derived.Shelf.Strings.Builder1
import Derived.Shelf.Small.Wraps
import Derived.Shelf.Strconv.Itoa3
import Derived.Shelf.Strconv.Clone
import Derived.Shelf.Strings.Cut
import Derived.Test.YtggifndkolojmaaGreatDoorProg
import Derived.Shelf.Strconv.AtoiAll
import Derived.OwnWalk
import Derived.WalkKit
import Derived.Deep.LoopGhost
import Derived.Lib.Walk
import Derived.Lib.SliceRun
set_option linter.all false
namespace Go.Proofs.YtggifndkolojmaaGreatDoor.M
theorem few {α:Type} [BEq α] [LawfulBEq α]:∀ (l L:List α),l.Nodup→(∀ x∈l,x∈L)→l.length≤L.length
  | [],_,_,_=>Nat.zero_le _
  | x :: l,L,hn,h=>by
    rw [List.nodup_cons] at hn
    have hx:=h x (by simp)
    have:=few l (L.erase x) hn.2 fun y hy=>(List.mem_erase_of_ne (fun e=>hn.1 (by rw [← e];exact hy))).2 (h y (List.mem_cons_of_mem _ hy))
    rw [List.length_erase_of_mem hx] at this
    have:=List.length_pos_of_mem hx
    simp only [List.length_cons]
    omega
structure NetX (X:List (E × E)) (cs:List Conv) (p:Pk):Prop where
  pk:PkP p
  c:p.frm.inside=true→(∃ c∈cs,p.frm=c.ins∧p.to=c.out)∨(p.frm,p.to)∈X
structure WX (X:List (E × E)) (w:World):Prop where
  cv:∀ c∈w.convs,convOk c=true
  cl:w.convs.length≤2
  xl:X.length≤1
  door:doorOk w.door=true
  fl:∀ f∈w.door.flows,(∃ c∈w.convs,f.ins=c.ins∧f.out=c.out)∨(f.ins,f.out)∈X
  nl:w.nets.length≤10
  net:∀ p∈w.nets,NetX X w.convs p
variable {X:List (E × E)}
theorem NetP.x {cs:List Conv} {p:Pk} (h:NetP cs p):NetX X cs p:=⟨h.pk,fun hi=>.inl (h.c hi)⟩
theorem WI.x {w:World} (h:WI w):WX [] w:=⟨h.cv,h.cl,by simp,h.door,fun f hf=>.inl (h.fl f hf),h.nl,fun p hp=>(h.net p hp).x⟩
theorem WX.flows3 {w:World} (h:WX X w):w.door.flows.length≤3:=by
  have hn:(w.door.flows.map fun f=>(f.ins,f.out)).Nodup:=by
    unfold List.Nodup
    rw [List.pairwise_iff_getElem]
    intro i j hi hj hij
    simp only [List.length_map] at hi hj
    simp only [List.getElem_map,ne_eq,Prod.mk.injEq]
    exact doorOk_apart h.door i j _ _ hij (List.getElem?_eq_getElem hi) (List.getElem?_eq_getElem hj)
  have:=few (w.door.flows.map fun f=>(f.ins,f.out)) (w.convs.map (fun c=>(c.ins,c.out))++X) hn fun x hx=>by
    obtain ⟨f,hf,rfl⟩:=List.mem_map.1 hx
    rcases h.fl f hf with ⟨c,hc,h1,h2⟩|hX
    · exact List.mem_append_left _ (List.mem_map.2 ⟨c,hc,by rw [h1,h2]⟩)
    · exact List.mem_append_right _ hX
  have h1:=h.cl
  have h2:=h.xl
  simp only [List.length_map,List.length_append] at this
  omega
theorem conv_set {cs:List Conv} {i:Nat} {c x:Conv} (hi:cs[i]?=some c) (h1:x.ins=c.ins) (h2:x.out=c.out) {a b:E} (h:∃ c∈cs,a=c.ins∧b=c.out):∃ c∈cs.set i x,a=c.ins∧b=c.out:=by
  obtain ⟨c',hc',h3,h4⟩:=h
  obtain ⟨j,hj⟩:=List.mem_iff_getElem?.1 hc'
  by_cases hij:i=j
  · subst hij
    rw [hi] at hj;cases hj
    have hl:=(List.getElem?_eq_some_iff.1 hi).1
    exact ⟨x,List.mem_set hl x,by rw [h3,h1],by rw [h4,h2]⟩
  · exact ⟨c',List.mem_iff_getElem?.2 ⟨j,by rw [List.getElem?_set_ne hij];exact hj⟩,h3,h4⟩
theorem NetX.set {cs:List Conv} {i:Nat} {c x:Conv} {p:Pk} (hi:cs[i]?=some c) (h1:x.ins=c.ins) (h2:x.out=c.out) (h:NetX X cs p):NetX X (cs.set i x) p :=
  ⟨h.pk,fun hin=>(h.c hin).imp (conv_set hi h1 h2) id⟩
theorem WX.setC {w:World} (h:WX X w) {i:Nat} {c x:Conv} (hi:w.convs[i]?=some c) (h1:x.ins=c.ins) (h2:x.out=c.out) (hx:convOk x=true):WX X { w with convs:=w.convs.set i x }:=by
  refine ⟨fun y hy=>?_,by simpa using h.cl,h.xl,h.door,fun f hf=>(h.fl f hf).imp (conv_set hi h1 h2) id,h.nl,fun p hp=>(h.net p hp).set hi h1 h2⟩
  rcases List.mem_or_eq_of_mem_set hy with hy|rfl
  · exact h.cv y hy
  · exact hx
theorem dPass_X {cs:List Conv} {d:Door} {p q:Pk} (hd:doorOk d=true) (hp:PkP p) (h:(dPass d p).2=some q):NetX X cs q:=by
  unfold dPass at h
  split at h
  · rename_i ho
    simp only [Pk.outward,Bool.and_eq_true] at ho
    cases hok:(openR d p.frm p.to).2.2 with
    | false=>rw [dOut_no hok] at h;cases h
    | true =>
      have hx:=openR_ok hd ho.1 ho.2 hok
      rw [dOut_yes hok hx.kl] at h
      obtain ⟨h1,h2,_⟩:=outK_P hx.ok hx.kl hp h
      exact ⟨h1,fun hin=>by rw [h2] at hin;cases hin⟩
  · split at h
    · rename_i hi
      simp only [Pk.inward,Bool.and_eq_true] at hi
      cases h1:insideOf d.map p.to.p with
      | none=>rw [dIn_no1 h1] at h;cases h
      | some i =>
        cases h2:flowIx d.flows i p.frm with
        | none=>rw [dIn_no2 h1 h2] at h;cases h
        | some k =>
          obtain ⟨hk,he⟩:=dIn_yes h1 h2
          rw [he] at h
          obtain ⟨h3,h4,_⟩:=inK_P hd hk hp h
          exact ⟨h3,fun hin=>by rw [h4,not_in_out hi.1] at hin;cases hin⟩
    · cases h
theorem carry_X {w:World} {p:Pk} (h:WX X w) (hp:NetX X w.convs p):WX X (carry w p).1∧∀ q,(carry w p).2=some q→NetX X (carry w p).1.convs q:=by
  unfold carry
  split
  · refine ⟨⟨h.cv,h.cl,h.xl,(dPass_ok h.door hp.pk).1,fun f hf=>?_,h.nl,h.net⟩,fun q hq=>dPass_X h.door hp.pk hq⟩
    simp only at hf
    unfold dPass at hf
    split at hf
    · rename_i ho
      simp only [Pk.outward,Bool.and_eq_true] at ho
      rcases dOut_flows f hf with ⟨h1,h2⟩|⟨g,hg,h1,h2⟩
      · rw [h1,h2];exact hp.c ho.1
      · rw [h1,h2];exact h.fl g hg
    · split at hf
      · obtain ⟨g,hg,h1,h2⟩:=dIn_flows f hf
        rw [h1,h2];exact h.fl g hg
      · exact h.fl f hf
  · split
    · exact ⟨h,fun q hq=>by cases hq⟩
    · rename_i i b hb
      obtain ⟨c,hc,hbe⟩:=hostIx_at hb
      simp only [hc]
      have hcv:=h.cv c (List.mem_of_getElem? hc)
      obtain ⟨s1,s2,_,_⟩:=hear_same c b p
      refine ⟨h.setC hc s1 s2 (hear_ok hcv hp.pk),fun q hq=>?_⟩
      obtain ⟨h1,h2,h3,h4,h5⟩:=hear_ans hcv hp.pk hq
      refine NetX.set hc s1 s2 ⟨h1,fun hin=>?_⟩
      have hcc:=convOk_iff.1 hcv
      cases b with
      | true=>exact .inl ⟨c,List.mem_of_getElem? hc,by rw [h3];exact h5.2,by rw [h4];exact h5.1⟩
      | false =>
        rw [h3] at hin
        simp only [cond_false] at h5
        rw [h5.1,not_in_out hcc.1.2.1] at hin
        cases hin
theorem send_X {w:World} {o:Option Pk} (h:WX X w) (hp:∀ p,o=some p→NetX X w.convs p):WX X (send w o):=by
  unfold send
  cases o with
  | none=>exact h
  | some p =>
    simp only
    split
    · refine ⟨h.cv,h.cl,h.xl,h.door,h.fl,by simp;omega,fun q hq=>?_⟩
      rcases List.mem_append.1 hq with hq|hq
      · exact h.net q hq
      · simp only [List.mem_singleton] at hq;subst hq;exact hp _ rfl
    · exact h
theorem sayW_X {w:World} (h:WX X w) {up:Bool} {a b c:Int} {p:Pk} (hs:sayW w up a b c=some p):NetX X w.convs p:=by
  unfold sayW at hs
  split at hs
  · split at hs
    · rename_i cv hcv
      have hm:=List.mem_of_getElem? hcv
      exact (say_net hm (h.cv _ hm) hs).x
    · cases hs
  · cases hs
theorem WX.erase {w:World} (h:WX X w) (k:Nat):WX X { w with nets:=w.nets.eraseIdx k } :=
  ⟨h.cv,h.cl,h.xl,h.door,h.fl,by have:=List.length_eraseIdx_le w.nets k;have:=h.nl;simp only;omega,fun p hp=>h.net p (List.mem_of_mem_eraseIdx hp)⟩
theorem wDo_X {w:World} (h:WX X w) (e:Ev):WX X (wDo w e):=by
  unfold wDo
  simp only
  split
  · exact send_X h fun p hp=>sayW_X h hp
  split
  · exact send_X h fun p hp=>sayW_X h hp
  split
  · split
    · split
      · rename_i p hp
        have hn:=h.net p (List.mem_of_getElem? hp)
        obtain ⟨h1,h2⟩:=carry_X (h.erase e.a.toNat) hn
        exact send_X h1 h2
      · exact h
    · exact h
  split
  · split
    · exact h.erase _
    · exact h
  split
  · split
    · exact send_X h fun p hp=>h.net p (List.mem_of_getElem? hp)
    · exact h
  split
  · split
    · rename_i hs
      exact send_X h fun p hp=>by cases hp;exact (stranger_net hs).x
    · exact h
  · exact h
end Go.Proofs.YtggifndkolojmaaGreatDoor.M
namespace Go.Proofs.YtggifndkolojmaaGreatDoor.M
structure StepI (K:List Conv→Door→Prop) (N:List Conv→Door→Pk→Prop):Prop where
  say:∀ (w:World) c up port n m p,WI w→K w.convs w.door→c∈w.convs→(up=false→port=portOf w.door.map c.ins)→say c up port n m=some p→N w.convs w.door p
  str:∀ (w:World) p,WI w→K w.convs w.door→stranger w p=true→N w.convs w.door p
  pass:∀ (w:World) p,WI w→K w.convs w.door→NetP w.convs p→N w.convs w.door p→(p.to.door=true∨p.frm.inside=true) →
    K w.convs (dPass w.door p).1∧(∀ q,(dPass w.door p).2=some q→N w.convs (dPass w.door p).1 q)∧∀ q,NetP w.convs q→N w.convs w.door q→N w.convs (dPass w.door p).1 q
  hear:∀ (w:World) p i b c,WI w→K w.convs w.door→NetP w.convs p→N w.convs w.door p→¬ (p.to.door=true∨p.frm.inside=true)→hostIx w p=some (i,b)→w.convs[i]?=some c →
    K (w.convs.set i (hear c b p).1) w.door∧(∀ q,(hear c b p).2=some q→N (w.convs.set i (hear c b p).1) w.door q)∧∀ q,NetP w.convs q→N w.convs w.door q→N (w.convs.set i (hear c b p).1) w.door q
structure SI (K:List Conv→Door→Prop) (N:List Conv→Door→Pk→Prop) (w:World):Prop where
  wi:WI w
  k:K w.convs w.door
  n:∀ p∈w.nets,N w.convs w.door p
variable {K:List Conv→Door→Prop} {N:List Conv→Door→Pk→Prop}
theorem SI.erase {w:World} (h:SI K N w) (k:Nat):SI K N { w with nets:=w.nets.eraseIdx k }:=⟨h.wi.erase k,h.k,fun p hp=>h.n p (List.mem_of_mem_eraseIdx hp)⟩
theorem SI.carry {w:World} {p:Pk} (S:StepI K N) (h:SI K N w) (hp:NetP w.convs p) (hn:N w.convs w.door p):SI K N (carry w p).1∧∀ q,(carry w p).2=some q→NetP (carry w p).1.convs q∧N (carry w p).1.convs (carry w p).1.door q:=by
  obtain ⟨h1,h2⟩:=carry_ok h.wi hp
  suffices hh:K (M.carry w p).1.convs (M.carry w p).1.door∧(∀ q∈(M.carry w p).1.nets,N (M.carry w p).1.convs (M.carry w p).1.door q)∧∀ q,(M.carry w p).2=some q→N (M.carry w p).1.convs (M.carry w p).1.door q from
    ⟨⟨h1,hh.1,hh.2.1⟩,fun q hq=>⟨h2 q hq,hh.2.2 q hq⟩⟩
  clear h1 h2
  unfold M.carry
  split
  · rename_i hc
    obtain ⟨p1,p2,p3⟩:=S.pass w p h.wi h.k hp hn (by simpa using hc)
    exact ⟨p1,fun q hq=>p3 q (h.wi.net q hq) (h.n q hq),p2⟩
  · rename_i hc
    split
    · exact ⟨h.k,h.n,fun q hq=>by cases hq⟩
    · rename_i i b hb
      obtain ⟨c,hcv,_⟩:=hostIx_at hb
      simp only [hcv]
      obtain ⟨p1,p2,p3⟩:=S.hear w p i b c h.wi h.k hp hn (by simpa using hc) hb hcv
      exact ⟨p1,fun q hq=>p3 q (h.wi.net q hq) (h.n q hq),p2⟩
theorem SI.send {w:World} {o:Option Pk} (h:SI K N w) (hp:∀ p,o=some p→NetP w.convs p∧N w.convs w.door p):SI K N (send w o):=by
  refine ⟨send_ok h.wi fun p e=>(hp p e).1, ?_, ?_⟩<;>unfold M.send<;>cases o with
  | none=>first|exact h.k|exact h.n
  | some p =>
    simp only
    split<;>first|exact h.k|exact h.n|skip
    all_goals intro q hq
    all_goals rcases List.mem_append.1 hq with hq|hq
    all_goals first
      | exact h.n q hq
      | (simp only [List.mem_singleton] at hq;subst hq;exact (hp _ rfl).2)
theorem SI.sayW {w:World} (S:StepI K N) (h:SI K N w) {up:Bool} {a b c:Int} {p:Pk} (hs:sayW w up a b c=some p):N w.convs w.door p:=by
  unfold M.sayW at hs
  split at hs
  · split at hs
    · rename_i cv hcv
      exact S.say w cv up _ b c p h.wi h.k (List.mem_of_getElem? hcv) (fun hu=>by subst hu;rfl) hs
    · cases hs
  · cases hs
theorem SI.wDo {w:World} (S:StepI K N) (h:SI K N w) (e:Ev):SI K N (wDo w e):=by
  unfold M.wDo
  simp only
  split
  · exact h.send fun p hp=>⟨sayW_net h.wi hp,h.sayW S hp⟩
  split
  · exact h.send fun p hp=>⟨sayW_net h.wi hp,h.sayW S hp⟩
  split
  · split
    · split
      · rename_i p hp
        obtain ⟨h1,h2⟩:=(h.erase e.a.toNat).carry S (h.wi.net p (List.mem_of_getElem? hp)) (h.n p (List.mem_of_getElem? hp))
        exact h1.send h2
      · exact h
    · exact h
  split
  · split
    · exact h.erase _
    · exact h
  split
  · split
    · exact h.send fun p hp=>⟨h.wi.net p (List.mem_of_getElem? hp),h.n p (List.mem_of_getElem? hp)⟩
    · exact h
  split
  · split
    · rename_i hs
      exact h.send fun p hp=>by cases hp;exact ⟨stranger_net hs,S.str w _ h.wi h.k hs⟩
    · exact h
  · exact h
theorem SI.play {w:World} (S:StepI K N) (h:SI K N w):∀ es:List Ev,SI K N (es.foldl M.wDo w)
  | []=>h
  | e :: es=>SI.play S (h.wDo S e) es
def Apart (cs:List Conv):Prop:=∀ (i j:Nat) c d,cs[i]?=some c→cs[j]?=some d→(c.ins=d.ins∨c.out=d.out)→i=j
theorem together_apart {cs:List Conv} (h:together cs=true):Apart cs:=by
  have key:∀ (i j:Nat) c d,i<j→cs[i]?=some c→cs[j]?=some d→¬ (c.ins=d.ins∨c.out=d.out):=by
    intro i j c d hij hi hj
    obtain ⟨hl,rfl⟩:=List.getElem?_eq_some_iff.1 hj
    have:=(together_iff.1 h).2 j hl
    rw [okConv_i hl,Bool.and_eq_true,Bool.not_eq_true'] at this
    have hm:c∈cs.take j:=List.mem_iff_getElem?.2 ⟨i,by rw [List.getElem?_take,if_pos hij];exact hi⟩
    have:=List.any_eq_false.1 this.2 c hm
    simpa using this
  intro i j c d hi hj he
  rcases Nat.lt_trichotomy i j with h1|h1|h1
  · exact absurd he (key i j c d h1 hi hj)
  · exact h1
  · exact absurd (he.imp Eq.symm Eq.symm) (key j i d c h1 hj hi)
theorem Apart.set {cs:List Conv} (h:Apart cs) {i:Nat} {c x:Conv} (hi:cs[i]?=some c) (h1:x.ins=c.ins) (h2:x.out=c.out):Apart (cs.set i x):=by
  have hl:=(List.getElem?_eq_some_iff.1 hi).1
  have key:∀ (j:Nat) y,(cs.set i x)[j]?=some y→∃ z,cs[j]?=some z∧y.ins=z.ins∧y.out=z.out:=by
    intro j y hy
    by_cases hij:i=j
    · subst hij
      rw [List.getElem?_set_self hl] at hy;cases hy
      exact ⟨c,hi,h1,h2⟩
    · rw [List.getElem?_set_ne hij] at hy
      exact ⟨y,hy,rfl,rfl⟩
  intro j k a b ha hb he
  obtain ⟨a',ha',e1,e2⟩:=key j a ha
  obtain ⟨b',hb',e3,e4⟩:=key k b hb
  exact h j k a' b' ha' hb' (by rw [← e1,← e2,← e3,← e4];exact he)
theorem worldNew_is {cs:List Conv} {w:World} (h:worldNew cs=some w):together w.convs=true∧newConvs cs=some w.convs∧w.door=.zero∧w.nets=[]:=by
  unfold worldNew at h
  split at h
  · rename_i ns hn
    split at h
    · rename_i ht
      cases h
      exact ⟨ht,hn,rfl,rfl⟩
    · cases h
  · cases h
theorem hear_grows (c:Conv) (b:Bool) (p:Pk):(∃ x,(hear c b p).1.upGot=c.upGot++x)∧(∃ x,(hear c b p).1.downGot=c.downGot++x)∧c.upAck≤(hear c b p).1.upAck∧c.downAck≤(hear c b p).1.downAck:=by
  have key:∀ (g:B) (n:Int) (t:B),∃ x,(behind g n t).1=g++x:=by
    intro g n t
    unfold behind
    split
    · exact ⟨[],by simp⟩
    · split
      · exact ⟨[],by simp⟩
      · exact ⟨_,rfl⟩
  unfold hear
  cases b<;>simp only [cond_true,cond_false]<;>split
  · split
    · exact ⟨⟨[],by simp⟩,⟨[],by simp⟩,Int.le_refl _,Int.le_max_left _ _⟩
    · exact ⟨key _ _ _,⟨[],by simp⟩,Int.le_refl _,Int.le_refl _⟩
  · exact ⟨⟨[],by simp⟩,⟨[],by simp⟩,Int.le_refl _,Int.le_refl _⟩
  · split
    · exact ⟨⟨[],by simp⟩,⟨[],by simp⟩,Int.le_max_left _ _,Int.le_refl _⟩
    · exact ⟨⟨[],by simp⟩,key _ _ _,Int.le_refl _,Int.le_refl _⟩
  · exact ⟨⟨[],by simp⟩,⟨[],by simp⟩,Int.le_refl _,Int.le_refl _⟩
end Go.Proofs.YtggifndkolojmaaGreatDoor.M
namespace Go.Proofs.YtggifndkolojmaaGreatDoor.M
theorem mOut_pre (m:List Pair) (e:E):∃ x,(mOut m e).1=m++x:=by
  unfold mOut
  split
  · exact ⟨[],by simp⟩
  · split
    · exact ⟨[],by simp⟩
    · exact ⟨_,rfl⟩
theorem turn_pre (m:List Pair) (p:Pc) (s:B) (out:Bool):∃ x,(turn m p s out).1=m++x:=by
  unfold turn
  cases out
  · exact ⟨[],by simp⟩
  · simp only [cond_true,pieceOut]
    split
    · have:=mOut_pre m p.e
      split
      · rename_i h;rw [h] at this;exact this
      · exact ⟨[],by simp⟩
    · exact ⟨[],by simp⟩
theorem turned_pre:∀ (l:List Pc) (m:List Pair) (s:B) (out:Bool),∃ x,(turned m l s out).1=m++x
  | [],m,s,out=>⟨[],by simp [turned]⟩
  | p :: l,m,s,out=>by
    obtain ⟨x,hx⟩:=turn_pre m p (s.take p.size) out
    obtain ⟨y,hy⟩:=turned_pre l (turn m p (s.take p.size) out).1 (s.drop p.size) out
    exact ⟨x++y,by simp only [turned];rw [hy,hx,List.append_assoc]⟩
theorem put_pre (m:List Pair) (s:Strm) (n:Int) (t:B) (out:Bool):∃ x,(put m s n t out).1=m++x:=by
  unfold put
  split
  · exact turned_pre _ _ _ _
  · exact ⟨[],by simp⟩
theorem portOf_app {m x:List Pair} {e:E} (h:portOf m e≠0):portOf (m++x) e=portOf m e:=by
  unfold portOf at h ⊢
  rw [List.find?_append]
  cases hf:m.find? fun p=>decide (p.ins=e) with
  | none=>rw [hf] at h;exact absurd rfl h
  | some p=>rfl
theorem put_port {m:List Pair} {s:Strm} {n:Int} {t:B} {out:Bool} {e:E} (h:portOf m e≠0):portOf (put m s n t out).1 e=portOf m e:=by
  obtain ⟨x,hx⟩:=put_pre m s n t out
  rw [hx];exact portOf_app h
theorem portOf_door {m:List Pair} {e:E} (hm:mapOk m=true) (h:portOf m e≠0):(⟨9,portOf m e⟩:E).door=true:=by
  obtain ⟨hp,_⟩:=mapOk_ports hm
  have h1:=mOut_found (fun p h=>(hp p h).1) h
  have:=mOut_door (e:=e) hm (by rw [h1])
  rw [h1] at this
  exact this
theorem dPass_is {cs:List Conv} {d:Door} {p q:Pk} (hd:doorOk d=true) (hp:NetP cs p) (h:(dPass d p).2=some q) :
    (p.outward=true∧q.frm=⟨9,portOf (dPass d p).1.map p.frm⟩∧q.frm.door=true∧q.to=p.to∧q.kind=p.kind) ∨
    (p.inward=true∧q.frm=p.frm∧q.to.inside=true∧insideOf d.map p.to.p=some q.to∧q.kind=p.kind∧(flowIx d.flows q.to q.frm).isSome=true):=by
  unfold dPass at h ⊢
  split at h
  · rename_i ho
    have ho':=ho
    rw [if_pos ho]
    simp only [Pk.outward,Bool.and_eq_true] at ho
    left
    cases hok:(openR d p.frm p.to).2.2 with
    | false=>rw [dOut_no hok] at h;cases h
    | true =>
      have hx:=openR_ok hd ho.1 ho.2 hok
      rw [dOut_yes hok hx.kl] at h ⊢
      obtain ⟨_,_,h2,h3,h4⟩:=outK_P hx.ok hx.kl hp.pk h
      have hmap:=hx.map
      have hport:=hx.port
      have hmp:portOf (outK (openR d p.frm p.to).1 (openR d p.frm p.to).2.1 p).1.map p.frm=portOf (openR d p.frm p.to).1.map p.frm:=by
        unfold outK
        split
        · split<;>rfl
        · split
          · rfl
          · have hf:(openR d p.frm p.to).1.flows[(openR d p.frm p.to).2.1]?=some (Flw.at (openR d p.frm p.to).1 (openR d p.frm p.to).2.1):=by simp [Flw.at,List.getD,hx.kl]
            exact put_port hport
      have hdr:(⟨9,portOf (openR d p.frm p.to).1.map p.frm⟩:E).door=true:=portOf_door hmap hport
      exact ⟨ho',by rw [h2,hmp],by rw [h2];exact hdr,h3,h4⟩
  · rename_i hno
    rw [if_neg hno]
    split at h
    · rename_i hi
      have hi':=hi
      simp only [Pk.inward,Bool.and_eq_true] at hi
      right
      cases h1:insideOf d.map p.to.p with
      | none=>rw [dIn_no1 h1] at h;cases h
      | some i =>
        cases h2:flowIx d.flows i p.frm with
        | none=>rw [dIn_no2 h1 h2] at h;cases h
        | some k =>
          obtain ⟨hk,he⟩:=dIn_yes h1 h2
          rw [he] at h
          obtain ⟨_,h4,h5,h6⟩:=inK_P hd hk hp.pk h
          exact ⟨hi',h4,by rw [h5];exact insideOf_ok (doorOk_iff.1 hd).1 h1,by rw [h5],h6,by rw [h5,h4,h2];rfl⟩
    · cases h
theorem hear_at {c:Conv} {b:Bool} {p q:Pk} (h:(hear c b p).2=some q):q.at_=(bif b then (hear c b p).1.downGot.length else (hear c b p).1.upGot.length:Nat):=by
  revert h
  unfold hear
  cases b<;>simp only [cond_true,cond_false]<;>split
  · split<;>(intro h;cases h)
    rfl
  · intro h;cases h
  · split<;>(intro h;cases h)
    rfl
  · intro h;cases h
end Go.Proofs.YtggifndkolojmaaGreatDoor.M
namespace Go.Proofs.YtggifndkolojmaaGreatDoor.M
theorem dOut_ext (d:Door) (p:Pk):(∃ y,(dOut d p).1.map=d.map++y)∧d.flows.length≤(dOut d p).1.flows.length:=by
  have h0:(∃ y,d.map=d.map++y)∧d.flows.length≤d.flows.length:=⟨⟨[],by simp⟩,Nat.le_refl _⟩
  have hop:∀ x k,openF d p.frm p.to=some (x,k)→(∃ y,x.map=d.map++y)∧d.flows.length≤x.flows.length:=by
    intro x k h
    unfold openF at h
    split at h
    · cases h;exact h0
    · split at h
      · rename_i m port hm
        split at h
        · cases h
          have:=mOut_pre d.map p.frm
          rw [hm] at this
          exact ⟨this,by simp⟩
        · cases h
      · cases h
  unfold dOut
  split
  · exact h0
  · rename_i x k ho
    have hx:=hop x k ho
    split
    · exact hx
    · rename_i f hf
      split
      · split<;>exact hx
      · split
        · exact hx
        · rename_i m s hp
          obtain ⟨⟨y,hy⟩,hl⟩:=hx
          obtain ⟨z,hz⟩:=put_pre x.map f.up p.at_ p.text true
          rw [hp] at hz
          exact ⟨⟨y++z,by simp only at hz ⊢;rw [hz,hy,List.append_assoc]⟩,by simpa using hl⟩
theorem dIn_ext (d:Door) (p:Pk):(dIn d p).1.map=d.map∧(dIn d p).1.flows.length=d.flows.length:=by
  unfold dIn
  split
  · exact ⟨rfl,rfl⟩
  · split
    · exact ⟨rfl,rfl⟩
    · split
      · exact ⟨rfl,rfl⟩
      · split
        · split<;>exact ⟨rfl,rfl⟩
        · split
          · exact ⟨rfl,rfl⟩
          · exact ⟨rfl,by simp⟩
structure CExt (c d:Conv):Prop where
  ins:d.ins=c.ins
  out:d.out=c.out
  up:d.up=c.up
  down:d.down=c.down
  upGot:∃ x,d.upGot=c.upGot++x
  downGot:∃ x,d.downGot=c.downGot++x
  upAck:c.upAck≤d.upAck
  downAck:c.downAck≤d.downAck
theorem CExt.refl (c:Conv):CExt c c:=⟨rfl,rfl,rfl,rfl,⟨[],by simp⟩,⟨[],by simp⟩,Int.le_refl _,Int.le_refl _⟩
theorem CExt.trans {a b c:Conv} (h:CExt a b) (g:CExt b c):CExt a c:=by
  obtain ⟨x,hx⟩:=h.upGot
  obtain ⟨y,hy⟩:=g.upGot
  obtain ⟨x',hx'⟩:=h.downGot
  obtain ⟨y',hy'⟩:=g.downGot
  exact ⟨g.ins.trans h.ins,g.out.trans h.out,g.up.trans h.up,g.down.trans h.down,⟨x++y,by rw [hy,hx,List.append_assoc]⟩,⟨x'++y',by rw [hy',hx',List.append_assoc]⟩,Int.le_trans h.upAck g.upAck,Int.le_trans h.downAck g.downAck⟩
structure Ext (w v:World):Prop where
  map:∃ y,v.door.map=w.door.map++y
  fl:w.door.flows.length≤v.door.flows.length
  len:v.convs.length=w.convs.length
  cv:∀ (i:Nat) c d,w.convs[i]?=some c→v.convs[i]?=some d→CExt c d
theorem Ext.same {w v:World} (h1:v.convs=w.convs) (h2:v.door=w.door):Ext w v :=
  ⟨⟨[],by rw [h2];simp⟩,by rw [h2];exact Nat.le_refl _,by rw [h1],fun i c d hc hd=>by rw [h1,hc] at hd;cases hd;exact .refl _⟩
theorem Ext.trans {a b c:World} (h:Ext a b) (g:Ext b c):Ext a c:=by
  obtain ⟨x,hx⟩:=h.map
  obtain ⟨y,hy⟩:=g.map
  refine ⟨⟨x++y,by rw [hy,hx,List.append_assoc]⟩,Nat.le_trans h.fl g.fl,g.len.trans h.len,fun i p q hp hq=>?_⟩
  have hl:i<b.convs.length:=by rw [h.len];exact (List.getElem?_eq_some_iff.1 hp).1
  exact (h.cv i p _ hp (List.getElem?_eq_getElem hl)).trans (g.cv i _ q (List.getElem?_eq_getElem hl) hq)
theorem carry_ext (w:World) (p:Pk):Ext w (carry w p).1:=by
  unfold carry
  split
  · have h:(∃ y,(dPass w.door p).1.map=w.door.map++y)∧w.door.flows.length≤(dPass w.door p).1.flows.length:=by
      unfold dPass
      split
      · exact dOut_ext _ _
      · split
        · have:=dIn_ext w.door p
          exact ⟨⟨[],by rw [this.1];simp⟩,by omega⟩
        · exact ⟨⟨[],by simp⟩,Nat.le_refl _⟩
    exact ⟨h.1,h.2,rfl,fun i c d hc hd=>by simp only at hd;rw [hc] at hd;cases hd;exact .refl _⟩
  · split
    · exact .same rfl rfl
    · rename_i i b hb
      split
      · exact .same rfl rfl
      · rename_i c hc
        refine ⟨⟨[],by simp⟩,Nat.le_refl _,by simp,fun j x y hx hy=>?_⟩
        simp only at hy
        by_cases hij:i=j
        · subst hij
          rw [hc] at hx;cases hx
          rw [List.getElem?_set_self (List.getElem?_eq_some_iff.1 hc).1] at hy;cases hy
          obtain ⟨s1,s2,s3,s4⟩:=hear_same c b p
          obtain ⟨g1,g2,g3,g4⟩:=hear_grows c b p
          exact ⟨s1,s2,s3,s4,g1,g2,g3,g4⟩
        · rw [List.getElem?_set_ne hij,hx] at hy;cases hy;exact .refl _
theorem send_ext (w:World) (o:Option Pk):Ext w (send w o):=by
  unfold send
  cases o with
  | none=>exact .same rfl rfl
  | some p=>simp only;split<;>exact .same rfl rfl
theorem wDo_ext (w:World) (e:Ev):Ext w (wDo w e):=by
  unfold wDo
  simp only
  split
  · exact send_ext _ _
  split
  · exact send_ext _ _
  split
  · split
    · split
      · have h1:Ext w { w with nets:=w.nets.eraseIdx e.a.toNat }:=.same rfl rfl
        exact h1.trans ((carry_ext _ _).trans (send_ext _ _))
      · exact .same rfl rfl
    · exact .same rfl rfl
  split
  · split<;>exact .same rfl rfl
  split
  · split
    · exact send_ext _ _
    · exact .same rfl rfl
  split
  · split
    · exact send_ext _ _
    · exact .same rfl rfl
  · exact .same rfl rfl
structure Sil (w:World):Prop where
  got:∀ c∈w.convs,c.upGot=[]∧c.downGot=[]
  door:w.door=.zero
  net:∀ p∈w.nets,p.inward=true
end Go.Proofs.YtggifndkolojmaaGreatDoor.M
namespace Go.Proofs.YtggifndkolojmaaGreatDoor.M
def PW (w:World):Prop:=WI w∧∃ (cs:List Conv) (es:List Ev) (w0:World),worldNew cs=some w0∧w=es.foldl wDo w0
theorem PW.new {cs:List Conv} {w:World} (h:worldNew cs=some w):PW w:=⟨worldNew_ok h,cs,[],w,h,rfl⟩
theorem PW.step {w:World} (h:PW w) (e:Ev):PW (wDo w e):=by
  obtain ⟨h1,cs,es,w0,h2,rfl⟩:=h
  exact ⟨wDo_ok h1 e,cs,es++[e],w0,h2,by rw [List.foldl_append];rfl⟩
theorem PW.si {K:List Conv→Door→Prop} {N:List Conv→Door→Pk→Prop} {w:World} (S:StepI K N) (h0:∀ cs (w0:World),worldNew cs=some w0→K w0.convs w0.door) (h:PW w):SI K N w:=by
  obtain ⟨_,cs,es,w0,h1,rfl⟩:=h
  obtain ⟨_,_,_,hn⟩:=worldNew_is h1
  exact SI.play S ⟨worldNew_ok h1,h0 cs w0 h1,by rw [hn];intro p hp;cases hp⟩ es
end Go.Proofs.YtggifndkolojmaaGreatDoor.M
namespace Go.Proofs.YtggifndkolojmaaGreatDoor.M
def SmS (s:Strm):Prop:=∀ p∈s.parts,5 * p.text.length≤6 * p.size.toNat
theorem name_56 {e:E} (h:e.any=true):5≤(name e).length∧(name e).length≤6:=by
  have key:∀ e∈ends,5≤(name e).length∧(name e).length≤6:=by decide
  exact key e (E.any_iff.1 h)
theorem nameAt_any {s:B} {e:E} (h:nameAt s=some e):e.any=true:=by
  unfold nameAt at h
  split at h
  · cases h
  · split at h
    · unfold endRead at h
      exact E.any_iff.2 (List.mem_of_find?_eq_some h)
    · cases h
theorem pcK_named:∀ (n:Nat) (s:B),∀ q∈pcK n s,q.named=true→5≤q.size
  | 0,s,q,hq,_=>by simp [pcK] at hq
  | n+1,[],q,hq,_=>by simp [pcK] at hq
  | n+1,c :: r,q,hq,hn=>by
    rw [pcK] at hq
    split at hq
    · rename_i e he
      rcases List.mem_cons.1 hq with rfl|hq
      · exact (name_56 (nameAt_any he)).1
      · exact pcK_named n _ q hq hn
    · rcases List.mem_cons.1 hq with rfl|hq
      · cases hn
      · exact pcK_named n _ q hq hn
theorem turn_sm {m:List Pair} (hm:mapOk m=true) (p:Pc) (s:B) (out:Bool) (hp:p.named=true→5≤p.size) (hs:s.length≤p.size):5 * (turn m p s out).2.length≤6 * p.size:=by
  unfold turn
  cases out
  · simp only [cond_false,pieceIn]
    split
    · rename_i h
      simp only [Bool.and_eq_true] at h
      split
      · rename_i e he
        have:=(name_56 (inside_any (insideOf_ok hm he))).2
        have:=hp h.1
        omega
      · omega
    · omega
  · simp only [cond_true,pieceOut]
    split
    · rename_i h
      simp only [Bool.and_eq_true] at h
      split
      · rename_i x port he
        have hd:=mOut_door (e:=p.e) hm (by rw [he])
        rw [he] at hd
        have:=(name_56 (door_any hd)).2
        have:=hp h.1
        simp only at *;omega
      · simp only;omega
    · simp only;omega
theorem turned_sm:∀ {l:List Pc} {m:List Pair} {s:B} {out:Bool},mapOk m=true→(∀ q∈l,q.named=true→5≤q.size)→∀ p∈mkParts l (turned m l s out).2,5 * p.text.length≤6 * p.size.toNat
  | [],m,s,out,_,_,p,hp=>by simp [mkParts] at hp
  | q :: l,m,s,out,hm,hq,p,hp=>by
    simp only [turned,mkParts] at hp
    rcases List.mem_cons.1 hp with rfl|hp
    · have:=turn_sm hm q (s.take q.size) out (hq q (by simp)) (by simp;omega)
      simpa using this
    · exact turned_sm (turn_mapOk hm q _ out) (fun x hx=>hq x (by simp [hx])) p hp
theorem put_sm {m:List Pair} {s:Strm} {n:Int} {t:B} {out:Bool} (hm:mapOk m=true) (hs:SmS s):SmS (put m s n t out).2.1:=by
  unfold put
  split
  · intro p hp
    simp only at hp
    rcases List.mem_append.1 hp with hp|hp
    · exact hs p hp
    · refine turned_sm hm (fun q hq=>?_) p hp
      exact pcK_named _ _ q (List.mem_of_mem_drop hq)
  · exact hs
theorem sOut_65 {s:Strm} (hs:SmS s) (hok:strmOk s=true):5 * (sOut s).length≤6 * s.inn.length:=by
  have key:∀ l:List Part,(∀ p∈l,5 * p.text.length≤6 * p.size.toNat)→5 * (l.flatMap (·.text)).length≤6 * doneP l:=by
    intro l
    induction l with
    | nil=>intro _;simp [doneP]
    | cons p l ih =>
      intro h
      have h1:=h p (by simp)
      have h2:=ih fun q hq=>h q (by simp [hq])
      rw [doneP_cons]
      simp only [List.flatMap_cons,List.length_append]
      omega
  have h1:=key s.parts hs
  have h2:=(strmOk_done hok).1
  have h4:(body s.inn).length≤s.inn.length:=by simp [body]
  show 5 * (s.parts.flatMap (·.text)).length≤6 * s.inn.length
  omega
theorem sOut_sm {s:Strm} (hs:SmS s) (hok:strmOk s=true):(sOut s).length≤80:=by
  have h1:=sOut_65 hs hok
  have h3:=(strmOk_B hok).1
  omega
def DoorS (d:Door):Prop:=∀ f∈d.flows,SmS f.up∧SmS f.down
theorem dOut_sm {d:Door} {p:Pk} (hd:doorOk d=true) (h:p.outward=true) (hs:DoorS d):DoorS (dOut d p).1:=by
  simp only [Pk.outward,Bool.and_eq_true] at h
  have hz:SmS .zero:=fun p hp=>by cases hp
  cases hok:(openR d p.frm p.to).2.2 with
  | false=>rw [dOut_no hok];exact hs
  | true =>
    have hx:=openR_ok hd h.1 h.2 hok
    rw [dOut_yes hok hx.kl]
    have hxs:DoorS (openR d p.frm p.to).1:=by
      unfold openR openF
      split
      · rename_i ho
        split at ho
        · cases ho;exact hs
        · split at ho
          · split at ho
            · cases ho
              intro f hf
              rcases List.mem_append.1 hf with hf|hf
              · exact hs f hf
              · simp only [List.mem_singleton] at hf;subst hf;exact ⟨hz,hz⟩
            · cases ho
          · cases ho
      · exact hs
    have hf:(openR d p.frm p.to).1.flows[(openR d p.frm p.to).2.1]?=some (Flw.at (openR d p.frm p.to).1 (openR d p.frm p.to).2.1):=by simp [Flw.at,List.getD,hx.kl]
    unfold outK
    split
    · split<;>exact hxs
    · split
      · exact hxs
      · intro f hf2
        simp only at hf2
        have hat:=hxs _ (List.mem_of_getElem? hf)
        rcases List.mem_or_eq_of_mem_set hf2 with hf2|rfl
        · exact hxs f hf2
        · exact ⟨put_sm hx.map hat.1,hat.2⟩
theorem dIn_sm {d:Door} {p:Pk} (hd:doorOk d=true) (hs:DoorS d):DoorS (dIn d p).1:=by
  cases h1:insideOf d.map p.to.p with
  | none=>rw [dIn_no1 h1];exact hs
  | some i =>
    cases h2:flowIx d.flows i p.frm with
    | none=>rw [dIn_no2 h1 h2];exact hs
    | some k =>
      obtain ⟨hk,he⟩:=dIn_yes h1 h2
      rw [he]
      have hf:d.flows[k]?=some (Flw.at d k):=by simp [Flw.at,List.getD,hk]
      unfold inK
      split
      · split<;>exact hs
      · split
        · exact hs
        · intro f hf2
          simp only at hf2
          have hat:=hs _ (List.mem_of_getElem? hf)
          rcases List.mem_or_eq_of_mem_set hf2 with hf2|rfl
          · exact hs f hf2
          · exact ⟨hat.1,put_sm (doorOk_iff.1 hd).1 hat.2⟩
theorem dPass_sm {d:Door} {p:Pk} (hd:doorOk d=true) (hs:DoorS d):DoorS (dPass d p).1:=by
  unfold dPass
  split
  · rename_i h;exact dOut_sm hd h hs
  · split
    · exact dIn_sm hd hs
    · exact hs
end Go.Proofs.YtggifndkolojmaaGreatDoor.M
namespace Go.Proofs.YtggifndkolojmaaGreatDoor.M
theorem pkOk_mk {p:Pk} (h1:p.frm.any=true) (h2:p.to.any=true) (h3:0≤p.at_∧p.at_≤99) (hp:PkP p) (h4:p.kind=1→p.text≠[]):pkOk p=true:=by
  simp only [pkOk,h1,h2,within_iff.2 h3,Bool.true_and,Bool.or_eq_true,Bool.and_eq_true,decide_eq_true_eq]
  rcases hp.kd with h|h
  · left
    refine ⟨⟨h,hp.tx.resolve_left (by omega)⟩, ?_⟩
    have:=h4 h
    cases ht:p.text with
    | nil=>exact absurd ht this
    | cons=>rfl
  · right
    exact ⟨h,by rw [hp.ack h];rfl⟩
theorem sendOn_ne {was is:Strm} {p q:Pk} (h:sendOn was is p=some q):q.text≠[]:=by
  have h1:=forP_le (l:=is.parts) p.at_
  have h2:=toR_le was is p
  have e:sendOn was is p=if forP is.parts p.at_≥toR was is p then none else if toR was is p - forP is.parts p.at_≤40 then some { p with at_:=forP is.parts p.at_,text:=((sOut is).take (toR was is p).toNat).drop (forP is.parts p.at_).toNat } else none:=rfl
  rw [e] at h
  generalize forP is.parts p.at_=a at *
  generalize toR was is p=b at *
  split at h
  · cases h
  · split at h
    · cases h
      intro hn
      have:=congrArg List.length hn
      simp only [List.length_drop,List.length_take,List.length_nil] at this
      omega
    · cases h
theorem sendOn_at {was is:Strm} {p q:Pk} (h:sendOn was is p=some q):0≤q.at_∧q.at_≤(sOut is).length:=by
  have h1:=forP_le (l:=is.parts) p.at_
  have e:sendOn was is p=if forP is.parts p.at_≥toR was is p then none else if toR was is p - forP is.parts p.at_≤40 then some { p with at_:=forP is.parts p.at_,text:=((sOut is).take (toR was is p).toNat).drop (forP is.parts p.at_).toNat } else none:=rfl
  rw [e] at h
  split at h
  · cases h
  · split at h
    · cases h;exact h1
    · cases h
theorem backP_done {l:List Part} (h:∀ p∈l,1≤p.size):∀ n,backP l n≤(doneP l:Int):=by
  induction l with
  | nil=>intro n;simp [backP,doneP]
  | cons p l ih =>
    intro n
    have h1:=h p (by simp)
    have h2:=ih (fun q hq=>h q (by simp [hq])) (n - p.text.length)
    rw [doneP_cons]
    simp only [backP]
    split<;>omega
theorem outK_at {x:Door} {k:Nat} {p q:Pk} (hd:doorOk x=true) (hs:DoorS x) (hk:k<x.flows.length) (hp:PkP p) (h:(outK x k p).2=some q):(0≤q.at_∧q.at_≤99)∧(q.kind=1→q.text≠[]):=by
  have hf:x.flows[k]?=some (Flw.at x k):=by simp [Flw.at,List.getD,hk]
  obtain ⟨_,_,hu,hdn,_⟩:=flow_at hd hf
  obtain ⟨hs1,hs2⟩:=hs _ (List.mem_of_getElem? hf)
  unfold outK at h
  split at h
  · split at h
    · cases h
    · cases h
      have hb:=strmOk_B hdn
      have h1:=backP_P (fun p hp=>(hb.2.2 p hp).1) hb.2.1 p.at_
      have h2:=backP_done (fun p hp=>(hb.2.2 p hp).1.1) p.at_
      have h3:=(strmOk_done hdn).1
      have h4:(body (Flw.at x k).down.inn).length≤(Flw.at x k).down.inn.length:=by simp [body]
      have:=hb.1
      exact ⟨by simp only;omega,fun h=>by cases h⟩
  · rename_i hkd
    split at h
    · cases h
    · obtain ⟨p1,p2⟩:=put_ok (out:=true) (doorOk_iff.1 hd).1 hu (hp.tx.resolve_left hkd) hp.at_.1
      simp only [Option.map_eq_some_iff] at h
      obtain ⟨q',hq,rfl⟩:=h
      have h1:=sendOn_at hq
      have h2:=sOut_sm (put_sm (out:=true) (n:=p.at_) (t:=p.text) (doorOk_iff.1 hd).1 hs1) p2
      have hne:=sendOn_ne hq
      exact ⟨by simp only;omega,fun _=>hne⟩
theorem inK_at {x:Door} {k:Nat} {i:E} {p q:Pk} (hd:doorOk x=true) (hs:DoorS x) (hk:k<x.flows.length) (hp:PkP p) (h:(inK x k i p).2=some q):(0≤q.at_∧q.at_≤99)∧(q.kind=1→q.text≠[]):=by
  have hf:x.flows[k]?=some (Flw.at x k):=by simp [Flw.at,List.getD,hk]
  obtain ⟨_,_,hu,hdn,_⟩:=flow_at hd hf
  obtain ⟨hs1,hs2⟩:=hs _ (List.mem_of_getElem? hf)
  unfold inK at h
  split at h
  · split at h
    · cases h
    · cases h
      have hb:=strmOk_B hu
      have h1:=backP_P (fun p hp=>(hb.2.2 p hp).1) hb.2.1 p.at_
      have h2:=backP_done (fun p hp=>(hb.2.2 p hp).1.1) p.at_
      have h3:=(strmOk_done hu).1
      have h4:(body (Flw.at x k).up.inn).length≤(Flw.at x k).up.inn.length:=by simp [body]
      have:=hb.1
      exact ⟨by simp only;omega,fun h=>by cases h⟩
  · rename_i hkd
    split at h
    · cases h
    · obtain ⟨p1,p2⟩:=put_ok (out:=false) (doorOk_iff.1 hd).1 hdn (hp.tx.resolve_left hkd) hp.at_.1
      simp only [Option.map_eq_some_iff] at h
      obtain ⟨q',hq,rfl⟩:=h
      have h1:=sendOn_at hq
      have h2:=sOut_sm (put_sm (out:=false) (n:=p.at_) (t:=p.text) (doorOk_iff.1 hd).1 hs2) p2
      have hne:=sendOn_ne hq
      exact ⟨by simp only;omega,fun _=>hne⟩
theorem openR_sm {d:Door} {i o:E} (hs:DoorS d):DoorS (openR d i o).1:=by
  have hz:SmS .zero:=fun p hp=>by cases hp
  unfold openR openF
  split
  · rename_i ho
    split at ho
    · cases ho;exact hs
    · split at ho
      · split at ho
        · cases ho
          intro f hf
          rcases List.mem_append.1 hf with hf|hf
          · exact hs f hf
          · simp only [List.mem_singleton] at hf;subst hf;exact ⟨hz,hz⟩
        · cases ho
      · cases ho
  · exact hs
theorem dPass_at {cs:List Conv} {d:Door} {p q:Pk} (hd:doorOk d=true) (hs:DoorS d) (hp:NetP cs p) (h:(dPass d p).2=some q):pkOk q=true:=by
  have his:=dPass_is hd hp h
  have hqp:=(dPass_P hd hp h).pk
  have hat:(0≤q.at_∧q.at_≤99)∧(q.kind=1→q.text≠[]):=by
    unfold dPass at h
    split at h
    · rename_i ho
      simp only [Pk.outward,Bool.and_eq_true] at ho
      cases hok:(openR d p.frm p.to).2.2 with
      | false=>rw [dOut_no hok] at h;cases h
      | true =>
        have hx:=openR_ok hd ho.1 ho.2 hok
        rw [dOut_yes hok hx.kl] at h
        exact outK_at hx.ok (openR_sm hs) hx.kl hp.pk h
    · split at h
      · cases h1:insideOf d.map p.to.p with
        | none=>rw [dIn_no1 h1] at h;cases h
        | some i =>
          cases h2:flowIx d.flows i p.frm with
          | none=>rw [dIn_no2 h1 h2] at h;cases h
          | some k =>
            obtain ⟨hk,he⟩:=dIn_yes h1 h2
            rw [he] at h
            exact inK_at hd hs hk hp.pk h
      · cases h
  refine pkOk_mk ?_ ?_ hat.1 hqp hat.2
  · rcases his with ⟨_,_,h2,_⟩|⟨h1,h2,_⟩
    · exact door_any h2
    · simp only [Pk.inward,Bool.and_eq_true] at h1
      rw [h2];simp [E.any,h1.1]
  · rcases his with ⟨h1,_,_,h3,_⟩|⟨_,_,h3,_⟩
    · simp only [Pk.outward,Bool.and_eq_true] at h1
      rw [h3];simp [E.any,h1.2]
    · exact inside_any h3
theorem dOut_keep {d:Door} {p:Pk}:∀ g∈d.flows,∃ f∈(dOut d p).1.flows,f.ins=g.ins∧f.out=g.out:=by
  have hin:∀ g∈d.flows,∃ f∈d.flows,f.ins=g.ins∧f.out=g.out:=fun f hf=>⟨f,hf,rfl,rfl⟩
  have hop:∀ x k,openF d p.frm p.to=some (x,k)→∀ g∈d.flows,g∈x.flows:=by
    intro x k h
    unfold openF at h
    split at h
    · cases h;exact fun g hg=>hg
    · split at h
      · split at h
        · cases h
          intro g hg
          simp [hg]
        · cases h
      · cases h
  unfold dOut
  split
  · exact hin
  · rename_i x k ho
    have hx:=hop x k ho
    split
    · exact fun g hg=>⟨g,hx g hg,rfl,rfl⟩
    · rename_i f hf
      split
      · split<;>exact fun g hg=>⟨g,hx g hg,rfl,rfl⟩
      · split
        · exact fun g hg=>⟨g,hx g hg,rfl,rfl⟩
        · intro g hg
          obtain ⟨j,hj⟩:=List.mem_iff_getElem?.1 (hx g hg)
          have hl:=(List.getElem?_eq_some_iff.1 hf).1
          by_cases hkj:k=j
          · subst hkj
            rw [hf] at hj;cases hj
            exact ⟨_,List.mem_set hl _,rfl,rfl⟩
          · exact ⟨g,List.mem_iff_getElem?.2 ⟨j,by simp only;rw [List.getElem?_set_ne hkj];exact hj⟩,rfl,rfl⟩
theorem dIn_keep {d:Door} {p:Pk}:∀ g∈d.flows,∃ f∈(dIn d p).1.flows,f.ins=g.ins∧f.out=g.out:=by
  have hin:∀ g∈d.flows,∃ f∈d.flows,f.ins=g.ins∧f.out=g.out:=fun f hf=>⟨f,hf,rfl,rfl⟩
  unfold dIn
  split
  · exact hin
  · split
    · exact hin
    · rename_i k _
      split
      · exact hin
      · rename_i f hf
        split
        · split<;>exact hin
        · split
          · exact hin
          · intro g hg
            obtain ⟨j,hj⟩:=List.mem_iff_getElem?.1 hg
            have hl:=(List.getElem?_eq_some_iff.1 hf).1
            by_cases hkj:k=j
            · subst hkj
              rw [hf] at hj;cases hj
              exact ⟨_,List.mem_set hl _,rfl,rfl⟩
            · exact ⟨g,List.mem_iff_getElem?.2 ⟨j,by simp only;rw [List.getElem?_set_ne hkj];exact hj⟩,rfl,rfl⟩
theorem dPass_keep {d:Door} {p:Pk}:∀ g∈d.flows,∃ f∈(dPass d p).1.flows,f.ins=g.ins∧f.out=g.out:=by
  unfold dPass
  split
  · exact dOut_keep
  · split
    · exact dIn_keep
    · exact fun f hf=>⟨f,hf,rfl,rfl⟩
def Has (d:Door) (i o:E):Prop:=∃ f∈d.flows,f.ins=i∧f.out=o
theorem has_ix {d:Door} {i o:E}:(flowIx d.flows i o).isSome=true↔Has d i o:=by
  constructor
  · intro h
    obtain ⟨k,hk⟩:=Option.isSome_iff_exists.1 h
    obtain ⟨f,hf,h1,h2,_⟩:=flowIx_some hk
    exact ⟨f,List.mem_of_getElem? hf,h1,h2⟩
  · rintro ⟨f,hf,h1,h2⟩
    cases h:flowIx d.flows i o with
    | some k=>rfl
    | none =>
      have:=List.any_eq_false.1 (flowIx_none.1 h) f hf
      simp [sameF,h1,h2] at this
theorem has_pass {d:Door} {p:Pk} {i o:E} (h:Has d i o):Has (dPass d p).1 i o:=by
  obtain ⟨f,hf,h1,h2⟩:=h
  obtain ⟨g,hg,h3,h4⟩:=dPass_keep (p:=p) f hf
  exact ⟨g,hg,by rw [h3,h1],by rw [h4,h2]⟩
def NetN (_:List Conv) (d:Door) (p:Pk):Prop:=pkOk p=true ∧
  ((p.frm.inside=true∧p.to.outside=true)∨(p.frm.door=true∧p.to.outside=true)∨(p.frm.outside=true∧p.to.door=true)∨(p.frm.outside=true∧p.to.inside=true∧Has d p.to p.frm))
theorem net_step:StepI (fun _ d=>DoorS d) NetN where
  say:=fun w c up port n m p hw hk hc hport hs=>by
    have hcv:=hw.cv c hc
    obtain ⟨h1,h2,h3,h4,h5,h6,h7⟩:=say_P hcv hs
    have hcc:=convOk_iff.1 hcv
    have hne:p.text≠[]:=by
      rw [h5]
      intro hn
      have:=congrArg List.length hn
      simp only [List.length_take,List.length_drop,List.length_nil] at this
      omega
    have hlen:((bif up then c.up else c.down).length:Int)≤24:=by
      have:=convOk_B hcv
      cases up
      · have:=this.down;simp only [cond_false];omega
      · have:=this.up;simp only [cond_true];omega
    have hat:0≤p.at_∧p.at_≤99:=by rw [h4];omega
    cases up with
    | true =>
      simp only [cond_true] at h3
      refine ⟨pkOk_mk ?_ ?_ hat h1 (fun _=>hne),.inl ⟨by rw [h3.1];exact hcc.1.1,by rw [h3.2];exact hcc.1.2.1⟩⟩
      · rw [h3.1];exact inside_any hcc.1.1
      · rw [h3.2];simp [E.any,hcc.1.2.1]
    | false =>
      simp only [cond_false] at h3
      have hd:(⟨9,port⟩:E).door=true:=E.door_iff.2 ⟨rfl,h3.2.2⟩
      refine ⟨pkOk_mk ?_ ?_ hat h1 (fun _=>hne),.inr (.inr (.inl ⟨by rw [h3.1];exact hcc.1.2.1,by rw [h3.2.1];exact hd⟩))⟩
      · rw [h3.1];simp [E.any,hcc.1.2.1]
      · rw [h3.2.1];exact door_any hd
  str:=fun w p hw hk hs=>by
    simp only [stranger,Bool.and_eq_true,Pk.inward] at hs
    exact ⟨hs.1.1,.inr (.inr (.inl hs.1.2))⟩
  pass:=fun w p hw hk hp hn _=>by
    refine ⟨dPass_sm hw.door hk,fun q hq=>⟨dPass_at hw.door hk hp hq, ?_⟩,fun q _ hq=>⟨hq.1, ?_⟩⟩
    · rcases dPass_is hw.door hp hq with ⟨h1,_,h2,h3,_⟩|⟨h1,h2,h3,h4,_,h6⟩
      · simp only [Pk.outward,Bool.and_eq_true] at h1
        exact .inr (.inl ⟨h2,by rw [h3];exact h1.2⟩)
      · simp only [Pk.inward,Bool.and_eq_true] at h1
        exact .inr (.inr (.inr ⟨by rw [h2];exact h1.1,h3,has_pass (has_ix.1 h6)⟩))
    · rcases hq.2 with h|h|h|h
      · exact .inl h
      · exact .inr (.inl h)
      · exact .inr (.inr (.inl h))
      · exact .inr (.inr (.inr ⟨h.1,h.2.1,has_pass h.2.2⟩))
  hear:=fun w p i b c hw hk hp hn hno hb hc=>by
    refine ⟨hk,fun q hq=>?_,fun q _ h=>h⟩
    have hcm:=List.mem_of_getElem? hc
    have hcv:=hw.cv c hcm
    have hcc:=convOk_iff.1 hcv
    obtain ⟨h1,h2,h3,h4,h5⟩:=hear_ans hcv hp.pk hq
    have hat:=hear_at hq
    have hB:=convOk_B (hear_ok (inward:=b) hcv hp.pk)
    have h99:0≤q.at_∧q.at_≤99:=by
      rw [hat]
      have:=hB.upGot
      have:=hB.downGot
      cases b<;>simp only [cond_true,cond_false]<;>omega
    cases b with
    | true =>
      simp only [cond_true] at h5
      refine ⟨pkOk_mk ?_ ?_ h99 h1 (fun h=>by omega),.inl ⟨by rw [h3,h5.2];exact hcc.1.1,by rw [h4,h5.1];exact hcc.1.2.1⟩⟩
      · rw [h3,h5.2];exact inside_any hcc.1.1
      · rw [h4,h5.1];simp [E.any,hcc.1.2.1]
    | false =>
      simp only [cond_false] at h5
      refine ⟨pkOk_mk ?_ ?_ h99 h1 (fun h=>by omega),.inr (.inr (.inl ⟨by rw [h3,h5.1];exact hcc.1.2.1,by rw [h4];exact h5.2⟩))⟩
      · rw [h3,h5.1];simp [E.any,hcc.1.2.1]
      · rw [h4];exact door_any h5.2
end Go.Proofs.YtggifndkolojmaaGreatDoor.M
namespace Go.Proofs.YtggifndkolojmaaGreatDoor.M
theorem apart_together {cs:List Conv} (hc:∀ c∈cs,convOk c=true) (hl:cs.length≤2) (h:Apart cs):together cs=true:=by
  refine together_iff.2 ⟨hl,fun i hi=>?_⟩
  rw [okConv_i hi,hc _ (List.getElem_mem hi),Bool.true_and,Bool.not_eq_true',List.any_eq_false]
  intro o ho
  obtain ⟨j,hj⟩:=List.mem_iff_getElem?.1 ho
  rw [List.getElem?_take] at hj
  split at hj
  · rename_i hji
    simp only [Bool.or_eq_true,decide_eq_true_eq]
    intro he
    have:=h j i o _ hj (List.getElem?_eq_getElem hi) he
    omega
  · cases hj
def Gr (d x:Door):Prop:=∀ f∈d.flows,∃ g∈x.flows,g.ins=f.ins∧g.out=f.out∧sOut f.up <+: sOut g.up∧sOut f.down <+: sOut g.down
theorem Gr.refl (d:Door):Gr d d:=fun f hf=>⟨f,hf,rfl,rfl,List.prefix_rfl,List.prefix_rfl⟩
theorem Gr.trans {a b c:Door} (h:Gr a b) (g:Gr b c):Gr a c:=fun f hf=>by
  obtain ⟨u,hu,u1,u2,u3,u4⟩:=h f hf
  obtain ⟨v,hv,v1,v2,v3,v4⟩:=g u hu
  exact ⟨v,hv,v1.trans u1,v2.trans u2,u3.trans v3,u4.trans v4⟩
end Go.Proofs.YtggifndkolojmaaGreatDoor.M
namespace Go.Proofs.YtggifndkolojmaaGreatDoor.M
def St (T:B) (q:Pk):Prop:=0≤q.at_∧q.at_.toNat≤T.length∧q.text <+: T.drop q.at_.toNat
theorem St.mono {T U:B} {q:Pk} (h:St T q) (hp:T <+: U):St U q:=by
  obtain ⟨y,rfl⟩:=hp
  obtain ⟨h0,h1,z,hz⟩:=h
  exact ⟨h0,by simp;omega,z++y,by rw [← List.append_assoc,hz,List.drop_append_of_le_length h1]⟩
theorem backP_pre {l r:List Part} (h:∀ p∈r,0≤p.size∧p.size≤6):∀ {n:Int},l <+: r→backP l n≤backP r n:=by
  induction l generalizing r with
  | nil=>intro n _;exact (backP_rng h n).1
  | cons p l ih =>
    intro n hp
    obtain ⟨t,rfl⟩:=hp
    have h2:=h p (by simp)
    have h1:=ih (r:=l++t) (fun q hq=>h q (by simp at hq ⊢;exact .inr hq)) (n:=n - p.text.length) (List.prefix_append _ _)
    simp only [List.cons_append,backP]
    split<;>omega
theorem sOut_pre {s t:Strm} (h:s.parts <+: t.parts):sOut s <+: sOut t:=by
  obtain ⟨y,hy⟩:=h
  simp only [sOut,← hy,List.flatMap_append]
  exact List.prefix_append _ _
structure Tr (c:Conv) (f:Flw):Prop where
  upIn:f.up.inn <+: c.up
  downIn:f.down.inn <+: c.down
  upGot:c.upGot <+: sOut f.up
  downGot:c.downGot <+: sOut f.down
  upAck:c.upAck≤backP f.up.parts c.upGot.length
  downAck:c.downAck≤backP f.down.parts c.downGot.length
def Of (f:Flw) (c:Conv):Prop:=f.ins=c.ins∧f.out=c.out
def TrK (cs:List Conv) (d:Door):Prop:=Apart cs∧∀ c∈cs,(∀ f∈d.flows,Of f c→Tr c f)∧((∀ f∈d.flows,¬ Of f c)→c.upGot=[]∧c.downGot=[]∧c.upAck=0∧c.downAck=0)
structure TrN (cs:List Conv) (d:Door) (p:Pk):Prop where
  up:p.kind=1→∀ c∈cs,p.frm=c.ins→p.to=c.out→St c.up p
  down:p.kind=1→∀ c∈cs,p.frm=c.out→p.to.door=true→St c.down p
  inn:p.kind=1→∀ c∈cs,p.frm=c.out→p.to=c.ins→∃ f∈d.flows,Of f c∧St (sOut f.down) p
  out:p.kind=1→p.frm.door=true→∃ f∈d.flows,f.out=p.to∧portOf d.map f.ins=p.frm.p∧St (sOut f.up) p
  aUp:p.kind=2→∀ c∈cs,p.frm=c.out→p.to.door=true→p.at_≤c.upGot.length
  aDown:p.kind=2→∀ c∈cs,p.frm=c.ins→p.to=c.out→p.at_≤c.downGot.length
  aInn:p.kind=2→∀ c∈cs,p.frm=c.out→p.to=c.ins→∃ f∈d.flows,Of f c∧p.at_≤backP f.up.parts c.upGot.length
  aOut:p.kind=2→p.frm.door=true→∃ f∈d.flows,f.out=p.to∧portOf d.map f.ins=p.frm.p∧∀ c∈cs,Of f c→p.at_≤backP f.down.parts c.downGot.length
theorem put_parts (m:List Pair) (s:Strm) (n:Int) (t:B) (out:Bool):s.parts <+: (put m s n t out).2.1.parts∧(put m s n t out).2.1.inn=(bif (put m s n t out).2.2 then (behind s.inn n t).1 else s.inn):=by
  unfold put
  split
  · exact ⟨List.prefix_append _ _,rfl⟩
  · exact ⟨List.prefix_rfl,rfl⟩
theorem TrK.set {cs:List Conv} {x:Door} {m:List Pair} {k:Nat} {f g:Flw} (h:TrK cs x) (hf:x.flows[k]?=some f) (h1:g.ins=f.ins) (h2:g.out=f.out) (ht:∀ c∈cs,Of f c→Tr c g):TrK cs ⟨m,x.flows.set k g⟩:=by
  have hl:=(List.getElem?_eq_some_iff.1 hf).1
  refine ⟨h.1,fun c hc=>⟨fun u hu ho=>?_,fun hno=>(h.2 c hc).2 fun u hu ho=>?_⟩⟩
  · rcases List.mem_or_eq_of_mem_set hu with hu|rfl
    · exact (h.2 c hc).1 u hu ho
    · exact ht c hc ⟨by rw [← h1];exact ho.1,by rw [← h2];exact ho.2⟩
  · obtain ⟨j,hj⟩:=List.mem_iff_getElem?.1 hu
    by_cases hkj:k=j
    · subst hkj
      rw [hf] at hj;cases hj
      exact hno g (List.mem_set hl _) ⟨by rw [h1];exact ho.1,by rw [h2];exact ho.2⟩
    · exact hno u (List.mem_iff_getElem?.2 ⟨j,by simp only;rw [List.getElem?_set_ne hkj];exact hj⟩) ho
def Gp (d x:Door):Prop:=∀ f∈d.flows,∃ g∈x.flows,g.ins=f.ins∧g.out=f.out∧f.up.parts <+: g.up.parts∧f.down.parts <+: g.down.parts
theorem Gp.refl (d:Door):Gp d d:=fun f hf=>⟨f,hf,rfl,rfl,List.prefix_rfl,List.prefix_rfl⟩
theorem sizes {s:Strm} (h:strmOk s=true):∀ p∈s.parts,0≤p.size∧p.size≤6:=fun p hp=>by have:=((strmOk_B h).2.2 p hp).1;omega
theorem TrN.grow {cs:List Conv} {d x:Door} {q:Pk} (h:TrN cs d q) (hx:doorOk x=true) (hg:Gp d x) (hm:∃ y,x.map=d.map++y):TrN cs x q:=by
  obtain ⟨y,hy⟩:=hm
  have ok:∀ g∈x.flows,strmOk g.up=true∧strmOk g.down=true:=fun g hgm=>by
    obtain ⟨k,hk⟩:=List.mem_iff_getElem?.1 hgm
    obtain ⟨_,_,h1,h2,_⟩:=flow_at hx hk
    exact ⟨h1,h2⟩
  have hport:∀ e:E,q.frm.door=true→portOf d.map e=q.frm.p→portOf x.map e=q.frm.p:=fun e hd he=>by
    rw [hy,portOf_app (by have:=E.door_iff.1 hd;omega),he]
  refine ⟨h.up,h.down,fun a c b e f=>?_,fun a b=>?_,h.aUp,h.aDown,fun a c b e f=>?_,fun a b=>?_⟩
  · obtain ⟨u,hu,u1,u2⟩:=h.inn a c b e f
    obtain ⟨v,hv,v1,v2,v3,v4⟩:=hg u hu
    exact ⟨v,hv,⟨v1.trans u1.1,v2.trans u1.2⟩,u2.mono (sOut_pre v4)⟩
  · obtain ⟨u,hu,u1,u2,u3⟩:=h.out a b
    obtain ⟨v,hv,v1,v2,v3,v4⟩:=hg u hu
    exact ⟨v,hv,v2.trans u1,by rw [v1];exact hport _ b u2,u3.mono (sOut_pre v3)⟩
  · obtain ⟨u,hu,u1,u2⟩:=h.aInn a c b e f
    obtain ⟨v,hv,v1,v2,v3,v4⟩:=hg u hu
    exact ⟨v,hv,⟨v1.trans u1.1,v2.trans u1.2⟩,Int.le_trans u2 (backP_pre (sizes (ok v hv).1) v3)⟩
  · obtain ⟨u,hu,u1,u2,u3⟩:=h.aOut a b
    obtain ⟨v,hv,v1,v2,v3,v4⟩:=hg u hu
    exact ⟨v,hv,v2.trans u1,by rw [v1];exact hport _ b u2,fun c hc ho=>Int.le_trans (u3 c hc ⟨by rw [← v1];exact ho.1,by rw [← v2];exact ho.2⟩) (backP_pre (sizes (ok v hv).2) v4)⟩
end Go.Proofs.YtggifndkolojmaaGreatDoor.M
namespace Go.Proofs.YtggifndkolojmaaGreatDoor.M
variable {K:List Conv→Door→Prop} {N:List Conv→Door→Pk→Prop}
theorem WI.si {w:World} (h:WI w):SI (fun _ _=>True) (fun _ _ _=>True) w:=⟨h,trivial,fun _ _=>trivial⟩
theorem NetP.ext {w v:World} {p:Pk} (h:NetP w.convs p) (hx:Ext w v):NetP v.convs p:=⟨h.pk,fun hi=>by
  obtain ⟨c,hc,h1,h2⟩:=h.c hi
  obtain ⟨i,hi⟩:=List.mem_iff_getElem?.1 hc
  have hl:i<v.convs.length:=by rw [hx.len];exact (List.getElem?_eq_some_iff.1 hi).1
  have hg:=List.getElem?_eq_getElem hl
  have hce:=hx.cv i c _ hi hg
  exact ⟨_,List.mem_of_getElem? hg,by rw [hce.ins,h1],by rw [hce.out,h2]⟩⟩
end Go.Proofs.YtggifndkolojmaaGreatDoor.M
namespace Go.Proofs.YtggifndkolojmaaGreatDoor.M
theorem forP_full {l:List Part} (h:∀ p∈l,1≤p.size):∀ {n:Int},(doneP l:Int)≤n→forP l n=(l.flatMap (·.text)).length:=by
  induction l with
  | nil=>intro n _;rfl
  | cons p l ih =>
    intro n hn
    have h1:=h p (by simp)
    rw [doneP_cons] at hn
    have:=ih (fun q hq=>h q (by simp [hq])) (n:=n - p.size) (by omega)
    simp only [forP]
    rw [if_pos (by omega),this]
    simp
theorem strm_one {s:Strm} (hs:strmOk s=true):∀ p∈s.parts,1≤p.size∧1≤p.text.length:=fun p hp=>by
  have:=(strmOk_B hs).2.2 p hp
  omega
end Go.Proofs.YtggifndkolojmaaGreatDoor.M
namespace Go.Proofs.YtggifndkolojmaaGreatDoor.M
theorem any_step {α:Type} {P:α→Bool} {l:List α} {k:Nat} (hk:k<l.length) (h:(l.take k).any P=false) (hp:P l[k]=false):(l.take (k+1)).any P=false:=by
  rw [List.take_add_one,List.getElem?_eq_getElem hk]
  simp only [Option.toList_some,List.any_append,h,List.any_cons,List.any_nil,Bool.or_false,Bool.false_or,hp]
def flowOf (d:Door) (i o:E):Option Flw:=(flowIx d.flows i o).bind fun k=>d.flows[k]?
def DoorQ (d:Door):Prop:=∀ f∈d.flows,(sOut f.up).length≤50∧(sOut f.down).length≤50
theorem put_again {m m':List Pair} {s s':Strm} {n:Int} {t:B} {out:Bool} (hs:strmOk s'=true) (h:(put m s n t out).2.2=true) (he:(put m s n t out).2.1=s') (hn:0≤n):put m' s' n t out=(m',s',true):=by
  have hb:(behind s.inn n t).2=true:=by
    unfold put at h
    split at h
    · assumption
    · cases h
  have hinn:s'.inn=(behind s.inn n t).1:=by
    rw [← he]
    unfold put
    rw [if_pos hb]
  have hb2:behind s'.inn n t=(s'.inn,true):=by
    rw [hinn]
    unfold behind at hb ⊢
    by_cases c1:(decide (n>(s.inn.length:Int)) || decide (n+t.length>40))=true
    · rw [if_pos c1] at hb;cases hb
    · simp only [if_neg c1] at hb ⊢
      simp only [Bool.or_eq_true,decide_eq_true_eq,not_or] at c1
      by_cases c2:n+(t.length:Int)≤s.inn.length
      · simp only [if_pos c2]
        rw [if_neg (by simp only [Bool.or_eq_true,decide_eq_true_eq];omega)]
      · simp only [if_neg c2]
        have hl:((s.inn++t.drop (s.inn.length - n).toNat).length:Int)=n+t.length:=by
          rw [List.length_append,List.length_drop]
          omega
        rw [if_neg (by simp only [Bool.or_eq_true,decide_eq_true_eq];omega),if_pos (by omega)]
  have hp:(pieces s'.inn).drop s'.parts.length=[]:=by
    rw [(strmOk_done hs).2]
    simp
  unfold put
  rw [hb2]
  simp only [if_true,hp,turned,mkParts,List.append_nil]
theorem send_again {m:List Pair} {s:Strm} {p:Pk} {out:Bool} (hm:mapOk m=true) (hs:strmOk s=true) (ht:txOk p.text=true) (hn:0≤p.at_) (h:(put m s p.at_ p.text out).2.2=true) :
    sendOn (put m s p.at_ p.text out).2.1 (put m s p.at_ p.text out).2.1 p=sendOn s (put m s p.at_ p.text out).2.1 p:=by
  have hok:=(put_ok (out:=out) hm hs ht hn).2
  have hpp:=(put_parts m s p.at_ p.text out).2
  rw [h,cond_true] at hpp
  have e:∀ was is:Strm,sendOn was is p=if forP is.parts p.at_≥toR was is p then none else if toR was is p - forP is.parts p.at_≤40 then some { p with at_:=forP is.parts p.at_,text:=((sOut is).take (toR was is p).toNat).drop (forP is.parts p.at_).toNat } else none:=fun _ _=>rfl
  suffices ht:toR (put m s p.at_ p.text out).2.1 (put m s p.at_ p.text out).2.1 p=toR s (put m s p.at_ p.text out).2.1 p by rw [e,e,ht]
  generalize (put m s p.at_ p.text out).2.1=s' at *
  have hb:(behind s.inn p.at_ p.text).2=true:=by
    unfold put at h
    split at h
    · assumption
    · cases h
  unfold toR
  rw [if_neg (Nat.lt_irrefl _)]
  split
  · rename_i hlt
    have hl:(s'.inn.length:Int)≤p.at_+p.text.length:=by
      rw [hpp] at hlt ⊢
      unfold behind at hb hlt ⊢
      by_cases c1:(decide (p.at_>(s.inn.length:Int)) || decide (p.at_+p.text.length>40))=true
      · rw [if_pos c1] at hb;cases hb
      · simp only [if_neg c1] at hb hlt ⊢
        simp only [Bool.or_eq_true,decide_eq_true_eq,not_or] at c1
        by_cases c2:p.at_+(p.text.length:Int)≤s.inn.length
        · simp only [if_pos c2] at hlt;omega
        · simp only [if_neg c2]
          rw [List.length_append,List.length_drop]
          omega
    rw [Int.min_eq_right hl]
    refine forP_full (fun q hq=>(strm_one hok q hq).1) ?_
    have:=(strmOk_done hok).1
    rw [body_len] at this
    omega
  · rfl
structure Opens (d:Door) (i o:E) (x:Door) (k:Nat) (f:Flw):Prop where
  ok:doorOk x=true
  at_:x.flows[k]?=some f
  ins:f.ins=i
  out:f.out=o
  ix:flowIx x.flows i o=some k
  up:((flowOf d i o).getD .zero).up=f.up
  down:((flowOf d i o).getD .zero).down=f.down
  port:portOf x.map i≠0
  map:∃ y,x.map=d.map++y
  sub:∃ y,x.flows=d.flows++y∧(y=[]∨(y=[f]∧k=d.flows.length))
  q:DoorQ d→DoorQ x
theorem opens {d:Door} {i o:E} (hd:doorOk d=true) (hi:i.inside=true) (ho:o.outside=true) (hok:(openR d i o).2.2=true):∃ f,Opens d i o (openR d i o).1 (openR d i o).2.1 f:=by
  have hx:=openR_ok hd hi ho hok
  cases hf:flowIx d.flows i o with
  | some k =>
    rw [openF_has hf] at hx ⊢
    obtain ⟨f,h1,h2,h3,h4⟩:=flowIx_some hf
    refine ⟨f,hx.ok,h1,h2,h3,hf, ?_, ?_,hx.port,⟨[],by simp⟩,⟨[],by simp,.inl rfl⟩,fun h=>h⟩
    · simp [flowOf,hf,h1]
    · simp [flowOf,hf,h1]
  | none =>
    cases h2:(mOut d.map i).2.2 with
    | false=>rw [openF_no hf h2] at hok;cases hok
    | true =>
      by_cases h4:d.flows.length<4
      · rw [openF_new hf h2 h4] at hx ⊢
        have h1:(d.flows++[Flw.mk i o .zero .zero])[d.flows.length]?=some ⟨i,o,.zero,.zero⟩:=by simp
        refine ⟨⟨i,o,.zero,.zero⟩,hx.ok,h1,rfl,rfl,flowIx_at h1 rfl rfl (by rw [List.take_left' rfl];exact flowIx_none.1 hf), ?_, ?_,hx.port,mOut_pre _ _,⟨_,rfl,.inr ⟨rfl,rfl⟩⟩,fun h f hfm=>?_⟩
        · simp [flowOf,hf,Flw.zero]
        · simp [flowOf,hf,Flw.zero]
        · rcases List.mem_append.1 hfm with h5|h5
          · exact h f h5
          · simp only [List.mem_singleton] at h5
            subst h5
            simp [sOut,Strm.zero]
      · exfalso
        rcases hmo:mOut d.map i with ⟨m,n,ok⟩
        rw [hmo] at h2
        simp only at h2
        subst h2
        simp [openR,openF,hf,hmo,h4] at hok
theorem set_ix {fs:List Flw} {i o:E} {k:Nat} {f g:Flw} (h:flowIx fs i o=some k) (hf:fs[k]?=some f) (h1:g.ins=f.ins) (h2:g.out=f.out):flowIx (fs.set k g) i o=some k∧(fs.set k g)[k]?=some g:=by
  obtain ⟨f',e1,e2,e3,e4⟩:=flowIx_some h
  rw [hf] at e1;cases e1
  have hl:=(List.getElem?_eq_some_iff.1 hf).1
  refine ⟨flowIx_at (List.getElem?_set_self hl) (by rw [h1,e2]) (by rw [h2,e3]) ?_,List.getElem?_set_self hl⟩
  rw [List.take_set_of_le (Nat.le_refl _)]
  exact e4
structure OutIs (d:Door) (p:Pk) (x:Door) (r:Pk):Prop where
  ok:doorOk x=true
  port:portOf x.map p.frm≠0
  frm:r.frm=⟨9,portOf x.map p.frm⟩
  to:r.to=p.to
  kind:r.kind=p.kind
  map:∃ y,x.map=d.map++y
  q:DoorQ d→∀ f∈x.flows,(sOut f.up).length≤98∧(sOut f.down).length≤98
  fl:∃ (k:Nat) (g:Flw),flowIx x.flows p.frm p.to=some k∧x.flows[k]?=some g∧g.down=((flowOf d p.frm p.to).getD .zero).down ∧
    (p.kind=2→g.up=((flowOf d p.frm p.to).getD .zero).up∧r.at_=backP g.down.parts p.at_∧p.at_≤(sOut g.down).length∧r.text=[]) ∧
    (p.kind=1→∃ m0,mapOk m0=true∧(∃ y,m0=d.map++y)∧strmOk ((flowOf d p.frm p.to).getD .zero).up=true∧put m0 ((flowOf d p.frm p.to).getD .zero).up p.at_ p.text true=(x.map,g.up,true)∧∃ q,sendOn ((flowOf d p.frm p.to).getD .zero).up g.up p=some q∧r.at_=q.at_∧r.text=q.text)
structure InIs (d:Door) (p:Pk) (x:Door) (r:Pk):Prop where
  ok:doorOk x=true
  ins:insideOf d.map p.to.p=some r.to
  inside:r.to.inside=true
  frm:r.frm=p.frm
  kind:r.kind=p.kind
  map:x.map=d.map
  len:x.flows.length=d.flows.length
  q:DoorQ d→∀ f∈x.flows,(sOut f.up).length≤98∧(sOut f.down).length≤98
  fl:∃ (k:Nat) (f g:Flw),flowIx d.flows r.to p.frm=some k∧d.flows[k]?=some f∧flowIx x.flows r.to p.frm=some k∧x.flows[k]?=some g∧strmOk f.down=true∧g.up=f.up ∧
    (p.kind=2→x=d∧r.at_=backP f.up.parts p.at_∧p.at_≤(sOut f.up).length∧r.text=[]) ∧
    (p.kind=1→put d.map f.down p.at_ p.text false=(d.map,g.down,true)∧∃ q,sendOn f.down g.down p=some q∧r.at_=q.at_∧r.text=q.text)
theorem dPass_again {d:Door} {p:Pk} (hd:doorOk d=true) (hp:PkP p):dPass (dPass d p).1 p=dPass d p:=by
  have hdm:=(doorOk_iff.1 hd).1
  unfold dPass
  by_cases ho:p.outward=true
  · simp only [if_pos ho]
    have ho':=ho
    simp only [Pk.outward,Bool.and_eq_true] at ho'
    cases hok:(openR d p.frm p.to).2.2 with
    | false=>rw [dOut_no hok];simp only;rw [dOut_no hok]
    | true =>
      have hx:=openR_ok hd ho'.1 ho'.2 hok
      obtain ⟨f,hop⟩:=opens hd ho'.1 ho'.2 hok
      have hdo:=(dOut_ok hd hp ho).1
      rw [dOut_yes hok hx.kl] at hdo ⊢
      generalize (openR d p.frm p.to).1=x at *
      generalize (openR d p.frm p.to).2.1=k at *
      have hat:Flw.at x k=f:=by simp [Flw.at,List.getD,hop.at_]
      have hl:=(List.getElem?_eq_some_iff.1 hop.at_).1
      obtain ⟨_,_,hu,hdn,_⟩:=flow_at hop.ok hop.at_
      have h2nd:∀ y:Door,flowIx y.flows p.frm p.to=some k→dOut y p=outK y k p:=fun y hy=>by
        have e:=openF_has (d:=y) hy
        have hky:k<y.flows.length:=by obtain ⟨_,h,_⟩:=flowIx_some hy;exact (List.getElem?_eq_some_iff.1 h).1
        rw [dOut_yes (by rw [e]) (by rw [e];exact hky),e]
      unfold outK at hdo ⊢
      rw [hat] at hdo ⊢
      by_cases hk2:p.kind=2
      · rw [if_pos hk2] at hdo ⊢
        by_cases hc:p.at_>(sOut f.down).length
        · simp only [if_pos hc]
          rw [h2nd x hop.ix]
          unfold outK
          rw [if_pos hk2,hat,if_pos hc]
        · simp only [if_neg hc]
          rw [h2nd x hop.ix]
          unfold outK
          rw [if_pos hk2,hat,if_neg hc]
      · rw [if_neg hk2] at hdo ⊢
        have htx:=hp.tx.resolve_left hk2
        by_cases hc:(put x.map f.up p.at_ p.text true).2.2=false
        · simp only [if_pos hc]
          rw [h2nd x hop.ix]
          unfold outK
          rw [if_neg hk2,hat,if_pos hc]
        · have hput:(put x.map f.up p.at_ p.text true).2.2=true:=by simpa using hc
          simp only [if_neg hc]
          obtain ⟨s1,s2⟩:=set_ix hop.ix hop.at_ (g:={ f with up:=(put x.map f.up p.at_ p.text true).2.1 }) rfl rfl
          rw [h2nd _ s1]
          have hat2:Flw.at ⟨(put x.map f.up p.at_ p.text true).1,x.flows.set k { f with up:=(put x.map f.up p.at_ p.text true).2.1 }⟩ k={ f with up:=(put x.map f.up p.at_ p.text true).2.1 }:=by simp [Flw.at,List.getD,s2]
          have hagain:=put_again (m':=(put x.map f.up p.at_ p.text true).1) (put_ok (out:=true) hx.map hu htx hp.at_.1).2 hput rfl hp.at_.1
          have hsend:=send_again (out:=true) hx.map hu htx hp.at_.1 hput
          have hpo:portOf (put x.map f.up p.at_ p.text true).1 p.frm=portOf x.map p.frm:=put_port hop.port
          unfold outK
          rw [if_neg hk2,hat2]
          simp only [hagain,hsend,hpo,List.set_set]
          rw [if_neg (by decide)]
  · simp only [if_neg ho]
    by_cases hi:p.inward=true
    · simp only [if_pos hi]
      cases h1:insideOf d.map p.to.p with
      | none=>rw [dIn_no1 h1];simp only;rw [dIn_no1 h1]
      | some i =>
        cases h2:flowIx d.flows i p.frm with
        | none=>rw [dIn_no2 h1 h2];simp only;rw [dIn_no2 h1 h2]
        | some k =>
          obtain ⟨hk,he⟩:=dIn_yes h1 h2
          obtain ⟨f,f1,f2,f3,_⟩:=flowIx_some h2
          rw [he]
          have hat:Flw.at d k=f:=by simp [Flw.at,List.getD,f1]
          obtain ⟨_,_,hu,hdn,_⟩:=flow_at hd f1
          have h2nd:∀ y:Door,y.map=d.map→flowIx y.flows i p.frm=some k→dIn y p=inK y k i p:=fun y hm hy=>(dIn_yes (by rw [hm];exact h1) hy).2
          unfold inK
          rw [hat]
          by_cases hk2:p.kind=2
          · rw [if_pos hk2]
            by_cases hc:p.at_>(sOut f.up).length
            · simp only [if_pos hc]
              rw [h2nd d rfl h2]
              unfold inK
              rw [if_pos hk2,hat,if_pos hc]
            · simp only [if_neg hc]
              rw [h2nd d rfl h2]
              unfold inK
              rw [if_pos hk2,hat,if_neg hc]
          · rw [if_neg hk2]
            have htx:=hp.tx.resolve_left hk2
            by_cases hc:(put d.map f.down p.at_ p.text false).2.2=false
            · simp only [if_pos hc]
              rw [h2nd d rfl h2]
              unfold inK
              rw [if_neg hk2,hat,if_pos hc]
            · have hput:(put d.map f.down p.at_ p.text false).2.2=true:=by simpa using hc
              simp only [if_neg hc]
              obtain ⟨s1,s2⟩:=set_ix h2 f1 (g:={ f with down:=(put d.map f.down p.at_ p.text false).2.1 }) rfl rfl
              rw [h2nd ⟨d.map,d.flows.set k { f with down:=(put d.map f.down p.at_ p.text false).2.1 }⟩ rfl s1]
              have hat2:Flw.at ⟨d.map,d.flows.set k { f with down:=(put d.map f.down p.at_ p.text false).2.1 }⟩ k={ f with down:=(put d.map f.down p.at_ p.text false).2.1 }:=by simp [Flw.at,List.getD,s2]
              have hagain:=put_again (m':=d.map) (put_ok (out:=false) hdm hdn htx hp.at_.1).2 hput rfl hp.at_.1
              have hsend:=send_again (out:=false) hdm hdn htx hp.at_.1 hput
              unfold inK
              rw [if_neg hk2,hat2]
              simp only [hagain,hsend,List.set_set]
              rw [if_neg (by decide)]
    · simp only [if_neg hi]
end Go.Proofs.YtggifndkolojmaaGreatDoor.M
namespace Go.Proofs.YtggifndkolojmaaGreatDoor.M
theorem say_pk {c:Conv} {up:Bool} {port n m:Int} {p:Pk} (hcv:convOk c=true) (hs:say c up port n m=some p):pkOk p=true:=by
  obtain ⟨h1,h2,h3,h4,h5,h6,h7⟩:=say_P hcv hs
  have hcc:=convOk_iff.1 hcv
  have hne:p.text≠[]:=by
    rw [h5]
    intro hn
    have:=congrArg List.length hn
    simp only [List.length_take,List.length_drop,List.length_nil] at this
    omega
  have hlen:((bif up then c.up else c.down).length:Int)≤24:=by
    have:=convOk_B hcv
    cases up
    · have:=this.down;simp only [cond_false];omega
    · have:=this.up;simp only [cond_true];omega
  have hat:0≤p.at_∧p.at_≤99:=by rw [h4];omega
  cases up with
  | true =>
    simp only [cond_true] at h3
    refine pkOk_mk ?_ ?_ hat h1 (fun _=>hne)
    · rw [h3.1];exact inside_any hcc.1.1
    · rw [h3.2];simp [E.any,hcc.1.2.1]
  | false =>
    simp only [cond_false] at h3
    have hd:(⟨9,port⟩:E).door=true:=E.door_iff.2 ⟨rfl,h3.2.2⟩
    refine pkOk_mk ?_ ?_ hat h1 (fun _=>hne)
    · rw [h3.1];simp [E.any,hcc.1.2.1]
    · rw [h3.2.1];exact door_any hd
theorem hear_pk {c:Conv} {b:Bool} {p q:Pk} (hcv:convOk c=true) (hp:PkP p) (hq:(hear c b p).2=some q):pkOk q=true:=by
  have hcc:=convOk_iff.1 hcv
  obtain ⟨h1,h2,h3,h4,h5⟩:=hear_ans hcv hp hq
  have hat:=hear_at hq
  have hB:=convOk_B (hear_ok (inward:=b) hcv hp)
  have h99:0≤q.at_∧q.at_≤99:=by
    rw [hat]
    have:=hB.upGot
    have:=hB.downGot
    cases b<;>simp only [cond_true,cond_false]<;>omega
  cases b with
  | true =>
    simp only [cond_true] at h5
    refine pkOk_mk ?_ ?_ h99 h1 (fun h=>by omega)
    · rw [h3,h5.2];exact inside_any hcc.1.1
    · rw [h4,h5.1];simp [E.any,hcc.1.2.1]
  | false =>
    simp only [cond_false] at h5
    refine pkOk_mk ?_ ?_ h99 h1 (fun h=>by omega)
    · rw [h3,h5.1];simp [E.any,hcc.1.2.1]
    · rw [h4];exact door_any h5.2
variable {X:List (E × E)}
structure QX (X:List (E × E)) (w:World):Prop where
  x:WX X w
  ap:Apart w.convs
  s:DoorS w.door
  pk:∀ p∈w.nets,pkOk p=true
theorem QX.ok {w:World} (h:QX X w):worldOk w=true:=by
  simp only [worldOk,Bool.and_eq_true,decide_eq_true_eq,List.all_eq_true]
  exact ⟨⟨⟨apart_together h.x.cv h.x.cl h.ap,h.x.door⟩,h.x.nl⟩,h.pk⟩
theorem QX.of {w:World} (h:WX X w) (hs:DoorS w.door) (hok:worldOk w=true):QX X w:=by
  simp only [worldOk,Bool.and_eq_true,decide_eq_true_eq,List.all_eq_true] at hok
  exact ⟨h,together_apart hok.1.1.1,hs,hok.2⟩
theorem QX.erase {w:World} (h:QX X w) (k:Nat):QX X { w with nets:=w.nets.eraseIdx k }:=⟨h.x.erase k,h.ap,h.s,fun p hp=>h.pk p (List.mem_of_mem_eraseIdx hp)⟩
theorem apart_set {cs:List Conv} {i:Nat} {c x:Conv} (h:Apart cs) (hi:cs[i]?=some c) (h1:x.ins=c.ins) (h2:x.out=c.out):Apart (cs.set i x):=by
  have hl:=(List.getElem?_eq_some_iff.1 hi).1
  have key:∀ (j:Nat) a,(cs.set i x)[j]?=some a→∃ a',cs[j]?=some a'∧a.ins=a'.ins∧a.out=a'.out:=fun j a ha=>by
    by_cases hij:i=j
    · subst hij
      rw [List.getElem?_set_self hl] at ha;cases ha
      exact ⟨c,hi,h1,h2⟩
    · rw [List.getElem?_set_ne hij] at ha
      exact ⟨a,ha,rfl,rfl⟩
  intro j k a b ha hb he
  obtain ⟨a',ha',e1,e2⟩:=key j a ha
  obtain ⟨b',hb',e3,e4⟩:=key k b hb
  exact h j k a' b' ha' hb' (by rw [← e1,← e2,← e3,← e4];exact he)
theorem QX.carry {w:World} {p:Pk} (h:QX X w) (hp:NetX X w.convs p):QX X (carry w p).1∧∀ q,(M.carry w p).2=some q→NetX X (M.carry w p).1.convs q∧pkOk q=true:=by
  obtain ⟨h1,h2⟩:=carry_X h.x hp
  suffices hh:Apart (M.carry w p).1.convs∧DoorS (M.carry w p).1.door∧(∀ q∈(M.carry w p).1.nets,pkOk q=true)∧∀ q,(M.carry w p).2=some q→pkOk q=true from
    ⟨⟨h1,hh.1,hh.2.1,hh.2.2.1⟩,fun q hq=>⟨h2 q hq,hh.2.2.2 q hq⟩⟩
  clear h1 h2
  unfold M.carry
  split
  · exact ⟨h.ap,dPass_sm h.x.door h.s,h.pk,fun q hq=>dPass_at (cs:=[⟨p.frm,p.to,[],[],0,0,[],[]⟩]) h.x.door h.s ⟨hp.pk,fun _=>⟨_,List.mem_singleton.2 rfl,rfl,rfl⟩⟩ hq⟩
  · split
    · exact ⟨h.ap,h.s,h.pk,fun q hq=>by cases hq⟩
    · rename_i i b hb
      obtain ⟨c,hc,hbe⟩:=hostIx_at hb
      simp only [hc]
      obtain ⟨s1,s2,_,_⟩:=hear_same c b p
      exact ⟨apart_set h.ap hc s1 s2,h.s,h.pk,fun q hq=>hear_pk (h.x.cv c (List.mem_of_getElem? hc)) hp.pk hq⟩
theorem QX.send {w:World} {o:Option Pk} (h:QX X w) (hp:∀ p,o=some p→NetX X w.convs p∧pkOk p=true):QX X (M.send w o):=by
  refine ⟨send_X h.x fun p e=>(hp p e).1, ?_, ?_, ?_⟩<;>unfold M.send<;>cases o with
  | none=>first|exact h.ap|exact h.s|exact h.pk
  | some p =>
    simp only
    split
    · first
        | exact h.ap
        | exact h.s
        | (intro q hq
           rcases List.mem_append.1 hq with hq|hq
           · exact h.pk q hq
           · simp only [List.mem_singleton] at hq;subst hq;exact (hp _ rfl).2)
    · first|exact h.ap|exact h.s|exact h.pk
theorem sayW_pk {w:World} (h:WX X w) {up:Bool} {a b c:Int} {p:Pk} (hs:sayW w up a b c=some p):pkOk p=true:=by
  unfold sayW at hs
  split at hs
  · split at hs
    · rename_i cv hcv
      exact say_pk (h.cv _ (List.mem_of_getElem? hcv)) hs
    · cases hs
  · cases hs
theorem QX.do {w:World} (h:QX X w) (e:Ev):QX X (wDo w e):=by
  unfold wDo
  simp only
  split
  · exact h.send fun p hp=>⟨sayW_X h.x hp,sayW_pk h.x hp⟩
  split
  · exact h.send fun p hp=>⟨sayW_X h.x hp,sayW_pk h.x hp⟩
  split
  · split
    · split
      · rename_i p hp
        have hn:=h.x.net p (List.mem_of_getElem? hp)
        obtain ⟨h1,h2⟩:=(h.erase e.a.toNat).carry hn
        exact h1.send h2
      · exact h
    · exact h
  split
  · split
    · exact h.erase _
    · exact h
  split
  · split
    · exact h.send fun p hp=>⟨h.x.net p (List.mem_of_getElem? hp),h.pk p (List.mem_of_getElem? hp)⟩
    · exact h
  split
  · split
    · rename_i hs
      refine h.send fun p hp=>?_
      cases hp
      refine ⟨(stranger_net hs).x, ?_⟩
      simp only [stranger,Bool.and_eq_true] at hs
      exact hs.1.1
    · exact h
  · exact h
theorem law_do {w:World} (h:QX X w) (e:Ev):worldOk (wDo w e)=true∧(∃ y,(wDo w e).door.map=w.door.map++y)∧(wDo w e).convs.length=w.convs.length∧∀ (i:Nat) c d,w.convs[i]?=some c→(wDo w e).convs[i]?=some d→CExt c d :=
  ⟨(h.do e).ok,(wDo_ext w e).map,(wDo_ext w e).len,(wDo_ext w e).cv⟩
end Go.Proofs.YtggifndkolojmaaGreatDoor.M
namespace Go.Proofs.YtggifndkolojmaaGreatDoor.M
variable {X:List (E × E)}
theorem NetX.ext {w v:World} {p:Pk} (h:NetX X w.convs p) (hx:Ext w v):NetX X v.convs p:=⟨h.pk,fun hi=>(h.c hi).imp (fun ⟨c,hc,h1,h2⟩=>by
  obtain ⟨i,hi⟩:=List.mem_iff_getElem?.1 hc
  have hl:i<v.convs.length:=by rw [hx.len];exact (List.getElem?_eq_some_iff.1 hi).1
  have hg:=List.getElem?_eq_getElem hl
  have hce:=hx.cv i c _ hi hg
  exact ⟨_,List.mem_of_getElem? hg,by rw [hce.ins,h1],by rw [hce.out,h2]⟩) id⟩
theorem WX.empty {w:World} (h:WX X w):WX X { w with nets:=[] }:=⟨h.cv,h.cl,h.xl,h.door,h.fl,Nat.zero_le _,fun p hp=>by cases hp⟩
end Go.Proofs.YtggifndkolojmaaGreatDoor.M
namespace Go.Proofs.YtggifndkolojmaaGreatDoor.M
def DoneC (c:Conv):Prop:=c.upAck=c.up.length∧(c.up≠[]→c.downAck=c.down.length)
theorem DoneC.ext {c d:Conv} (h:DoneC c) (hx:CExt c d) (hd:convOk d=true):DoneC d:=by
  obtain ⟨_,h1,h2,_⟩:=convOk_iff.1 hd
  have e1:=hx.up
  have e2:=hx.down
  refine ⟨?_,fun hu=>?_⟩
  · have:=hx.upAck
    have:=h.1
    rw [e1] at h1 ⊢
    omega
  · have:=hx.downAck
    have:=h.2 (by rw [← e1];exact hu)
    rw [e2] at h2 ⊢
    omega
end Go.Proofs.YtggifndkolojmaaGreatDoor.M
namespace Go.Proofs.YtggifndkolojmaaGreatDoor.VL
open Go Go.RowKit
def Hs.bare:Hs→Prop
  | .var _ row=>row.all V.closed=true
  | _=>True
theorem Den1.closed {w:World} {O:Nat→Prop} {ρ ρ':Nat→Loc} {h h':Nat→Hs} {v:V} {u:Value} (hc:v.closed=true) (hd:Den1 w O ρ h v u):Den1 w O ρ' h' v u:=by
  cases v<;>simp [V.closed] at hc<;>exact hd
section
variable {P:Program} {G:Glob}
theorem FnP.tail {f:FuncId} {pin:Nat} {cs:List Hs} {args:List V} {post post':V→List Hs→Prop} (F:FnP P G f pin cs args post)
    (h:∀ r o,post r o→post' r o∨∃ (c:Nat) (ty:TypeId) (sz:Nat) (q:List V) (rows:List (List V)),pin≤c∧r=.view c 1 rows.length∧o[c]?=some (.arr ty sz (q :: rows))∧(∀ (i:Nat) s,o[i]?=some s→i≠c→s.bare)∧post' (.own c rows.length) (o.set c (.arr ty sz rows))):FnP P G f pin cs args post' where
  en:=F.en
  ne:=by
    obtain ⟨r,o,hp⟩:=F.ne
    rcases h r o hp with hp|⟨c,ty,sz,q,rows,_,_,_,_,hp⟩
    · exact ⟨_,_,hp⟩
    · exact ⟨_,_,hp⟩
  run:=fun W ρ ext us a b c0 d e1 e2=>(F.run W ρ ext us a b c0 d e1 e2).mono fun e W' ⟨u,res,out,ρ',he,hp,hr,hd⟩=>by
    rcases h res out hp with hp|⟨c,ty,sz,q,rows,hpin,rfl,hoc,hbare,hp⟩
    · exact ⟨u,res,out,ρ',he,hp,hr,hd⟩
    have hcl:=(List.getElem?_eq_some_iff.1 hoc).1
    have hc:chH out c=.arr ty sz (q :: rows):=by simp [chH,hoc]
    have hc2:chH (out.set c (.arr ty sz rows)) c=.arr ty sz rows:=by simp [chH,hcl]
    have hx:∀ x,x≠c→chH (out.set c (.arr ty sz rows)) x=chH out x:=fun x hne=>by simp [chH,List.getElem?_set_ne (Ne.symm hne)]
    have hch:=hr.chunk c
    rw [hc] at hch
    rcases hch with ⟨_,hnil,_⟩|⟨hnil,cs',hh,h3,h4,h5,h6⟩
    · cases hnil
    simp only [Den,Den2,Den1,Den0,hc] at hd
    obtain ⟨A,cap,hu,_,_,hfull⟩:=hd
    obtain ⟨k1,k2,k3⟩:=hfull hnil
    refine ⟨u,.own c rows.length,out.set c (.arr ty sz rows),fun x=>if x=c then ⟨false,(ρ' c).blk,if (ρ' c).cap=1 then (ρ' c).off else (ρ' c).off+1 * sz,(ρ' c).cap - 1⟩ else ρ' x,he,hp, ?_, ?_⟩
    all_goals
      have hlive:∀ x,(chH (out.set c (.arr ty sz rows)) x).live=(chH out x).live:=fun x=>by
        by_cases hxc:x=c
        · subst hxc;rw [hc2,hc];rfl
        · rw [hx x hxc]
    · have hown:owns ⟨W,blocks ρ (chH cs),ext,pin,ρ⟩ (fun x=>if x=c then ⟨false,(ρ' c).blk,if (ρ' c).cap=1 then (ρ' c).off else (ρ' c).off+1 * sz,(ρ' c).cap - 1⟩ else ρ' x) (chH (out.set c (.arr ty sz rows)))=owns ⟨W,blocks ρ (chH cs),ext,pin,ρ⟩ ρ' (chH out):=by
        funext b
        apply propext
        unfold owns
        refine or_congr Iff.rfl (exists_congr fun x=>?_)
        rw [hlive]
        by_cases hxc:x=c
        · subst hxc;simp [hnil]
        · simp [hxc]
      refine ⟨hr.os,hr.tape,hr.output,hr.grow,hr.keep,fun x=>?_,fun x hl hn=>?_,fun x y hl hl' hn hn' hb=>?_,fun i hi=>?_⟩
      · rw [hown]
        by_cases hxc:x=c
        · subst hxc
          rw [hc2]
          simp only [if_true]
          refine .inr ⟨rfl,cs',hh, ?_, ?_,fun r hr=>h5 r (List.mem_cons_of_mem _ hr),fun i r j v hi hj=>?_⟩
          · simp only
            split
            · rename_i h1;rw [h1];simp;omega
            · have:1≤(ρ' x).cap:=k2
              have e:(ρ' x).cap * sz=1 * sz+((ρ' x).cap - 1) * sz:=by rw [← Nat.add_mul];congr 1;omega
              omega
          · show rows.length≤(ρ' x).cap - 1
            simp only [List.length_cons] at h4;omega
          · obtain ⟨z,z1,z2⟩:=h6 (i+1) r j v (by simpa using hi) hj
            refine ⟨z, ?_,z2⟩
            simp only
            split
            · rename_i h1
              have:=(List.getElem?_eq_some_iff.1 hi).1
              simp only [List.length_cons] at h4
              omega
            · rw [← z1];congr 1;rw [Nat.add_mul];omega
        · have hb:=hr.chunk x
          rw [hx x hxc]
          simp only [if_neg hxc]
          cases hs:chH out x with
          | var ty' row =>
            rw [hs] at hb
            obtain ⟨b1,cs2,b2,b3,b4⟩:=hb
            refine ⟨b1,cs2,b2,b3,fun j v hv=>?_⟩
            obtain ⟨z,z1,z2,z3⟩:=b4 j v hv
            refine ⟨z,z1,z2,Den1.closed ?_ z3⟩
            have hox:out[x]?=some (.var ty' row):=by
              simp only [chH] at hs
              cases hq:out[x]? with
              | none=>rw [hq] at hs;cases hs
              | some s=>rw [hq] at hs;exact congrArg some hs
            exact List.all_eq_true.1 (hbare x _ hox hxc) v (List.mem_of_getElem? hv)
          | arr ty' sz' rows'=>rw [hs] at hb;exact hb
          | fresh=>trivial
          | dead=>trivial
      · rw [hlive] at hl
        by_cases hxc:x=c
        · subst hxc;simp only [if_true];exact hr.home x hl hnil
        · simp only [if_neg hxc] at hn ⊢;exact hr.home x hl hn
      · rw [hlive] at hl hl'
        refine hr.sep x y hl hl' ?_ ?_ ?_
        · by_cases hxc:x=c
          · subst hxc;exact hnil
          · simpa [hxc] using hn
        · by_cases hyc:y=c
          · subst hyc;exact hnil
          · simpa [hyc] using hn'
        · by_cases hxc:x=c<;>by_cases hyc:y=c
          · rw [hxc,hyc]
          · subst hxc;simpa [hyc] using hb
          · subst hyc;simpa [hxc] using hb
          · simpa [hxc,hyc] using hb
      · have hip:i<pin:=hi
        have hic:i≠c:=by omega
        rcases hr.pin i hi with h0|⟨h0,h1⟩
        · exact .inl (by rw [hx i hic];exact h0)
        · exact .inr ⟨by rw [hlive];exact h0,by simp only [if_neg hic];exact h1⟩
    · simp only [Den,Den2,Den1,Den0,hc2,if_true]
      rw [hu,k3,k1]
      simp [Loc.sl,Loc.addr]
end
end Go.Proofs.YtggifndkolojmaaGreatDoor.VL
namespace Go.Proofs.YtggifndkolojmaaGreatDoor.M
variable {X:List (E × E)}
theorem law_apartW (w:World) (e:Ev):(e.kind≠3→(wDo w e).convs=w.convs∧(wDo w e).door=w.door) ∧
    (∃ k:Nat,∀ i:Nat,i≠k→(wDo w e).convs[i]?=w.convs[i]?)∧((wDo w e).convs=w.convs∨(wDo w e).door=w.door):=by
  have hsend:∀ (v:World) o,(send v o).convs=v.convs∧(send v o).door=v.door:=fun v o=>by
    unfold send
    cases o with
    | none=>exact ⟨rfl,rfl⟩
    | some p=>simp only;split<;>exact ⟨rfl,rfl⟩
  have hcar:∀ (v:World) p,(∃ k:Nat,∀ i:Nat,i≠k→(carry v p).1.convs[i]?=v.convs[i]?)∧((carry v p).1.convs=v.convs∨(carry v p).1.door=v.door):=fun v p=>by
    unfold carry
    split
    · exact ⟨⟨0,fun i _=>rfl⟩,.inl rfl⟩
    · split
      · exact ⟨⟨0,fun i _=>rfl⟩,.inl rfl⟩
      · rename_i i b hb
        split
        · exact ⟨⟨0,fun i _=>rfl⟩,.inl rfl⟩
        · exact ⟨⟨i,fun j hj=>List.getElem?_set_ne (Ne.symm hj)⟩,.inr rfl⟩
  have same:∀ v:World,v.convs=w.convs∧v.door=w.door→(e.kind≠3→v.convs=w.convs∧v.door=w.door)∧(∃ k:Nat,∀ i:Nat,i≠k→v.convs[i]?=w.convs[i]?)∧(v.convs=w.convs∨v.door=w.door) :=
    fun v h=>⟨fun _=>h,⟨0,fun i _=>by rw [h.1]⟩,.inl h.1⟩
  unfold wDo
  simp only
  split
  · exact same _ (hsend _ _)
  split
  · exact same _ (hsend _ _)
  split
  · rename_i h3
    split
    · split
      · rename_i p hp
        obtain ⟨s1,s2⟩:=hsend (carry { w with nets:=w.nets.eraseIdx e.a.toNat } p).1 (carry { w with nets:=w.nets.eraseIdx e.a.toNat } p).2
        have hc:=hcar { w with nets:=w.nets.eraseIdx e.a.toNat } p
        exact ⟨fun h=>absurd h3 h,by rw [s1];exact hc.1,by rw [s1,s2];exact hc.2⟩
      · exact same _ ⟨rfl,rfl⟩
    · exact same _ ⟨rfl,rfl⟩
  split
  · split<;>exact same _ ⟨rfl,rfl⟩
  split
  · split
    · exact same _ (hsend _ _)
    · exact same _ ⟨rfl,rfl⟩
  split
  · split
    · exact same _ (hsend _ _)
    · exact same _ ⟨rfl,rfl⟩
  · exact same _ ⟨rfl,rfl⟩
theorem law_idle {w:World} {c:Conv} (hc:w.convs[0]?=some c) (hin:c.ins.inside=true) :
    wDo w ⟨7,0,0,0,.zero⟩=w∧wDo w ⟨3,w.nets.length,0,0,.zero⟩=w∧wDo w ⟨1,w.convs.length,0,5,.zero⟩=w∧wDo w ⟨1,0,0,0,.zero⟩=w ∧
    wDo w ⟨6,0,0,0,⟨1,c.out,⟨9,10⟩,0,[97]⟩⟩=w∧wDo w ⟨6,0,0,0,⟨1,⟨6,9⟩,c.ins,0,[97]⟩⟩=w:=by
  have hl:=(List.getElem?_eq_some_iff.1 hc).1
  have hno:∀ a up b m,(a<0∨(w.convs.length:Int)≤a∨m<1)→sayW w up a b m=none:=fun a up b m h=>by
    unfold sayW
    split
    · rename_i hw
      have:=within_iff.1 hw
      split
      · unfold say
        cases up<;>simp only [if_true,if_false,Bool.false_eq_true]<;>rw [if_neg]<;>(simp only [Bool.and_eq_true,decide_eq_true_eq];omega)
      · rfl
    · rfl
  refine ⟨by simp [wDo], ?_, ?_, ?_, ?_, ?_⟩
  · have:within (w.nets.length:Int) 0 ((w.nets.length:Int) - 1)=false:=by
      cases h:within (w.nets.length:Int) 0 ((w.nets.length:Int) - 1) with
      | false=>rfl
      | true=>have:=within_iff.1 h;omega
    simp [wDo,this]
  · simp only [wDo,if_true]
    rw [hno _ _ _ _ (.inr (.inl (Int.le_refl _)))]
    rfl
  · simp only [wDo,if_true]
    rw [hno _ _ _ _ (.inr (.inr (by decide)))]
    rfl
  · have:stranger w ⟨1,c.out,⟨9,10⟩,0,[97]⟩=false:=by
      have:(w.convs.any fun d=>decide (d.out=c.out))=true:=List.any_eq_true.2 ⟨c,List.mem_of_getElem? hc,by simp⟩
      simp [stranger,this]
    simp [wDo,this]
  · have:stranger w ⟨1,⟨6,9⟩,c.ins,0,[97]⟩=false:=by
      have:c.ins.door=false:=by
        cases h:c.ins.door with
        | false=>rfl
        | true=>rw [not_in_door h] at hin;cases hin
      simp [stranger,Pk.inward,this]
    simp [wDo,this]
theorem law_say {w:World} {e:Ev} {c:Conv} (hk:e.kind=1∨e.kind=2) (ha:0≤e.a∧e.a<w.convs.length) (hc:w.convs[e.a.toNat]?=some c) :
    (∀ p,say c (decide (e.kind=1)) (portOf w.door.map c.ins) e.b e.c=some p→w.nets.length<10→wDo w e={ w with nets:=w.nets++[p] }) ∧
    ((say c (decide (e.kind=1)) (portOf w.door.map c.ins) e.b e.c=none∨¬ w.nets.length<10)→wDo w e=w):=by
  have hw:within e.a 0 ((w.convs.length:Int) - 1)=true:=within_iff.2 (by omega)
  have hx:wDo w e=send w (say c (decide (e.kind=1)) (portOf w.door.map c.ins) e.b e.c):=by
    rcases hk with h|h
    · have hup:∀ port,say c true port e.b e.c=say c true 0 e.b e.c:=fun _=>rfl
      simp only [wDo,h,if_true,decide_true]
      rw [hup]
      unfold sayW
      rw [hw,if_pos rfl,hc]
      rfl
    · simp only [wDo,h]
      rw [if_neg (by decide),if_pos trivial]
      unfold sayW
      rw [hw,if_pos rfl,hc]
      rfl
  rw [hx]
  refine ⟨fun p hp hn=>?_,fun h=>?_⟩
  · rw [hp,send,if_pos hn]
  · rcases h with h|h
    · rw [h];rfl
    · unfold send
      split
      · rw [if_neg h]
      · rfl
end Go.Proofs.YtggifndkolojmaaGreatDoor.M
namespace Go.Proofs.YtggifndkolojmaaGreatDoor.M
variable {X:List (E × E)}
theorem behind_again (g:B) (n:Int) (t:B) (hn:0≤n):(behind (behind g n t).1 n t).1=(behind g n t).1:=by
  by_cases h1:(n>g.length || n+t.length>40)=true
  · have:behind g n t=(g,false):=by unfold behind;rw [if_pos (by simpa using h1)]
    rw [this];simp only;rw [this]
  · by_cases h2:n+t.length≤g.length
    · have:behind g n t=(g,true):=by unfold behind;rw [if_neg h1,if_pos h2]
      rw [this];simp only;rw [this]
    · have:behind g n t=(g++t.drop (g.length - n).toNat,true):=by unfold behind;rw [if_neg h1,if_neg h2]
      rw [this]
      simp only
      simp only [Bool.or_eq_true,decide_eq_true_eq,not_or] at h1
      have hl:((g++t.drop (g.length - n).toNat).length:Int)=n+t.length:=by simp only [List.length_append,List.length_drop];omega
      unfold behind
      rw [if_neg (by simp only [Bool.or_eq_true,decide_eq_true_eq,not_or];omega),if_pos (by omega)]
theorem hear_again {c:Conv} {b:Bool} {p:Pk} (hn:0≤p.at_):(hear (hear c b p).1 b p).1=(hear c b p).1:=by
  obtain ⟨s1,s2,s3,s4⟩:=hear_same c b p
  by_cases hc:(bif b then decide (p.frm=c.out) && decide (p.to=c.ins) else decide (p.to=c.out) && p.frm.door)=true
  · have e:∀ d:Conv,d.ins=c.ins→d.out=c.out→(bif b then decide (p.frm=d.out) && decide (p.to=d.ins) else decide (p.to=d.out) && p.frm.door)=true:=fun d h1 h2=>by rw [h1,h2];exact hc
    have hr:∀ d:Conv,d.ins=c.ins→d.out=c.out→hear d b p=if p.kind=2 then
        (bif b then { d with upAck:=max d.upAck (min p.at_ d.up.length) } else { d with downAck:=max d.downAck (min p.at_ d.down.length) },none)
      else
        bif b then ({ d with downGot:=(behind d.downGot p.at_ p.text).1 },some ⟨2,p.to,p.frm,(behind d.downGot p.at_ p.text).1.length,[]⟩)
        else ({ d with upGot:=(behind d.upGot p.at_ p.text).1 },some ⟨2,p.to,p.frm,(behind d.upGot p.at_ p.text).1.length,[]⟩):=fun d h1 h2=>by
      unfold hear
      rw [if_pos (e d h1 h2)]
    rw [hr _ s1 s2,hr c rfl rfl]
    by_cases hk:p.kind=2
    · simp only [if_pos hk]
      cases b<;>simp only [cond_true,cond_false]
      · congr 1;omega
      · congr 1;omega
    · simp only [if_neg hk]
      cases b<;>simp only [cond_true,cond_false,behind_again _ _ _ hn]
  · have e:hear c b p=(c,none):=by unfold hear;rw [if_neg hc]
    rw [e];simp only;rw [e]
theorem hostIx_cd (cs:List Conv) (d:Door) (ns ms:List Pk) (p:Pk):hostIx ⟨cs,d,ns⟩ p=hostIx ⟨cs,d,ms⟩ p:=rfl
theorem carry_cd (cs:List Conv) (d:Door) (ns ms:List Pk) (p:Pk):(carry ⟨cs,d,ns⟩ p).1.convs=(carry ⟨cs,d,ms⟩ p).1.convs∧(carry ⟨cs,d,ns⟩ p).1.door=(carry ⟨cs,d,ms⟩ p).1.door∧(carry ⟨cs,d,ns⟩ p).1.nets=ns:=by
  unfold carry
  rw [hostIx_cd cs d ns ms p]
  split
  · exact ⟨rfl,rfl,rfl⟩
  · split
    · exact ⟨rfl,rfl,rfl⟩
    · simp only
      split<;>exact ⟨rfl,rfl,rfl⟩
theorem hostIx_set {w:World} {p:Pk} {i:Nat} {c x:Conv} (hi:w.convs[i]?=some c) (h1:x.ins=c.ins) (h2:x.out=c.out):hostIx { w with convs:=w.convs.set i x } p=hostIx w p:=by
  have hl:=(List.getElem?_eq_some_iff.1 hi).1
  have hm:(w.convs.set i x).map (fun c=>(c.ins,c.out))=w.convs.map fun c=>(c.ins,c.out):=by
    rw [List.map_set]
    apply List.ext_getElem?
    intro j
    by_cases hij:i=j
    · subst hij
      rw [List.getElem?_set_self (by simpa using hl),List.getElem?_map,hi,h1,h2]
      rfl
    · rw [List.getElem?_set_ne hij]
  have hf:∀ cs:List Conv,(cs.findIdx? fun c=>(decide (p.to=c.ins) && decide (p.frm=c.out)) || (decide (p.to=c.out) && p.frm.door && decide (p.frm.p=portOf w.door.map c.ins))) =
      (cs.map fun c=>(c.ins,c.out)).findIdx? fun q=>(decide (p.to=q.1) && decide (p.frm=q.2)) || (decide (p.to=q.2) && p.frm.door && decide (p.frm.p=portOf w.door.map q.1)):=fun cs=>by
    rw [List.findIdx?_map];rfl
  unfold hostIx
  simp only
  rw [hf,hf,hm]
  cases hj:(w.convs.map fun c=>(c.ins,c.out)).findIdx? fun q=>(decide (p.to=q.1) && decide (p.frm=q.2)) || (decide (p.to=q.2) && p.frm.door && decide (p.frm.p=portOf w.door.map q.1)) with
  | none=>rfl
  | some j =>
    simp only
    by_cases hij:i=j
    · subst hij
      rw [List.getElem?_set_self hl,hi]
      simp only [h1,h2]
    · rw [List.getElem?_set_ne hij]
theorem carry_again {w:World} {p:Pk} (hd:doorOk w.door=true) (hp:PkP p):(carry (carry w p).1 p).1.convs=(carry w p).1.convs∧(carry (carry w p).1 p).1.door=(carry w p).1.door:=by
  by_cases h:(p.to.door || p.frm.inside)=true
  · have e:∀ v:World,carry v p=({ v with door:=(dPass v.door p).1 },(dPass v.door p).2):=fun v=>by unfold carry;rw [if_pos h]
    rw [e,e]
    simp only
    rw [dPass_again hd hp]
    exact ⟨trivial,rfl⟩
  · cases hx:hostIx w p with
    | none =>
      have e:carry w p=(w,none):=by unfold carry;rw [if_neg h,hx]
      rw [e];simp only;rw [e];exact ⟨rfl,rfl⟩
    | some ib =>
      obtain ⟨i,b⟩:=ib
      obtain ⟨c,hc,hbe⟩:=hostIx_at hx
      obtain ⟨s1,s2,_,_⟩:=hear_same c b p
      have hl:=(List.getElem?_eq_some_iff.1 hc).1
      have e:carry w p=({ w with convs:=w.convs.set i (hear c b p).1 },(hear c b p).2):=by
        unfold carry;rw [if_neg h,hx];simp only [hc]
      have hx2:=hostIx_set (p:=p) hc s1 s2
      rw [hx] at hx2
      have hc2:(w.convs.set i (hear c b p).1)[i]?=some (hear c b p).1:=List.getElem?_set_self hl
      rw [e]
      simp only
      have e2:carry { w with convs:=w.convs.set i (hear c b p).1 } p=({ w with convs:=(w.convs.set i (hear c b p).1).set i (hear (hear c b p).1 b p).1 },(hear (hear c b p).1 b p).2):=by
        unfold carry;rw [if_neg h,hx2];simp only [hc2]
      rw [e2,hear_again hp.at_.1]
      simp only [List.set_set]
      exact ⟨trivial,trivial⟩
theorem send_cd (v:World) (o:Option Pk):(send v o).convs=v.convs∧(send v o).door=v.door∧v.nets <+: (send v o).nets:=by
  unfold send
  cases o with
  | none=>exact ⟨rfl,rfl,List.prefix_rfl⟩
  | some p =>
    simp only
    split
    · exact ⟨rfl,rfl,List.prefix_append _ _⟩
    · exact ⟨rfl,rfl,List.prefix_rfl⟩
theorem law_twice {w:World} (h:QX X w) {k:Nat} (hk:k<w.nets.length) (hn:w.nets.length<10) :
    (wDo (wDo (wDo w ⟨5,k,0,0,.zero⟩) ⟨3,k,0,0,.zero⟩) ⟨3,(w.nets.length:Int) - 1,0,0,.zero⟩).convs=(wDo w ⟨3,k,0,0,.zero⟩).convs ∧
    (wDo (wDo (wDo w ⟨5,k,0,0,.zero⟩) ⟨3,k,0,0,.zero⟩) ⟨3,(w.nets.length:Int) - 1,0,0,.zero⟩).door=(wDo w ⟨3,k,0,0,.zero⟩).door:=by
  have hg:=List.getElem?_eq_getElem hk
  have hpp:=(h.x.net _ (List.getElem_mem hk)).pk
  generalize w.nets[k]=p at *
  have bring:∀ (v:World) (j:Nat) q,v.nets[j]?=some q→wDo v ⟨3,j,0,0,.zero⟩=send (carry { v with nets:=v.nets.eraseIdx j } q).1 (carry { v with nets:=v.nets.eraseIdx j } q).2:=fun v j q hq=>by
    have hjl:=(List.getElem?_eq_some_iff.1 hq).1
    have hw:within (j:Int) 0 ((v.nets.length:Int) - 1)=true:=within_iff.2 (by omega)
    simp only [wDo]
    rw [if_neg (by decide),if_neg (by decide),if_pos trivial,hw,if_pos rfl]
    simp only [Int.toNat_natCast,hq]
  have h1:wDo w ⟨5,k,0,0,.zero⟩={ w with nets:=w.nets++[p] }:=by
    have hw:within (k:Int) 0 ((w.nets.length:Int) - 1)=true:=within_iff.2 (by omega)
    simp only [wDo]
    rw [if_neg (by decide),if_neg (by decide),if_neg (by decide),if_neg (by decide),if_pos trivial,hw,if_pos rfl]
    simp only [Int.toNat_natCast,hg,send,hn,if_true]
  obtain ⟨cs,d,ns⟩:=w
  simp only at hk hn hg h1 ⊢
  rw [h1]
  have hg2:(ns++[p])[k]?=some p:=by rw [List.getElem?_append_left hk];exact hg
  rw [bring ⟨cs,d,ns++[p]⟩ k p hg2,bring ⟨cs,d,ns⟩ k p hg]
  simp only
  have hee:(ns++[p]).eraseIdx k=ns.eraseIdx k++[p]:=List.eraseIdx_append_of_lt_length hk _
  rw [hee]
  obtain ⟨a1,a2,a3⟩:=carry_cd cs d (ns.eraseIdx k++[p]) (ns.eraseIdx k) p
  have hag:=carry_again (w:=⟨cs,d,ns.eraseIdx k++[p]⟩) h.x.door hpp
  generalize hr:carry ⟨cs,d,ns.eraseIdx k++[p]⟩ p=r at *
  obtain ⟨b1,b2,b3⟩:=send_cd r.1 r.2
  generalize hv:send r.1 r.2=v at *
  have hel:(ns.eraseIdx k).length=ns.length - 1:=by rw [List.length_eraseIdx,if_pos hk]
  have hvp:v.nets[ns.length - 1]?=some p:=by
    rw [a3] at b3
    obtain ⟨y,hy⟩:=b3
    rw [← hy,List.append_assoc,← hel,List.getElem?_append_right (Nat.le_refl _)]
    simp
  have hcast:((ns.length:Int) - 1)=((ns.length - 1:Nat):Int):=by omega
  rw [hcast,bring v (ns.length - 1) p hvp]
  obtain ⟨c1,c2,_⟩:=send_cd (carry { v with nets:=v.nets.eraseIdx (ns.length - 1) } p).1 (carry { v with nets:=v.nets.eraseIdx (ns.length - 1) } p).2
  obtain ⟨d1,d2,_⟩:=send_cd (carry ⟨cs,d,ns.eraseIdx k⟩ p).1 (carry ⟨cs,d,ns.eraseIdx k⟩ p).2
  rw [c1,c2,d1,d2]
  obtain ⟨e1,e2,_⟩:=carry_cd v.convs v.door (v.nets.eraseIdx (ns.length - 1)) r.1.nets p
  rw [e1,e2,b1,b2]
  exact ⟨hag.1.trans a1,hag.2.trans a2⟩
end Go.Proofs.YtggifndkolojmaaGreatDoor.M
namespace Go.Proofs.YtggifndkolojmaaGreatDoor.M
theorem PW.doorS {w:World} (h:PW w):DoorS w.door:=(h.si net_step fun cs w0 h=>by rw [(worldNew_is h).2.2.1];intro f hf;cases hf).k
inductive Dr:World→Prop
  | same (w:World):PW w→Dr w
  | map (w:World) (m:List Pair):PW w→Dr { w with door:={ w.door with map:=m } }
  | net (w:World) (p:Pk):PW w→Dr { w with nets:=w.nets++[p] }
  | conv (w:World) (c:Conv):PW w→c∈w.convs→Dr { w with convs:=w.convs++[c] }
  | full (w:World) (l:List Pk) (c:Conv):PW w→c∈w.convs→(∀ p∈l,p=⟨2,c.ins,c.out,0,[]⟩)→Dr { w with nets:=w.nets++l }
theorem Dr.q {w:World} (h:Dr w) (hok:worldOk w=true):∃ X,QX X w:=by
  have hk:=hok
  simp only [worldOk,Bool.and_eq_true,decide_eq_true_eq,List.all_eq_true] at hk
  obtain ⟨⟨⟨h1,h2⟩,h3⟩,h4⟩:=hk
  cases h with
  | same _ hp=>exact ⟨[],.of hp.1.x hp.doorS hok⟩
  | map w m hp =>
    have hw:=hp.1.x
    exact ⟨[],.of ⟨hw.cv,hw.cl,hw.xl,h2,hw.fl,h3,hw.net⟩ hp.doorS hok⟩
  | net w p hp =>
    have hw:=hp.1
    refine ⟨[(p.frm,p.to)],.of ⟨hw.cv,hw.cl,by simp,h2,fun f hf=>.inl (hw.fl f hf),h3,fun q hq=>?_⟩ hp.doorS hok⟩
    rcases List.mem_append.1 hq with hq|hq
    · exact (hw.net q hq).x
    · simp only [List.mem_singleton] at hq
      subst hq
      exact ⟨pkOk_P (h4 q (by simp)),fun _=>.inr (by simp)⟩
  | conv w c hp hc =>
    exfalso
    obtain ⟨i,hi⟩:=List.mem_iff_getElem?.1 hc
    have hl:=(List.getElem?_eq_some_iff.1 hi).1
    have:=together_apart h1 i w.convs.length c c (by simp only;rw [List.getElem?_append_left hl];exact hi) (by simp) (.inl rfl)
    omega
  | full w l c hp hc hl =>
    have hw:=hp.1
    refine ⟨[],.of ⟨hw.cv,hw.cl,by simp,h2,fun f hf=>.inl (hw.fl f hf),h3,fun q hq=>?_⟩ hp.doorS hok⟩
    rcases List.mem_append.1 hq with hq|hq
    · exact (hw.net q hq).x
    · obtain rfl:=hl q hq
      exact ⟨pkOk_P (h4 _ (List.mem_append_right _ hq)),fun _=>.inl ⟨c,hc,rfl,rfl⟩⟩
end Go.Proofs.YtggifndkolojmaaGreatDoor.M
namespace Go.Proofs.YtggifndkolojmaaGreatDoor.W
open Go Go.RowKit Go.Proofs Go.Proofs.YtggifndkolojmaaGreatDoor.VL Go.Proofs.YtggifndkolojmaaGreatDoor.M
def isErr (v:Value):Prop:=v=.nilIface∨∃ t p,v=.iface t p
def G:Glob where
  g W:=(∃ m,W.cell? ⟨0,0,none⟩=some (.int .i64 m))∧(∃ v,W.cell? ⟨1,0,none⟩=some v∧isErr v)∧∃ v,W.cell? ⟨2,0,none⟩=some v∧isErr v
  ng:=3
  stays:=fun W W' h hs ho ht hu hb=>by
    have e:∀ b,b<3→W'.cell? ⟨b,0,none⟩=W.cell? ⟨b,0,none⟩:=fun b hb4=>cell_of_block (hb b hb4)
    rw [e 0 (by omega),e 1 (by omega),e 2 (by omega)]
    exact h
  there:=fun W h=>by
    obtain ⟨_,_,v,h,_⟩:=h
    have:∃ o,W.heap[2]?=some o:=by
      cases hh:W.heap[2]? with
      | none=>simp [World.cell?,hh] at h
      | some o=>exact ⟨o,rfl⟩
    obtain ⟨o,ho⟩:=this
    have:=lt_of_get ho
    omega
def plainU:V→Option Value
  | .int k n=>some (.int k n)
  | .bool b=>some (.bool b)
  | .str s=>some (.string (mkStr s))
  | .nile=>some .nilIface
  | _=>none
theorem plainU_spec {w:World} {O:Nat→Prop} {ρ:Nat→VL.Loc} {h:Nat→Hs} {v:V} {u x:Value} (hp:plainU v=some x) (hd:Den w O ρ h v u):u=x:=by
  cases v<;>simp only [plainU,Option.some.injEq,reduceCtorEq] at hp
  all_goals subst hp
  · exact inv_int hd
  · exact inv_bool hd
  · exact inv_str hd
  · exact inv_nile hd
theorem plainU_den2 {w:World} {O:Nat→Prop} {ρ:Nat→VL.Loc} {h:Nat→Hs} {v:V} {x:Value} (hp:plainU v=some x):Den2 w O ρ h v x:=by
  cases v<;>simp only [plainU,Option.some.injEq,reduceCtorEq] at hp
  all_goals subst hp
  · exact Imm.int _ _
  · exact Imm.bool _
  · exact Imm.str _
  · exact Imm.nile
def plainR:V→Option Value
  | .tup vs=>(vs.mapM plainU).map fun us=>.tuple us.toArray
  | v=>plainU v
theorem plainR_den {w:World} {O:Nat→Prop} {ρ:Nat→VL.Loc} {h:Nat→Hs} {v:V} {x:Value} (hp:plainR v=some x):Den w O ρ h v x:=by
  by_cases ht:∃ vs,v=.tup vs
  · obtain ⟨vs,rfl⟩:=ht
    simp only [plainR,Option.map_eq_some_iff] at hp
    obtain ⟨us,hm,rfl⟩:=hp
    obtain ⟨h1,h2⟩:=mapM_get hm
    refine ⟨us,rfl,h1,fun j v u hv hu=>plainU_den2 (h2 j v u hv hu)⟩
  · have hp:plainU v=some x:=by cases v<;>first|exact hp|exact absurd ⟨_,rfl⟩ ht
    have:=plainU_den2 (w:=w) (O:=O) (ρ:=ρ) (h:=h) hp
    cases v<;>first|exact this|exact absurd ⟨_,rfl⟩ ht
section
variable {P:Program}
theorem FnP.lib {f:FuncId} {vs:List V} {us:List Value} {post:V→Prop} (hn:entr P f=true) (h1:vs.mapM plainU=some us) (hne:∃ r,post r)
    (h:∀ W,G.g W→Calls P f us.toArray W fun e W'=>Below W.heap.size W W'∧∃ u v,e=.returned u∧post v∧∀ O,(∀ b,O b→b<W.heap.size)→Den W' O (fun _=>default) (fun _=>.fresh) v u) :
    FnP P G f 0 [] vs (fun r o=>o=[]∧post r) where
  en:=hn
  ne:=let ⟨r,h⟩:=hne;⟨r,[],rfl,h⟩
  run:=fun W ρ ext us' hg hlt hno hng r hargs=>by
    obtain ⟨h2,h3⟩:=mapM_get h1
    have e:us'=us:=by
      obtain ⟨h4,h5⟩:=hargs
      apply List.ext_getElem?
      intro j
      cases hj:us'[j]? with
      | none =>
        have:=List.getElem?_eq_none_iff.1 hj
        exact (List.getElem?_eq_none_iff.2 (by omega)).symm
      | some u =>
        have hjl:j<us'.length:=(List.getElem?_eq_some_iff.1 hj).1
        have hv:=List.getElem?_eq_getElem (l:=vs) (show j<vs.length by omega)
        have hu:=List.getElem?_eq_getElem (l:=us) (show j<us.length by omega)
        rw [hu,plainU_spec (h3 j (vs[j]'(by omega)) (us[j]'(by omega)) hv hu) (h5 j _ u hv hj)]
    subst e
    refine (h W hg).mono fun e W' ⟨hb,u,v,he,hp,hd⟩=>?_
    have hc:chH []=fun _=>.fresh:=by funext x;simp [chH]
    have hnb:∀ b,¬ blocks ρ (chH []) b:=fun b ⟨c,hl,_⟩=>by rw [hc] at hl;cases hl
    refine ⟨u,v,[],fun _=>default,he,⟨rfl,hp⟩,⟨hb.os,hb.tape,hb.output,hb.size,fun b hb1 _=>hb.block b hb1,fun c=>(by rw [hc];trivial),fun c hl=>(by rw [hc] at hl;cases hl),fun c c' hl=>(by rw [hc] at hl;cases hl),fun i hi=>absurd hi (Nat.not_lt_zero _)⟩, ?_⟩
    rw [hc]
    refine hd _ fun b hb=>?_
    rcases hb with hb|⟨c,hl,_⟩
    · exact hlt b hb
    · cases hl
theorem FnR.lib {f:FuncId} {vs:List V} {us:List Value} {v:V} {u:Value} (hn:entr P f=true) (h1:vs.mapM plainU=some us) (h2:plainR v=some u)
    (h:∀ W,G.g W→Calls P f us.toArray W fun e W'=>e=.returned u∧Below W.heap.size W W'):FnR P G f vs v:=by
  have:=FnP.lib (P:=P) (f:=f) (vs:=vs) (post:=fun r=>r=v) hn h1 ⟨v,rfl⟩ fun W hg=>(h W hg).mono fun e W' ⟨he,hb⟩=>⟨hb,u,v,he,rfl,fun O _=>plainR_den h2⟩
  exact ⟨this.en,this.ne.imp fun r ⟨o,h⟩=>⟨o,h.2,h.1⟩,fun W ρ ext us a b c d e f=>(this.run W ρ ext us a b c d e f).mono fun e W' ⟨u,r,o,ρ',he,⟨h1,h2⟩,h3⟩=>⟨u,r,o,ρ',he,⟨h2,h1⟩,h3⟩⟩
end
end Go.Proofs.YtggifndkolojmaaGreatDoor.W
namespace Go.Proofs.YtggifndkolojmaaGreatDoor.M
open Go Go.Proofs.YtggifndkolojmaaGreatDoor.VL
def E.row (e:E):List V:=[.int .i64 e.a,.int .i64 e.p]
def Pc.row (p:Pc):List V:=[.int .i64 p.size,.bool p.named,.int .i64 p.e.a,.int .i64 p.e.p]
def Pair.row (p:Pair):List V:=[.int .i64 p.port,.int .i64 p.ins.a,.int .i64 p.ins.p]
def Part.row (p:Part):List V:=[.int .i64 p.size,.str p.text]
def Strm.row (s:Strm):List V:=[.str s.inn,.sl 2 (s.parts.map Part.row)]
def Flw.row (f:Flw):List V:=[.int .i64 f.ins.a,.int .i64 f.ins.p,.int .i64 f.out.a,.int .i64 f.out.p,.str f.up.inn,.sl 2 (f.up.parts.map Part.row),.str f.down.inn,.sl 2 (f.down.parts.map Part.row)]
def Pk.row (p:Pk):List V:=[.int .i64 p.kind,.int .i64 p.frm.a,.int .i64 p.frm.p,.int .i64 p.to.a,.int .i64 p.to.p,.int .i64 p.at_,.str p.text]
def Door.row (d:Door):List V:=[.sl 3 (d.map.map Pair.row),.sl 8 (d.flows.map Flw.row)]
def Conv.row (c:Conv):List V:=[.int .i64 c.ins.a,.int .i64 c.ins.p,.int .i64 c.out.a,.int .i64 c.out.p,.str c.up,.str c.down,.int .i64 c.upAck,.int .i64 c.downAck,.str c.upGot,.str c.downGot]
def World.row (w:World):List V:=[.sl 10 (w.convs.map Conv.row),.sl 3 (w.door.map.map Pair.row),.sl 8 (w.door.flows.map Flw.row),.sl 7 (w.nets.map Pk.row)]
def Ev.row (e:Ev):List V:=[.int .i64 e.kind,.int .i64 e.a,.int .i64 e.b,.int .i64 e.c,.int .i64 e.pkt.kind,.int .i64 e.pkt.frm.a,.int .i64 e.pkt.frm.p,.int .i64 e.pkt.to.a,.int .i64 e.pkt.to.p,.int .i64 e.pkt.at_,.str e.pkt.text]
def rdV (o:Option E):V:=.tup [.agg [.int .i64 (o.getD .zero).a,.int .i64 (o.getD .zero).p],.bool o.isSome]
def byR (b:UInt8):List V:=[.int .u8 (b.toNat:Int)]
theorem E.eta (e:E):E.mk e.a e.p=e:=by cases e;rfl
theorem Pc.eta (q:Pc):Pc.mk q.size q.named q.e=q:=by cases q;rfl
theorem Pair.eta (q:Pair):Pair.mk q.port q.ins=q:=by cases q;rfl
theorem Part.eta (q:Part):Part.mk q.size q.text=q:=by cases q;rfl
theorem Strm.eta (q:Strm):Strm.mk q.inn q.parts=q:=by cases q;rfl
theorem Pk.eta (q:Pk):Pk.mk q.kind q.frm q.to q.at_ q.text=q:=by cases q;rfl
theorem Flw.eta (q:Flw):Flw.mk q.ins q.out q.up q.down=q:=by cases q;rfl
theorem Conv.eta (q:Conv):Conv.mk q.ins q.out q.up q.down q.upAck q.downAck q.upGot q.downGot=q:=by cases q;rfl
theorem Door.eta (q:Door):Door.mk q.map q.flows=q:=by cases q;rfl
theorem World.eta (q:World):World.mk q.convs q.door q.nets=q:=by cases q;rfl
theorem Ev.eta (q:Ev):Ev.mk q.kind q.a q.b q.c q.pkt=q:=by cases q;rfl
end Go.Proofs.YtggifndkolojmaaGreatDoor.M
namespace Go.Proofs.YtggifndkolojmaaGreatDoor.W
open Go Go.RowKit Go.Proofs Go.Proofs.YtggifndkolojmaaGreatDoor.VL Go.Proofs.YtggifndkolojmaaGreatDoor.M
attribute [local congr] optK_congr guardK_congr condK_congr runT_congr runD_congr wpI_congr CallV_congr LoopI_congr pureK_congr effK_congr calK_congr stepV_congr doV_congr exN_congr exB_congr retF_congr retQ_congr gK_congr condW_congr ldK_congr stoK_congr
attribute [local go_sem] argL_cons argL_nil argH_nil argH_cons chH_getH wpI_seq wpI_reg wpI_drw wpI_ret cond_k condW_t condW_f wpI_skip wpI_block wpI_exit wpI_loop exN_n exN_r exN_e exB_n exB_r exB_h exB_m runT_k kT_e runT_nil runD_k kD_e runD_nil step_u step_k gK_t gK_f do_mv do_bino bo_add bo_sub bo_mul bo_subu bo_quo bo_rem bo_xor bo_eql bo_neq bo_lss bo_leq bo_gtr bo_geq bo_cat bo_eqs bo_nes do_pick do_call do_cal calK_f do_box do_alloc do_ldk ldK_s do_stok stoK_s do_fad do_nilc do_not do_neg do_len do_lens do_ext do_eqs do_beq do_isn do_cvi do_sls do_idx do_mn do_mx do_build do_mkf do_s2b do_b2s do_slv do_iad do_bsl do_mks do_app ev_t ev_c app_some app_none
attribute [local go_sem] List.nil_append List.cons_append List.append_nil getL_hit getL_miss getH_nil getH_hit getH_miss nm_eq ne_eq Nat.reduceEqDiff not_false_eq_true Nat.reduceAdd Nat.add_zero Nat.zero_add if_true if_false ite_true ite_false pureK_s effK_s optK_s gdV_t gdV_f gdV_s pick_b ge_iff_le gt_iff_lt cond_true cond_false fresh_k cells_agg cells_int cells_bool cells_str cells_own cells_sl cells_nils ld_pv ld_pa ld_ip ldVar_t ldVar_f ldArr_t ldArr_f ldRow_t ldRow_f ldA_s ld1_s fad_pv fad_pa fad_ip nilc_pv nilc_pa nilc_ip not_b neg_i cvi_i ext_t retF_n retF_r
attribute [local go_sem] resV_k rvs_nil rvs_t rvs_c fstO_s consO_s resK_s resL_1 resL_2 resL_3 resL_4  Option.some.injEq List.map_cons List.map_nil List.all_cons List.all_nil Bool.and_true Bool.and_self Bool.not_true Bool.not_false Option.map_some Option.map_none sls_s slsG_s loV_n loV_i hiV_n hiV_i idx_s mn_i mx_i s2b_s b2s_s bytO_s bytes_nil bytes_cons conB_s slv_sl slv_own slv_nils slvG_s slvN_s slvO_s iad_sl iadG_map take_map drop_map List.length_map iad_own iad_view iadO_a iadW_a mks_i rowO_nils rowO_sl rowO_own rowA_a eq_self appG_nils appG_own appO_a guardP_T mapA_s bld_nil mkf_nil bldF_e fill_nil fill_cons mkf_e lens_s len_nils len_sl len_own len_view isn_nile isn_erre List.getElem?_cons_zero List.getElem?_cons_succ List.length_cons List.length_nil decide_true decide_false Int.toNat_natCast Int.cast_ofNat_Int Int.reduceLT Int.reduceLE Int.reduceEq Int.reduceAdd Int.reduceSub Int.reduceMul Int.reduceNeg Int.reduceToNat List.getD_cons_zero List.getD_cons_succ not_true_eq_false not_false_eq_true Bool.false_eq_true Bool.true_eq_false reduceCtorEq
attribute [local go_sem] E.row Pc.row Pair.row Part.row Strm.row Flw.row Pk.row Door.row Conv.row World.row Ev.row rdV E.eta Pc.eta Pair.eta Part.eta Strm.eta Pk.eta Flw.eta Conv.eta Door.eta World.eta Ev.eta
attribute [local go_sem] sub_ok st_pv st_pa stVar_v stArr_a Nat.le_refl List.drop_zero List.drop_succ_cons List.take_succ_cons List.take_zero setR Nat.reduceLeDiff
attribute [local go_sem] wk_bot wk2_bot wk1_bot wk_undef wk_tup_e wk2_agg_e wk_agg_e wk1_fn_e wk2_fn_e wk_fn_e wkl_nil wkl_cons wkh_var_e wkh_arr_e wkh_fresh_e wkh_dead_v wkh_dead_a wkh_dead_d wk0_undef wk0_int wk0_bool wk0_str wk0_nils wk0_nils_sl wk0_nilp wk0_nile wk0_erre wk0_sl wk0_iptr wk0_own wk0_view wk0_pv wk0_pa fzA_a fzW_a fzP_v wk0_own_sl wk0_view_sl wk0_pv_iptr WkS_nil WkS_cons WkN_nil WkN_cons nonB_nil nonB_cons getN_nil getN_hit getN_miss pinOk_0 pinOk_s and_true true_and and_self
attribute [local go_sem] bot_int one_int unt_int clo_int bot_bool one_bool unt_bool clo_bool bot_str one_str unt_str clo_str bot_nils one_nils unt_nils clo_nils bot_nilp one_nilp unt_nilp clo_nilp bot_nile one_nile unt_nile clo_nile bot_erre one_erre unt_erre clo_erre bot_raw one_raw unt_raw clo_raw bot_sl one_sl unt_sl clo_sl bot_own one_own unt_own clo_own bot_view one_view unt_view clo_view bot_pv one_pv unt_pv clo_pv bot_pa one_pa unt_pa clo_pa bot_iptr one_iptr unt_iptr clo_iptr unt_agg unt_fn one_fn
attribute [local go_sem] rn_tup rn_agg rn2_agg rn_fn rn2_fn rnfn1 rn_bot rn2_bot rn1_bot rn0_int rn0_bool rn0_str rn0_nils rn0_nilp rn0_nile rn0_erre rn0_sl rn0_iptr rn0_own rn0_view rn0_pv rn0_pa hrn_var hrn_arr hrn_dead outU_nil outU_cons deads_nil deads_cons bk_ge bk_lt nsF_0 nsF_s chH_0 chH_s chH_n newN_e andB_s eqR_nil eqR_i eqR_b eqR_s mapX_f mapX_t eqs_a beq_f beq_t live_arr live_var nsl_nil nsl_cons Nat.reduceMul Nat.reduceLT Nat.zero_le Nat.not_lt_zero
attribute [local go_sem] mV lD lA fD bN eX oP nP sR i0 s0
def ic38:IC:=sR [oP 6 (.mv (.c (.bool false)))] (sR [mV 7 0,mV 8 1,bN 9 .geq 7 8,mV 10 9,⟨some 11,some (10,true),.mv (.t 0)⟩,⟨some 12,some (10,true),.mv (.t 2)⟩,⟨some 13,some (10,true),.bin .leq (.t 11) (.t 12)⟩,oP 14 (.pick (.t 10) (.t 13) (.c (.bool false))),mV 6 14] .ret)
theorem dg38:Dg Tryz.prog 38 Tryz.f38 ic38 [(.t 6)]:=⟨Tryz.func38,by kernel_rfl,by kernel_rfl⟩
theorem c38 (a b c:Int):FnR Tryz.prog G 38 [.int .i64 a,.int .i64 b,.int .i64 c] (.bool (within a b c)):=by
  refine mF dg38 Tryz.ntmps38 ?_
  unfold within
  cases h:decide (b≤a)<;>simp only [ic38,go_sem,h,Bool.false_and,Bool.true_and]
def ic63:IC:=sR [oP 6 (.mv (.c (.bool false)))] (sR [mV 7 0,mV 8 1,bN 9 .geq 7 8,mV 10 9,⟨some 11,some (10,true),.mv (.t 0)⟩,⟨some 12,some (10,true),.mv (.t 2)⟩,⟨some 13,some (10,true),.bin .leq (.t 11) (.t 12)⟩,oP 14 (.pick (.t 10) (.t 13) (.c (.bool false))),mV 6 14] .ret)
theorem dg63:Dg Tryz.prog 63 Tryz.f63 ic63 [(.t 6)]:=⟨Tryz.func63,by kernel_rfl,by kernel_rfl⟩
theorem c63 (a b c:Int):FnR Tryz.prog G 63 [.int .i64 a,.int .i64 b,.int .i64 c] (.bool (within a b c)):=by
  refine mF dg63 Tryz.ntmps63 ?_
  unfold within
  cases h:decide (b≤a)<;>simp only [ic63,go_sem,h,Bool.false_and,Bool.true_and]
def ic91:IC:=sR [oP 1 (.box 39 (.t 0)),oP 2 (.mv (.c (.bool false)))] (sR [fD 3 0 1,lD 4 1 3,oP 5 (.call 38 [.t 4,.c (.int .i64 1),.c (.int .i64 3)]),mV 6 5,⟨some 7,some (6,true),.fad 1 (.t 1)⟩,⟨some 8,some (6,true),.ld 1 false (.t 7)⟩,⟨some 9,some (6,true),.call 38 [.t 8,.c (.int .i64 1),.c (.int .i64 9)]⟩,oP 10 (.pick (.t 6) (.t 9) (.c (.bool false))),mV 2 10] .ret)
theorem dg91:Dg Tryz.prog 91 Tryz.f91 ic91 [(.t 2)]:=⟨Tryz.func91,by kernel_rfl,by kernel_rfl⟩
theorem c91 (a p:Int):FnR Tryz.prog G 91 [.agg [.int .i64 a,.int .i64 p]] (.bool (E.inside ⟨a,p⟩)):=by
  refine mF dg91 Tryz.ntmps91 ?_
  unfold E.inside
  simp only [ic91,go_sem]
  refine callR (c38 _ _ _) rfl rfl ?_
  cases h:within a 1 3<;>simp only [go_sem,Bool.false_and,Bool.true_and]
  refine callR (c38 _ _ _) rfl rfl ?_
  simp only [go_sem]
def ic152:IC:=sR [oP 1 (.box 39 (.t 0)),oP 2 (.mv (.c (.bool false)))] (sR [fD 3 1 1,lD 4 1 3,oP 5 (.call 63 [.t 4,.c (.int .i64 1),.c (.int .i64 9)]),mV 2 5] .ret)
theorem dg152:Dg Tryz.prog 152 Tryz.f152 ic152 [(.t 2)]:=⟨Tryz.func152,by kernel_rfl,by kernel_rfl⟩
theorem c152 (a p:Int):FnR Tryz.prog G 152 [.agg [.int .i64 a,.int .i64 p]] (.bool (within p 1 9)):=by
  refine mF dg152 Tryz.ntmps152 ?_
  simp only [ic152,go_sem]
  refine callR (c63 _ _ _) rfl rfl ?_
  simp only [go_sem]
def ic127:IC:=sR [oP 1 (.box 39 (.t 0)),oP 2 (.mv (.c (.bool false)))] (sR [fD 3 0 1,lD 4 1 3,oP 5 (.call 63 [.t 4,.c (.int .i64 1),.c (.int .i64 3)]),mV 6 5,⟨some 7,some (6,true),.ld 2 true (.t 1)⟩,⟨some 8,some (6,true),.call 152 [.t 7]⟩,oP 9 (.pick (.t 6) (.t 8) (.c (.bool false))),mV 2 9] .ret)
theorem dg127:Dg Tryz.prog 127 Tryz.f127 ic127 [(.t 2)]:=⟨Tryz.func127,by kernel_rfl,by kernel_rfl⟩
theorem c127 (a p:Int):FnR Tryz.prog G 127 [.agg [.int .i64 a,.int .i64 p]] (.bool (E.inside ⟨a,p⟩)):=by
  refine mF dg127 Tryz.ntmps127 ?_
  unfold E.inside
  simp only [ic127,go_sem]
  refine callR (c63 _ _ _) rfl rfl ?_
  cases h:within a 1 3<;>simp only [go_sem,Bool.false_and,Bool.true_and]
  refine callR (c152 _ _) rfl rfl ?_
  simp only [go_sem]
def ic112:IC:=sR [oP 1 (.box 39 (.t 0)),oP 2 (.mv (.c (.bool false)))] (sR [fD 3 0 1,lD 4 1 3,oP 5 (.call 38 [.t 4,.c (.int .i64 4),.c (.int .i64 6)]),mV 6 5,⟨some 7,some (6,true),.fad 1 (.t 1)⟩,⟨some 8,some (6,true),.ld 1 false (.t 7)⟩,⟨some 9,some (6,true),.call 38 [.t 8,.c (.int .i64 1),.c (.int .i64 9)]⟩,oP 10 (.pick (.t 6) (.t 9) (.c (.bool false))),mV 2 10] .ret)
theorem dg112:Dg Tryz.prog 112 Tryz.f112 ic112 [(.t 2)]:=⟨Tryz.func112,by kernel_rfl,by kernel_rfl⟩
theorem c112 (a p:Int):FnR Tryz.prog G 112 [.agg [.int .i64 a,.int .i64 p]] (.bool (E.outside ⟨a,p⟩)):=by
  refine mF dg112 Tryz.ntmps112 ?_
  simp only [ic112,go_sem]
  with_reducible repeat' (first|refine br ?_ ?_<;>intro h e<;>(try simp only [e,go_sem])<;>clear e|rw [i64w (by omega)]|refine sd ?_<;>try simp only [go_sem]|(first|refine cr (c38 ..) ?_)<;>try simp only [go_sem]|fail)
  all_goals simp_all [E.outside]
def ic108:IC:=sR [oP 1 (.box 39 (.t 0)),oP 2 (.mv (.c (.bool false)))] (sR [fD 3 0 1,lD 4 1 3,oP 5 (.call 63 [.t 4,.c (.int .i64 4),.c (.int .i64 6)]),mV 6 5,⟨some 7,some (6,true),.ld 2 true (.t 1)⟩,⟨some 8,some (6,true),.call 152 [.t 7]⟩,oP 9 (.pick (.t 6) (.t 8) (.c (.bool false))),mV 2 9] .ret)
theorem dg108:Dg Tryz.prog 108 Tryz.f108 ic108 [(.t 2)]:=⟨Tryz.func108,by kernel_rfl,by kernel_rfl⟩
theorem c108 (a p:Int):FnR Tryz.prog G 108 [.agg [.int .i64 a,.int .i64 p]] (.bool (E.outside ⟨a,p⟩)):=by
  refine mF dg108 Tryz.ntmps108 ?_
  simp only [ic108,go_sem]
  with_reducible repeat' (first|refine br ?_ ?_<;>intro h e<;>(try simp only [e,go_sem])<;>clear e|rw [i64w (by omega)]|refine sd ?_<;>try simp only [go_sem]|(first|refine cr (c63 ..) ?_|refine cr (c152 ..) ?_)<;>try simp only [go_sem]|fail)
  all_goals simp_all [E.outside]
def ic115:IC:=sR [oP 1 (.box 39 (.t 0)),oP 2 (.mv (.c (.bool false)))] (sR [fD 3 0 1,lD 4 1 3,oP 5 (.bin .eql (.t 4) (.c (.int .i64 9))),mV 6 5,⟨some 7,some (6,true),.fad 1 (.t 1)⟩,⟨some 8,some (6,true),.ld 1 false (.t 7)⟩,⟨some 9,some (6,true),.call 38 [.t 8,.c (.int .i64 10),.c (.int .i64 17)]⟩,oP 10 (.pick (.t 6) (.t 9) (.c (.bool false))),mV 2 10] .ret)
theorem dg115:Dg Tryz.prog 115 Tryz.f115 ic115 [(.t 2)]:=⟨Tryz.func115,by kernel_rfl,by kernel_rfl⟩
theorem c115 (a p:Int):FnR Tryz.prog G 115 [.agg [.int .i64 a,.int .i64 p]] (.bool (E.door ⟨a,p⟩)):=by
  refine mF dg115 Tryz.ntmps115 ?_
  simp only [ic115,go_sem]
  with_reducible repeat' (first|refine br ?_ ?_<;>intro h e<;>(try simp only [e,go_sem])<;>clear e|rw [i64w (by omega)]|refine sd ?_<;>try simp only [go_sem]|(first|refine cr (c38 ..) ?_)<;>try simp only [go_sem]|fail)
  all_goals simp_all [E.door]
def ic133:IC:=sR [oP 1 (.box 39 (.t 0)),oP 2 (.mv (.c (.bool false)))] (sR [fD 3 0 1,lD 4 1 3,oP 5 (.bin .eql (.t 4) (.c (.int .i64 9))),mV 6 5,⟨some 7,some (6,true),.fad 1 (.t 1)⟩,⟨some 8,some (6,true),.ld 1 false (.t 7)⟩,⟨some 9,some (6,true),.call 63 [.t 8,.c (.int .i64 10),.c (.int .i64 17)]⟩,oP 10 (.pick (.t 6) (.t 9) (.c (.bool false))),mV 2 10] .ret)
theorem dg133:Dg Tryz.prog 133 Tryz.f133 ic133 [(.t 2)]:=⟨Tryz.func133,by kernel_rfl,by kernel_rfl⟩
theorem c133 (a p:Int):FnR Tryz.prog G 133 [.agg [.int .i64 a,.int .i64 p]] (.bool (E.door ⟨a,p⟩)):=by
  refine mF dg133 Tryz.ntmps133 ?_
  simp only [ic133,go_sem]
  with_reducible repeat' (first|refine br ?_ ?_<;>intro h e<;>(try simp only [e,go_sem])<;>clear e|rw [i64w (by omega)]|refine sd ?_<;>try simp only [go_sem]|(first|refine cr (c63 ..) ?_)<;>try simp only [go_sem]|fail)
  all_goals simp_all [E.door]
def ic114:IC:=sR [oP 1 (.box 39 (.t 0)),oP 2 (.mv (.c (.bool false)))] (sR [lA 3 2 1,oP 4 (.call 91 [.t 3]),mV 5 4,⟨some 6,some (5,false),.ld 2 true (.t 1)⟩,⟨some 7,some (5,false),.call 112 [.t 6]⟩,oP 8 (.pick (.t 5) (.c (.bool true)) (.t 7)),mV 9 8,⟨some 10,some (9,false),.ld 2 true (.t 1)⟩,⟨some 11,some (9,false),.call 115 [.t 10]⟩,oP 12 (.pick (.t 9) (.c (.bool true)) (.t 11)),mV 2 12] .ret)
theorem dg114:Dg Tryz.prog 114 Tryz.f114 ic114 [(.t 2)]:=⟨Tryz.func114,by kernel_rfl,by kernel_rfl⟩
theorem c114 (a p:Int):FnR Tryz.prog G 114 [.agg [.int .i64 a,.int .i64 p]] (.bool (E.any ⟨a,p⟩)):=by
  refine mF dg114 Tryz.ntmps114 ?_
  simp only [ic114,go_sem]
  with_reducible repeat' (first|refine br ?_ ?_<;>intro h e<;>(try simp only [e,go_sem])<;>clear e|rw [i64w (by omega)]|refine sd ?_<;>try simp only [go_sem]|(first|refine cr (c91 ..) ?_|refine cr (c112 ..) ?_|refine cr (c115 ..) ?_)<;>try simp only [go_sem]|fail)
  all_goals simp_all [E.any]
def ic104:IC:=sR [oP 1 (.box 39 (.t 0)),oP 2 (.mv (.c (.bool false)))] (sR [lA 3 2 1,oP 4 (.call 127 [.t 3]),mV 5 4,⟨some 6,some (5,false),.ld 2 true (.t 1)⟩,⟨some 7,some (5,false),.call 108 [.t 6]⟩,oP 8 (.pick (.t 5) (.c (.bool true)) (.t 7)),mV 9 8,⟨some 10,some (9,false),.ld 2 true (.t 1)⟩,⟨some 11,some (9,false),.call 133 [.t 10]⟩,oP 12 (.pick (.t 9) (.c (.bool true)) (.t 11)),mV 2 12] .ret)
theorem dg104:Dg Tryz.prog 104 Tryz.f104 ic104 [(.t 2)]:=⟨Tryz.func104,by kernel_rfl,by kernel_rfl⟩
theorem c104 (a p:Int):FnR Tryz.prog G 104 [.agg [.int .i64 a,.int .i64 p]] (.bool (E.any ⟨a,p⟩)):=by
  refine mF dg104 Tryz.ntmps104 ?_
  simp only [ic104,go_sem]
  with_reducible repeat' (first|refine br ?_ ?_<;>intro h e<;>(try simp only [e,go_sem])<;>clear e|rw [i64w (by omega)]|refine sd ?_<;>try simp only [go_sem]|(first|refine cr (c127 ..) ?_|refine cr (c108 ..) ?_|refine cr (c133 ..) ?_)<;>try simp only [go_sem]|fail)
  all_goals simp_all [E.any]
def dig (b:UInt8):Int:=if figB b 48 then (b.toNat:Int) - 48 else -1
def ic186:IC:=sR [oP 2 (.mv (.c i0))] (.seq (sR [mV 3 0,oP 4 (.bin .lss (.t 3) (.c (.int .u8 48))),mV 5 4,⟨some 6,some (5,false),.mv (.t 0)⟩,⟨some 7,some (5,false),.bin .gtr (.t 6) (.c (.int .u8 57))⟩,oP 8 (.pick (.t 5) (.c (.bool true)) (.t 7))] (.cond (.t 8) (sR [oP 2 (.mv (.c (.int .i64 (-1))))] .ret) .skip)) (sR [mV 9 0,oP 10 (.bin .sub (.t 9) (.c (.int .u8 48))),oP 11 (.cvi .i64 (.t 10)),mV 2 11] .ret))
theorem dg186:Dg Tryz.prog 186 Tryz.f186 ic186 [(.t 2)]:=⟨Tryz.func186,by kernel_rfl,by kernel_rfl⟩
theorem c186 (b:UInt8):FnR Tryz.prog G 186 [.int .u8 (b.toNat:Int)] (.int .i64 (dig b)):=by
  refine mF dg186 Tryz.ntmps186 ?_
  have hb:b.toNat<256:=b.toNat_lt
  have e:figB b 48=(decide (48≤(b.toNat:Int)) && decide ((b.toNat:Int)≤57)):=by
    simp only [figB,UInt8.le_iff_toNat_le]
    have:(48:UInt8).toNat=48:=rfl
    have:(57:UInt8).toNat=57:=rfl
    congr 1<;>(apply decide_eq_decide.2;omega)
  simp only [ic186,go_sem,dig,e]
  with_reducible repeat' (first|refine br ?_ ?_<;>intro h e<;>(try simp only [e,go_sem])<;>clear e|rw [i64w (by omega)]|refine sd ?_<;>try simp only [go_sem]|fail)
  all_goals first
    | (rw [if_neg (by simp;omega)])
    | (rw [if_pos (by simp;omega),u8w (by omega),i64w (by omega)])
def ic173:IC:=sR [oP 2 (.mv (.c s0))] (.seq (sR [mV 3 0,oP 4 (.bin .lss (.t 3) (.c (.int .i64 (-9223372036854775807))))] (.cond (.t 4) (sR [oP 2 (.mv (.c (.str [45,57,50,50,51,51,55,50,48,51,54,56,53,52,55,55,53,56,48,56])))] .ret) .skip)) (.seq (sR [mV 5 0,oP 6 (.bin .lss (.t 5) (.c i0))] (.cond (.t 6) (sR [mV 7 0,oP 8 (.un .neg (.t 7)),oP 9 (.call 173 [.t 8]),oP 10 (.bin .add (.c (.str [45])) (.t 9)),mV 2 10] .ret) .skip)) (.seq (sR [mV 11 0,oP 12 (.bin .lss (.t 11) (.c (.int .i64 10)))] (.cond (.t 12) (sR [mV 13 0,oP 14 (.bin .add (.c (.int .i64 48)) (.t 13)),oP 15 (.cvi .u8 (.t 14)),oP 16 (.bsl 5 1 [.t 15]),oP 17 (.b2s (.t 16)),mV 2 17] .ret) .skip)) (.seq (.drw [0,1,3,0,8,24,56,120,248,511,1023] [(0,mV 18 0),(1,oP 19 (.bin .quo (.t 18) (.c (.int .i64 10)))),(2,oP 20 (.call 173 [.t 19])),(3,mV 21 0),(4,oP 22 (.bin .rem (.t 21) (.c (.int .i64 10)))),(5,oP 23 (.bin .add (.c (.int .i64 48)) (.t 22))),(6,oP 24 (.cvi .u8 (.t 23))),(7,oP 25 (.bsl 5 1 [.t 24])),(8,oP 26 (.b2s (.t 25))),(9,bN 27 .add 20 26),(10,mV 2 27)]) .ret))))
theorem dg173:Dg Tryz.prog 173 Tryz.f173 ic173 [(.t 2)]:=⟨Tryz.func173,by kernel_rfl,by kernel_rfl⟩
theorem c0173 (n:Int) (h:0≤n∧n<10):FnR Tryz.prog G 173 [.int .i64 n] (.str (dec n)):=by
  refine mF dg173 Tryz.ntmps173 ?_
  simp only [ic173,go_sem]
  with_reducible repeat' (first|refine br ?_ ?_<;>intro h e<;>(try simp only [e,go_sem])<;>clear e|rw [i64w (by omega)]|refine sd ?_<;>try simp only [go_sem]|fail)
  all_goals first|omega|skip
  rw [u8w (by omega)]
  simp only [dec,decN]
  rw [if_pos (by omega)]
  congr 2
  omega
theorem c173 (n:Int) (h:0≤n∧n<100):FnR Tryz.prog G 173 [.int .i64 n] (.str (dec n)):=by
  by_cases h10:n<10
  · exact c0173 n ⟨h.1,h10⟩
  refine mF dg173 Tryz.ntmps173 ?_
  have e1:n.tdiv 10=n / 10:=Int.tdiv_eq_ediv_of_nonneg h.1
  have e2:n.tmod 10=n % 10:=Int.tmod_eq_emod_of_nonneg h.1
  have hl:(dec (n / 10)).length≤2:=by unfold dec decN;split<;>simp
  simp only [ic173,go_sem,e1,e2]
  with_reducible repeat' (first|refine br ?_ ?_<;>intro h e<;>(try simp only [e,go_sem])<;>clear e|rw [i64w (by omega)]|refine sd ?_<;>try simp only [go_sem]|fail)
  all_goals first|omega|skip
  refine callR (c0173 _ (by omega)) rfl rfl ?_
  simp only [go_sem,e1,e2]
  with_reducible repeat' (first|refine br ?_ ?_<;>intro h e<;>(try simp only [e,go_sem])<;>clear e|rw [i64w (by omega)]|refine sd ?_<;>try simp only [go_sem]|fail)
  simp only [dec,decN]
  rw [if_neg (by omega),if_pos (by omega),u8w (by omega)]
  have e3:n.toNat / 10=(n / 10).toNat:=by omega
  have e4:48+n.toNat % 10=(48+n % 10).toNat:=by omega
  simp only [List.cons_append,List.nil_append,e3,e4]
theorem dec_len (n:Int):(dec n).length≤2:=by unfold dec decN;split<;>simp
def ic93:IC:=sR [oP 4 (.mv (.c (.bool false)))] (sR [mV 5 0,mV 6 1,bN 7 .geq 5 6,mV 8 7,⟨some 9,some (8,true),.mv (.t 0)⟩,⟨some 10,some (8,true),.bin .leq (.t 9) (.c (.int .u8 57))⟩,oP 11 (.pick (.t 8) (.t 10) (.c (.bool false))),mV 4 11] .ret)
theorem dg93:Dg Tryz.prog 93 Tryz.f93 ic93 [(.t 4)]:=⟨Tryz.func93,by kernel_rfl,by kernel_rfl⟩
theorem c93 (b lo:UInt8):FnR Tryz.prog G 93 [.int .u8 (b.toNat:Int),.int .u8 (lo.toNat:Int)] (.bool (figB b lo)):=by
  refine mF dg93 Tryz.ntmps93 ?_
  have e:figB b lo=(decide ((lo.toNat:Int)≤(b.toNat:Int)) && decide ((b.toNat:Int)≤57)):=by
    simp only [figB,UInt8.le_iff_toNat_le]
    have:(57:UInt8).toNat=57:=rfl
    congr 1<;>(apply decide_eq_decide.2;omega)
  simp only [ic93,go_sem,e]
  with_reducible repeat' (first|refine br ?_ ?_<;>intro h e<;>(try simp only [e,go_sem])<;>clear e|rw [i64w (by omega)]|refine sd ?_<;>try simp only [go_sem]|fail)
  all_goals simp_all
theorem u8cmp (b:UInt8):(decide ((97:Int)≤(b.toNat:Int))=decide (97≤b))∧(decide ((b.toNat:Int)≤122)=decide (b≤122))∧(decide ((48:Int)≤(b.toNat:Int))=decide (48≤b))∧(decide ((b.toNat:Int)≤57)=decide (b≤57)) ∧
    (decide ((b.toNat:Int)=64)=decide (b=64))∧(decide ((b.toNat:Int)=58)=decide (b=58))∧(decide ((b.toNat:Int)=59)=decide (b=59))∧(decide ((b.toNat:Int)<97)=decide (b<97))∧(decide (122<(b.toNat:Int))=decide (122<b)):=by
  refine ⟨?_, ?_, ?_, ?_, ?_, ?_, ?_, ?_, ?_⟩<;>apply decide_eq_decide.2<;>simp only [UInt8.le_iff_toNat_le,UInt8.lt_iff_toNat_lt,← UInt8.toNat_inj] <;>
    (have e1:(97:UInt8).toNat=97:=rfl;have e2:(122:UInt8).toNat=122:=rfl;have e3:(48:UInt8).toNat=48:=rfl;have e4:(57:UInt8).toNat=57:=rfl
     have e5:(64:UInt8).toNat=64:=rfl;have e6:(58:UInt8).toNat=58:=rfl;have e7:(59:UInt8).toNat=59:=rfl
     omega)
def ic151:IC:=sR [oP 2 (.mv (.c (.bool false)))] (sR [mV 3 0,oP 4 (.bin .geq (.t 3) (.c (.int .u8 97))),mV 5 4,⟨some 6,some (5,true),.mv (.t 0)⟩,⟨some 7,some (5,true),.bin .leq (.t 6) (.c (.int .u8 122))⟩,oP 8 (.pick (.t 5) (.t 7) (.c (.bool false))),mV 9 8,⟨some 10,some (9,false),.mv (.t 0)⟩,⟨some 11,some (9,false),.bin .geq (.t 10) (.c (.int .u8 48))⟩,⟨some 12,some (9,false),.mv (.t 11)⟩,⟨some 13,some (12,true),.mv (.t 0)⟩,⟨some 14,some (12,true),.bin .leq (.t 13) (.c (.int .u8 57))⟩,⟨some 15,some (9,false),.pick (.t 12) (.t 14) (.c (.bool false))⟩,oP 16 (.pick (.t 9) (.c (.bool true)) (.t 15)),mV 17 16,⟨some 18,some (17,false),.mv (.t 0)⟩,⟨some 19,some (17,false),.bin .eql (.t 18) (.c (.int .u8 64))⟩,oP 20 (.pick (.t 17) (.c (.bool true)) (.t 19)),mV 21 20,⟨some 22,some (21,false),.mv (.t 0)⟩,⟨some 23,some (21,false),.bin .eql (.t 22) (.c (.int .u8 58))⟩,oP 24 (.pick (.t 21) (.c (.bool true)) (.t 23)),mV 25 24,⟨some 26,some (25,false),.mv (.t 0)⟩,⟨some 27,some (25,false),.bin .eql (.t 26) (.c (.int .u8 59))⟩,oP 28 (.pick (.t 25) (.c (.bool true)) (.t 27)),mV 2 28] .ret)
theorem dg151:Dg Tryz.prog 151 Tryz.f151 ic151 [(.t 2)]:=⟨Tryz.func151,by kernel_rfl,by kernel_rfl⟩
theorem c151 (b:UInt8):FnR Tryz.prog G 151 [.int .u8 (b.toNat:Int)] (.bool (okB b)):=by
  refine mF dg151 Tryz.ntmps151 ?_
  obtain ⟨e1,e2,e3,e4,e5,e6,e7,e8,e9⟩:=u8cmp b
  simp only [ic151,go_sem,e1,e2,e3,e4,e5,e6,e7]
  repeat' (first
    | (with_reducible refine gBn (fun h=>?_) (fun h=>?_)<;>(try simp only [h,go_sem,e1,e2,e3,e4,e5,e6,e7]))
    | (with_reducible refine gB (fun h=>?_) (fun h=>?_)<;>(try simp only [h,go_sem,e1,e2,e3,e4,e5,e6,e7])))
  all_goals (clear e1 e2 e3 e4 e5 e6 e7 e8 e9;simp only [okB,figB, *,Bool.and_true,Bool.true_and,Bool.false_and,Bool.or_true,Bool.true_or,Bool.false_or,Bool.or_false,Bool.and_self])
theorem all_take_succ {t:B} {i:Nat} (h:i<t.length) {p:UInt8→Bool} (hi:(t.take i).all p=true) (hp:p (t.getD i 0)=true):(t.take (i+1)).all p=true:=by
  rw [List.take_add_one,List.all_append,hi]
  simp only [List.getD,List.getElem?_eq_getElem h,Option.getD_some] at hp
  simp [List.getElem?_eq_getElem h,hp]
theorem txOk_false {t:B} {i:Nat} (h:i<t.length) (hp:okB (t.getD i 0)=false):txOk t=false:=by
  have:t.all okB=false:=by
    rw [List.all_eq_false]
    exact ⟨t[i],List.getElem_mem h,by simpa [List.getD,List.getElem?_eq_getElem h] using hp⟩
  simp [txOk,this]
def ic105:IC:=sR [oP 2 (.mv (.c (.bool false)))] (.seq (sR [oP 3 (.mv (.c i0))] (.block 0 (.loop (.seq (sR [mV 4 3,mV 5 0,oP 6 (.lens (.t 5)),bN 7 .lss 4 6] (.cond (.t 7) .skip (.exit 0))) (.seq (.block 1 (sR [mV 10 0,mV 11 3,oP 12 (.idx (.t 10) (.t 11)),oP 13 (.call 151 [.t 12]),oP 14 (.un .not (.t 13))] (.cond (.t 14) (sR [oP 2 (.mv (.c (.bool false)))] .ret) .skip))) (.reg [mV 8 3,oP 9 (.bin .add (.t 8) (.c (.int .i64 1))),mV 3 9])))))) (sR [mV 15 0,oP 16 (.lens (.t 15)),oP 17 (.bin .leq (.t 16) (.c (.int .i64 40))),mV 2 17] .ret))
theorem dg105:Dg Tryz.prog 105 Tryz.f105 ic105 [(.t 2)]:=⟨Tryz.func105,by kernel_rfl,by kernel_rfl⟩
theorem c105 (t:B) (hl:t.length≤2000000:=by omega):FnR Tryz.prog G 105 [.str t] (.bool (txOk t)):=by
  refine mF dg105 Tryz.ntmps105 ?_
  simp only [ic105,go_sem]
  refine loopN (fun i:Nat=>⟨getL [(0,.str t),(3,.int .i64 (i:Int))],getH []⟩) (fun i=>t.length - i) (fun i=>i≤t.length∧(t.take i).all okB=true) 0 (leQ []) ⟨Nat.zero_le _,by simp⟩ ?_
  intro i ⟨hi,ha⟩
  simp only [go_sem]
  with_reducible repeat' (first|refine br ?_ ?_<;>intro h e<;>(try simp only [e,go_sem])<;>clear e|rw [i64w (by omega)]|refine sd ?_<;>try simp only [go_sem]|(first|refine cr (c151 ..) ?_)<;>try simp only [go_sem]|fail)
  · exact ⟨i+1,by omega,⟨by omega,all_take_succ (by omega) ha h⟩,(leQ [])⟩
  · exact txOk_false (by omega) h
  · have:i=t.length:=by omega
    subst this
    simp only [List.take_length] at ha
    simp only [txOk,ha,Bool.true_and]
    apply decide_eq_decide.2;omega
end Go.Proofs.YtggifndkolojmaaGreatDoor.W
namespace Go.Proofs
open Go.Shelf
def Tryz.lays169_ren:Go.Shelf.Ren:=⟨fun|169=>90|n=>n,fun|70=>129|9=>9|0=>0|72=>131|37=>22|127=>165|3=>3|5=>5|n=>n,fun|n=>n⟩
theorem Tryz.lays169:Go.Proofs.Lays.n169 Tryz.prog Tryz.lays169_ren:={
  mixed:=by kernel_rfl
  f169:=Tryz.func90.trans (congrArg some (by kernel_rfl))
  t0:=Tryz.underlying0
  a0:=Tryz.isAgg0
  z0:=Tryz.sizeOf0
  v0:=Tryz.zeroValue0
  t3:=Tryz.underlying3
  a3:=Tryz.isAgg3
  z3:=Tryz.sizeOf3
  v3:=Tryz.zeroValue3
  t9:=Tryz.underlying9
  a9:=Tryz.isAgg9
  z9:=Tryz.sizeOf9
  v9:=Tryz.zeroValue9
  t37:=Tryz.underlying22
  a37:=Tryz.isAgg22
  z37:=Tryz.sizeOf22
  v37:=Tryz.zeroValue22
  t70:=Tryz.underlying129
  a70:=Tryz.isAgg129
  z70:=Tryz.sizeOf129
  v70:=Tryz.zeroValue129
  t72:=Tryz.underlying131
  a72:=Tryz.isAgg131
  z72:=Tryz.sizeOf131
  v72:=Tryz.zeroValue131
  t127:=Tryz.underlying165
  a127:=Tryz.isAgg165
  z127:=Tryz.sizeOf165
  v127:=Tryz.zeroValue165 }
theorem Tryz.Builder_Extra_169:Builder.Extra Tryz.prog Tryz.lays169_ren:={
  sizeBuilder:=by kernel_rfl
  liesBuilder:=by kernel_rfl
  t5:=Tryz.underlying5
  a5:=Tryz.isAgg5
  z5:=Tryz.sizeOf5
  v5:=Tryz.zeroValue5
  infoByte:=by kernel_rfl
  cellsByte:=by kernel_rfl
  sizeByte:=by kernel_rfl
  neB5:=by decide }
open Go.RowKit in
theorem Tryz.Builder_String_any (B b:Nat) (l:List UInt8) (w:World) (h:Lib.IsBuilder 131 5 B b (Lib.byteCells l) w) (hBw:B≤w.heap.size) :
    Calls Tryz.prog 90 #[.pointer (some ⟨b,0,none⟩)] w fun e w'=>e=.returned (.string ⟨l.toArray⟩)∧Below B w w':=Any.Builder_String_any Tryz.lays169 Tryz.Builder_Extra_169 B b l w h hBw
def Tryz.lays103_ren:Go.Shelf.Ren:=⟨fun|103=>142|210=>169|206=>182|n=>n,fun|9=>9|4=>4|24=>171|3=>3|n=>n,fun|n=>n⟩
theorem Tryz.lays103:Go.Proofs.Lays.n103 Tryz.prog Tryz.lays103_ren:={
  mixed:=by kernel_rfl
  f103:=Tryz.func142.trans (congrArg some (by kernel_rfl))
  f206:=Tryz.func182.trans (congrArg some (by kernel_rfl))
  f210:=Tryz.func169.trans (congrArg some (by kernel_rfl))
  t3:=Tryz.underlying3
  a3:=Tryz.isAgg3
  z3:=Tryz.sizeOf3
  v3:=Tryz.zeroValue3
  t4:=Tryz.underlying4
  a4:=Tryz.isAgg4
  z4:=Tryz.sizeOf4
  v4:=Tryz.zeroValue4
  t9:=Tryz.underlying9
  a9:=Tryz.isAgg9
  z9:=Tryz.sizeOf9
  v9:=Tryz.zeroValue9
  t24:=Tryz.underlying171
  a24:=Tryz.isAgg171
  z24:=Tryz.sizeOf171
  v24:=Tryz.zeroValue171 }
open Go.RowKit in
theorem Tryz.strings_CutPrefix (s p:ByteArray) (w:World) :
    Calls Tryz.prog 142 #[.string s,.string p] w fun e w'=>e=.returned (.tuple #[.string ⟨(Lib.trimPrefix s.data.toList p.data.toList).toArray⟩,.bool (Lib.hasPrefix s.data.toList p.data.toList)])∧w'=w:=Any.strings_CutPrefix Tryz.lays103 s p w
def Tryz.lays171_ren:Go.Shelf.Ren:=⟨fun|171=>181|243=>197|246=>206|283=>216|284=>217|285=>218|286=>219|129=>225|317=>224|318=>226|319=>227|320=>228|337=>231|338=>232|n=>n,fun|3=>3|9=>9|2=>2|4=>4|171=>224|0=>0|53=>225|37=>22|5=>5|173=>228|212=>239|51=>230|20=>20|213=>240|46=>217|232=>248|233=>249|n=>n,fun|17=>3|18=>4|19=>5|n=>n⟩
theorem Tryz.lays171:Go.Proofs.Lays.n171 Tryz.prog Tryz.lays171_ren:={
  mixed:=by kernel_rfl
  f129:=Tryz.func225.trans (congrArg some (by kernel_rfl))
  f171:=Tryz.func181.trans (congrArg some (by kernel_rfl))
  f243:=Tryz.func197.trans (congrArg some (by kernel_rfl))
  f246:=Tryz.func206.trans (congrArg some (by kernel_rfl))
  f283:=Tryz.func216.trans (congrArg some (by kernel_rfl))
  f284:=Tryz.func217.trans (congrArg some (by kernel_rfl))
  f285:=Tryz.func218.trans (congrArg some (by kernel_rfl))
  f286:=Tryz.func219.trans (congrArg some (by kernel_rfl))
  f317:=Tryz.func224.trans (congrArg some (by kernel_rfl))
  f318:=Tryz.func226.trans (congrArg some (by kernel_rfl))
  f319:=Tryz.func227.trans (congrArg some (by kernel_rfl))
  f320:=Tryz.func228.trans (congrArg some (by kernel_rfl))
  f337:=Tryz.func231.trans (congrArg some (by kernel_rfl))
  f338:=Tryz.func232.trans (congrArg some (by kernel_rfl))
  t0:=Tryz.underlying0
  a0:=Tryz.isAgg0
  z0:=Tryz.sizeOf0
  v0:=Tryz.zeroValue0
  t2:=Tryz.underlying2
  a2:=Tryz.isAgg2
  z2:=Tryz.sizeOf2
  v2:=Tryz.zeroValue2
  t3:=Tryz.underlying3
  a3:=Tryz.isAgg3
  z3:=Tryz.sizeOf3
  v3:=Tryz.zeroValue3
  t4:=Tryz.underlying4
  a4:=Tryz.isAgg4
  z4:=Tryz.sizeOf4
  v4:=Tryz.zeroValue4
  t5:=Tryz.underlying5
  a5:=Tryz.isAgg5
  z5:=Tryz.sizeOf5
  v5:=Tryz.zeroValue5
  t9:=Tryz.underlying9
  a9:=Tryz.isAgg9
  z9:=Tryz.sizeOf9
  v9:=Tryz.zeroValue9
  t20:=Tryz.underlying20
  a20:=Tryz.isAgg20
  z20:=Tryz.sizeOf20
  v20:=Tryz.zeroValue20
  t37:=Tryz.underlying22
  a37:=Tryz.isAgg22
  z37:=Tryz.sizeOf22
  v37:=Tryz.zeroValue22
  t46:=Tryz.underlying217
  a46:=Tryz.isAgg217
  z46:=Tryz.sizeOf217
  v46:=Tryz.zeroValue217
  t51:=Tryz.underlying230
  a51:=Tryz.isAgg230
  z51:=Tryz.sizeOf230
  v51:=Tryz.zeroValue230
  t53:=Tryz.underlying225
  a53:=Tryz.isAgg225
  z53:=Tryz.sizeOf225
  v53:=Tryz.zeroValue225
  t171:=Tryz.underlying224
  a171:=Tryz.isAgg224
  z171:=Tryz.sizeOf224
  v171:=Tryz.zeroValue224
  t173:=Tryz.underlying228
  a173:=Tryz.isAgg228
  z173:=Tryz.sizeOf228
  v173:=Tryz.zeroValue228
  t212:=Tryz.underlying239
  a212:=Tryz.isAgg239
  z212:=Tryz.sizeOf239
  v212:=Tryz.zeroValue239
  t213:=Tryz.underlying240
  a213:=Tryz.isAgg240
  z213:=Tryz.sizeOf240
  t232:=Tryz.underlying248
  a232:=Tryz.isAgg248
  z232:=Tryz.sizeOf248
  v232:=Tryz.zeroValue248
  t233:=Tryz.underlying249
  a233:=Tryz.isAgg249
  z233:=Tryz.sizeOf249
  v233:=Tryz.zeroValue249
  g17:=by kernel_rfl
  g18:=by kernel_rfl
  g19:=by kernel_rfl }
open Go.RowKit Go.Sort Go.Lib in
theorem Tryz.strconv_Itoa_small (i:Nat) (hi:i<100) (w:World) :
    Calls Tryz.prog 181 #[.int .i64 i] w fun e w'=>e=.returned (.string ⟨(Lib.decDigits i).toArray⟩)∧w'=w:=Any.strconv_Itoa_small Tryz.lays171 i hi w
def Tryz.laysM316_ren:Go.Shelf.Ren:=⟨fun|316=>140|n=>n,fun|9=>9|3=>3|4=>4|37=>22|0=>0|127=>165|5=>5|n=>n,fun|n=>n⟩
theorem Tryz.laysM316:Go.Proofs.LaysM.n316 Tryz.prog Tryz.laysM316_ren:={
  mixed:=by kernel_rfl
  f316:=Tryz.func140.trans (congrArg some (by kernel_rfl))
  t0:=Tryz.underlying0
  a0:=Tryz.isAgg0
  z0:=Tryz.sizeOf0
  v0:=Tryz.zeroValue0
  t3:=Tryz.underlying3
  a3:=Tryz.isAgg3
  z3:=Tryz.sizeOf3
  v3:=Tryz.zeroValue3
  t4:=Tryz.underlying4
  a4:=Tryz.isAgg4
  z4:=Tryz.sizeOf4
  v4:=Tryz.zeroValue4
  t9:=Tryz.underlying9
  a9:=Tryz.isAgg9
  z9:=Tryz.sizeOf9
  v9:=Tryz.zeroValue9
  t37:=Tryz.underlying22
  a37:=Tryz.isAgg22
  z37:=Tryz.sizeOf22
  v37:=Tryz.zeroValue22
  t127:=Tryz.underlying165
  a127:=Tryz.isAgg165
  z127:=Tryz.sizeOf165
  v127:=Tryz.zeroValue165
  t5:=Tryz.underlying5
  a5:=Tryz.isAgg5
  z5:=Tryz.sizeOf5
  v5:=Tryz.zeroValue5
  i0:=by kernel_rfl
  i3:=by kernel_rfl
  i4:=by kernel_rfl
  i5:=by kernel_rfl
  i9:=by kernel_rfl
  i37:=by kernel_rfl
  i127:=by kernel_rfl }
open Go.RowKit in
theorem Tryz.stringslite_Clone (s:ByteArray) (w:World) (hlim:s.size≤281474976710656) :
    Calls Tryz.prog 140 #[.string s] w fun e w'=>e=.returned (.string s)∧Below w.heap.size w w':=Any.stringslite_Clone Tryz.laysM316 s w hlim
def Tryz.laysC172_ren:Go.Shelf.Ren:=⟨fun|172=>184|244=>199|245=>200|247=>211|279=>212|280=>213|281=>214|282=>215|287=>222|316=>140|171=>181|205=>223|321=>229|322=>230|243=>197|246=>206|283=>216|284=>217|285=>218|286=>219|129=>225|317=>224|318=>226|319=>227|320=>228|337=>231|338=>232|n=>n,fun|9=>9|3=>3|75=>133|76=>134|4=>4|5=>5|167=>218|37=>22|0=>0|85=>219|2=>2|168=>221|53=>225|175=>233|46=>217|210=>236|127=>165|145=>246|143=>244|21=>21|171=>224|173=>228|212=>239|51=>230|20=>20|213=>240|232=>248|233=>249|80=>82|n=>n,fun|15=>1|16=>2|17=>3|18=>4|19=>5|n=>n⟩
theorem Tryz.laysC172:Go.Proofs.LaysC.n172 Tryz.prog Tryz.laysC172_ren:={
  mixed:=by kernel_rfl
  f129:=Tryz.func225.trans (congrArg some (by kernel_rfl))
  f171:=Tryz.func181.trans (congrArg some (by kernel_rfl))
  f172:=Tryz.func184.trans (congrArg some (by kernel_rfl))
  f205:=Tryz.func223.trans (congrArg some (by kernel_rfl))
  f243:=Tryz.func197.trans (congrArg some (by kernel_rfl))
  f244:=Tryz.func199.trans (congrArg some (by kernel_rfl))
  f245:=Tryz.func200.trans (congrArg some (by kernel_rfl))
  f246:=Tryz.func206.trans (congrArg some (by kernel_rfl))
  f247:=Tryz.func211.trans (congrArg some (by kernel_rfl))
  f279:=Tryz.func212.trans (congrArg some (by kernel_rfl))
  f280:=Tryz.func213.trans (congrArg some (by kernel_rfl))
  f281:=Tryz.func214.trans (congrArg some (by kernel_rfl))
  f282:=Tryz.func215.trans (congrArg some (by kernel_rfl))
  f283:=Tryz.func216.trans (congrArg some (by kernel_rfl))
  f284:=Tryz.func217.trans (congrArg some (by kernel_rfl))
  f285:=Tryz.func218.trans (congrArg some (by kernel_rfl))
  f286:=Tryz.func219.trans (congrArg some (by kernel_rfl))
  f287:=Tryz.func222.trans (congrArg some (by kernel_rfl))
  f316:=Tryz.func140.trans (congrArg some (by kernel_rfl))
  f317:=Tryz.func224.trans (congrArg some (by kernel_rfl))
  f318:=Tryz.func226.trans (congrArg some (by kernel_rfl))
  f319:=Tryz.func227.trans (congrArg some (by kernel_rfl))
  f320:=Tryz.func228.trans (congrArg some (by kernel_rfl))
  f321:=Tryz.func229.trans (congrArg some (by kernel_rfl))
  f322:=Tryz.func230.trans (congrArg some (by kernel_rfl))
  f337:=Tryz.func231.trans (congrArg some (by kernel_rfl))
  f338:=Tryz.func232.trans (congrArg some (by kernel_rfl))
  t0:=Tryz.underlying0
  a0:=Tryz.isAgg0
  z0:=Tryz.sizeOf0
  v0:=Tryz.zeroValue0
  t2:=Tryz.underlying2
  a2:=Tryz.isAgg2
  z2:=Tryz.sizeOf2
  v2:=Tryz.zeroValue2
  t3:=Tryz.underlying3
  a3:=Tryz.isAgg3
  z3:=Tryz.sizeOf3
  v3:=Tryz.zeroValue3
  t4:=Tryz.underlying4
  a4:=Tryz.isAgg4
  z4:=Tryz.sizeOf4
  v4:=Tryz.zeroValue4
  t5:=Tryz.underlying5
  a5:=Tryz.isAgg5
  z5:=Tryz.sizeOf5
  v5:=Tryz.zeroValue5
  t9:=Tryz.underlying9
  a9:=Tryz.isAgg9
  z9:=Tryz.sizeOf9
  v9:=Tryz.zeroValue9
  t20:=Tryz.underlying20
  a20:=Tryz.isAgg20
  z20:=Tryz.sizeOf20
  v20:=Tryz.zeroValue20
  t21:=Tryz.underlying21
  a21:=Tryz.isAgg21
  z21:=Tryz.sizeOf21
  v21:=Tryz.zeroValue21
  t37:=Tryz.underlying22
  a37:=Tryz.isAgg22
  z37:=Tryz.sizeOf22
  v37:=Tryz.zeroValue22
  t46:=Tryz.underlying217
  a46:=Tryz.isAgg217
  z46:=Tryz.sizeOf217
  v46:=Tryz.zeroValue217
  t51:=Tryz.underlying230
  a51:=Tryz.isAgg230
  z51:=Tryz.sizeOf230
  v51:=Tryz.zeroValue230
  t53:=Tryz.underlying225
  a53:=Tryz.isAgg225
  z53:=Tryz.sizeOf225
  v53:=Tryz.zeroValue225
  t75:=Tryz.underlying133
  a75:=Tryz.isAgg133
  z75:=Tryz.sizeOf133
  v75:=Tryz.zeroValue133
  t76:=Tryz.underlying134
  a76:=Tryz.isAgg134
  z76:=Tryz.sizeOf134
  v76:=Tryz.zeroValue134
  t85:=Tryz.underlying219
  a85:=Tryz.isAgg219
  z85:=Tryz.sizeOf219
  v85:=Tryz.zeroValue219
  t127:=Tryz.underlying165
  a127:=Tryz.isAgg165
  z127:=Tryz.sizeOf165
  v127:=Tryz.zeroValue165
  t143:=Tryz.underlying244
  a143:=Tryz.isAgg244
  z143:=Tryz.sizeOf244
  v143:=Tryz.zeroValue244
  t145:=Tryz.underlying246
  a145:=Tryz.isAgg246
  z145:=Tryz.sizeOf246
  v145:=Tryz.zeroValue246
  t167:=Tryz.underlying218
  a167:=Tryz.isAgg218
  z167:=Tryz.sizeOf218
  v167:=Tryz.zeroValue218
  t168:=Tryz.underlying221
  a168:=Tryz.isAgg221
  z168:=Tryz.sizeOf221
  v168:=Tryz.zeroValue221
  t171:=Tryz.underlying224
  a171:=Tryz.isAgg224
  z171:=Tryz.sizeOf224
  v171:=Tryz.zeroValue224
  t173:=Tryz.underlying228
  a173:=Tryz.isAgg228
  z173:=Tryz.sizeOf228
  v173:=Tryz.zeroValue228
  t175:=Tryz.underlying233
  a175:=Tryz.isAgg233
  z175:=Tryz.sizeOf233
  v175:=Tryz.zeroValue233
  t210:=Tryz.underlying236
  a210:=Tryz.isAgg236
  z210:=Tryz.sizeOf236
  v210:=Tryz.zeroValue236
  t212:=Tryz.underlying239
  a212:=Tryz.isAgg239
  z212:=Tryz.sizeOf239
  v212:=Tryz.zeroValue239
  t213:=Tryz.underlying240
  a213:=Tryz.isAgg240
  z213:=Tryz.sizeOf240
  t232:=Tryz.underlying248
  a232:=Tryz.isAgg248
  z232:=Tryz.sizeOf248
  v232:=Tryz.zeroValue248
  t233:=Tryz.underlying249
  a233:=Tryz.isAgg249
  z233:=Tryz.sizeOf249
  v233:=Tryz.zeroValue249
  g15:=by kernel_rfl
  g16:=by kernel_rfl
  g17:=by kernel_rfl
  g18:=by kernel_rfl
  g19:=by kernel_rfl
  t80:=Tryz.underlying82
  a80:=Tryz.isAgg82
  z80:=Tryz.sizeOf82
  v80:=Tryz.zeroValue82
  i0:=by kernel_rfl
  i2:=by kernel_rfl
  i3:=by kernel_rfl
  i4:=by kernel_rfl
  i5:=by kernel_rfl
  i9:=by kernel_rfl
  i20:=by kernel_rfl
  i21:=by kernel_rfl
  i37:=by kernel_rfl
  i46:=by kernel_rfl
  i51:=by kernel_rfl
  i53:=by kernel_rfl
  i75:=by kernel_rfl
  i76:=by kernel_rfl
  i80:=by kernel_rfl
  i85:=by kernel_rfl
  i127:=by kernel_rfl
  i143:=by kernel_rfl
  i145:=by kernel_rfl
  i167:=by kernel_rfl
  i168:=by kernel_rfl
  i171:=by kernel_rfl
  i173:=by kernel_rfl
  i175:=by kernel_rfl
  i210:=by kernel_rfl
  i212:=by kernel_rfl
  i232:=by kernel_rfl
  i233:=by kernel_rfl
  m15:=by kernel_rfl
  m16:=by kernel_rfl
  m17:=by kernel_rfl
  m18:=by kernel_rfl
  m19:=by kernel_rfl
  c0:=by kernel_rfl
  c2:=by kernel_rfl
  c3:=by kernel_rfl
  c4:=by kernel_rfl
  c5:=by kernel_rfl
  c9:=by kernel_rfl
  c20:=by kernel_rfl
  c21:=by kernel_rfl
  c37:=by kernel_rfl
  c46:=by kernel_rfl
  c51:=by kernel_rfl
  c53:=by kernel_rfl
  c75:=by kernel_rfl
  c76:=by kernel_rfl
  c80:=by kernel_rfl
  c85:=by kernel_rfl
  c127:=by kernel_rfl
  c143:=by kernel_rfl
  c145:=by kernel_rfl
  c167:=by kernel_rfl
  c168:=by kernel_rfl
  c171:=by kernel_rfl
  c173:=by kernel_rfl
  c175:=by kernel_rfl
  c210:=by kernel_rfl
  c212:=by kernel_rfl
  c213:=by kernel_rfl
  c232:=by kernel_rfl
  c233:=by kernel_rfl }
def Tryz.lays145_ren:Go.Shelf.Ren:=⟨fun|145=>170|220=>183|219=>198|217=>207|225=>208|224=>209|267=>210|266=>220|314=>221|n=>n,fun|9=>9|4=>4|59=>190|3=>3|5=>5|46=>217|146=>231|51=>230|n=>n,fun|1=>0|n=>n⟩
theorem Tryz.lays145:Go.Proofs.Lays.n145 Tryz.prog Tryz.lays145_ren:={
  mixed:=by kernel_rfl
  f145:=Tryz.func170.trans (congrArg some (by kernel_rfl))
  f217:=Tryz.func207.trans (congrArg some (by kernel_rfl))
  f219:=Tryz.func198.trans (congrArg some (by kernel_rfl))
  f220:=Tryz.func183.trans (congrArg some (by kernel_rfl))
  f224:=Tryz.func209.trans (congrArg some (by kernel_rfl))
  f225:=Tryz.func208.trans (congrArg some (by kernel_rfl))
  f266:=Tryz.func220.trans (congrArg some (by kernel_rfl))
  f267:=Tryz.func210.trans (congrArg some (by kernel_rfl))
  f314:=Tryz.func221.trans (congrArg some (by kernel_rfl))
  t3:=Tryz.underlying3
  a3:=Tryz.isAgg3
  z3:=Tryz.sizeOf3
  v3:=Tryz.zeroValue3
  t4:=Tryz.underlying4
  a4:=Tryz.isAgg4
  z4:=Tryz.sizeOf4
  v4:=Tryz.zeroValue4
  t5:=Tryz.underlying5
  a5:=Tryz.isAgg5
  z5:=Tryz.sizeOf5
  v5:=Tryz.zeroValue5
  t9:=Tryz.underlying9
  a9:=Tryz.isAgg9
  z9:=Tryz.sizeOf9
  v9:=Tryz.zeroValue9
  t46:=Tryz.underlying217
  a46:=Tryz.isAgg217
  z46:=Tryz.sizeOf217
  v46:=Tryz.zeroValue217
  t51:=Tryz.underlying230
  a51:=Tryz.isAgg230
  z51:=Tryz.sizeOf230
  v51:=Tryz.zeroValue230
  t59:=Tryz.underlying190
  a59:=Tryz.isAgg190
  z59:=Tryz.sizeOf190
  v59:=Tryz.zeroValue190
  t146:=Tryz.underlying231
  a146:=Tryz.isAgg231
  z146:=Tryz.sizeOf231
  v146:=Tryz.zeroValue231
  g1:=by kernel_rfl }
open Go.RowKit Go.Lib in
theorem Tryz.strings_Cut (s sep:ByteArray) (m:Int) (w:World) (hs:s.size<4294967281) (hm:w.cell? ⟨0,0,none⟩=some (.int .i64 m)) :
    Calls Tryz.prog 170 #[.string s,.string sep] w fun e w'=>e=.returned (.tuple #[.string ⟨(Lib.cut s.data.toList sep.data.toList).1.toArray⟩,.string ⟨(Lib.cut s.data.toList sep.data.toList).2.1.toArray⟩,.bool (Lib.cut s.data.toList sep.data.toList).2.2])∧∃ n,w'=w.drewN n:=Any.strings_Cut Tryz.lays145 s sep m w hs hm
end Go.Proofs
namespace Go.Proofs.YtggifndkolojmaaGreatDoor.W
open Go Go.RowKit Go.Proofs Go.Proofs.YtggifndkolojmaaGreatDoor.VL Go.Proofs.YtggifndkolojmaaGreatDoor.M
attribute [local congr] optK_congr guardK_congr condK_congr runT_congr runD_congr wpI_congr CallV_congr LoopI_congr pureK_congr effK_congr calK_congr stepV_congr doV_congr exN_congr exB_congr retF_congr retQ_congr gK_congr condW_congr ldK_congr stoK_congr
attribute [local go_sem] argL_cons argL_nil argH_nil argH_cons chH_getH wpI_seq wpI_reg wpI_drw wpI_ret cond_k condW_t condW_f wpI_skip wpI_block wpI_exit wpI_loop exN_n exN_r exN_e exB_n exB_r exB_h exB_m runT_k kT_e runT_nil runD_k kD_e runD_nil step_u step_k gK_t gK_f do_mv do_bino bo_add bo_sub bo_mul bo_subu bo_quo bo_rem bo_xor bo_eql bo_neq bo_lss bo_leq bo_gtr bo_geq bo_cat bo_eqs bo_nes do_pick do_call do_cal calK_f do_box do_alloc do_ldk ldK_s do_stok stoK_s do_fad do_nilc do_not do_neg do_len do_lens do_ext do_eqs do_beq do_isn do_cvi do_sls do_idx do_mn do_mx do_build do_mkf do_s2b do_b2s do_slv do_iad do_bsl do_mks do_app ev_t ev_c app_some app_none
attribute [local go_sem] List.nil_append List.cons_append List.append_nil getL_hit getL_miss getH_nil getH_hit getH_miss nm_eq ne_eq Nat.reduceEqDiff not_false_eq_true Nat.reduceAdd Nat.add_zero Nat.zero_add if_true if_false ite_true ite_false pureK_s effK_s optK_s gdV_t gdV_f gdV_s pick_b ge_iff_le gt_iff_lt cond_true cond_false fresh_k cells_agg cells_int cells_bool cells_str cells_own cells_sl cells_nils ld_pv ld_pa ld_ip ldVar_t ldVar_f ldArr_t ldArr_f ldRow_t ldRow_f ldA_s ld1_s fad_pv fad_pa fad_ip nilc_pv nilc_pa nilc_ip not_b neg_i cvi_i ext_t retF_n retF_r
attribute [local go_sem] resV_k rvs_nil rvs_t rvs_c fstO_s consO_s resK_s resL_1 resL_2 resL_3 resL_4  Option.some.injEq List.map_cons List.map_nil List.all_cons List.all_nil Bool.and_true Bool.and_self Bool.not_true Bool.not_false Option.map_some Option.map_none sls_s slsG_s loV_n loV_i hiV_n hiV_i idx_s mn_i mx_i s2b_s b2s_s bytO_s bytes_nil bytes_cons conB_s slv_sl slv_own slv_nils slvG_s slvN_s slvO_s iad_sl iadG_map take_map drop_map List.length_map iad_own iad_view iadO_a iadW_a mks_i rowO_nils rowO_sl rowO_own rowA_a eq_self appG_nils appG_own appO_a guardP_T mapA_s bld_nil mkf_nil bldF_e fill_nil fill_cons mkf_e lens_s len_nils len_sl len_own len_view isn_nile isn_erre List.getElem?_cons_zero List.getElem?_cons_succ List.length_cons List.length_nil decide_true decide_false Int.toNat_natCast Int.cast_ofNat_Int Int.reduceLT Int.reduceLE Int.reduceEq Int.reduceAdd Int.reduceSub Int.reduceMul Int.reduceNeg Int.reduceToNat List.getD_cons_zero List.getD_cons_succ not_true_eq_false not_false_eq_true Bool.false_eq_true Bool.true_eq_false reduceCtorEq
attribute [local go_sem] E.row Pc.row Pair.row Part.row Strm.row Flw.row Pk.row Door.row Conv.row World.row Ev.row rdV E.eta Pc.eta Pair.eta Part.eta Strm.eta Pk.eta Flw.eta Conv.eta Door.eta World.eta Ev.eta
attribute [local go_sem] sub_ok st_pv st_pa stVar_v stArr_a Nat.le_refl List.drop_zero List.drop_succ_cons List.take_succ_cons List.take_zero setR Nat.reduceLeDiff
attribute [local go_sem] wk_bot wk2_bot wk1_bot wk_undef wk_tup_e wk2_agg_e wk_agg_e wk1_fn_e wk2_fn_e wk_fn_e wkl_nil wkl_cons wkh_var_e wkh_arr_e wkh_fresh_e wkh_dead_v wkh_dead_a wkh_dead_d wk0_undef wk0_int wk0_bool wk0_str wk0_nils wk0_nils_sl wk0_nilp wk0_nile wk0_erre wk0_sl wk0_iptr wk0_own wk0_view wk0_pv wk0_pa fzA_a fzW_a fzP_v wk0_own_sl wk0_view_sl wk0_pv_iptr WkS_nil WkS_cons WkN_nil WkN_cons nonB_nil nonB_cons getN_nil getN_hit getN_miss pinOk_0 pinOk_s and_true true_and and_self
attribute [local go_sem] bot_int one_int unt_int clo_int bot_bool one_bool unt_bool clo_bool bot_str one_str unt_str clo_str bot_nils one_nils unt_nils clo_nils bot_nilp one_nilp unt_nilp clo_nilp bot_nile one_nile unt_nile clo_nile bot_erre one_erre unt_erre clo_erre bot_raw one_raw unt_raw clo_raw bot_sl one_sl unt_sl clo_sl bot_own one_own unt_own clo_own bot_view one_view unt_view clo_view bot_pv one_pv unt_pv clo_pv bot_pa one_pa unt_pa clo_pa bot_iptr one_iptr unt_iptr clo_iptr unt_agg unt_fn one_fn
attribute [local go_sem] rn_tup rn_agg rn2_agg rn_fn rn2_fn rnfn1 rn_bot rn2_bot rn1_bot rn0_int rn0_bool rn0_str rn0_nils rn0_nilp rn0_nile rn0_erre rn0_sl rn0_iptr rn0_own rn0_view rn0_pv rn0_pa hrn_var hrn_arr hrn_dead outU_nil outU_cons deads_nil deads_cons bk_ge bk_lt nsF_0 nsF_s chH_0 chH_s chH_n newN_e andB_s eqR_nil eqR_i eqR_b eqR_s mapX_f mapX_t eqs_a beq_f beq_t live_arr live_var nsl_nil nsl_cons Nat.reduceMul Nat.reduceLT Nat.zero_le Nat.not_lt_zero
attribute [local go_sem] mV lD lA fD bN eX oP nP sR i0 s0
theorem index_one (c:UInt8) (s:B):Lib.index s [c]=if c∈s then ((s.takeWhile fun b=>decide (b≠c)).length:Int) else -1:=by
  induction s with
  | nil=>rfl
  | cons b l ih =>
    unfold Lib.index
    by_cases h:b=c
    · subst h;simp [List.isPrefixOf]
    · have h':¬ c=b:=fun e=>h e.symm
      have hp:([c]:B).isPrefixOf (b :: l)=false:=by simp [List.isPrefixOf,h']
      rw [hp,if_neg (by simp),ih]
      by_cases hm:c∈l
      · simp [hm,h,h']
      · simp [hm,h']
theorem take_tw (p:UInt8→Bool):∀ s:B,s.take (s.takeWhile p).length=s.takeWhile p
  | []=>rfl
  | b :: l=>by
    by_cases h:p b=true
    · simp [h,take_tw p l]
    · simp [h]
theorem drop_tw (p:UInt8→Bool):∀ s:B,s.drop (s.takeWhile p).length=s.dropWhile p
  | []=>rfl
  | b :: l=>by
    by_cases h:p b=true
    · simp [h,drop_tw p l]
    · simp [h]
theorem cut_one (s:B) (c:UInt8):Lib.cut s [c]=cutB s c:=by
  unfold Lib.cut cutB
  rw [index_one]
  by_cases h:c∈s
  · rw [if_pos h,if_pos (by omega),if_pos h]
    simp only [Int.toNat_natCast,take_tw,List.length_cons,List.length_nil,← List.drop_drop,drop_tw,List.drop_one,Nat.zero_add]
  · rw [if_neg h,if_neg (by decide),if_neg h]
theorem digits_two (n:Nat) (h:n<100):Lib.decDigits n=decN n:=by
  unfold decN
  rw [Lib.decDigits]
  split
  · rfl
  · rw [Lib.decDigits,dif_pos (by omega)]
    rfl
theorem atoi_two:∀ k:Fin 100,Lib.atoiAll (decN k.val)=.ok (k.val:Int):=by decide +kernel
theorem atoi_dec (k:Int) (h0:0≤k) (h1:k<100):Lib.atoiAll (dec k)=.ok k:=by
  have:=atoi_two ⟨k.toNat,by omega⟩
  simp only at this
  unfold dec
  rw [this]
  congr 1
  omega
theorem e181:entr Tryz.prog 181=true:=by kernel_rfl
theorem c181 (n:Int) (h:0≤n∧n<100:=by omega):FnR Tryz.prog G 181 [.int .i64 n] (.str (dec n)):=by
  obtain ⟨k,rfl⟩:∃ k:Nat,n=(k:Int):=⟨n.toNat,by omega⟩
  refine FnR.lib e181 rfl rfl fun W hg=>(Tryz.strconv_Itoa_small k (by omega) W).mono fun e W' ⟨he,hw⟩=>⟨?_,by subst hw;exact Below.refl _ _⟩
  rw [he,digits_two k (by omega)]
  rfl
theorem e170:entr Tryz.prog 170=true:=by kernel_rfl
theorem c170 (s:B) (c:UInt8) (hs:s.length<4294967281:=by omega):FnR Tryz.prog G 170 [.str s,.str [c]] (.tup [.str (cutB s c).1,.str (cutB s c).2.1,.bool (cutB s c).2.2]):=by
  refine FnR.lib e170 rfl rfl fun W hg=>?_
  obtain ⟨⟨m,hm⟩,_⟩:=hg
  refine (Tryz.strings_Cut (mkStr s) (mkStr [c]) m W (by simpa [mkStr,ByteArray.size] using hs) hm).mono fun e W' ⟨he,n,hw⟩=>⟨?_, ?_⟩
  · rw [he]
    simp only [mkStr,cut_one]
    rfl
  · subst hw
    exact ⟨rfl,rfl,rfl,Nat.le_refl _,fun _ _=>rfl⟩
theorem e142:entr Tryz.prog 142=true:=by kernel_rfl
theorem c142 (s p:B):FnR Tryz.prog G 142 [.str s,.str p] (.tup [.str (if p.isPrefixOf s then s.drop p.length else s),.bool (p.isPrefixOf s)]) :=
  FnR.lib e142 rfl rfl fun W hg=>(Tryz.strings_CutPrefix (mkStr s) (mkStr p) W).mono fun e W' ⟨he,hw⟩=>⟨he,by subst hw;exact Below.refl _ _⟩
theorem e140:entr Tryz.prog 140=true:=by kernel_rfl
theorem c140 (s:B) (hs:s.length≤281474976710656:=by omega):FnR Tryz.prog G 140 [.str s] (.str s) :=
  FnR.lib e140 rfl rfl fun W hg=>(Tryz.stringslite_Clone (mkStr s) W (by simpa [mkStr,ByteArray.size] using hs)).mono fun e W' ⟨he,hw⟩=>⟨he,hw⟩
def ic95:IC:=sR [oP 2 (.mv (.c s0))] (sR [mV 3 0,oP 4 (.call 140 [.t 3]),mV 2 4] .ret)
theorem dg95:Dg Tryz.prog 95 Tryz.f95 ic95 [(.t 2)]:=⟨Tryz.func95,by kernel_rfl,by kernel_rfl⟩
theorem c95 (s:B) (hs:s.length≤281474976710656:=by omega):FnR Tryz.prog G 95 [.str s] (.str s):=by
  refine mF dg95 Tryz.ntmps95 ?_
  simp only [ic95,go_sem]
  refine callR (c140 _ hs) rfl rfl ?_
  simp only [go_sem]
def AtoiP (s:B) (r:V) (o:List Hs):Prop:=o=[]∧((∃ n:Int,r=.tup [.int .i64 n,.nile]∧∀ k:Int,0≤k→k<100→s=dec k→n=k)∨(∃ n:Int,r=.tup [.int .i64 n,.erre]∧∀ k:Int,0≤k→k<100→s≠dec k))
theorem e184:entr Tryz.prog 184=true:=by kernel_rfl
theorem den_err {w:World} {O:Nat→Prop} {ρ:Nat→VL.Loc} {h:Nat→Hs} (n:Int) (t:TypeId) (N:Nat):Den w O ρ h (.tup [.int .i64 n,.erre]) (.tuple #[.int .i64 n,.iface t (.pointer (some ⟨N,0,none⟩))]):=by
  refine ⟨[.int .i64 n,.iface t (.pointer (some ⟨N,0,none⟩))],rfl,rfl,fun j v u hv hu=>?_⟩
  match j,hv,hu with
  | 0,hv,hu=>cases hv;cases hu;exact Imm.int _ _
  | 1,hv,hu=>cases hv;cases hu;exact Imm.erre _ _
theorem c184 (s:B) (hs:s.length≤2000000:=by omega):FnP Tryz.prog G 184 0 [] [.str s] (AtoiP s):=by
  have key:FnP Tryz.prog G 184 0 [] [.str s] (fun r o=>o=[]∧((∃ n:Int,r=.tup [.int .i64 n,.nile]∧∀ k:Int,0≤k→k<100→s=dec k→n=k)∨(∃ n:Int,r=.tup [.int .i64 n,.erre]∧∀ k:Int,0≤k→k<100→s≠dec k))):=by
    have hz:(mkStr s).size≤2000000:=by simpa [mkStr,ByteArray.size] using hs
    have hl:(mkStr s).data.toList=s:=by simp [mkStr]
    rcases ha:Lib.atoiAll s with v|_|_
    · refine FnP.lib (us:=[.string (mkStr s)]) e184 rfl ⟨_,.inl ⟨v,rfl,fun k h0 h1 h2=>?_⟩⟩ fun W hg=>(Any.strconv_Atoi_ok Tryz.laysC172 (mkStr s) (by omega) v (by rw [hl];exact ha) W).mono fun e W' ⟨he,hw⟩=>⟨?_,_,_,he,.inl ⟨v,rfl,fun k h0 h1 h2=>?_⟩,fun O _=>plainR_den rfl⟩
      · rw [h2,atoi_dec k h0 h1] at ha;cases ha;rfl
      · rcases hw with rfl|⟨t,rfl⟩
        · exact Below.refl _ _
        · exact Lib.bytesWorld_below W _ t
      · rw [h2,atoi_dec k h0 h1] at ha;cases ha;rfl
    · refine FnP.lib (us:=[.string (mkStr s)]) e184 rfl ⟨_,.inr ⟨0,rfl,fun k h0 h1 h2=>?_⟩⟩ fun W hg=>?_
      · rw [h2,atoi_dec k h0 h1] at ha;cases ha
      obtain ⟨_,⟨ev,hv,hev⟩,_⟩:=hg
      refine (Any.strconv_Atoi_syntax Tryz.laysC172 (mkStr s) (by omega) (by rw [hl];exact ha) ev W hv hev).mono fun e W' ⟨N,he,hN,_,hb⟩=>⟨hb,_,_,he,.inr ⟨0,rfl,fun k h0 h1 h2=>?_⟩,fun O hO=>den_err _ _ N⟩
      · rw [h2,atoi_dec k h0 h1] at ha;cases ha
    · refine FnP.lib (us:=[.string (mkStr s)]) e184 rfl ⟨_,.inr ⟨0,rfl,fun k h0 h1 h2=>?_⟩⟩ fun W hg=>?_
      · rw [h2,atoi_dec k h0 h1] at ha;cases ha
      obtain ⟨_,_,ev,hv,hev⟩:=hg
      refine (Any.strconv_Atoi_range Tryz.laysC172 (mkStr s) (by omega) (by rw [hl];exact ha) ev W hv hev).mono fun e W' ⟨N,he,hN,_,hb⟩=>⟨hb,_,_,he,.inr ⟨_,rfl,fun k h0 h1 h2=>?_⟩,fun O hO=>den_err _ _ N⟩
      · rw [h2,atoi_dec k h0 h1] at ha;cases ha
  exact key
theorem fig48 (b:UInt8):FnR Tryz.prog G 93 [.int .u8 (b.toNat:Int),.int .u8 48] (.bool (figB b 48)):=c93 b 48
theorem fig49 (b:UInt8):FnR Tryz.prog G 93 [.int .u8 (b.toNat:Int),.int .u8 49] (.bool (figB b 49)):=c93 b 49
theorem txOk_false' {t:B} {i:Nat} (h:i<t.length) (hp:okB (t.getD i default)=false):txOk t=false:=by
  refine txOk_false h ?_
  have:t.getD i default=t.getD i 0:=by simp [List.getD,h]
  rwa [← this]
theorem all_take_succ' {t:B} {i:Nat} (h:i<t.length) {p:UInt8→Bool} (hi:(t.take i).all p=true) (hp:p (t.getD i default)=true):(t.take (i+1)).all p=true:=by
  refine all_take_succ h hi ?_
  have:t.getD i default=t.getD i 0:=by simp [List.getD,h]
  rwa [← this]
theorem okB_e (b:UInt8):okB b=((!decide (b<97) && !decide (122<b)) || figB b 48 || decide (b=64) || decide (b=58) || decide (b=59)):=by
  have h1:decide (97≤b)=!decide (b<97):=by rw [← decide_not];exact decide_eq_decide.2 UInt8.not_lt.symm
  have h2:decide (b≤122)=!decide (122<b):=by rw [← decide_not];exact decide_eq_decide.2 UInt8.not_lt.symm
  simp only [okB,h1,h2]
def ic44:IC:=sR [oP 2 (.mv (.c (.bool false)))] (.seq (sR [mV 5 0,oP 6 (.s2b (.t 5)),oP 7 (.len (.t 6)),oP 8 (.mv (.c i0))] (.block 0 (.loop (sR [bN 9 .lss 8 7] (.seq (.cond (.t 9) .skip (.exit 0)) (.seq (.block 1 (sR [oP 10 (.iad 1 (.t 6) (.t 8)),lD 11 1 10,mV 4 11] (sR [mV 12 4,oP 13 (.call 93 [.t 12,.c (.int .u8 48)]),oP 14 (.un .not (.t 13)),mV 15 14,⟨some 16,some (15,true),.mv (.t 4)⟩,⟨some 17,some (15,true),.bin .neq (.t 16) (.c (.int .u8 64))⟩,oP 18 (.pick (.t 15) (.t 17) (.c (.bool false))),mV 19 18,⟨some 20,some (19,true),.mv (.t 4)⟩,⟨some 21,some (19,true),.bin .neq (.t 20) (.c (.int .u8 58))⟩,oP 22 (.pick (.t 19) (.t 21) (.c (.bool false))),mV 23 22,⟨some 24,some (23,true),.mv (.t 4)⟩,⟨some 25,some (23,true),.bin .neq (.t 24) (.c (.int .u8 59))⟩,oP 26 (.pick (.t 23) (.t 25) (.c (.bool false))),mV 27 26,⟨some 28,some (27,true),.mv (.t 4)⟩,⟨some 29,some (27,true),.bin .lss (.t 28) (.c (.int .u8 97))⟩,⟨some 30,some (27,true),.mv (.t 29)⟩,⟨some 31,some (30,false),.mv (.t 4)⟩,⟨some 32,some (30,false),.bin .gtr (.t 31) (.c (.int .u8 122))⟩,⟨some 33,some (27,true),.pick (.t 30) (.c (.bool true)) (.t 32)⟩,oP 34 (.pick (.t 27) (.t 33) (.c (.bool false)))] (.cond (.t 34) (sR [oP 2 (.mv (.c (.bool false)))] .ret) .skip)))) (.reg [oP 35 (.bin .add (.t 8) (.c (.int .i64 1))),mV 8 35]))))))) (sR [mV 36 0,oP 37 (.lens (.t 36)),oP 38 (.bin .leq (.t 37) (.c (.int .i64 40))),mV 2 38] .ret))
theorem dg44:Dg Tryz.prog 44 Tryz.f44 ic44 [(.t 2)]:=⟨Tryz.func44,by kernel_rfl,by kernel_rfl⟩
theorem c44 (t:B) (hl:t.length≤2000000:=by omega):FnR Tryz.prog G 44 [.str t] (.bool (txOk t)):=by
  refine mF dg44 Tryz.ntmps44 ?_
  simp only [ic44,go_sem]
  with_reducible repeat' (first|refine br ?_ ?_<;>intro h e<;>(try simp only [e,go_sem])<;>clear e|rw [i64w (by omega)]|refine sd ?_<;>try simp only [go_sem]|fail)
  refine loopN (fun i:Nat=>⟨getL [(0,.str t),(6,.sl 1 (t.map fun b=>[.int .u8 (b.toNat:Int)])),(7,.int .i64 t.length),(8,.int .i64 (i:Int))],getH []⟩) (fun i=>t.length - i) (fun i=>i≤t.length∧(t.take i).all okB=true) 0 (leQ []) ⟨Nat.zero_le _,by simp⟩ ?_
  intro i ⟨hi,ha⟩
  simp only [go_sem]
  by_cases h:(i:Int)<t.length
  · simp only [h,go_sem]
    refine effG (by omega) ?_
    generalize hb:t.getD i default=b
    obtain ⟨e1,e2,e3,e4,e5,e6,e7,e8,e9⟩:=u8cmp b
    simp only [go_sem]
    refine callR (fig48 _) rfl rfl ?_
    simp only [go_sem,e5,e6,e7,e8,e9]
    repeat' (first
      | (with_reducible refine gBn (fun h=>?_) (fun h=>?_)<;>(try simp only [h,go_sem,e5,e6,e7,e8,e9]))
      | (with_reducible refine cBn (fun h=>?_) (fun h=>?_)<;>(try simp only [h,go_sem,e5,e6,e7,e8,e9]))
      | (with_reducible refine cB (fun h=>?_) (fun h=>?_)<;>(try simp only [h,go_sem,e5,e6,e7,e8,e9]))
      | (with_reducible refine gB (fun h=>?_) (fun h=>?_)<;>(try simp only [h,go_sem,e5,e6,e7,e8,e9])))
    all_goals (clear e1 e2 e3 e4 e5 e6 e7 e8 e9)
    all_goals first
      | (refine ⟨i+1,by omega,⟨by omega,all_take_succ' (t:=t) (i:=i) (by omega) ha (by rw [hb];simp only [okB_e, *,Bool.or_true,Bool.true_or,Bool.not_false,Bool.and_self])⟩, ?_⟩;rw [i64w (by omega)];exact (leQ []))
      | (exact txOk_false' (t:=t) (i:=i) (by omega) (by rw [hb];simp only [okB_e, *,Bool.or_false,Bool.false_or,Bool.not_true,Bool.not_false,Bool.false_and,Bool.and_false,Bool.and_self]))
  · simp only [h,go_sem]
    have:i=t.length:=by omega
    subst this
    simp only [List.take_length] at ha
    simp only [txOk,ha,Bool.true_and]
    apply decide_eq_decide.2;omega
def bego (i:Nat) (b:UInt8):Bool:=match i with
  | 0=>decide (b=64)
  | 1=>figB b 49
  | 2=>decide (b=58)
  | 3=>figB b 49
  | 4=>figB b 48
  | _=>false
theorem bego_e (i:Nat) (b:UInt8):bego i b=if (i:Int)=0 then decide ((b.toNat:Int)=64) else if (i:Int)=1 then figB b 49 else if (i:Int)=3 then figB b 49 else if (i:Int)=2 then decide ((b.toNat:Int)=58) else if (i:Int)=4 then figB b 48 else false:=by
  obtain ⟨_,_,_,_,e5,e6,_,_,_⟩:=u8cmp b
  rw [e5,e6]
  match i with
  | 0=>rfl
  | 1=>rfl
  | 2=>rfl
  | 3=>rfl
  | 4=>rfl
  | n+5=>simp only [bego];rw [if_neg (by omega),if_neg (by omega),if_neg (by omega),if_neg (by omega),if_neg (by omega)]
def begK:Nat→B→Bool
  | _,[]=>true
  | k,b :: r=>bego k b && begK (k+1) r
theorem begs_K (s:B) (h:s≠[]):begs s=begK 0 s:=by
  rcases s with _|⟨a,_|⟨b,_|⟨c,_|⟨d,_|⟨e,_|⟨f,r⟩⟩⟩⟩⟩⟩<;>simp [begs,begK,bego,Bool.and_assoc] at h ⊢
theorem begK_step {s:B} {i:Nat} (h:i<s.length):begK i (s.drop i)=(bego i (s.getD i default) && begK (i+1) (s.drop (i+1))):=by
  rw [List.drop_eq_getElem_cons h]
  simp [begK,List.getD,h]
def ic141:IC:=sR [oP 2 (.mv (.c (.bool false)))] (.seq (sR [mV 6 0,oP 7 (.s2b (.t 6)),oP 8 (.len (.t 7)),oP 9 (.mv (.c i0))] (.block 0 (.loop (sR [bN 10 .lss 9 8] (.seq (.cond (.t 10) .skip (.exit 0)) (.seq (.block 1 (sR [mV 11 9,oP 12 (.iad 1 (.t 7) (.t 9)),lD 13 1 12,mV 3 11,mV 4 13] (sR [oP 5 (.mv (.c (.bool false)))] (.seq (sR [mV 14 3] (.block 2 (sR [oP 16 (.bin .eql (.t 14) (.c i0)),mV 15 16] (.cond (.t 15) (.reg [mV 17 4,oP 18 (.bin .eql (.t 17) (.c (.int .u8 64))),mV 5 18]) (.seq (sR [oP 20 (.bin .eql (.t 14) (.c (.int .i64 1))),mV 19 20] (.cond (.t 19) .skip (.reg [oP 21 (.bin .eql (.t 14) (.c (.int .i64 3))),mV 19 21]))) (.cond (.t 19) (.reg [mV 22 4,oP 23 (.call 93 [.t 22,.c (.int .u8 49)]),mV 5 23]) (sR [oP 25 (.bin .eql (.t 14) (.c (.int .i64 2))),mV 24 25] (.cond (.t 24) (.reg [mV 26 4,oP 27 (.bin .eql (.t 26) (.c (.int .u8 58))),mV 5 27]) (sR [oP 29 (.bin .eql (.t 14) (.c (.int .i64 4))),mV 28 29] (.cond (.t 28) (.reg [mV 30 4,oP 31 (.call 93 [.t 30,.c (.int .u8 48)]),mV 5 31]) .skip)))))))))) (sR [mV 32 5,oP 33 (.un .not (.t 32))] (.cond (.t 33) (sR [oP 2 (.mv (.c (.bool false)))] .ret) .skip)))))) (.reg [oP 34 (.bin .add (.t 9) (.c (.int .i64 1))),mV 9 34]))))))) (sR [oP 2 (.mv (.c (.bool true)))] .ret))
theorem dg141:Dg Tryz.prog 141 Tryz.f141 ic141 [(.t 2)]:=⟨Tryz.func141,by kernel_rfl,by kernel_rfl⟩
theorem c141 (s:B) (hs:s≠[]) (hl:s.length≤2000000:=by omega):FnR Tryz.prog G 141 [.str s] (.bool (begs s)):=by
  refine mF dg141 Tryz.ntmps141 ?_
  simp only [ic141,go_sem]
  with_reducible repeat' (first|refine br ?_ ?_<;>intro h e<;>(try simp only [e,go_sem])<;>clear e|rw [i64w (by omega)]|refine sd ?_<;>try simp only [go_sem]|fail)
  refine loopN (fun i:Nat=>⟨getL [(7,.sl 1 (s.map fun b=>[.int .u8 (b.toNat:Int)])),(8,.int .i64 s.length),(9,.int .i64 (i:Int))],getH []⟩) (fun i=>s.length - i) (fun i=>i≤s.length∧begs s=begK i (s.drop i)) 0 (leQ []) ⟨Nat.zero_le _,by simpa using begs_K s hs⟩ ?_
  intro i ⟨hi,ha⟩
  simp only [go_sem]
  by_cases h:(i:Int)<s.length
  · simp only [h,go_sem]
    refine effG (by omega) ?_
    have hst:=begK_step (show i<s.length by omega)
    generalize hb:s.getD i default=b at hst ⊢
    obtain ⟨_,_,_,_,e5,e6,_,_,_⟩:=u8cmp b
    simp only [go_sem]
    have hT:bego i b=true→begs s=begK (i+1) (s.drop (i+1)):=fun h1=>by rw [ha,hst,h1,Bool.true_and]
    have hF:bego i b=false→begs s=false:=fun h1=>by rw [ha,hst,h1,Bool.false_and]
    try simp only [go_sem,e5,e6]
    with_reducible repeat' (first|refine br ?_ ?_<;>intro h e<;>(try simp only [e,go_sem])<;>clear e|rw [i64w (by omega)]|refine sd ?_<;>try simp only [go_sem]|(first|refine cr (fig48 ..) ?_|refine cr (fig49 ..) ?_)<;>try simp only [go_sem]|fail)
    all_goals first
      | exact hF (by clear hF hT ha hst hb;rw [bego_e];first|(simp only [*,if_false];done)|simp [*])
      | (refine ⟨i+1,by omega,⟨by omega,hT (by clear hF hT ha hst hb;rw [bego_e];first|(simp only [*,if_false];done)|simp [*])⟩, ?_⟩;exact (leQ []))
  · simp only [h,go_sem]
    have:i=s.length:=by omega
    subst this
    simpa [begK] using ha.symm
theorem dig_lt (b:UInt8):decide (dig b<1)=!figB b 49:=by
  have hb:=b.toNat_lt
  have h1:(48:UInt8).toNat=48:=rfl
  have h2:(49:UInt8).toNat=49:=rfl
  have h3:(57:UInt8).toNat=57:=rfl
  simp only [dig,figB,UInt8.le_iff_toNat_le,h1,h2,h3]
  by_cases c1:49≤b.toNat<;>by_cases c2:b.toNat≤57<;>by_cases c3:48≤b.toNat<;>simp [c1,c2,c3]<;>omega
theorem dig_ge (b:UInt8):decide (0≤dig b)=figB b 48:=by
  have hb:=b.toNat_lt
  have h1:(48:UInt8).toNat=48:=rfl
  have h3:(57:UInt8).toNat=57:=rfl
  simp only [dig,figB,UInt8.le_iff_toNat_le,h1,h3]
  by_cases c2:b.toNat≤57<;>by_cases c3:48≤b.toNat<;>simp [c2,c3]
  omega
def ic175:IC:=sR [oP 2 (.mv (.c (.bool false)))] (sR [mV 4 0,oP 5 (.lens (.t 4)),mV 3 5] (.seq (sR [mV 6 3,oP 7 (.call 63 [.t 6,.c (.int .i64 1),.c (.int .i64 5)]),oP 8 (.un .not (.t 7)),mV 9 8,⟨some 10,some (9,false),.mv (.t 0)⟩,⟨some 11,some (9,false),.idx (.t 10) (.c i0)⟩,⟨some 12,some (9,false),.bin .neq (.t 11) (.c (.int .u8 64))⟩,oP 13 (.pick (.t 9) (.c (.bool true)) (.t 12)),mV 14 13,⟨some 15,some (14,false),.mv (.t 3)⟩,⟨some 16,some (14,false),.bin .gtr (.t 15) (.c (.int .i64 1))⟩,⟨some 17,some (14,false),.mv (.t 16)⟩,⟨some 18,some (17,true),.mv (.t 0)⟩,⟨some 19,some (17,true),.idx (.t 18) (.c (.int .i64 1))⟩,⟨some 20,some (17,true),.call 186 [.t 19]⟩,⟨some 21,some (17,true),.bin .lss (.t 20) (.c (.int .i64 1))⟩,⟨some 22,some (14,false),.pick (.t 17) (.t 21) (.c (.bool false))⟩,oP 23 (.pick (.t 14) (.c (.bool true)) (.t 22)),mV 24 23,⟨some 25,some (24,false),.mv (.t 3)⟩,⟨some 26,some (24,false),.bin .gtr (.t 25) (.c (.int .i64 2))⟩,⟨some 27,some (24,false),.mv (.t 26)⟩,⟨some 28,some (27,true),.mv (.t 0)⟩,⟨some 29,some (27,true),.idx (.t 28) (.c (.int .i64 2))⟩,⟨some 30,some (27,true),.bin .neq (.t 29) (.c (.int .u8 58))⟩,⟨some 31,some (24,false),.pick (.t 27) (.t 30) (.c (.bool false))⟩,oP 32 (.pick (.t 24) (.c (.bool true)) (.t 31)),mV 33 32,⟨some 34,some (33,false),.mv (.t 3)⟩,⟨some 35,some (33,false),.bin .gtr (.t 34) (.c (.int .i64 3))⟩,⟨some 36,some (33,false),.mv (.t 35)⟩,⟨some 37,some (36,true),.mv (.t 0)⟩,⟨some 38,some (36,true),.idx (.t 37) (.c (.int .i64 3))⟩,⟨some 39,some (36,true),.call 186 [.t 38]⟩,⟨some 40,some (36,true),.bin .lss (.t 39) (.c (.int .i64 1))⟩,⟨some 41,some (33,false),.pick (.t 36) (.t 40) (.c (.bool false))⟩,oP 42 (.pick (.t 33) (.c (.bool true)) (.t 41))] (.cond (.t 42) (sR [oP 2 (.mv (.c (.bool false)))] .ret) .skip)) (sR [mV 43 3,oP 44 (.bin .lss (.t 43) (.c (.int .i64 5))),mV 45 44,⟨some 46,some (45,false),.mv (.t 0)⟩,⟨some 47,some (45,false),.idx (.t 46) (.c (.int .i64 4))⟩,⟨some 48,some (45,false),.call 186 [.t 47]⟩,⟨some 49,some (45,false),.bin .geq (.t 48) (.c i0)⟩,oP 50 (.pick (.t 45) (.c (.bool true)) (.t 49)),mV 2 50] .ret)))
theorem dg175:Dg Tryz.prog 175 Tryz.f175 ic175 [(.t 2)]:=⟨Tryz.func175,by kernel_rfl,by kernel_rfl⟩
theorem c175 (s:B):FnR Tryz.prog G 175 [.str s] (.bool (begs s)):=by
  refine mF dg175 Tryz.ntmps175 ?_
  simp only [ic175,go_sem]
  refine callR (c63 ..) rfl rfl ?_
  simp only [go_sem]
  have key:within s.length 1 5=true→(1≤s.length∧s.length≤5):=fun h=>by rw [M.within_iff] at h;omega
  cases hw:within s.length 1 5<;>simp only [go_sem]
  · rcases s with _|⟨a,_|⟨b,_|⟨c,_|⟨d,_|⟨e,_|⟨f,r⟩⟩⟩⟩⟩⟩<;>first|rfl|(exfalso;simp [within] at hw;done)
  · obtain ⟨k1,k2⟩:=key hw
    clear key hw
    have f49:∀ x,figB x 49=!decide (dig x<1):=fun x=>by rw [dig_lt,Bool.not_not]
    have f48:∀ x,figB x 48=decide (0≤dig x):=fun x=>(dig_ge x).symm
    have f64:∀ x:UInt8,decide (x=64)=decide ((x.toNat:Int)=64):=fun x=>(u8cmp x).2.2.2.2.1.symm
    have f58:∀ x:UInt8,decide (x=58)=decide ((x.toNat:Int)=58):=fun x=>(u8cmp x).2.2.2.2.2.1.symm
    rcases s with _|⟨a,_|⟨b,_|⟨c,_|⟨d,_|⟨e,_|⟨f,r⟩⟩⟩⟩⟩⟩
    · simp at k1
    · simp only [go_sem]
      with_reducible repeat' (first|refine br ?_ ?_<;>intro h e<;>(try simp only [e,go_sem])<;>clear e|rw [i64w (by omega)]|refine sd ?_<;>try simp only [go_sem]|(first|refine cr (c186 ..) ?_)<;>try simp only [go_sem]|fail)
      all_goals first|omega|(simp only [begs,f49,f48,f58,f64];simp_all)
    · simp only [go_sem]
      with_reducible repeat' (first|refine br ?_ ?_<;>intro h e<;>(try simp only [e,go_sem])<;>clear e|rw [i64w (by omega)]|refine sd ?_<;>try simp only [go_sem]|(first|refine cr (c186 ..) ?_)<;>try simp only [go_sem]|fail)
      all_goals first|omega|(simp only [begs,f49,f48,f58,f64];simp_all)
    · simp only [go_sem]
      with_reducible repeat' (first|refine br ?_ ?_<;>intro h e<;>(try simp only [e,go_sem])<;>clear e|rw [i64w (by omega)]|refine sd ?_<;>try simp only [go_sem]|(first|refine cr (c186 ..) ?_)<;>try simp only [go_sem]|fail)
      all_goals first|omega|(simp only [begs,f49,f48,f58,f64];simp_all)
    · simp only [go_sem]
      with_reducible repeat' (first|refine br ?_ ?_<;>intro h e<;>(try simp only [e,go_sem])<;>clear e|rw [i64w (by omega)]|refine sd ?_<;>try simp only [go_sem]|(first|refine cr (c186 ..) ?_)<;>try simp only [go_sem]|fail)
      all_goals first|omega|(simp only [begs,f49,f48,f58,f64];simp_all)
    · simp only [go_sem]
      with_reducible repeat' (first|refine br ?_ ?_<;>intro h e<;>(try simp only [e,go_sem])<;>clear e|rw [i64w (by omega)]|refine sd ?_<;>try simp only [go_sem]|(first|refine cr (c186 ..) ?_)<;>try simp only [go_sem]|fail)
      all_goals first|omega|(simp only [begs,f49,f48,f58,f64];simp_all)
    · simp at k2
theorem heldK_step {t:B} {k:Nat} (h:k+1≤t.length):heldK t (k+1)=if begs (t.drop (t.length - (k+1))) then k+1 else heldK t k:=by
  simp [heldK,h]
theorem held_min (t:B):held t=heldK t (min 5 t.length):=by
  have:∀ n,heldK t (t.length+n)=heldK t t.length:=fun n=>by
    induction n with
    | zero=>rfl
    | succ n ih=>rw [← Nat.add_assoc,heldK,ih];simp;omega
  by_cases h:5≤t.length
  · rw [Nat.min_eq_left h];rfl
  · rw [Nat.min_eq_right (by omega),held]
    have:=this (5 - t.length)
    rwa [show t.length+(5 - t.length)=5 by omega] at this
theorem heldK_le (t:B):∀ n,heldK t n≤n∧heldK t n≤t.length
  | 0=>⟨Nat.le_refl _,Nat.zero_le _⟩
  | n+1=>by
    have:=heldK_le t n
    simp only [heldK]
    split
    · rename_i h;simp at h;omega
    · omega
theorem held_le (t:B):held t≤5∧held t≤t.length:=heldK_le t 5
def ic96:IC:=sR [oP 2 (.mv (.c i0))] (.seq (sR [mV 4 0,oP 5 (.lens (.t 4)),oP 6 (.mn (.c (.int .i64 5)) (.t 5)),mV 3 6] (.block 0 (.loop (.seq (sR [mV 7 3,oP 8 (.bin .gtr (.t 7) (.c i0))] (.cond (.t 8) .skip (.exit 0))) (.seq (.block 1 (sR [mV 11 0,mV 12 0,oP 13 (.lens (.t 12)),mV 14 3,bN 15 .sub 13 14,oP 16 (.sls (.t 11) (some (.t 15)) none),oP 17 (.call 141 [.t 16])] (.cond (.t 17) (sR [mV 18 3,mV 2 18] .ret) .skip))) (.reg [mV 9 3,oP 10 (.bin .sub (.t 9) (.c (.int .i64 1))),mV 3 10])))))) (sR [oP 2 (.mv (.c i0))] .ret))
theorem dg96:Dg Tryz.prog 96 Tryz.f96 ic96 [(.t 2)]:=⟨Tryz.func96,by kernel_rfl,by kernel_rfl⟩
theorem c96 (t:B) (hl:t.length≤2000000:=by omega):FnR Tryz.prog G 96 [.str t] (.int .i64 (held t)):=by
  refine mF dg96 Tryz.ntmps96 ?_
  simp only [ic96,go_sem]
  refine loopN (fun k:Nat=>⟨getL [(0,.str t),(3,.int .i64 (k:Int))],getH []⟩) (fun k=>k) (fun k=>k≤t.length∧held t=heldK t k) (min 5 t.length) (leQ []) ⟨Nat.min_le_right _ _,held_min t⟩ ?_
  intro k ⟨hk,ha⟩
  simp only [go_sem]
  by_cases h:(0:Int)<k
  · simp only [eq_true h,go_sem]
    with_reducible repeat' (first|refine br ?_ ?_<;>intro h e<;>(try simp only [e,go_sem])<;>clear e|rw [i64w (by omega)]|refine sd ?_<;>try simp only [go_sem]|fail)
    have e:((t.length:Int) - (k:Int)).toNat=t.length - k:=by omega
    obtain ⟨k,rfl⟩:∃ m,k=m+1:=⟨k - 1,by omega⟩
    simp only [e,go_sem,List.take_length]
    have hst:=heldK_step hk
    refine callR (c141 _ (by intro h;have:=congrArg List.length h;simp at this;omega) (by simp;omega)) rfl rfl ?_
    simp only [go_sem]
    with_reducible repeat' (first|refine br ?_ ?_<;>intro h e<;>(try simp only [e,go_sem])<;>clear e|rw [i64w (by omega)]|refine sd ?_<;>try simp only [go_sem]|fail)
    · rw [ha,hst,if_pos h]
    · refine ⟨k,by omega,⟨by omega,by rw [ha,hst,h];rfl⟩,(leQ [])⟩
  · simp only [eq_false h,go_sem]
    have:k=0:=by omega
    subst this
    rw [ha];rfl
def ic154:IC:=sR [oP 2 (.mv (.c i0))] (.seq (sR [mV 4 0,oP 5 (.lens (.t 4)),oP 6 (.mn (.c (.int .i64 5)) (.t 5)),mV 3 6] (.block 0 (.loop (.seq (sR [mV 7 3,oP 8 (.bin .gtr (.t 7) (.c i0))] (.cond (.t 8) .skip (.exit 0))) (.seq (.block 1 (sR [mV 11 0,mV 12 0,oP 13 (.lens (.t 12)),mV 14 3,bN 15 .sub 13 14,oP 16 (.sls (.t 11) (some (.t 15)) none),oP 17 (.call 175 [.t 16])] (.cond (.t 17) (sR [mV 18 3,mV 2 18] .ret) .skip))) (.reg [mV 9 3,oP 10 (.bin .sub (.t 9) (.c (.int .i64 1))),mV 3 10])))))) (sR [oP 2 (.mv (.c i0))] .ret))
theorem dg154:Dg Tryz.prog 154 Tryz.f154 ic154 [(.t 2)]:=⟨Tryz.func154,by kernel_rfl,by kernel_rfl⟩
theorem c154 (t:B) (hl:t.length≤2000000:=by omega):FnR Tryz.prog G 154 [.str t] (.int .i64 (held t)):=by
  refine mF dg154 Tryz.ntmps154 ?_
  simp only [ic154,go_sem]
  refine loopN (fun k:Nat=>⟨getL [(0,.str t),(3,.int .i64 (k:Int))],getH []⟩) (fun k=>k) (fun k=>k≤t.length∧held t=heldK t k) (min 5 t.length) (leQ []) ⟨Nat.min_le_right _ _,held_min t⟩ ?_
  intro k ⟨hk,ha⟩
  simp only [go_sem]
  by_cases h:(0:Int)<k
  · simp only [eq_true h,go_sem]
    with_reducible repeat' (first|refine br ?_ ?_<;>intro h e<;>(try simp only [e,go_sem])<;>clear e|rw [i64w (by omega)]|refine sd ?_<;>try simp only [go_sem]|fail)
    have e:((t.length:Int) - (k:Int)).toNat=t.length - k:=by omega
    obtain ⟨k,rfl⟩:∃ m,k=m+1:=⟨k - 1,by omega⟩
    simp only [e,go_sem,List.take_length]
    have hst:=heldK_step hk
    with_reducible repeat' (first|refine br ?_ ?_<;>intro h e<;>(try simp only [e,go_sem])<;>clear e|rw [i64w (by omega)]|refine sd ?_<;>try simp only [go_sem]|(first|refine cr (c175 ..) ?_)<;>try simp only [go_sem]|fail)
    · rw [ha,hst,if_pos h]
    · refine ⟨k,by omega,⟨by omega,by rw [ha,hst,h];rfl⟩,(leQ [])⟩
  · simp only [eq_false h,go_sem]
    have:k=0:=by omega
    subst this
    rw [ha];rfl
theorem any_rng {a p:Int} (h:E.any ⟨a,p⟩=true):(0≤a∧a<100)∧(0≤p∧p<100):=by
  obtain ⟨h1,h2,_⟩:=ends_ok _ (E.any_iff.1 h)
  exact ⟨h1,h2⟩
theorem text_le {e:E}:e.text.length≤4:=by
  by_cases h:e.any=true
  · rw [text_len h];split<;>omega
  · simp [E.text,h]
def ic148:IC:=sR [oP 1 (.box 39 (.t 0)),oP 2 (.mv (.c s0))] (.seq (sR [lA 3 2 1,oP 4 (.call 104 [.t 3]),oP 5 (.un .not (.t 4))] (.cond (.t 5) (sR [oP 2 (.mv (.c s0))] .ret) .skip)) (.seq (.drw [0,1,3,7,0,16,55,127,255] [(0,fD 6 0 1),(1,lD 7 1 6),(2,oP 8 (.call 173 [.t 7])),(3,oP 9 (.bin .add (.t 8) (.c (.str [58])))),(4,fD 10 1 1),(5,lD 11 1 10),(6,oP 12 (.call 173 [.t 11])),(7,bN 13 .add 9 12),(8,mV 2 13)]) .ret))
theorem dg148:Dg Tryz.prog 148 Tryz.f148 ic148 [(.t 2)]:=⟨Tryz.func148,by kernel_rfl,by kernel_rfl⟩
theorem c148 (a p:Int):FnR Tryz.prog G 148 [.agg [.int .i64 a,.int .i64 p]] (.str (E.text ⟨a,p⟩)):=by
  refine mF dg148 Tryz.ntmps148 ?_
  simp only [ic148,go_sem]
  refine callR (c104 ..) rfl rfl ?_
  have d1:=dec_len a
  have d2:=dec_len p
  cases h:E.any ⟨a,p⟩<;>simp only [go_sem]
  · simp [E.text,h]
  · obtain ⟨h1,h2⟩:=any_rng h
    repeat' (first
      | (with_reducible refine chkI ?_ ?_;· kernel_rfl;try simp only [go_sem])
      | (with_reducible refine pureG (by simp;omega) ?_;try simp only [go_sem])
      | (refine callR (c173 _ (by omega)) rfl rfl ?_;try simp only [go_sem]))
    simp [E.text,h]
def ic168:IC:=sR [oP 1 (.box 39 (.t 0)),oP 2 (.mv (.c s0))] (.seq (sR [lA 3 2 1,oP 4 (.call 114 [.t 3]),oP 5 (.un .not (.t 4))] (.cond (.t 5) (sR [oP 2 (.mv (.c s0))] .ret) .skip)) (.seq (.drw [0,1,3,7,0,16,55,127,255] [(0,fD 6 0 1),(1,lD 7 1 6),(2,oP 8 (.call 181 [.t 7])),(3,oP 9 (.bin .add (.t 8) (.c (.str [58])))),(4,fD 10 1 1),(5,lD 11 1 10),(6,oP 12 (.call 181 [.t 11])),(7,bN 13 .add 9 12),(8,mV 2 13)]) .ret))
theorem dg168:Dg Tryz.prog 168 Tryz.f168 ic168 [(.t 2)]:=⟨Tryz.func168,by kernel_rfl,by kernel_rfl⟩
theorem c168 (a p:Int):FnR Tryz.prog G 168 [.agg [.int .i64 a,.int .i64 p]] (.str (E.text ⟨a,p⟩)):=by
  refine mF dg168 Tryz.ntmps168 ?_
  simp only [ic168,go_sem]
  refine callR (c114 ..) rfl rfl ?_
  have d1:=dec_len a
  have d2:=dec_len p
  cases h:E.any ⟨a,p⟩<;>simp only [go_sem]
  · simp [E.text,h]
  · obtain ⟨h1,h2⟩:=any_rng h
    repeat' (first
      | (with_reducible refine chkI ?_ ?_;· kernel_rfl;try simp only [go_sem])
      | (with_reducible refine pureG (by simp;omega) ?_;try simp only [go_sem])
      | (refine callR (c181 _ (by omega)) rfl rfl ?_;try simp only [go_sem]))
    simp [E.text,h]
def ic138:IC:=sR [oP 1 (.box 39 (.t 0)),oP 2 (.mv (.c s0))] (sR [lA 3 2 1,oP 4 (.call 168 [.t 3]),oP 5 (.bin .add (.c (.str [64])) (.t 4)),oP 6 (.bin .add (.t 5) (.c (.str [59]))),mV 2 6] .ret)
theorem dg138:Dg Tryz.prog 138 Tryz.f138 ic138 [(.t 2)]:=⟨Tryz.func138,by kernel_rfl,by kernel_rfl⟩
theorem c138 (a p:Int):FnR Tryz.prog G 138 [.agg [.int .i64 a,.int .i64 p]] (.str (name ⟨a,p⟩)):=by
  refine mF dg138 Tryz.ntmps138 ?_
  simp only [ic138,go_sem]
  have d:=text_le (e:=⟨a,p⟩)
  refine callR (c168 ..) rfl rfl ?_
  simp only [go_sem]
  repeat' (with_reducible refine pureG (by simp;omega) ?_;try simp only [go_sem])
  simp [name]
end Go.Proofs.YtggifndkolojmaaGreatDoor.W
namespace Go.Proofs.YtggifndkolojmaaGreatDoor.W
open Go Go.RowKit Go.Proofs Go.Proofs.YtggifndkolojmaaGreatDoor.VL
theorem infoP {P:Program} {t sz:Nat} (h:(P.info? t).map (fun i=>(i.size,i.zero.map (·.cells.size),decide (i.bytes≤100000)))=some (sz,some sz,true)) :
    ∃ i z,P.info? t=some i∧i.zero=some z∧i.size=sz∧z.cells.size=sz∧i.bytes≤100000:=by
  obtain ⟨i,hi,h⟩:=Option.map_eq_some_iff.1 h
  simp only [Prod.mk.injEq,decide_eq_true_eq,Option.map_eq_some_iff] at h
  obtain ⟨h1,⟨z,hz,h2⟩,h3⟩:=h
  exact ⟨i,z,hi,hz,h1,h2,h3⟩
set_option maxRecDepth 100000
set_option maxHeartbeats 2000000
theorem m98:ClipM Tryz.prog 98:=by
  intro A n c W hc
  have u:Tryz.prog.underlying 89=some (.slice 127):=by kernel_rfl
  have u72:∀ w,Sem.run Tryz.prog (underlying 89) w=.ok (TypeDesc.slice 127) w:=run_underlying u
  go_enter Tryz.func98,Tryz.ntmps98
  go_wp2
  go_ret
  exact ⟨rfl,rfl⟩
theorem c98 (rows:List (List V)):FnR Tryz.prog G 98 [.sl 4 rows] (.sl 4 rows):=clipR (by kernel_rfl) m98 4 rows
theorem m157:ClipM Tryz.prog 157:=by
  intro A n c W hc
  have u:Tryz.prog.underlying 154=some (.slice 39):=by kernel_rfl
  have u72:∀ w,Sem.run Tryz.prog (underlying 154) w=.ok (TypeDesc.slice 39) w:=run_underlying u
  go_enter Tryz.func157,Tryz.ntmps157
  go_wp2
  go_ret
  exact ⟨rfl,rfl⟩
theorem c157 (rows:List (List V)):FnR Tryz.prog G 157 [.sl 2 rows] (.sl 2 rows):=clipR (by kernel_rfl) m157 2 rows
theorem m162:ClipM Tryz.prog 162:=by
  intro A n c W hc
  have u:Tryz.prog.underlying 27=some (.slice 64):=by kernel_rfl
  have u72:∀ w,Sem.run Tryz.prog (underlying 27) w=.ok (TypeDesc.slice 64) w:=run_underlying u
  go_enter Tryz.func162,Tryz.ntmps162
  go_wp2
  go_ret
  exact ⟨rfl,rfl⟩
theorem c162 (rows:List (List V)):FnR Tryz.prog G 162 [.sl 3 rows] (.sl 3 rows):=clipR (by kernel_rfl) m162 3 rows
theorem o162 (rows:List (List V)) (n:Nat) (h:rows.length=n):FnP Tryz.prog G 162 0 [.arr 64 3 rows] [.own 0 n] (fun r o=>r=.own 0 n∧o=[.arr 64 3 rows]):=clipOwn (by kernel_rfl) m162 64 3 rows n h
theorem m134:ClipM Tryz.prog 134:=by
  intro A n c W hc
  have u:Tryz.prog.underlying 42=some (.slice 125):=by kernel_rfl
  have u72:∀ w,Sem.run Tryz.prog (underlying 42) w=.ok (TypeDesc.slice 125) w:=run_underlying u
  go_enter Tryz.func134,Tryz.ntmps134
  go_wp2
  go_ret
  exact ⟨rfl,rfl⟩
theorem o134 (rows:List (List V)) (n:Nat) (h:rows.length=n):FnP Tryz.prog G 134 0 [.arr 125 2 rows] [.own 0 n] (fun r o=>r=.own 0 n∧o=[.arr 125 2 rows]):=clipOwn (by kernel_rfl) m134 125 2 rows n h
theorem m74:ClipM Tryz.prog 74:=by
  intro A n c W hc
  have u:Tryz.prog.underlying 23=some (.slice 41):=by kernel_rfl
  have u72:∀ w,Sem.run Tryz.prog (underlying 23) w=.ok (TypeDesc.slice 41) w:=run_underlying u
  go_enter Tryz.func74,Tryz.ntmps74
  go_wp2
  go_ret
  exact ⟨rfl,rfl⟩
theorem o74 (rows:List (List V)) (n:Nat) (h:rows.length=n):FnP Tryz.prog G 74 0 [.arr 41 10 rows] [.own 0 n] (fun r o=>r=.own 0 n∧o=[.arr 41 10 rows]):=clipOwn (by kernel_rfl) m74 41 10 rows n h
theorem m77:ClipM Tryz.prog 77:=by
  intro A n c W hc
  have u:Tryz.prog.underlying 31=some (.slice 54):=by kernel_rfl
  have u72:∀ w,Sem.run Tryz.prog (underlying 31) w=.ok (TypeDesc.slice 54) w:=run_underlying u
  go_enter Tryz.func77,Tryz.ntmps77
  go_wp2
  go_ret
  exact ⟨rfl,rfl⟩
theorem o77 (rows:List (List V)) (n:Nat) (h:rows.length=n):FnP Tryz.prog G 77 0 [.arr 54 7 rows] [.own 0 n] (fun r o=>r=.own 0 n∧o=[.arr 54 7 rows]):=clipOwn (by kernel_rfl) m77 54 7 rows n h
theorem m163:CloneM Tryz.prog 163 64 3:=by
  have t27:Tryz.prog.underlying 27=some (.slice 64):=by kernel_rfl
  have u27:∀ w,Sem.run Tryz.prog (underlying 27) w=.ok (TypeDesc.slice 64) w:=run_underlying t27
  have q27:∀ (w:World) (a:Option Addr) (n c n' c':Nat),(binOp .eql 27 (.slice a n c) (.slice none n' c')).run Tryz.prog w=.ok (.bool a.isNone) w:=fun w a n c n' c'=>Lib.run_eql_slice_nil w _ _ a n c n' c' t27
  obtain ⟨i0,z0,hi,hz,hs,hzs,hb⟩:=infoP (P:=Tryz.prog) (t:=64) (sz:=3) (by kernel_rfl)
  refine ⟨fun n c W=>?_,fun a n c us W h1 h2 h3 h4=>?_⟩
  · go_enter Tryz.func163,Tryz.ntmps163
    go_wp2
    go_ret
    exact ⟨rfl,rfl⟩
  · go_enter Tryz.func163,Tryz.ntmps163
    go_wp2_with (at_builtin;refine wpList_append_own _ rfl _ _ 27 rfl W.heap.size 64 i0 z0 3 i0.bytes t27 hi hz hs rfl hzs (by decide) _ _ _ rfl (World.ownsRow_made W #[] 0 (Nat.le_refl _) (Nat.zero_le _) rfl) a n c us rfl h1 ?qc2 h3 ?qc4 ?qc5 ?qc6 ?_)
    case qc2=>intro j u hj;exact Lib.cell?_alloc_some _ (h2 j u hj)
    case qc4=>unfold maxLen;omega
    case qc5=>exact Nat.le_trans (Nat.mul_le_mul (show 0+n≤2000000 by omega) hb) (by decide)
    case qc6=>simp
    intro v' w1 hown hgrow hnil
    go_wp2
    go_ret
    refine ⟨v',rfl,by simpa using hown, ?_⟩
    exact ((Below.refl _ W).alloc (Nat.le_refl _) _).grown hgrow (by simp) (by intro k hk;simp [Value.ownBlock] at hk;omega)
theorem c163 (rows:List (List V)) (hr:rows.length≤2000000):FnP Tryz.prog G 163 0 [] [.sl 3 rows] (fun r o=>r=.own 0 rows.length∧o=[.arr 64 3 rows]):=cloneOwn (by kernel_rfl) m163 rows hr
theorem m135:CloneM Tryz.prog 135 125 2:=by
  have t27:Tryz.prog.underlying 42=some (.slice 125):=by kernel_rfl
  have u27:∀ w,Sem.run Tryz.prog (underlying 42) w=.ok (TypeDesc.slice 125) w:=run_underlying t27
  have q27:∀ (w:World) (a:Option Addr) (n c n' c':Nat),(binOp .eql 42 (.slice a n c) (.slice none n' c')).run Tryz.prog w=.ok (.bool a.isNone) w:=fun w a n c n' c'=>Lib.run_eql_slice_nil w _ _ a n c n' c' t27
  obtain ⟨i0,z0,hi,hz,hs,hzs,hb⟩:=infoP (P:=Tryz.prog) (t:=125) (sz:=2) (by kernel_rfl)
  refine ⟨fun n c W=>?_,fun a n c us W h1 h2 h3 h4=>?_⟩
  · go_enter Tryz.func135,Tryz.ntmps135
    go_wp2
    go_ret
    exact ⟨rfl,rfl⟩
  · go_enter Tryz.func135,Tryz.ntmps135
    go_wp2_with (at_builtin;refine wpList_append_own _ rfl _ _ 42 rfl W.heap.size 125 i0 z0 2 i0.bytes t27 hi hz hs rfl hzs (by decide) _ _ _ rfl (World.ownsRow_made W #[] 0 (Nat.le_refl _) (Nat.zero_le _) rfl) a n c us rfl h1 ?qc2 h3 ?qc4 ?qc5 ?qc6 ?_)
    case qc2=>intro j u hj;exact Lib.cell?_alloc_some _ (h2 j u hj)
    case qc4=>unfold maxLen;omega
    case qc5=>exact Nat.le_trans (Nat.mul_le_mul (show 0+n≤2000000 by omega) hb) (by decide)
    case qc6=>simp
    intro v' w1 hown hgrow hnil
    go_wp2
    go_ret
    refine ⟨v',rfl,by simpa using hown, ?_⟩
    exact ((Below.refl _ W).alloc (Nat.le_refl _) _).grown hgrow (by simp) (by intro k hk;simp [Value.ownBlock] at hk;omega)
theorem c135 (rows:List (List V)) (hr:rows.length≤2000000):FnP Tryz.prog G 135 0 [] [.sl 2 rows] (fun r o=>r=.own 0 rows.length∧o=[.arr 125 2 rows]):=cloneOwn (by kernel_rfl) m135 rows hr
theorem m75:CloneM Tryz.prog 75 41 10:=by
  have t27:Tryz.prog.underlying 23=some (.slice 41):=by kernel_rfl
  have u27:∀ w,Sem.run Tryz.prog (underlying 23) w=.ok (TypeDesc.slice 41) w:=run_underlying t27
  have q27:∀ (w:World) (a:Option Addr) (n c n' c':Nat),(binOp .eql 23 (.slice a n c) (.slice none n' c')).run Tryz.prog w=.ok (.bool a.isNone) w:=fun w a n c n' c'=>Lib.run_eql_slice_nil w _ _ a n c n' c' t27
  obtain ⟨i0,z0,hi,hz,hs,hzs,hb⟩:=infoP (P:=Tryz.prog) (t:=41) (sz:=10) (by kernel_rfl)
  refine ⟨fun n c W=>?_,fun a n c us W h1 h2 h3 h4=>?_⟩
  · go_enter Tryz.func75,Tryz.ntmps75
    go_wp2
    go_ret
    exact ⟨rfl,rfl⟩
  · go_enter Tryz.func75,Tryz.ntmps75
    go_wp2_with (at_builtin;refine wpList_append_own _ rfl _ _ 23 rfl W.heap.size 41 i0 z0 10 i0.bytes t27 hi hz hs rfl hzs (by decide) _ _ _ rfl (World.ownsRow_made W #[] 0 (Nat.le_refl _) (Nat.zero_le _) rfl) a n c us rfl h1 ?qc2 h3 ?qc4 ?qc5 ?qc6 ?_)
    case qc2=>intro j u hj;exact Lib.cell?_alloc_some _ (h2 j u hj)
    case qc4=>unfold maxLen;omega
    case qc5=>exact Nat.le_trans (Nat.mul_le_mul (show 0+n≤2000000 by omega) hb) (by decide)
    case qc6=>simp
    intro v' w1 hown hgrow hnil
    go_wp2
    go_ret
    refine ⟨v',rfl,by simpa using hown, ?_⟩
    exact ((Below.refl _ W).alloc (Nat.le_refl _) _).grown hgrow (by simp) (by intro k hk;simp [Value.ownBlock] at hk;omega)
theorem c75 (rows:List (List V)) (hr:rows.length≤2000000):FnP Tryz.prog G 75 0 [] [.sl 10 rows] (fun r o=>r=.own 0 rows.length∧o=[.arr 41 10 rows]):=cloneOwn (by kernel_rfl) m75 rows hr
theorem m78:CloneM Tryz.prog 78 54 7:=by
  have t27:Tryz.prog.underlying 31=some (.slice 54):=by kernel_rfl
  have u27:∀ w,Sem.run Tryz.prog (underlying 31) w=.ok (TypeDesc.slice 54) w:=run_underlying t27
  have q27:∀ (w:World) (a:Option Addr) (n c n' c':Nat),(binOp .eql 31 (.slice a n c) (.slice none n' c')).run Tryz.prog w=.ok (.bool a.isNone) w:=fun w a n c n' c'=>Lib.run_eql_slice_nil w _ _ a n c n' c' t27
  obtain ⟨i0,z0,hi,hz,hs,hzs,hb⟩:=infoP (P:=Tryz.prog) (t:=54) (sz:=7) (by kernel_rfl)
  refine ⟨fun n c W=>?_,fun a n c us W h1 h2 h3 h4=>?_⟩
  · go_enter Tryz.func78,Tryz.ntmps78
    go_wp2
    go_ret
    exact ⟨rfl,rfl⟩
  · go_enter Tryz.func78,Tryz.ntmps78
    go_wp2_with (at_builtin;refine wpList_append_own _ rfl _ _ 31 rfl W.heap.size 54 i0 z0 7 i0.bytes t27 hi hz hs rfl hzs (by decide) _ _ _ rfl (World.ownsRow_made W #[] 0 (Nat.le_refl _) (Nat.zero_le _) rfl) a n c us rfl h1 ?qc2 h3 ?qc4 ?qc5 ?qc6 ?_)
    case qc2=>intro j u hj;exact Lib.cell?_alloc_some _ (h2 j u hj)
    case qc4=>unfold maxLen;omega
    case qc5=>exact Nat.le_trans (Nat.mul_le_mul (show 0+n≤2000000 by omega) hb) (by decide)
    case qc6=>simp
    intro v' w1 hown hgrow hnil
    go_wp2
    go_ret
    refine ⟨v',rfl,by simpa using hown, ?_⟩
    exact ((Below.refl _ W).alloc (Nat.le_refl _) _).grown hgrow (by simp) (by intro k hk;simp [Value.ownBlock] at hk;omega)
theorem c78 (rows:List (List V)) (hr:rows.length≤2000000):FnP Tryz.prog G 78 0 [] [.sl 7 rows] (fun r o=>r=.own 0 rows.length∧o=[.arr 54 7 rows]):=cloneOwn (by kernel_rfl) m78 rows hr
end Go.Proofs.YtggifndkolojmaaGreatDoor.W
namespace Go.Proofs.YtggifndkolojmaaGreatDoor.W
open Go Go.RowKit Go.Proofs Go.Proofs.YtggifndkolojmaaGreatDoor.VL Go.Proofs.YtggifndkolojmaaGreatDoor.M
attribute [local congr] optK_congr guardK_congr condK_congr runT_congr runD_congr wpI_congr CallV_congr LoopI_congr pureK_congr effK_congr calK_congr stepV_congr doV_congr exN_congr exB_congr retF_congr retQ_congr gK_congr condW_congr ldK_congr stoK_congr
attribute [local go_sem] argL_cons argL_nil argH_nil argH_cons chH_getH wpI_seq wpI_reg wpI_drw wpI_ret cond_k condW_t condW_f wpI_skip wpI_block wpI_exit wpI_loop exN_n exN_r exN_e exB_n exB_r exB_h exB_m runT_k kT_e runT_nil runD_k kD_e runD_nil step_u step_k gK_t gK_f do_mv do_bino bo_add bo_sub bo_mul bo_subu bo_quo bo_rem bo_xor bo_eql bo_neq bo_lss bo_leq bo_gtr bo_geq bo_cat bo_eqs bo_nes do_pick do_call do_cal calK_f do_box do_alloc do_ldk ldK_s do_stok stoK_s do_fad do_nilc do_not do_neg do_len do_lens do_ext do_eqs do_beq do_isn do_cvi do_sls do_idx do_mn do_mx do_build do_mkf do_s2b do_b2s do_slv do_iad do_bsl do_mks do_app ev_t ev_c app_some app_none
attribute [local go_sem] List.nil_append List.cons_append List.append_nil getL_hit getL_miss getH_nil getH_hit getH_miss nm_eq ne_eq Nat.reduceEqDiff not_false_eq_true Nat.reduceAdd Nat.add_zero Nat.zero_add if_true if_false ite_true ite_false pureK_s effK_s optK_s gdV_t gdV_f gdV_s pick_b ge_iff_le gt_iff_lt cond_true cond_false fresh_k cells_agg cells_int cells_bool cells_str cells_own cells_sl cells_nils ld_pv ld_pa ld_ip ldVar_t ldVar_f ldArr_t ldArr_f ldRow_t ldRow_f ldA_s ld1_s fad_pv fad_pa fad_ip nilc_pv nilc_pa nilc_ip not_b neg_i cvi_i ext_t retF_n retF_r
attribute [local go_sem] resV_k rvs_nil rvs_t rvs_c fstO_s consO_s resK_s resL_1 resL_2 resL_3 resL_4  Option.some.injEq List.map_cons List.map_nil List.all_cons List.all_nil Bool.and_true Bool.and_self Bool.not_true Bool.not_false Option.map_some Option.map_none sls_s slsG_s loV_n loV_i hiV_n hiV_i idx_s mn_i mx_i s2b_s b2s_s bytO_s bytes_nil bytes_cons conB_s slv_sl slv_own slv_nils slvG_s slvN_s slvO_s iad_sl iadG_map take_map drop_map List.length_map iad_own iad_view iadO_a iadW_a mks_i rowO_nils rowO_sl rowO_own rowA_a eq_self appG_nils appG_own appO_a guardP_T mapA_s bld_nil mkf_nil bldF_e fill_nil fill_cons mkf_e lens_s len_nils len_sl len_own len_view isn_nile isn_erre List.getElem?_cons_zero List.getElem?_cons_succ List.length_cons List.length_nil decide_true decide_false Int.toNat_natCast Int.cast_ofNat_Int Int.reduceLT Int.reduceLE Int.reduceEq Int.reduceAdd Int.reduceSub Int.reduceMul Int.reduceNeg Int.reduceToNat List.getD_cons_zero List.getD_cons_succ not_true_eq_false not_false_eq_true Bool.false_eq_true Bool.true_eq_false reduceCtorEq
attribute [local go_sem] E.row Pc.row Pair.row Part.row Strm.row Flw.row Pk.row Door.row Conv.row World.row Ev.row rdV E.eta Pc.eta Pair.eta Part.eta Strm.eta Pk.eta Flw.eta Conv.eta Door.eta World.eta Ev.eta
attribute [local go_sem] sub_ok st_pv st_pa stVar_v stArr_a Nat.le_refl List.drop_zero List.drop_succ_cons List.take_succ_cons List.take_zero setR Nat.reduceLeDiff
attribute [local go_sem] wk_bot wk2_bot wk1_bot wk_undef wk_tup_e wk2_agg_e wk_agg_e wk1_fn_e wk2_fn_e wk_fn_e wkl_nil wkl_cons wkh_var_e wkh_arr_e wkh_fresh_e wkh_dead_v wkh_dead_a wkh_dead_d wk0_undef wk0_int wk0_bool wk0_str wk0_nils wk0_nils_sl wk0_nilp wk0_nile wk0_erre wk0_sl wk0_iptr wk0_own wk0_view wk0_pv wk0_pa fzA_a fzW_a fzP_v wk0_own_sl wk0_view_sl wk0_pv_iptr WkS_nil WkS_cons WkN_nil WkN_cons nonB_nil nonB_cons getN_nil getN_hit getN_miss pinOk_0 pinOk_s and_true true_and and_self
attribute [local go_sem] bot_int one_int unt_int clo_int bot_bool one_bool unt_bool clo_bool bot_str one_str unt_str clo_str bot_nils one_nils unt_nils clo_nils bot_nilp one_nilp unt_nilp clo_nilp bot_nile one_nile unt_nile clo_nile bot_erre one_erre unt_erre clo_erre bot_raw one_raw unt_raw clo_raw bot_sl one_sl unt_sl clo_sl bot_own one_own unt_own clo_own bot_view one_view unt_view clo_view bot_pv one_pv unt_pv clo_pv bot_pa one_pa unt_pa clo_pa bot_iptr one_iptr unt_iptr clo_iptr unt_agg unt_fn one_fn
attribute [local go_sem] rn_tup rn_agg rn2_agg rn_fn rn2_fn rnfn1 rn_bot rn2_bot rn1_bot rn0_int rn0_bool rn0_str rn0_nils rn0_nilp rn0_nile rn0_erre rn0_sl rn0_iptr rn0_own rn0_view rn0_pv rn0_pa hrn_var hrn_arr hrn_dead outU_nil outU_cons deads_nil deads_cons bk_ge bk_lt nsF_0 nsF_s chH_0 chH_s chH_n newN_e andB_s eqR_nil eqR_i eqR_b eqR_s mapX_f mapX_t eqs_a beq_f beq_t live_arr live_var nsl_nil nsl_cons Nat.reduceMul Nat.reduceLT Nat.zero_le Nat.not_lt_zero
attribute [local go_sem] mV lD lA fD bN eX oP nP sR i0 s0
theorem endRead_eq {t:B} {a p:Int} (h:E.text ⟨a,p⟩=t) (h1:E.any ⟨a,p⟩=true):endRead t=some ⟨a,p⟩:=by rw [← h];exact endRead_text h1
def portAt (t:B) (i:Nat):Int:=if i≤2 then 0 else if i=3 then dig (t.getD 2 0) else 10 * dig (t.getD 2 0)+dig (t.getD 3 0)
theorem ends_dig:∀ e∈ends,dig (e.text.getD 0 0)=e.a∧portAt e.text e.text.length=e.p:=by decide
theorem dig_rng (b:UInt8) : -1≤dig b∧dig b≤9:=by
  unfold dig figB
  split
  · rename_i h
    simp only [UInt8.le_iff_toNat_le,Bool.and_eq_true,decide_eq_true_eq] at h
    have h1:(48:UInt8).toNat=48:=rfl
    have h3:(57:UInt8).toNat=57:=rfl
    omega
  · omega
def ic201:IC:=sR [oP 2 (.alloc 39 [i0,i0]),oP 3 (.mv (.c (.bool false)))] (sR [mV 7 0,oP 8 (.lens (.t 7)),mV 4 8] (.seq (sR [mV 9 4,oP 10 (.call 63 [.t 9,.c (.int .i64 3),.c (.int .i64 4)]),oP 11 (.un .not (.t 10))] (.cond (.t 11) (sR [oP 12 (.build [i0,i0] []),nP (.sto 2 (.t 2) (.t 12)),oP 3 (.mv (.c (.bool false)))] .ret) .skip)) (sR [mV 13 0,oP 14 (.idx (.t 13) (.c i0)),oP 15 (.call 186 [.t 14]),oP 16 (.build [i0,i0] [(0,(1,.t 15))]),oP 5 (.alloc 39 [i0,i0]),nP (.sto 2 (.t 5) (.t 16))] (.seq (sR [oP 6 (.mv (.c (.int .i64 2)))] (.block 0 (.loop (.seq (sR [mV 17 6,mV 18 4,bN 19 .lss 17 18] (.cond (.t 19) .skip (.exit 0))) (.seq (.block 1 (.drw [0,1,3,0,0,24,56,127,255,511] [(0,fD 22 1 5),(1,lD 23 1 22),(2,oP 24 (.bin .mul (.c (.int .i64 10)) (.t 23))),(3,mV 25 0),(4,mV 26 6),(5,oP 27 (.idx (.t 25) (.t 26))),(6,oP 28 (.call 186 [.t 27])),(7,bN 29 .add 24 28),(8,fD 30 1 5),(9,nP (.sto 1 (.t 30) (.t 29)))])) (.reg [mV 20 6,oP 21 (.bin .add (.t 20) (.c (.int .i64 1))),mV 6 21])))))) (.seq (sR [lA 31 2 5,oP 32 (.call 148 [.t 31]),mV 33 0,bN 34 .neq 32 33] (.cond (.t 34) (sR [oP 35 (.build [i0,i0] []),nP (.sto 2 (.t 2) (.t 35)),oP 3 (.mv (.c (.bool false)))] .ret) .skip)) (sR [lA 36 2 5,nP (.sto 2 (.t 2) (.t 36)),oP 3 (.mv (.c (.bool true)))] .ret))))))
theorem dg201:Dg Tryz.prog 201 Tryz.f201 ic201 [(.cell 2 2 true),(.t 3)]:=⟨Tryz.func201,by kernel_rfl,by kernel_rfl⟩
theorem c201 (t:B) (hl:t.length≤2000000:=by omega):FnR Tryz.prog G 201 [.str t] (rdV (endRead t)):=by
  refine mF dg201 Tryz.ntmps201 ?_
  have hlen:∀ e,endRead t=some e→3≤t.length∧t.length≤4:=fun e he=>by
    obtain ⟨h1,h2⟩:=endRead_some he
    have:=text_len h1
    rw [h2] at this
    split at this<;>omega
  simp only [ic201,go_sem]
  refine callR (c63 ..) rfl rfl ?_
  simp only [go_sem]
  cases hw:within t.length 3 4<;>simp only [go_sem]
  · have:endRead t=none:=by
      cases h:endRead t with
      | none=>rfl
      | some e =>
        have:=hlen e h
        have:within t.length 3 4=true:=M.within_iff.2 (by omega)
        rw [hw] at this;cases this
    simp [this,rdV,go_sem,E.zero]
  · rw [M.within_iff] at hw
    with_reducible repeat' (first|refine br ?_ ?_<;>intro h e<;>(try simp only [e,go_sem])<;>clear e|rw [i64w (by omega)]|refine sd ?_<;>try simp only [go_sem]|(first|refine cr (c186 ..) ?_)<;>try simp only [go_sem]|fail)
    refine loopN (fun i:Nat=>⟨getL [(0,.str t),(2,.pv 1002 0),(4,.int .i64 t.length),(5,.pv 1005 0),(6,.int .i64 (i:Int))],getH [(1002,.var 39 [.int .i64 0,.int .i64 0]),(1005,.var 39 [.int .i64 (dig (t.getD 0 0)),.int .i64 (portAt t i)])]⟩) (fun i=>t.length - i) (fun i=>2≤i∧i≤t.length) 2 (leQ []) ⟨by omega,by omega⟩ ?_
    intro i ⟨hi,hil⟩
    simp only [go_sem]
    have dr:=dig_rng (t.getD i 0)
    have dr2:=dig_rng (t.getD 2 0)
    have pi:i<t.length → -10≤portAt t i∧portAt t i≤9∧portAt t (i+1)=10 * portAt t i+dig (t.getD i 0):=fun h=>by
      have:i=2∨i=3:=by omega
      rcases this with rfl|rfl<;>simp [portAt] at dr dr2 ⊢<;>omega
    by_cases h:(i:Int)<t.length
    · simp only [eq_true h,go_sem]
      obtain ⟨p1,p2,p3⟩:=pi (by omega)
      with_reducible repeat' (first|refine br ?_ ?_<;>intro h e<;>(try simp only [e,go_sem])<;>clear e|rw [i64w (by omega)]|refine sd ?_<;>try simp only [go_sem]|(first|refine cr (c186 ..) ?_)<;>try simp only [go_sem]|fail)
      refine ⟨i+1,by omega,⟨by omega,by omega⟩,(leQ [])⟩
    · simp only [eq_false h,go_sem]
      have:i=t.length:=by omega
      subst this
      refine callR (c148 ..) rfl rfl ?_
      simp only [go_sem]
      with_reducible repeat' (first|refine br ?_ ?_<;>intro h e<;>(try simp only [e,go_sem])<;>clear e|rw [i64w (by omega)]|refine sd ?_<;>try simp only [go_sem]|fail)
      · have ha:E.any ⟨dig (t.getD 0 0),portAt t t.length⟩=true:=by
          cases hc:E.any ⟨dig (t.getD 0 0),portAt t t.length⟩ with
          | true=>rfl
          | false =>
            exfalso
            simp only [E.text,hc] at h
            rw [← h] at hw
            simp at hw
        simp [endRead_eq h ha,rdV,go_sem]
      · have hn:endRead t=none:=by
          cases hr:endRead t with
          | none=>rfl
          | some e =>
            exfalso
            obtain ⟨e1,e2⟩:=endRead_some hr
            obtain ⟨d1,d2⟩:=ends_dig e (E.any_iff.1 e1)
            rw [e2] at d1 d2
            rw [d1,d2] at h
            exact h e2
        simp [hn,rdV,go_sem,E.zero]
def ic171:IC:=sR [oP 2 (.alloc 39 [i0,i0]),oP 3 (.mv (.c (.bool false)))] (sR [mV 13 0,oP 14 (.call 170 [.t 13,.c (.str [58])]),mV 12 14,eX 15 12 0,eX 16 12 1,eX 17 12 2,mV 4 15,mV 5 16,mV 6 17] (sR [mV 19 4,oP 20 (.call 184 [.t 19]),mV 18 20,eX 21 18 0,eX 22 18 1,mV 7 21,mV 8 22] (sR [mV 24 5,oP 25 (.call 184 [.t 24]),mV 23 25,eX 26 23 0,eX 27 23 1,mV 9 26,mV 10 27] (sR [mV 28 7,mV 29 9,oP 30 (.build [i0,i0] [(0,(1,.t 28)),(1,(1,.t 29))]),oP 11 (.alloc 39 [i0,i0]),nP (.sto 2 (.t 11) (.t 30))] (.seq (sR [mV 31 8,oP 32 (.isn true (.t 31)),mV 33 32,⟨some 34,some (33,false),.mv (.t 10)⟩,⟨some 35,some (33,false),.isn true (.t 34)⟩,oP 36 (.pick (.t 33) (.c (.bool true)) (.t 35)),mV 37 36,⟨some 38,some (37,false),.ld 2 true (.t 11)⟩,⟨some 39,some (37,false),.call 114 [.t 38]⟩,⟨some 40,some (37,false),.un .not (.t 39)⟩,oP 41 (.pick (.t 37) (.c (.bool true)) (.t 40)),mV 42 41,⟨some 43,some (42,false),.ld 2 true (.t 11)⟩,⟨some 44,some (42,false),.call 168 [.t 43]⟩,⟨some 45,some (42,false),.mv (.t 0)⟩,⟨some 46,some (42,false),.bin .neq (.t 44) (.t 45)⟩,oP 47 (.pick (.t 42) (.c (.bool true)) (.t 46))] (.cond (.t 47) (sR [oP 48 (.build [i0,i0] []),nP (.sto 2 (.t 2) (.t 48)),oP 3 (.mv (.c (.bool false)))] .ret) .skip)) (sR [lA 49 2 11,nP (.sto 2 (.t 2) (.t 49)),oP 3 (.mv (.c (.bool true)))] .ret))))))
theorem dg171:Dg Tryz.prog 171 Tryz.f171 ic171 [(.cell 2 2 true),(.t 3)]:=⟨Tryz.func171,by kernel_rfl,by kernel_rfl⟩
theorem c171 (t:B) (hl:t.length≤2000000:=by omega):FnR Tryz.prog G 171 [.str t] (rdV (endRead t)):=by
  refine mF dg171 Tryz.ntmps171 ?_
  simp only [ic171,go_sem]
  refine callR (c170 t 58) rfl rfl ?_
  simp only [go_sem]
  have hcl:(cutB t 58).1.length≤2000000∧(cutB t 58).2.1.length≤2000000:=by
    have:=cutB_len t 58
    omega
  have hr:∀ e,endRead t=some e→(cutB t 58).1=dec e.a∧(cutB t 58).2.1=dec e.p∧(0≤e.a∧e.a<100)∧(0≤e.p∧e.p<100):=fun e he=>by
    obtain ⟨h1,h2,h3⟩:=endRead_cut he
    rw [h1];exact ⟨rfl,rfl,h2,h3⟩
  refine callV0 (c184 _ (by omega)) rfl (fun r o hp=>⟨by rcases hp.2 with ⟨n,rfl,_⟩|⟨n,rfl,_⟩<;>rfl,hp.1⟩) (fun r1 hp1=>?_)
  rcases hp1.2 with ⟨n1,rfl,hn1⟩|⟨n1,rfl,hn1⟩<;>simp only [go_sem] <;>
    (refine callV0 (c184 _ (by omega)) rfl (fun r o hp=>⟨by rcases hp.2 with ⟨n,rfl,_⟩|⟨n,rfl,_⟩<;>rfl,hp.1⟩) (fun r2 hp2=>?_)
     rcases hp2.2 with ⟨n2,rfl,hn2⟩|⟨n2,rfl,hn2⟩<;>simp only [go_sem])
  · have hx:∀ e,endRead t=some e→n1=e.a∧n2=e.p:=fun e he=>by
      obtain ⟨a1,a2,a3,a4⟩:=hr e he
      exact ⟨hn1 _ a3.1 a3.2 a1,hn2 _ a4.1 a4.2 a2⟩
    with_reducible repeat' (first|refine br ?_ ?_<;>intro h e<;>(try simp only [e,go_sem])<;>clear e|rw [i64w (by omega)]|refine sd ?_<;>try simp only [go_sem]|(first|refine cr (c114 ..) ?_|refine cr (c168 ..) ?_)<;>try simp only [go_sem]|fail)
    · have hn:endRead t=none:=by
        cases hr2:endRead t with
        | none=>rfl
        | some e =>
          exfalso
          obtain ⟨rfl,rfl⟩:=hx e hr2
          rw [(endRead_some hr2).1] at h
          cases h
      simp [hn,rdV,go_sem,E.zero]
    · rename_i ha
      simp [endRead_eq h (by simpa using ha),rdV,go_sem]
    · have hn:endRead t=none:=by
        cases hr2:endRead t with
        | none=>rfl
        | some e =>
          exfalso
          obtain ⟨rfl,rfl⟩:=hx e hr2
          exact h (endRead_some hr2).2
      simp [hn,rdV,go_sem,E.zero]
  all_goals
    have hn:endRead t=none:=by
      cases hr2:endRead t with
      | none=>rfl
      | some e =>
        exfalso
        obtain ⟨a1,a2,a3,a4⟩:=hr e hr2
        first|exact hn1 _ a3.1 a3.2 a1|exact hn2 _ a4.1 a4.2 a2
    simp [hn,rdV,go_sem,E.zero]
def ic185:IC:=sR [oP 2 (.alloc 39 [i0,i0]),oP 3 (.mv (.c i0))] (.seq (sR [oP 4 (.mv (.c (.int .i64 5)))] (.block 0 (.loop (.seq (sR [mV 7 4,oP 8 (.bin .leq (.t 7) (.c (.int .i64 6))),mV 9 8,⟨some 10,some (9,true),.mv (.t 4)⟩,⟨some 11,some (9,true),.mv (.t 0)⟩,⟨some 12,some (9,true),.lens (.t 11)⟩,⟨some 13,some (9,true),.bin .leq (.t 10) (.t 12)⟩,oP 14 (.pick (.t 9) (.t 13) (.c (.bool false)))] (.cond (.t 14) .skip (.exit 0))) (.seq (.block 1 (sR [mV 17 0,oP 18 (.idx (.t 17) (.c i0)),oP 19 (.bin .eql (.t 18) (.c (.int .u8 64))),mV 20 19,⟨some 21,some (20,true),.mv (.t 0)⟩,⟨some 22,some (20,true),.mv (.t 4)⟩,⟨some 23,some (20,true),.bin .sub (.t 22) (.c (.int .i64 1))⟩,⟨some 24,some (20,true),.idx (.t 21) (.t 23)⟩,⟨some 25,some (20,true),.bin .eql (.t 24) (.c (.int .u8 59))⟩,oP 26 (.pick (.t 20) (.t 25) (.c (.bool false)))] (.cond (.t 26) (sR [mV 28 0,mV 29 4,oP 30 (.bin .sub (.t 29) (.c (.int .i64 1))),oP 31 (.sls (.t 28) (some (.c (.int .i64 1))) (some (.t 30))),oP 32 (.call 201 [.t 31]),mV 27 32,eX 33 27 0,eX 34 27 1,oP 5 (.alloc 39 [i0,i0]),nP (.sto 2 (.t 5) (.t 33)),mV 6 34] (sR [mV 35 6] (.cond (.t 35) (sR [lA 36 2 5,mV 37 4,nP (.sto 2 (.t 2) (.t 36)),mV 3 37] .ret) .skip))) .skip))) (.reg [mV 15 4,oP 16 (.bin .add (.t 15) (.c (.int .i64 1))),mV 4 16])))))) (sR [oP 38 (.build [i0,i0] []),nP (.sto 2 (.t 2) (.t 38)),oP 3 (.mv (.c i0))] .ret))
theorem dg185:Dg Tryz.prog 185 Tryz.f185 ic185 [(.cell 2 2 true),(.t 3)]:=⟨Tryz.func185,by kernel_rfl,by kernel_rfl⟩
theorem nameAt_5 {s:B} {e:E} (h:nameAt s=some e):∃ k,(k=3∨k=4)∧e.text.length=k∧s.getD 0 0=64∧s.getD (k+1) 0=59∧(s.take (k+1)).drop 1=e.text∧k+2≤s.length:=by
  obtain ⟨h1,r,rfl⟩:=nameAt_some h
  have hl:=text_len h1
  refine ⟨e.text.length,by rw [hl];split<;>simp,rfl,by simp [name], ?_, ?_, ?_⟩
  · simp [name,List.getD]
  · simp [name]
  · simp [name]
theorem nameAt_of {s:B} {e:E} {k:Nat} (h0:s.getD 0 0=64) (h1:s.getD (k+1) 0=59) (h2:endRead ((s.take (k+1)).drop 1)=some e) (hl:k+2≤s.length):nameAt s=some e:=by
  obtain ⟨c,r,rfl⟩:∃ c r,s=c :: r:=by cases s with|nil=>simp at hl|cons c r=>exact ⟨c,r,rfl⟩
  obtain ⟨a1,a2⟩:=endRead_some h2
  simp only [List.getD_cons_zero] at h0
  subst h0
  simp only [List.getD_cons_succ,List.length_cons,List.take_succ_cons,List.drop_succ_cons,List.drop_zero] at h1 h2 hl a2
  have:(64 :: r:B)=name e++r.drop (k+1):=by
    simp only [name,a2,List.cons_append,List.cons.injEq,true_and,List.append_assoc]
    have hk:r[k]?=some 59:=by
      have:k<r.length:=by omega
      simp [List.getD,this] at h1 ⊢
      exact h1
    conv=>lhs;rw [← List.take_append_drop k r]
    congr 1
    rw [List.drop_eq_getElem_cons (show k<r.length by omega)]
    simp [List.getElem?_eq_getElem (show k<r.length by omega)] at hk
    simp [hk]
  rw [this]
  exact nameAt_name a1 _
theorem c185 (s:B) (hs:s≠[]) (hl:s.length≤2000000:=by omega):FnR Tryz.prog G 185 [.str s] (.tup [.agg [.int .i64 ((nameAt s).getD .zero).a,.int .i64 ((nameAt s).getD .zero).p],.int .i64 (match nameAt s with|some e=>(name e).length|none=>0)]):=by
  refine mF dg185 Tryz.ntmps185 ?_
  simp only [ic185,go_sem]
  have hp:1≤s.length:=List.length_pos_iff.2 hs
  refine loopN (fun i:Nat=>⟨getL [(0,.str s),(2,.pv 1002 0),(4,.int .i64 (i:Int))],getH [(1002,.var 39 [.int .i64 0,.int .i64 0])]⟩) (fun i=>7 - i) (fun i=>5≤i∧i≤7∧∀ e,nameAt s=some e→i≤e.text.length+2) 5 (leQ []) ⟨by omega,by omega,fun e he=>by obtain ⟨k,h1,h2,_⟩:=nameAt_5 he;omega⟩ ?_
  intro i ⟨h5,h7,hn⟩
  simp only [go_sem]
  obtain ⟨k,rfl⟩:∃ k,i=k+2:=⟨i - 2,by omega⟩
  have e2:(((k+2:Nat):Int) - 1).toNat=k+1:=by omega
  with_reducible repeat' (first|refine br ?_ ?_<;>intro h e<;>(try simp only [e,go_sem])<;>clear e|rw [i64w (by omega)]|refine sd ?_<;>try simp only [go_sem]|fail)
  · rename_i g0
    simp only [e2] at *
    refine callR (c201 _ (by simp;omega)) rfl rfl ?_
    simp only [go_sem]
    have g1:s.getD 0 0=64:=UInt8.toNat_inj.1 (Int.ofNat_inj.1 g0)
    have g2:s.getD (k+1) 0=59:=UInt8.toNat_inj.1 (Int.ofNat_inj.1 h)
    have hk:k+2≤s.length:=by omega
    cases hr:endRead ((s.take (k+1)).drop 1) with
    | some e =>
      have he:=nameAt_of g1 g2 hr hk
      obtain ⟨a1,a2⟩:=endRead_some hr
      simp only [go_sem,Option.isSome_some,he,Option.getD_some]
      have:(name e).length=k+2:=by rw [name];simp [a2];omega
      simp [this]
    | none =>
      simp only [go_sem,Option.isSome_none]
      with_reducible repeat' (first|refine br ?_ ?_<;>intro h e<;>(try simp only [e,go_sem])<;>clear e|rw [i64w (by omega)]|refine sd ?_<;>try simp only [go_sem]|fail)
      refine ⟨k+3,by omega,⟨by omega,by omega,fun e he=>?_⟩,(leQ [])⟩
      obtain ⟨k',b1,b2,b3,b4,b5,b6⟩:=nameAt_5 he
      have:=hn e he
      rcases Nat.lt_or_ge k k' with h|h
      · omega
      · exfalso
        have:k'=k:=by omega
        subst this
        rw [b5,endRead_text (nameAt_some he).1] at hr
        cases hr
  · refine ⟨k+3,by omega,⟨by omega,by omega,fun e he=>?_⟩,(leQ [])⟩
    obtain ⟨k',b1,b2,b3,b4,b5,b6⟩:=nameAt_5 he
    have:=hn e he
    rcases Nat.lt_or_ge k k' with h|h
    · omega
    · exfalso
      have:k'=k:=by omega
      subst this
      rename_i hq
      rw [e2,b4] at hq
      exact absurd rfl hq
  · refine ⟨k+3,by omega,⟨by omega,by omega,fun e he=>?_⟩,(leQ [])⟩
    obtain ⟨k',b1,b2,b3,b4,b5,b6⟩:=nameAt_5 he
    rw [b3] at h
    exact absurd rfl h
  · have:nameAt s=none:=by
      cases hq:nameAt s with
      | none=>rfl
      | some e =>
        obtain ⟨k',b1,b2,b3,b4,b5,b6⟩:=nameAt_5 hq
        have:=hn e hq
        omega
    simp [this,E.zero]
  · have:nameAt s=none:=by
      cases hq:nameAt s with
      | none=>rfl
      | some e =>
        obtain ⟨k',b1,b2,b3,b4,b5,b6⟩:=nameAt_5 hq
        have:=hn e hq
        omega
    simp [this,E.zero]
def ic143:IC:=sR [oP 2 (.alloc 39 [i0,i0]),oP 3 (.mv (.c (.bool false)))] (sR [mV 10 0,oP 11 (.call 170 [.t 10,.c (.str [59])]),mV 9 11,eX 12 9 0,eX 13 9 1,eX 14 9 2,mV 4 12,mV 5 13,mV 6 14] (sR [mV 16 4,oP 17 (.call 171 [.t 16]),mV 15 17,eX 18 15 0,eX 19 15 1,oP 7 (.alloc 39 [i0,i0]),nP (.sto 2 (.t 7) (.t 18)),mV 8 19] (sR [lA 20 2 7,mV 21 6,mV 22 21,⟨some 23,some (22,true),.mv (.t 8)⟩,oP 24 (.pick (.t 22) (.t 23) (.c (.bool false))),nP (.sto 2 (.t 2) (.t 20)),mV 3 24] .ret)))
theorem dg143:Dg Tryz.prog 143 Tryz.f143 ic143 [(.cell 2 2 true),(.t 3)]:=⟨Tryz.func143,by kernel_rfl,by kernel_rfl⟩
def rdN (s:B):Option E:=if 59∈s then endRead (s.takeWhile fun b=>decide (b≠59)) else none
theorem c143 (s:B) (hl:s.length≤2000000:=by omega):FnR Tryz.prog G 143 [.str s] (.tup [.agg [.int .i64 ((endRead (cutB s 59).1).getD .zero).a,.int .i64 ((endRead (cutB s 59).1).getD .zero).p],.bool (rdN s).isSome]):=by
  refine mF dg143 Tryz.ntmps143 ?_
  simp only [ic143,go_sem]
  refine callR (c170 s 59) rfl rfl ?_
  simp only [go_sem]
  have:=cutB_len s 59
  refine callR (c171 (cutB s 59).1 (by omega)) rfl rfl ?_
  simp only [go_sem]
  with_reducible repeat' (first|refine br ?_ ?_<;>intro h e<;>(try simp only [e,go_sem])<;>clear e|rw [i64w (by omega)]|refine sd ?_<;>try simp only [go_sem]|fail)
  all_goals (simp only [cutB] at *;split at h<;>rename_i hm<;>simp_all [rdN])
def ic97:IC:=sR [oP 2 (.alloc 127 [i0,.bool false,i0,i0])] (.seq (sR [mV 8 0,oP 9 (.call 142 [.t 8,.c (.str [64])]),mV 7 9,eX 10 7 0,eX 11 7 1,mV 3 10,mV 4 11] (sR [mV 12 4] (.cond (.t 12) (sR [mV 14 3,oP 15 (.call 143 [.t 14]),mV 13 15,eX 16 13 0,eX 17 13 1,oP 5 (.alloc 39 [i0,i0]),nP (.sto 2 (.t 5) (.t 16)),mV 6 17] (sR [mV 18 6] (.cond (.t 18) (.seq (.drw [0,1,3,0,15,31] [(0,lA 19 2 5),(1,oP 20 (.call 138 [.t 19])),(2,oP 21 (.lens (.t 20))),(3,lA 22 2 5),(4,oP 23 (.build [i0,.bool false,i0,i0] [(0,(1,.t 21)),(1,(1,.c (.bool true))),(2,(2,.t 22))])),(5,nP (.sto 4 (.t 2) (.t 23)))]) .ret) .skip))) .skip))) (sR [oP 24 (.build [i0,.bool false,i0,i0] [(0,(1,.c (.int .i64 1)))]),nP (.sto 4 (.t 2) (.t 24))] .ret))
theorem dg97:Dg Tryz.prog 97 Tryz.f97 ic97 [(.cell 2 4 true)]:=⟨Tryz.func97,by kernel_rfl,by kernel_rfl⟩
theorem c97 (s:B) (hs:s≠[]) (hl:s.length≤2000000:=by omega):FnR Tryz.prog G 97 [.str s] (.agg [.int .i64 (pc1 s).size,.bool (pc1 s).named,.int .i64 (pc1 s).e.a,.int .i64 (pc1 s).e.p]):=by
  refine mF dg97 Tryz.ntmps97 ?_
  simp only [ic97,go_sem]
  obtain ⟨c,r,rfl⟩:∃ c r,s=c :: r:=by cases s with|nil=>exact absurd rfl hs|cons c r=>exact ⟨c,r,rfl⟩
  refine callR (c142 _ _) rfl rfl ?_
  simp only [go_sem]
  simp only [List.length_cons] at hl
  have key:nameAt (c :: r)=if c=64 then rdN r else none:=by
    simp only [nameAt,rdN]
    by_cases hc:c=64<;>by_cases h59:59∈r<;>simp [hc,h59]
  by_cases hc:c=64
  · subst hc
    have e1:List.isPrefixOf [64] (64 :: r:B)=true:=by simp [List.isPrefixOf]
    simp only [e1,go_sem]
    refine callR (c143 r) rfl rfl ?_
    simp only [go_sem]
    rw [if_pos rfl] at key
    cases hn:rdN r with
    | some e =>
      rw [hn] at key
      have h59:59∈r:=by
        by_cases h:59∈r
        · exact h
        · simp [rdN,h] at hn
      have he:endRead (cutB r 59).1=some e:=by
        simp only [rdN,if_pos h59] at hn
        simp only [cutB,if_pos h59];exact hn
      simp only [go_sem,Option.isSome_some,he,Option.getD_some]
      with_reducible repeat' (first|refine br ?_ ?_<;>intro h e<;>(try simp only [e,go_sem])<;>clear e|rw [i64w (by omega)]|refine sd ?_<;>try simp only [go_sem]|(first|refine cr (c138 ..) ?_)<;>try simp only [go_sem]|fail)
      simp [pc1,key]
    | none =>
      rw [hn] at key
      simp only [go_sem,Option.isSome_none]
      simp [pc1,key,E.zero]
  · have e1:List.isPrefixOf [64] (c :: r:B)=false:=by simp [List.isPrefixOf];exact fun h=>hc h.symm
    rw [if_neg hc] at key
    simp only [e1,go_sem]
    simp [pc1,key,E.zero]
def ic46:IC:=sR [oP 2 (.mv (.c .nils))] (sR [oP 6 (.bsl 127 4 []),mV 3 6] (.seq (sR [mV 7 0,mV 8 0,oP 9 (.lens (.t 8)),mV 10 0,oP 11 (.call 96 [.t 10]),bN 12 .sub 9 11,oP 13 (.sls (.t 7) none (some (.t 12))),mV 4 13] (.block 0 (.loop (.seq (sR [mV 14 4,oP 15 (.bin .neq (.t 14) (.c s0))] (.cond (.t 15) .skip (.exit 0))) (.block 1 (sR [mV 16 4,oP 17 (.call 97 [.t 16]),oP 5 (.alloc 127 [i0,.bool false,i0,i0]),nP (.sto 4 (.t 5) (.t 17))] (sR [mV 18 3,lA 19 4 5,oP 20 (.bsl 127 4 [.t 19]),oP 21 (.app 127 4 (.t 18) (.t 20)),mV 3 21] (.reg [mV 22 4,fD 23 0 5,lD 24 1 23,oP 25 (.sls (.t 22) (some (.t 24)) none),mV 4 25])))))))) (sR [mV 26 3,oP 27 (.call 98 [.t 26]),mV 2 27] .ret)))
theorem dg46:Dg Tryz.prog 46 Tryz.f46 ic46 [(.t 2)]:=⟨Tryz.func46,by kernel_rfl,by kernel_rfl⟩
theorem c46 (t:B) (hl:t.length≤2000000:=by omega):FnR Tryz.prog G 46 [.str t] (.sl 4 ((pieces t).map Pc.row)):=by
  refine mF dg46 Tryz.ntmps46 ?_
  simp only [ic46,go_sem]
  have hh:=held_le t
  with_reducible repeat' (first|refine br ?_ ?_<;>intro h e<;>(try simp only [e,go_sem])<;>clear e|rw [i64w (by omega)]|refine sd ?_<;>try simp only [go_sem]|(first|refine cr (c96 ..) ?_)<;>try simp only [go_sem]|fail)
  have e0:((t.take ((t.length:Int) - (held t:Int)).toNat).drop 0)=body t:=by
    rw [List.drop_zero];unfold body;congr 1;omega
  refine loopN (fun a:List Pc × B=>⟨getL [(3,.own 1006 a.1.length),(4,.str a.2)],getH [(1006,.arr 127 4 (a.1.map Pc.row))]⟩) (fun a=>a.2.length) (fun a=>a.1++pcs a.2=pieces t∧a.1.length+a.2.length≤t.length) ([],body t)
    (leN [] (by simp only [go_sem];first|done|exact e0.symm) (by simp only [go_sem];first|done|rfl) (by simp [getN]) (by simp only [go_sem])) ⟨by rw [pieces_eq];rfl,by have:=body_len t;simp;omega⟩ ?_
  intro ⟨acc,rest⟩ ⟨h1,h2⟩
  simp only [go_sem]
  simp only at h1 h2
  by_cases hr:rest=[]
  · subst hr
    simp only [go_sem]
    refine callF (c98 (acc.map Pc.row)) [1006] true (by simp only [go_sem];simp) (by simp only [List.mem_singleton];rintro c rfl;rfl) rfl (.inl rfl) ?_
    simp only [go_sem]
    rw [← h1,pcs_nil,List.append_nil]
  · simp only [eq_false hr,go_sem]
    refine callR (c97 rest hr) rfl rfl ?_
    simp only [go_sem]
    obtain ⟨p1,p2,p3⟩:=pc1_size hr
    with_reducible repeat' (first|refine br ?_ ?_<;>intro h e<;>(try simp only [e,go_sem])<;>clear e|rw [i64w (by omega)]|refine sd ?_<;>try simp only [go_sem]|fail)
    refine ⟨(acc++[pc1 rest],rest.drop (pc1 rest).size),by simp;omega,⟨?_,by simp;omega⟩,leN [(1006,1021)] ?_ ?_ (by simp [getN]) (by simp only [go_sem])⟩
    · rw [← h1,pcs_cons hr,List.append_assoc];rfl
    · simp only [go_sem];simp
    · simp only [go_sem];simp [Pc.row]
def ic174:IC:=sR [oP 2 (.mv (.c .nils))] (sR [oP 8 (.bsl 127 4 []),mV 3 8] (sR [mV 9 0,oP 10 (.lens (.t 9)),mV 11 0,oP 12 (.call 154 [.t 11]),bN 13 .sub 10 12,mV 4 13] (sR [oP 5 (.mv (.c i0))] (.seq (.block 0 (.loop (.seq (sR [mV 14 5,mV 15 4,bN 16 .lss 14 15] (.cond (.t 16) .skip (.exit 0))) (.block 1 (sR [mV 18 0,mV 19 5,mV 20 4,oP 21 (.sls (.t 18) (some (.t 19)) (some (.t 20))),oP 22 (.call 185 [.t 21]),mV 17 22,eX 23 17 0,eX 24 17 1,oP 6 (.alloc 39 [i0,i0]),nP (.sto 2 (.t 6) (.t 23)),mV 7 24] (.seq (sR [mV 25 7,oP 26 (.bin .gtr (.t 25) (.c i0))] (.cond (.t 26) (.reg [mV 27 3,mV 28 7,lA 29 2 6,oP 30 (.build [i0,.bool false,i0,i0] [(0,(1,.t 28)),(1,(1,.c (.bool true))),(2,(2,.t 29))]),oP 31 (.bsl 127 4 [.t 30]),oP 32 (.app 127 4 (.t 27) (.t 31)),mV 3 32]) (sR [oP 7 (.mv (.c (.int .i64 1)))] (.reg [mV 33 3,oP 34 (.build [i0,.bool false,i0,i0] [(0,(1,.c (.int .i64 1)))]),oP 35 (.bsl 127 4 [.t 34]),oP 36 (.app 127 4 (.t 33) (.t 35)),mV 3 36])))) (.reg [mV 37 5,mV 38 7,bN 39 .add 37 38,mV 5 39]))))))) (sR [mV 40 3,mV 2 40] .ret)))))
theorem dg174:Dg Tryz.prog 174 Tryz.f174 ic174 [(.t 2)]:=⟨Tryz.func174,by kernel_rfl,by kernel_rfl⟩
theorem c174 (t:B) (hl:t.length≤2000000:=by omega):FnR Tryz.prog G 174 [.str t] (.sl 4 ((pieces t).map Pc.row)):=by
  refine mF dg174 Tryz.ntmps174 ?_
  simp only [ic174,go_sem]
  have hh:=held_le t
  with_reducible repeat' (first|refine br ?_ ?_<;>intro h e<;>(try simp only [e,go_sem])<;>clear e|rw [i64w (by omega)]|refine sd ?_<;>try simp only [go_sem]|(first|refine cr (c154 ..) ?_)<;>try simp only [go_sem]|fail)
  have hb:body t=t.take (t.length - held t):=rfl
  have hbl:=body_len t
  refine loopN (fun a:List Pc × Nat=>⟨getL [(0,.str t),(3,.own 1008 a.1.length),(4,.int .i64 (body t).length),(5,.int .i64 (a.2:Int))],getH [(1008,.arr 127 4 (a.1.map Pc.row))]⟩) (fun a=>(body t).length - a.2) (fun a=>a.1++pcs ((body t).drop a.2)=pieces t∧a.1.length≤a.2∧a.2≤(body t).length) ([],0)
    (leN [] (by simp only [go_sem];first|done|omega) (by simp only [go_sem];first|done|rfl) (by simp [getN]) (by simp only [go_sem])) ⟨by rw [pieces_eq];rfl,by simp⟩ ?_
  intro ⟨acc,i⟩ ⟨h1,h2,h3⟩
  simp only at h1 h2 h3
  simp only [go_sem]
  by_cases hr:(i:Int)<(body t).length
  · simp only [eq_true hr,go_sem]
    with_reducible repeat' (first|refine br ?_ ?_<;>intro h e<;>(try simp only [e,go_sem])<;>clear e|rw [i64w (by omega)]|refine sd ?_<;>try simp only [go_sem]|fail)
    have e1:(t.take (body t).length).drop i=(body t).drop i:=by rw [hb];simp
    have hne:(body t).drop i≠[]:=by intro h;have:=congrArg List.length h;simp at this;omega
    simp only [e1]
    refine callR (c185 _ hne (by simp;omega)) rfl rfl ?_
    simp only [go_sem]
    obtain ⟨p1,p2,p3⟩:=pc1_size hne
    have hpc:=pcs_cons hne
    simp only [List.length_drop] at p2
    have hdrop:((body t).drop i).drop (pc1 ((body t).drop i)).size=(body t).drop (i+(pc1 ((body t).drop i)).size):=by simp
    rw [hdrop] at hpc
    generalize hg:pc1 ((body t).drop i)=q at *
    have hgen:(q.size=(match nameAt ((body t).drop i) with|some e=>(name e).length|none=>1))∧q=(match nameAt ((body t).drop i) with|some e=>⟨(name e).length,true,e⟩|none=>⟨1,false,.zero⟩):=by
      rw [← hg];unfold pc1;cases nameAt ((body t).drop i)<;>exact ⟨rfl,rfl⟩
    have hnn:∀ e,nameAt ((body t).drop i)=some e→1≤(name e).length:=fun e _=>by simp [name]
    cases hn:nameAt ((body t).drop i) with
    | none =>
      rw [hn] at hgen
      obtain ⟨hq1,hq2⟩:=hgen
      simp only at hq1 hq2
      simp only [go_sem]
      with_reducible repeat' (first|refine br ?_ ?_<;>intro h e<;>(try simp only [e,go_sem])<;>clear e|rw [i64w (by omega)]|refine sd ?_<;>try simp only [go_sem]|fail)
      refine ⟨(acc++[q],i+1),by simp;omega,⟨?_,by simp;omega,by simp;omega⟩,leN [(1008,1036)] ?_ ?_ (by simp [getN]) (by simp only [go_sem])⟩
      · rw [← h1,hpc,hq1,List.append_assoc];rfl
      · simp only [go_sem];simp
      · simp only [go_sem];simp [Pc.row,hq2,E.zero]
    | some e =>
      rw [hn] at hgen
      obtain ⟨hq1,hq2⟩:=hgen
      have hnl:=hnn e hn
      simp only at hq1 hq2
      simp only [go_sem,Option.getD_some]
      with_reducible repeat' (first|refine br ?_ ?_<;>intro h e<;>(try simp only [e,go_sem])<;>clear e|rw [i64w (by omega)]|refine sd ?_<;>try simp only [go_sem]|fail)
      · refine ⟨(acc++[q],i+(name e).length),by simp;omega,⟨?_,by simp;omega,by simp;omega⟩,leN [(1008,1032)] ?_ ?_ (by simp [getN]) (by simp only [go_sem])⟩
        · rw [← h1,hpc,hq1,List.append_assoc];rfl
        · simp only [go_sem];simp
        · simp only [go_sem];simp [Pc.row,hq2]
      · omega
  · simp only [eq_false hr,go_sem]
    have:i=(body t).length:=by omega
    subst this
    rw [← h1,List.drop_length,pcs_nil,List.append_nil]
    exact ⟨rfl,rfl⟩
def ic156:IC:=sR [oP 2 (.mv (.c .nils))] (.seq (sR [mV 3 0,oP 4 (.call 44 [.t 3]),oP 5 (.un .not (.t 4))] (.cond (.t 5) (sR [oP 2 (.mv (.c .nils))] .ret) .skip)) (sR [mV 6 0,oP 7 (.call 46 [.t 6]),mV 2 7] .ret))
theorem dg156:Dg Tryz.prog 156 Tryz.f156 ic156 [(.t 2)]:=⟨Tryz.func156,by kernel_rfl,by kernel_rfl⟩
theorem c156 (t:B) (hl:t.length≤2000000:=by omega):FnR Tryz.prog G 156 [.str t] (.sl 4 ((textPieces t).map Pc.row)):=by
  refine mF dg156 Tryz.ntmps156 ?_
  simp only [ic156,go_sem]
  with_reducible repeat' (first|refine br ?_ ?_<;>intro h e<;>(try simp only [e,go_sem])<;>clear e|rw [i64w (by omega)]|refine sd ?_<;>try simp only [go_sem]|(first|refine cr (c44 ..) ?_|refine cr (c46 ..) ?_)<;>try simp only [go_sem]|fail)
  all_goals simp [textPieces, *]
def ic153:IC:=sR [oP 2 (.mv (.c .nils))] (.seq (sR [mV 3 0,oP 4 (.call 105 [.t 3]),oP 5 (.un .not (.t 4))] (.cond (.t 5) (sR [oP 6 (.bsl 127 4 []),mV 2 6] .ret) .skip)) (sR [mV 7 0,oP 8 (.call 174 [.t 7]),mV 2 8] .ret))
theorem dg153:Dg Tryz.prog 153 Tryz.f153 ic153 [(.t 2)]:=⟨Tryz.func153,by kernel_rfl,by kernel_rfl⟩
theorem c153 (t:B) (hl:t.length≤2000000:=by omega):FnR Tryz.prog G 153 [.str t] (.sl 4 ((textPieces t).map Pc.row)):=by
  refine mF dg153 Tryz.ntmps153 ?_
  simp only [ic153,go_sem]
  with_reducible repeat' (first|refine br ?_ ?_<;>intro h e<;>(try simp only [e,go_sem])<;>clear e|rw [i64w (by omega)]|refine sd ?_<;>try simp only [go_sem]|(first|refine cr (c105 ..) ?_|refine cr (c174 ..) ?_)<;>try simp only [go_sem]|fail)
  all_goals simp [textPieces, *]
theorem names_step {l:List Pc} {i:Nat} (h:i<l.length):namesOf (l.take (i+1))=namesOf (l.take i)++(if (l.getD i default).named then [(l.getD i default).e] else []):=by
  unfold namesOf
  rw [List.take_add_one,List.getElem?_eq_getElem h]
  simp only [Option.toList_some,List.filter_append,List.map_append,List.getD,List.getElem?_eq_getElem h,Option.getD_some]
  congr 1
  cases hn:l[i].named<;>simp [hn]
theorem names_le (l:List Pc):(namesOf l).length≤l.length:=by
  simp only [namesOf,List.length_map]
  exact List.length_filter_le _ _
def ic121:IC:=sR [oP 2 (.mv (.c .nils))] (sR [oP 6 (.bsl 39 2 []),mV 3 6] (.seq (sR [mV 7 0,oP 8 (.call 156 [.t 7]),oP 9 (.len (.t 8)),oP 10 (.mv (.c i0))] (.block 0 (.loop (sR [bN 11 .lss 10 9] (.seq (.cond (.t 11) .skip (.exit 0)) (.seq (.block 1 (sR [oP 12 (.iad 4 (.t 8) (.t 10)),lA 13 4 12,oP 5 (.alloc 127 [i0,.bool false,i0,i0]),nP (.sto 4 (.t 5) (.t 13))] (sR [fD 14 1 5,lD 15 1 14] (.cond (.t 15) (.reg [mV 16 3,fD 17 2 5,lA 18 2 17,oP 19 (.bsl 39 2 [.t 18]),oP 20 (.app 39 2 (.t 16) (.t 19)),mV 3 20]) .skip)))) (.reg [oP 21 (.bin .add (.t 10) (.c (.int .i64 1))),mV 10 21]))))))) (sR [mV 22 3,oP 23 (.call 157 [.t 22]),mV 2 23] .ret)))
theorem dg121:Dg Tryz.prog 121 Tryz.f121 ic121 [(.t 2)]:=⟨Tryz.func121,by kernel_rfl,by kernel_rfl⟩
theorem c121 (t:B) (hl:t.length≤2000000:=by omega):FnR Tryz.prog G 121 [.str t] (.sl 2 ((textNames t).map E.row)):=by
  refine mF dg121 Tryz.ntmps121 ?_
  simp only [ic121,go_sem]
  with_reducible repeat' (first|refine br ?_ ?_<;>intro h e<;>(try simp only [e,go_sem])<;>clear e|rw [i64w (by omega)]|refine sd ?_<;>try simp only [go_sem]|(first|refine cr (c156 ..) ?_)<;>try simp only [go_sem]|fail)
  have hl2:=textPieces_len t
  unfold textNames
  generalize hp:textPieces t=l at *
  refine loopN (fun i:Nat=>⟨getL [(3,.own 1006 (namesOf (l.take i)).length),(8,.sl 4 (l.map Pc.row)),(9,.int .i64 l.length),(10,.int .i64 (i:Int))],getH [(1006,.arr 39 2 ((namesOf (l.take i)).map E.row))]⟩) (fun i=>l.length - i) (fun i=>i≤l.length) 0 (leQ []) (Nat.zero_le _) ?_
  intro i hi
  simp only [go_sem]
  by_cases h:(i:Int)<l.length
  · simp only [eq_true h,go_sem]
    refine effG (by omega) ?_
    have hst:=names_step (show i<l.length by omega)
    have hle:=names_le (l.take i)
    simp only [List.length_take] at hle
    generalize hq:l.getD i default=q at hst ⊢
    simp only [go_sem]
    cases hn:q.named<;>simp only [hn,go_sem,Bool.false_eq_true] at hst ⊢
    · with_reducible repeat' (first|refine br ?_ ?_<;>intro h e<;>(try simp only [e,go_sem])<;>clear e|rw [i64w (by omega)]|refine sd ?_<;>try simp only [go_sem]|fail)
      refine ⟨i+1,by omega,by omega,leN [] ?_ ?_ (by simp [getN]) (by simp only [go_sem])⟩
      · simp only [go_sem,hst];omega
      · simp only [go_sem,hst]
    · with_reducible repeat' (first|refine br ?_ ?_<;>intro h e<;>(try simp only [e,go_sem])<;>clear e|rw [i64w (by omega)]|refine sd ?_<;>try simp only [go_sem]|fail)
      refine ⟨i+1,by omega,by omega,leN [(1006,1020)] ?_ ?_ (by simp [getN]) (by simp only [go_sem])⟩
      · simp only [go_sem,hst];simp
      · simp only [go_sem,hst];simp [E.row]
  · simp only [eq_false h,go_sem]
    have:i=l.length:=by omega
    subst this
    refine callF (c157 ((namesOf l).map E.row)) [1006] true (by simp only [go_sem];simp) (by simp only [List.mem_singleton];rintro c rfl;rfl) rfl (.inl rfl) ?_
    simp only [go_sem]
def ic164:IC:=sR [oP 2 (.mv (.c .nils))] (sR [oP 6 (.bsl 39 2 []),mV 3 6] (sR [mV 7 0,oP 8 (.call 153 [.t 7]),mV 4 8] (.seq (sR [oP 5 (.mv (.c i0))] (.block 0 (.loop (.seq (sR [mV 9 5,mV 10 4,oP 11 (.len (.t 10)),bN 12 .lss 9 11] (.cond (.t 12) .skip (.exit 0))) (.seq (.block 1 (sR [mV 15 4,mV 16 5,oP 17 (.iad 4 (.t 15) (.t 16)),fD 18 1 17,lD 19 1 18] (.cond (.t 19) (.reg [mV 20 3,mV 21 4,mV 22 5,oP 23 (.iad 4 (.t 21) (.t 22)),fD 24 2 23,lA 25 2 24,oP 26 (.bsl 39 2 [.t 25]),oP 27 (.app 39 2 (.t 20) (.t 26)),mV 3 27]) .skip))) (.reg [mV 13 5,oP 14 (.bin .add (.t 13) (.c (.int .i64 1))),mV 5 14])))))) (sR [mV 28 3,mV 2 28] .ret))))
theorem dg164:Dg Tryz.prog 164 Tryz.f164 ic164 [(.t 2)]:=⟨Tryz.func164,by kernel_rfl,by kernel_rfl⟩
theorem c164 (t:B) (hl:t.length≤2000000:=by omega):FnR Tryz.prog G 164 [.str t] (.sl 2 ((textNames t).map E.row)):=by
  refine mF dg164 Tryz.ntmps164 ?_
  simp only [ic164,go_sem]
  with_reducible repeat' (first|refine br ?_ ?_<;>intro h e<;>(try simp only [e,go_sem])<;>clear e|rw [i64w (by omega)]|refine sd ?_<;>try simp only [go_sem]|(first|refine cr (c153 ..) ?_)<;>try simp only [go_sem]|fail)
  have hl2:=textPieces_len t
  unfold textNames
  generalize hp:textPieces t=l at *
  refine loopN (fun i:Nat=>⟨getL [(3,.own 1006 (namesOf (l.take i)).length),(4,.sl 4 (l.map Pc.row)),(5,.int .i64 (i:Int))],getH [(1006,.arr 39 2 ((namesOf (l.take i)).map E.row))]⟩) (fun i=>l.length - i) (fun i=>i≤l.length) 0 (leQ []) (Nat.zero_le _) ?_
  intro i hi
  simp only [go_sem]
  by_cases h:(i:Int)<l.length
  · simp only [eq_true h,go_sem]
    refine effG (by omega) ?_
    have hst:=names_step (show i<l.length by omega)
    have hle:=names_le (l.take i)
    simp only [List.length_take] at hle
    generalize hq:l.getD i default=q at hst ⊢
    simp only [go_sem]
    cases hn:q.named<;>simp only [hn,go_sem,Bool.false_eq_true] at hst ⊢
    · with_reducible repeat' (first|refine br ?_ ?_<;>intro h e<;>(try simp only [e,go_sem])<;>clear e|rw [i64w (by omega)]|refine sd ?_<;>try simp only [go_sem]|fail)
      refine ⟨i+1,by omega,by omega,leN [] ?_ ?_ (by simp [getN]) (by simp only [go_sem])⟩
      · simp only [go_sem,hst];omega
      · simp only [go_sem,hst]
    · with_reducible repeat' (first|refine br ?_ ?_<;>intro h e<;>(try simp only [e,go_sem])<;>clear e|rw [i64w (by omega)]|refine sd ?_<;>try simp only [go_sem]|fail)
      simp only [hq,go_sem]
      with_reducible repeat' (first|refine br ?_ ?_<;>intro h e<;>(try simp only [e,go_sem])<;>clear e|rw [i64w (by omega)]|refine sd ?_<;>try simp only [go_sem]|fail)
      refine ⟨i+1,by omega,by omega,leN [(1006,1027)] ?_ ?_ (by simp [getN]) (by simp only [go_sem])⟩
      · simp only [go_sem,hst];simp
      · simp only [go_sem,hst];simp [E.row]
  · simp only [eq_false h,go_sem]
    have:i=l.length:=by omega
    subst this
    simp only [List.take_length]
    exact ⟨trivial,trivial⟩
def ic92:IC:=sR [oP 3 (.box 39 (.t 1)),oP 4 (.mv (.c i0))] (.seq (sR [mV 7 0,oP 8 (.len (.t 7)),oP 9 (.mv (.c i0))] (.block 0 (.loop (sR [bN 10 .lss 9 8] (.seq (.cond (.t 10) .skip (.exit 0)) (.seq (.block 1 (sR [oP 11 (.iad 3 (.t 7) (.t 9)),lA 12 3 11,oP 6 (.alloc 64 [i0,i0,i0]),nP (.sto 3 (.t 6) (.t 12))] (sR [fD 13 1 6,lA 14 2 13,lA 15 2 3,oP 16 (.eqs false [.i,.i] (.t 14) (.t 15))] (.cond (.t 16) (sR [fD 17 0 6,lD 18 1 17,mV 4 18] .ret) .skip)))) (.reg [oP 19 (.bin .add (.t 9) (.c (.int .i64 1))),mV 9 19]))))))) (sR [oP 4 (.mv (.c i0))] .ret))
theorem dg92:Dg Tryz.prog 92 Tryz.f92 ic92 [(.t 4)]:=⟨Tryz.func92,by kernel_rfl,by kernel_rfl⟩
theorem c92 (m:List Pair) (a p:Int) (hl:m.length≤2000000:=by omega):FnR Tryz.prog G 92 [.sl 3 (m.map Pair.row),.agg [.int .i64 a,.int .i64 p]] (.int .i64 (portOf m ⟨a,p⟩)):=by
  refine mF dg92 Tryz.ntmps92 ?_
  simp only [ic92,go_sem]
  refine loopN (fun i:Nat=>⟨getL [(3,.pv 1003 0),(7,.sl 3 (m.map Pair.row)),(8,.int .i64 m.length),(9,.int .i64 (i:Int))],getH [(1003,.var 39 [.int .i64 a,.int .i64 p])]⟩) (fun i=>m.length - i) (fun i=>i≤m.length∧portOf m ⟨a,p⟩=portOf (m.drop i) ⟨a,p⟩) 0 (leQ []) ⟨Nat.zero_le _,by simp⟩ ?_
  intro i ⟨hi,ha⟩
  simp only [go_sem]
  by_cases h:(i:Int)<m.length
  · simp only [eq_true h,go_sem]
    refine effG (by omega) ?_
    have hil:i<m.length:=by omega
    rw [List.drop_eq_getElem_cons hil,portOf_cons] at ha
    have hg:m.getD i default=m[i]:=by simp [List.getD,hil]
    simp only [hg,go_sem,E.ext_iff']
    with_reducible repeat' (first|refine br ?_ ?_<;>intro h e<;>(try simp only [e,go_sem])<;>clear e|rw [i64w (by omega)]|refine sd ?_<;>try simp only [go_sem]|fail)
    · rw [ha,if_pos h]
    · refine ⟨i+1,by omega,⟨by omega,by rw [ha,if_neg h]⟩,(leQ [])⟩
  · simp only [eq_false h,go_sem]
    have:i=m.length:=by omega
    subst this
    rw [ha,List.drop_length,portOf_nil]
def ic139:IC:=sR [oP 4 (.alloc 39 [i0,i0]),oP 5 (.mv (.c (.bool false)))] (.seq (sR [mV 8 0,oP 9 (.len (.t 8)),oP 10 (.mv (.c i0))] (.block 0 (.loop (sR [bN 11 .lss 10 9] (.seq (.cond (.t 11) .skip (.exit 0)) (.seq (.block 1 (sR [oP 12 (.iad 3 (.t 8) (.t 10)),lA 13 3 12,oP 7 (.alloc 64 [i0,i0,i0]),nP (.sto 3 (.t 7) (.t 13))] (sR [fD 14 0 7,lD 15 1 14,mV 16 1,bN 17 .eql 15 16] (.cond (.t 17) (sR [fD 18 1 7,lA 19 2 18,nP (.sto 2 (.t 4) (.t 19)),oP 5 (.mv (.c (.bool true)))] .ret) .skip)))) (.reg [oP 20 (.bin .add (.t 10) (.c (.int .i64 1))),mV 10 20]))))))) (sR [oP 21 (.build [i0,i0] []),nP (.sto 2 (.t 4) (.t 21)),oP 5 (.mv (.c (.bool false)))] .ret))
theorem dg139:Dg Tryz.prog 139 Tryz.f139 ic139 [(.cell 4 2 true),(.t 5)]:=⟨Tryz.func139,by kernel_rfl,by kernel_rfl⟩
theorem c139 (m:List Pair) (n:Int) (hl:m.length≤2000000:=by omega):FnR Tryz.prog G 139 [.sl 3 (m.map Pair.row),.int .i64 n] (rdV (insideOf m n)):=by
  refine mF dg139 Tryz.ntmps139 ?_
  simp only [ic139,go_sem]
  refine loopN (fun i:Nat=>⟨getL [(1,.int .i64 n),(4,.pv 1004 0),(8,.sl 3 (m.map Pair.row)),(9,.int .i64 m.length),(10,.int .i64 (i:Int))],getH [(1004,.var 39 [.int .i64 0,.int .i64 0])]⟩) (fun i=>m.length - i) (fun i=>i≤m.length∧insideOf m n=insideOf (m.drop i) n) 0 (leQ []) ⟨Nat.zero_le _,by simp⟩ ?_
  intro i ⟨hi,ha⟩
  simp only [go_sem]
  by_cases h:(i:Int)<m.length
  · simp only [eq_true h,go_sem]
    refine effG (by omega) ?_
    have hil:i<m.length:=by omega
    rw [List.drop_eq_getElem_cons hil,insideOf_cons] at ha
    have hg:m.getD i default=m[i]:=by simp [List.getD,hil]
    simp only [hg,go_sem]
    with_reducible repeat' (first|refine br ?_ ?_<;>intro h e<;>(try simp only [e,go_sem])<;>clear e|rw [i64w (by omega)]|refine sd ?_<;>try simp only [go_sem]|fail)
    · rw [ha,if_pos h];exact ⟨⟨rfl,rfl⟩,rfl⟩
    · refine ⟨i+1,by omega,⟨by omega,by rw [ha,if_neg h]⟩,(leQ [])⟩
  · simp only [eq_false h,go_sem]
    have:i=m.length:=by omega
    subst this
    rw [ha,List.drop_length]
    exact ⟨⟨rfl,rfl⟩,rfl⟩
theorem okPair_i {m:List Pair} {i:Nat} (h:i<m.length):okPair m i=(decide (m[i].port=10+(i:Int)) && m[i].ins.inside && !(m.take i).any fun q=>decide (q.ins=m[i].ins)):=by
  simp [okPair,h]
theorem mapOk_bad {m:List Pair} {i:Nat} (h:i<m.length) (hb:okPair m i=false):mapOk m=false:=by
  have:(List.range m.length).all (okPair m)=false:=by
    rw [List.all_eq_false]
    exact ⟨i,List.mem_range.2 h,by simp [hb]⟩
  simp [mapOk,this]
def ic43:IC:=sR [oP 2 (.mv (.c (.bool false)))] (.seq (sR [mV 5 0,oP 6 (.len (.t 5)),oP 7 (.mv (.c i0))] (.block 0 (.loop (sR [bN 8 .lss 7 6] (.seq (.cond (.t 8) .skip (.exit 0)) (.seq (.block 1 (sR [mV 9 7,oP 10 (.iad 3 (.t 5) (.t 7)),lA 11 3 10,oP 4 (.alloc 64 [i0,i0,i0]),mV 3 9,nP (.sto 3 (.t 4) (.t 11))] (.seq (.drw [0,1,0,4,15,31,63,127,255,511,1023,2047,4095,4095,16383,4095,36863,131071,262143,524287] [(0,fD 12 0 4),(1,lD 13 1 12),(2,mV 14 3),(3,oP 15 (.bin .add (.c (.int .i64 10)) (.t 14))),(4,bN 16 .neq 13 15),(5,mV 17 16),(6,⟨some 18,some (17,false),.fad 1 (.t 4)⟩),(7,⟨some 19,some (17,false),.ld 2 true (.t 18)⟩),(8,⟨some 20,some (17,false),.call 91 [.t 19]⟩),(9,⟨some 21,some (17,false),.un .not (.t 20)⟩),(10,oP 22 (.pick (.t 17) (.c (.bool true)) (.t 21))),(11,mV 23 22),(12,⟨some 24,some (23,false),.mv (.t 0)⟩),(13,⟨some 25,some (23,false),.mv (.t 3)⟩),(14,⟨some 26,some (23,false),.slv 3 (.t 24) none (some (.t 25))⟩),(15,⟨some 27,some (23,false),.fad 1 (.t 4)⟩),(16,⟨some 28,some (23,false),.ld 2 true (.t 27)⟩),(17,⟨some 29,some (23,false),.call 92 [.t 26,.t 28]⟩),(18,⟨some 30,some (23,false),.bin .neq (.t 29) (.c i0)⟩),(19,oP 31 (.pick (.t 23) (.c (.bool true)) (.t 30)))]) (.cond (.t 31) (sR [oP 2 (.mv (.c (.bool false)))] .ret) .skip)))) (.reg [oP 32 (.bin .add (.t 7) (.c (.int .i64 1))),mV 7 32]))))))) (sR [mV 33 0,oP 34 (.len (.t 33)),oP 35 (.bin .leq (.t 34) (.c (.int .i64 8))),mV 2 35] .ret))
theorem dg43:Dg Tryz.prog 43 Tryz.f43 ic43 [(.t 2)]:=⟨Tryz.func43,by kernel_rfl,by kernel_rfl⟩
theorem c43 (m:List Pair) (hl:m.length≤2000000:=by omega):FnR Tryz.prog G 43 [.sl 3 (m.map Pair.row)] (.bool (mapOk m)):=by
  refine mF dg43 Tryz.ntmps43 ?_
  simp only [ic43,go_sem]
  refine loopN (fun i:Nat=>⟨getL [(0,.sl 3 (m.map Pair.row)),(5,.sl 3 (m.map Pair.row)),(6,.int .i64 m.length),(7,.int .i64 (i:Int))],getH []⟩) (fun i=>m.length - i) (fun i=>i≤m.length∧∀ j,j<i→okPair m j=true) 0 (leQ []) ⟨Nat.zero_le _,by omega⟩ ?_
  intro i ⟨hi,ha⟩
  simp only [go_sem]
  by_cases h:(i:Int)<m.length
  · simp only [eq_true h,go_sem]
    refine effG (by omega) ?_
    have hil:i<m.length:=by omega
    have hg:m.getD i default=m[i]:=by simp [List.getD,hil]
    have hp:∀ p∈m.take i,p.port≠0:=fun p hp=>by
      obtain ⟨j,hj⟩:=List.getElem?_of_mem hp
      rw [List.getElem?_take] at hj
      split at hj
      · rename_i hji
        have:=(okPair_port (ha j hji) hj).1
        omega
      · cases hj
    have hok:=okPair_i hil
    have hne:=portOf_ne (e:=m[i].ins) hp
    have hlt:(m.take i).length≤2000000:=by simp;omega
    simp only [hg,go_sem]
    with_reducible repeat' (first|refine br ?_ ?_<;>intro h e<;>(try simp only [e,go_sem])<;>clear e|rw [i64w (by omega)]|refine sd ?_<;>try simp only [go_sem]|(first|refine cr (c91 ..) ?_|refine cr (c92 ..) ?_)<;>try simp only [go_sem]|fail)
    all_goals (have hw:IntKind.i64.wrap (10+(i:Int))=10+i:=i64w (by omega))
    all_goals (try simp only [hw] at h)
    · exact mapOk_bad hil (by rw [hok];simp at h;simp [h])
    · exact mapOk_bad hil (by rw [hok];have h':m[i].ins.inside=false:=by simpa using h
                              simp [h'])
    · rename_i h1 h2
      try simp only [hw] at h1
      refine ⟨i+1,by omega,⟨by omega,fun j hj=>?_⟩,(leQ [])⟩
      rcases Nat.lt_or_ge j i with hji|hji
      · exact ha j hji
      · obtain rfl:j=i:=by omega
        rw [hok]
        have h3:((m.take j).any fun q=>decide (q.ins=m[j].ins))=false:=by
          cases hb:(m.take j).any fun q=>decide (q.ins=m[j].ins) with
          | false=>rfl
          | true=>exact absurd h (hne.2 hb)
        have h2':m[j].ins.inside=true:=by simpa using h2
        have h1':m[j].port=10+(j:Int):=by simpa using h1
        rw [h3,h2'];simp [h1']
    · exact mapOk_bad hil (by rw [hok,hne.1 h];simp)
  · simp only [eq_false h,go_sem]
    have:i=m.length:=by omega
    subst this
    have:(List.range m.length).all (okPair m)=true:=by
      rw [List.all_eq_true];intro j hj;exact ha j (List.mem_range.1 hj)
    simp only [mapOk,this,Bool.true_and]
    apply decide_eq_decide.2;omega
def ic126:IC:=sR [oP 2 (.mv (.c .nils))] (sR [mV 3 0,oP 4 (.call 163 [.t 3]),oP 5 (.call 162 [.t 4]),mV 2 5] .ret)
theorem dg126:Dg Tryz.prog 126 Tryz.f126 ic126 [(.t 2)]:=⟨Tryz.func126,by kernel_rfl,by kernel_rfl⟩
theorem c126 (rows:List (List V)) (hr:rows.length≤2000000:=by omega):FnP Tryz.prog G 126 0 [] [.sl 3 rows] (fun r o=>r=.own 0 rows.length∧o=[.arr 64 3 rows]):=by
  refine mP dg126 Tryz.ntmps126 ⟨_,_,rfl,rfl⟩ ?_
  simp only [ic126,go_sem]
  refine callO (c163 rows hr) [] 4 1 (by simp only [go_sem];first|done|simp) (by simp) (by rintro _ _ ⟨rfl,rfl⟩;simp) (by intro i hi;obtain rfl:i=0:=(by omega);simp only [go_sem]) ?_
  rintro _ _ ⟨rfl,rfl⟩
  simp only [go_sem]
  refine callU (o162 rows rows.length rfl) [100400] [] 5 1 (by simp only [go_sem];first|done|simp) (by simp only [go_sem];first|done|simp) (by simp) (by simp) (by rintro _ _ ⟨rfl,rfl⟩;simp) (by intro i hi;obtain rfl:i=0:=(by omega);simp only [go_sem]) ?_
  rintro _ _ ⟨rfl,rfl⟩
  simp only [go_sem]
  exact retN (.own 0 rows.length) [.arr 64 3 rows] [(0,100500)] (by simp only [go_sem];first|done|simp) ⟨rfl,rfl⟩ (by simp only [go_sem]) (by simp [argH]) (by simp only [go_sem])
def ic137:IC:=sR [oP 3 (.box 39 (.t 1)),oP 4 (.mv (.c .nils)),oP 5 (.mv (.c i0)),oP 6 (.mv (.c (.bool false)))] (sR [mV 10 0,oP 11 (.call 126 [.t 10]),mV 7 11] (.seq (sR [mV 12 0,lA 13 2 3,oP 14 (.call 92 [.t 12,.t 13]),mV 8 14] (sR [mV 15 8,oP 16 (.bin .neq (.t 15) (.c i0))] (.cond (.t 16) (sR [mV 17 7,mV 18 8,mV 4 17,mV 5 18,oP 6 (.mv (.c (.bool true)))] .ret) .skip))) (sR [mV 19 0,oP 20 (.len (.t 19)),oP 21 (.bin .add (.c (.int .i64 10)) (.t 20)),mV 9 21] (.seq (sR [mV 22 9,oP 23 (.bin .gtr (.t 22) (.c (.int .i64 17)))] (.cond (.t 23) (sR [mV 24 7,mV 4 24,oP 5 (.mv (.c i0)),oP 6 (.mv (.c (.bool false)))] .ret) .skip)) (sR [mV 25 7,mV 26 9,lA 27 2 3,oP 28 (.build [i0,i0,i0] [(0,(1,.t 26)),(1,(2,.t 27))]),oP 29 (.bsl 64 3 [.t 28]),oP 30 (.app 64 3 (.t 25) (.t 29)),oP 31 (.call 162 [.t 30]),mV 32 9,mV 4 31,mV 5 32,oP 6 (.mv (.c (.bool true)))] .ret)))))
theorem dg137:Dg Tryz.prog 137 Tryz.f137 ic137 [(.t 4),(.t 5),(.t 6)]:=⟨Tryz.func137,by kernel_rfl,by kernel_rfl⟩
theorem c137 (m:List Pair) (a p:Int) (hp:PortsOk m) (hl:m.length≤1000000):FnR Tryz.prog G 137 [.sl 3 (m.map Pair.row),.agg [.int .i64 a,.int .i64 p]]
    (.tup [.sl 3 ((mOut m ⟨a,p⟩).1.map Pair.row),.int .i64 (mOut m ⟨a,p⟩).2.1,.bool (mOut m ⟨a,p⟩).2.2]):=by
  refine mF dg137 Tryz.ntmps137 ?_
  have hp0:∀ p∈m,p.port≠0:=fun p h=>(hp p h).1
  have e1:=mOut_found (e:=⟨a,p⟩) hp0
  have e2:=mOut_none (e:=⟨a,p⟩) hp0
  simp only [ic137,go_sem]
  refine callO (c126 (m.map Pair.row) (by simp;omega)) [] 11 1 (by simp only [go_sem];first|done|simp) (by simp) (by rintro _ _ ⟨rfl,rfl⟩;simp) (by intro i hi;obtain rfl:i=0:=(by omega);simp only [go_sem]) ?_
  rintro _ _ ⟨rfl,rfl⟩
  simp only [go_sem]
  with_reducible repeat' (first|refine br ?_ ?_<;>intro h e<;>(try simp only [e,go_sem])<;>clear e|rw [i64w (by omega)]|refine sd ?_<;>try simp only [go_sem]|(first|refine cr (c92 ..) ?_)<;>try simp only [go_sem]|fail)
  all_goals (have hw:IntKind.i64.wrap (10+(m.length:Int))=10+m.length:=i64w (by omega))
  all_goals (try simp only [hw] at h)
  · rename_i h0
    rw [e2 h0,if_pos (by omega)];exact ⟨⟨rfl,rfl⟩,rfl,rfl⟩
  · rename_i h0
    rw [e2 h0,if_neg (by omega)]
    refine callF (c162 ((m++([⟨10+(m.length:Int),⟨a,p⟩⟩]:List Pair)).map Pair.row)) [1030] true (by simp only [go_sem];first|done|simp [E.row,Pc.row,Pair.row,Part.row,Flw.row,Pk.row,Conv.row]) (by simp only [List.mem_singleton];rintro c rfl;rfl) rfl (.inl rfl) ?_
    simp only [go_sem]
  · rw [e1 h];exact ⟨⟨rfl,rfl⟩,rfl,rfl⟩
def ic94:IC:=sR [oP 5 (.box 127 (.t 1)),oP 8 (.mv (.c .nils)),oP 9 (.mv (.c s0))] (.seq (.block 0 (sR [fD 16 1 5,lD 17 1 16,mV 18 17,⟨some 19,some (18,true),.mv (.t 3)⟩,oP 20 (.pick (.t 18) (.t 19) (.c (.bool false))),mV 21 20,⟨some 22,some (21,true),.fad 2 (.t 5)⟩,⟨some 23,some (21,true),.ld 2 true (.t 22)⟩,⟨some 24,some (21,true),.call 91 [.t 23]⟩,oP 25 (.pick (.t 21) (.t 24) (.c (.bool false))),mV 15 25] (.cond (.t 15) (sR [mV 27 0,fD 28 2 5,lA 29 2 28,oP 30 (.call 137 [.t 27,.t 29]),mV 26 30,eX 31 26 0,eX 32 26 1,eX 33 26 2,mV 10 31,mV 11 32,mV 12 33] (sR [mV 34 12] (.cond (.t 34) (sR [mV 35 10,mV 36 11,oP 37 (.build [i0,i0] [(0,(1,.c (.int .i64 9))),(1,(1,.t 36))]),oP 38 (.call 138 [.t 37]),mV 8 35,mV 9 38] .ret) .skip))) (sR [fD 40 1 5,lD 41 1 40,mV 42 41,⟨some 43,some (42,true),.mv (.t 3)⟩,⟨some 44,some (42,true),.un .not (.t 43)⟩,oP 45 (.pick (.t 42) (.t 44) (.c (.bool false))),mV 46 45,⟨some 47,some (46,true),.fad 2 (.t 5)⟩,⟨some 48,some (46,true),.ld 2 true (.t 47)⟩,⟨some 49,some (46,true),.call 115 [.t 48]⟩,oP 50 (.pick (.t 46) (.t 49) (.c (.bool false))),mV 39 50] (.cond (.t 39) (sR [mV 52 0,fD 53 2 5,fD 54 1 53,lD 55 1 54,oP 56 (.call 139 [.t 52,.t 55]),mV 51 56,eX 57 51 0,eX 58 51 1,oP 13 (.alloc 39 [i0,i0]),nP (.sto 2 (.t 13) (.t 57)),mV 14 58] (sR [mV 59 14] (.cond (.t 59) (sR [mV 60 0,lA 61 2 13,oP 62 (.call 138 [.t 61]),mV 8 60,mV 9 62] .ret) .skip))) .skip))))) (sR [mV 63 0,mV 64 2,mV 8 63,mV 9 64] .ret))
theorem dg94:Dg Tryz.prog 94 Tryz.f94 ic94 [(.t 8),(.t 9)]:=⟨Tryz.func94,by kernel_rfl,by kernel_rfl⟩
theorem c94 (m:List Pair) (n:Nat) (b:Bool) (a p:Int) (s:B) (out:Bool) (hp:PortsOk m) (hl:m.length≤1000000):FnR Tryz.prog G 94 [.sl 3 (m.map Pair.row),.agg [.int .i64 n,.bool b,.int .i64 a,.int .i64 p],.str s,.bool out]
    (.tup [.sl 3 ((turn m ⟨n,b,⟨a,p⟩⟩ s out).1.map Pair.row),.str (turn m ⟨n,b,⟨a,p⟩⟩ s out).2]):=by
  refine mF dg94 Tryz.ntmps94 ?_
  simp only [ic94,go_sem]
  cases b<;>cases out<;>simp only [go_sem]
  all_goals
    repeat' (first
      | (refine callR (c91 ..) rfl rfl ?_;simp only [go_sem])
      | (refine callR (c115 ..) rfl rfl ?_;simp only [go_sem])
      | (with_reducible refine cB (fun h=>?_) (fun h=>?_)<;>simp only [h,go_sem])
      | (refine callR (c137 m a p hp hl) rfl rfl ?_;simp only [go_sem])
      | (refine callR (c139 m p) rfl rfl ?_;simp only [go_sem])
      | (refine callR (c138 ..) rfl rfl ?_;simp only [go_sem]))
  · simp [turn,pieceIn]
  · simp [turn,pieceOut]
  · rename_i h0
    obtain ⟨e,he⟩:=Option.isSome_iff_exists.1 h
    simp [turn,pieceIn,h0,he]
  · rename_i h0
    have:insideOf m p=none:=by simpa using h
    simp [turn,pieceIn,h0,this]
  · simp [turn,pieceIn,h]
  · rename_i h0
    rcases hmo:mOut m ⟨a,p⟩ with ⟨x,port,ok⟩
    rw [hmo] at h
    simp only at h
    subst h
    simp [turn,pieceOut,h0,hmo]
  · rename_i h0
    rcases hmo:mOut m ⟨a,p⟩ with ⟨x,port,ok⟩
    rw [hmo] at h
    simp only at h
    subst h
    simp [turn,pieceOut,h0,hmo]
  · simp [turn,pieceOut,h]
def ic149:IC:=sR [oP 2 (.mv (.c .nils))] (sR [oP 3 (.bsl 64 3 []),mV 4 0,oP 5 (.app 64 3 (.t 3) (.t 4)),mV 2 5] .ret)
theorem dg149:Dg Tryz.prog 149 Tryz.f149 ic149 [(.t 2)]:=⟨Tryz.func149,by kernel_rfl,by kernel_rfl⟩
theorem c149 (rows:List (List V)) (hr:rows.length≤2000000):FnP Tryz.prog G 149 0 [] [.sl 3 rows] (fun r o=>r=.own 0 rows.length∧o=[.arr 64 3 rows]):=by
  refine mP dg149 Tryz.ntmps149 ⟨_,_,rfl,rfl⟩ ?_
  simp only [ic149,go_sem]
  with_reducible repeat' (first|refine br ?_ ?_<;>intro h e<;>(try simp only [e,go_sem])<;>clear e|rw [i64w (by omega)]|refine sd ?_<;>try simp only [go_sem]|fail)
  exact retN (.own 0 rows.length) [.arr 64 3 rows] [(0,1005)] (by simp only [go_sem];first|done|simp) ⟨rfl,rfl⟩ (by simp only [go_sem]) (by simp [argH]) (by simp only [go_sem])
def ic195:IC:=sR [oP 4 (.alloc 39 [i0,i0]),oP 5 (.mv (.c (.bool false)))] (sR [mV 7 1,oP 8 (.bin .sub (.t 7) (.c (.int .i64 10))),mV 6 8] (.seq (sR [mV 9 6,mV 10 0,oP 11 (.len (.t 10)),oP 12 (.bin .sub (.t 11) (.c (.int .i64 1))),oP 13 (.call 63 [.t 9,.c i0,.t 12]),oP 14 (.un .not (.t 13))] (.cond (.t 14) (sR [oP 15 (.build [i0,i0] []),nP (.sto 2 (.t 4) (.t 15)),oP 5 (.mv (.c (.bool false)))] .ret) .skip)) (sR [mV 16 0,mV 17 6,oP 18 (.iad 3 (.t 16) (.t 17)),fD 19 1 18,lA 20 2 19,nP (.sto 2 (.t 4) (.t 20)),oP 5 (.mv (.c (.bool true)))] .ret)))
theorem dg195:Dg Tryz.prog 195 Tryz.f195 ic195 [(.cell 4 2 true),(.t 5)]:=⟨Tryz.func195,by kernel_rfl,by kernel_rfl⟩
theorem c195 (m:List Pair) (n:Int) (hm:mapOk m=true) (hn : -1000000≤n∧n≤1000000):FnR Tryz.prog G 195 [.sl 3 (m.map Pair.row),.int .i64 n] (rdV (insideOf m n)):=by
  refine mF dg195 Tryz.ntmps195 ?_
  obtain ⟨hp,hl⟩:=mapOk_ports hm
  simp only [ic195,go_sem]
  have hat:=insideOf_at hm n
  with_reducible repeat' (first|refine br ?_ ?_<;>intro h e<;>(try simp only [e,go_sem])<;>clear e|rw [i64w (by omega)]|refine sd ?_<;>try simp only [go_sem]|(first|refine cr (c63 ..) ?_)<;>try simp only [go_sem]|fail)
  · rw [M.within_iff] at h
    rw [dif_pos (by omega)] at hat
    with_reducible repeat' (first|refine br ?_ ?_<;>intro h e<;>(try simp only [e,go_sem])<;>clear e|rw [i64w (by omega)]|refine sd ?_<;>try simp only [go_sem]|fail)
    have hg:m.getD (n - 10).toNat default=m[(n - 10).toNat]'(by omega):=by simp [List.getD,show (n - 10).toNat<m.length by omega]
    simp only [hg,hat,go_sem]
    exact ⟨⟨rfl,rfl⟩,rfl⟩
  · have:¬ (0≤n - 10∧n - 10<m.length):=fun hc=>by
      have:within (n - 10) 0 (m.length - 1)=true:=by rw [M.within_iff];omega
      rw [h] at this;cases this
    rw [dif_neg this] at hat
    rw [hat]
    exact ⟨⟨rfl,rfl⟩,rfl⟩
def ic204:IC:=sR [oP 4 (.box 127 (.t 1)),oP 6 (.mv (.c s0))] (.seq (sR [fD 9 1 4,lD 10 1 9,oP 11 (.un .not (.t 10)),mV 12 11,⟨some 13,some (12,false),.fad 2 (.t 4)⟩,⟨some 14,some (12,false),.ld 2 true (.t 13)⟩,⟨some 15,some (12,false),.call 133 [.t 14]⟩,⟨some 16,some (12,false),.un .not (.t 15)⟩,oP 17 (.pick (.t 12) (.c (.bool true)) (.t 16))] (.cond (.t 17) (sR [mV 18 2,mV 6 18] .ret) .skip)) (sR [mV 20 0,fD 21 2 4,fD 22 1 21,lD 23 1 22,oP 24 (.call 195 [.t 20,.t 23]),mV 19 24,eX 25 19 0,eX 26 19 1,oP 7 (.alloc 39 [i0,i0]),nP (.sto 2 (.t 7) (.t 25)),mV 8 26] (.seq (sR [mV 27 8,oP 28 (.un .not (.t 27))] (.cond (.t 28) (sR [mV 29 2,mV 6 29] .ret) .skip)) (sR [lA 30 2 7,oP 31 (.call 148 [.t 30]),oP 32 (.bin .add (.c (.str [64])) (.t 31)),oP 33 (.bin .add (.t 32) (.c (.str [59]))),mV 6 33] .ret))))
theorem dg204:Dg Tryz.prog 204 Tryz.f204 ic204 [(.t 6)]:=⟨Tryz.func204,by kernel_rfl,by kernel_rfl⟩
theorem c204 (m:List Pair) (n:Nat) (b:Bool) (a p:Int) (s:B) (hm:mapOk m=true):FnR Tryz.prog G 204 [.sl 3 (m.map Pair.row),.agg [.int .i64 n,.bool b,.int .i64 a,.int .i64 p],.str s] (.str (pieceIn m ⟨n,b,⟨a,p⟩⟩ s)):=by
  refine mF dg204 Tryz.ntmps204 ?_
  simp only [ic204,go_sem]
  cases b<;>simp only [go_sem]
  · simp [pieceIn]
  refine callR (c133 ..) rfl rfl ?_
  simp only [go_sem]
  cases hd:E.door ⟨a,p⟩<;>simp only [go_sem]
  · simp [pieceIn,hd]
  have hd':=hd
  rw [E.door_iff] at hd
  simp only at hd
  refine callR (c195 m p hm (by omega)) rfl rfl ?_
  simp only [go_sem]
  cases hi:insideOf m p with
  | none=>simp only [go_sem,Option.isSome_none];simp [pieceIn,hd',hi]
  | some e =>
    have:=text_le (e:=e)
    simp only [go_sem,Option.isSome_some,Option.getD_some]
    refine callR (c148 e.a e.p) rfl rfl ?_
    simp only [go_sem]
    repeat' (with_reducible refine pureG (by simp;omega) ?_;try simp only [go_sem])
    simp [pieceIn,hd',hi,name]
def outP (m:List Pair) (e:E) (r:V) (o:List Hs):Prop :=
  ((mOut m e).1=m∧r=.tup [.own 0 m.length,.int .i64 (mOut m e).2.1,.bool (mOut m e).2.2]∧o=[.arr 64 3 (m.map Pair.row)]) ∨
  (r=.tup [.own 1 (mOut m e).1.length,.int .i64 (mOut m e).2.1,.bool (mOut m e).2.2]∧o=[.dead,.arr 64 3 ((mOut m e).1.map Pair.row)]∧(mOut m e).2.2=true∧(mOut m e).1≠m)
def ic145:IC:=sR [oP 3 (.box 39 (.t 1)),oP 4 (.mv (.c .nils)),oP 5 (.mv (.c i0)),oP 6 (.mv (.c (.bool false)))] (.seq (sR [oP 7 (.mv (.c i0))] (.block 0 (.loop (.seq (sR [mV 9 7,mV 10 0,oP 11 (.len (.t 10)),bN 12 .lss 9 11] (.cond (.t 12) .skip (.exit 0))) (.seq (.block 1 (.seq (.drw [0,0,3,7,15,0,63] [(0,mV 15 0),(1,mV 16 7),(2,oP 17 (.iad 3 (.t 15) (.t 16))),(3,fD 18 1 17),(4,lA 19 2 18),(5,lA 20 2 3),(6,oP 21 (.eqs false [.i,.i] (.t 19) (.t 20)))]) (.cond (.t 21) (.seq (.drw [0,0,0,6,14,30,1,127,255] [(0,mV 22 0),(1,mV 23 0),(2,mV 24 7),(3,oP 25 (.iad 3 (.t 23) (.t 24))),(4,fD 26 0 25),(5,lD 27 1 26),(6,mV 4 22),(7,mV 5 27),(8,oP 6 (.mv (.c (.bool true))))]) .ret) .skip))) (.reg [mV 13 7,oP 14 (.bin .add (.t 13) (.c (.int .i64 1))),mV 7 14])))))) (.seq (sR [mV 28 0,oP 29 (.len (.t 28)),oP 30 (.bin .gtr (.t 29) (.c (.int .i64 7)))] (.cond (.t 30) (sR [mV 31 0,mV 4 31,oP 5 (.mv (.c i0)),oP 6 (.mv (.c (.bool false)))] .ret) .skip)) (sR [mV 32 0,oP 33 (.len (.t 32)),oP 34 (.bin .add (.c (.int .i64 10)) (.t 33)),mV 8 34] (sR [mV 35 0,mV 36 8,lA 37 2 3,oP 38 (.build [i0,i0,i0] [(0,(1,.t 36)),(1,(2,.t 37))]),oP 39 (.bsl 64 3 [.t 38]),oP 40 (.app 64 3 (.t 35) (.t 39)),mV 41 8,mV 4 40,mV 5 41,oP 6 (.mv (.c (.bool true)))] .ret))))
theorem dg145:Dg Tryz.prog 145 Tryz.f145 ic145 [(.t 4),(.t 5),(.t 6)]:=⟨Tryz.func145,by kernel_rfl,by kernel_rfl⟩
theorem c145 (m:List Pair) (a p:Int) (hp:PortsOk m) (hl:m.length≤1000000):FnP Tryz.prog G 145 1 [.arr 64 3 (m.map Pair.row)] [.own 0 m.length,.agg [.int .i64 a,.int .i64 p]] (outP m ⟨a,p⟩):=by
  refine mP dg145 Tryz.ntmps145 ?_ ?_
  · by_cases h:(mOut m ⟨a,p⟩).1=m
    · exact ⟨_,_,.inl ⟨h,rfl,rfl⟩⟩
    · refine ⟨_,_,.inr ⟨rfl,rfl, ?_,h⟩⟩
      cases hb:(mOut m ⟨a,p⟩).2.2 with
      | true=>rfl
      | false =>
        exfalso
        apply h
        revert hb
        unfold mOut
        split
        · simp
        · split<;>simp
  simp only [ic145,go_sem]
  refine loopN (fun i:Nat=>⟨getL [(0,.own 0 m.length),(3,.pv 1003 0),(7,.int .i64 (i:Int))],getH [(0,.arr 64 3 (m.map Pair.row)),(1003,.var 39 [.int .i64 a,.int .i64 p])]⟩) (fun i=>m.length - i) (fun i=>i≤m.length∧portOf m ⟨a,p⟩=portOf (m.drop i) ⟨a,p⟩) 0 (leQ []) ⟨Nat.zero_le _,by simp⟩ ?_
  intro i ⟨hi,ha⟩
  simp only [go_sem]
  by_cases h:(i:Int)<m.length
  · have hil:i<m.length:=by omega
    have hg:m.getD i default=m[i]:=by simp [List.getD,hil]
    rw [List.drop_eq_getElem_cons hil,portOf_cons] at ha
    simp only [eq_true h,go_sem]
    with_reducible repeat' (first|refine br ?_ ?_<;>intro h e<;>(try simp only [e,go_sem,getD_mp hil,hg,E.ext_iff'])<;>clear e|rw [i64w (by omega)]|refine sd ?_<;>try simp only [go_sem,getD_mp hil,hg,E.ext_iff']|fail)
    · rw [if_pos h] at ha
      have hne:portOf m ⟨a,p⟩≠0:=by rw [ha];exact (hp m[i] (List.getElem_mem hil)).1
      have hf:=mOut_found (fun p h=>(hp p h).1) hne
      refine retN (.tup [.own 0 m.length,.int .i64 (mOut m ⟨a,p⟩).2.1,.bool (mOut m ⟨a,p⟩).2.2]) [.arr 64 3 (m.map Pair.row)] [] ?_ (.inl ⟨by rw [hf],rfl,rfl⟩) (by simp only [go_sem]) (by simp [argH]) (by simp only [go_sem];first|done|simp)
      simp only [go_sem,hf,ha]
      try simp
    · refine ⟨i+1,by omega,⟨by omega,by rw [ha,if_neg h]⟩,(leQ [])⟩
  · simp only [eq_false h,go_sem]
    have:i=m.length:=by omega
    subst this
    rw [List.drop_length,portOf_nil] at ha
    have hf:=mOut_none (fun p h=>(hp p h).1) ha
    with_reducible repeat' (first|refine br ?_ ?_<;>intro h e<;>(try simp only [e,go_sem])<;>clear e|rw [i64w (by omega)]|refine sd ?_<;>try simp only [go_sem]|fail)
    · rw [if_pos (by omega)] at hf
      refine retN (.tup [.own 0 m.length,.int .i64 (mOut m ⟨a,p⟩).2.1,.bool (mOut m ⟨a,p⟩).2.2]) [.arr 64 3 (m.map Pair.row)] [] ?_ (.inl ⟨by rw [hf],rfl,rfl⟩) (by simp only [go_sem]) (by simp [argH]) (by simp only [go_sem];first|done|simp)
      simp only [go_sem,hf]
      try simp
    · rw [if_neg (by omega)] at hf
      refine retN (.tup [.own 1 (mOut m ⟨a,p⟩).1.length,.int .i64 (mOut m ⟨a,p⟩).2.1,.bool (mOut m ⟨a,p⟩).2.2]) [.dead,.arr 64 3 ((mOut m ⟨a,p⟩).1.map Pair.row)] [(1,1040)] ?_ (.inr ⟨rfl,rfl,by rw [hf],by rw [hf];simp⟩) ?_ (by simp [argH,getN]) (by simp only [go_sem];first|done|simp)
      · simp only [go_sem,hf];simp
      · simp only [go_sem,hf];simp [Pair.row]
def ic203:IC:=sR [oP 4 (.box 127 (.t 1)),oP 6 (.mv (.c .nils)),oP 7 (.mv (.c s0))] (.seq (sR [fD 11 1 4,lD 12 1 11,oP 13 (.un .not (.t 12)),mV 14 13,⟨some 15,some (14,false),.fad 2 (.t 4)⟩,⟨some 16,some (14,false),.ld 2 true (.t 15)⟩,⟨some 17,some (14,false),.call 127 [.t 16]⟩,⟨some 18,some (14,false),.un .not (.t 17)⟩,oP 19 (.pick (.t 14) (.c (.bool true)) (.t 18))] (.cond (.t 19) (sR [mV 20 0,mV 21 2,mV 6 20,mV 7 21] .ret) .skip)) (sR [mV 23 0,fD 24 2 4,lA 25 2 24,oP 26 (.call 145 [.t 23,.t 25]),mV 22 26,eX 27 22 0,eX 28 22 1,eX 29 22 2,mV 8 27,mV 9 28,mV 10 29] (.seq (sR [mV 30 10,oP 31 (.un .not (.t 30))] (.cond (.t 31) (sR [mV 32 0,mV 33 2,mV 6 32,mV 7 33] .ret) .skip)) (sR [mV 34 8,mV 35 9,oP 36 (.build [i0,i0] [(0,(1,.c (.int .i64 9))),(1,(1,.t 35))]),oP 37 (.call 148 [.t 36]),oP 38 (.bin .add (.c (.str [64])) (.t 37)),oP 39 (.bin .add (.t 38) (.c (.str [59]))),mV 6 34,mV 7 39] .ret))))
theorem dg203:Dg Tryz.prog 203 Tryz.f203 ic203 [(.t 6),(.t 7)]:=⟨Tryz.func203,by kernel_rfl,by kernel_rfl⟩
theorem c203 (m:List Pair) (n:Nat) (b:Bool) (a p:Int) (s:B) (hp:PortsOk m) (hl:m.length≤1000000):FnP Tryz.prog G 203 0 [.arr 64 3 (m.map Pair.row)] [.own 0 m.length,.agg [.int .i64 n,.bool b,.int .i64 a,.int .i64 p],.str s]
    (fun r o=>r=.tup [.own 0 (pieceOut m ⟨n,b,⟨a,p⟩⟩ s).1.length,.str (pieceOut m ⟨n,b,⟨a,p⟩⟩ s).2]∧o=[.arr 64 3 ((pieceOut m ⟨n,b,⟨a,p⟩⟩ s).1.map Pair.row)]):=by
  refine mP dg203 Tryz.ntmps203 ⟨_,_,rfl,rfl⟩ ?_
  simp only [ic203,go_sem]
  have keep:∀ l mm,pieceOut m ⟨n,b,⟨a,p⟩⟩ s=(m,s)→getL l 6=.own 0 m.length→getL l 7=.str s→getH mm 0=.arr 64 3 (m.map Pair.row) →
      retQ [.t 6,.t 7] 0 (fun r o=>r=.tup [.own 0 (pieceOut m ⟨n,b,⟨a,p⟩⟩ s).1.length,.str (pieceOut m ⟨n,b,⟨a,p⟩⟩ s).2]∧o=[.arr 64 3 ((pieceOut m ⟨n,b,⟨a,p⟩⟩ s).1.map Pair.row)]) .ret ⟨getL l,getH mm⟩:=fun l mm h1 h2 h3 h4=>by
    refine retN _ _ [] ?_ ⟨rfl,rfl⟩ ?_ (by simp [argH]) (by simp only [go_sem])
    · simp only [go_sem,h1,h2,h3];try simp
    · simp only [go_sem,h1,h4]
  cases b<;>simp only [go_sem]
  · exact keep _ _ (by simp [pieceOut]) (by simp only [go_sem]) (by simp only [go_sem]) (by simp only [go_sem])
  refine callR (c127 ..) rfl rfl ?_
  simp only [go_sem]
  cases hi:E.inside ⟨a,p⟩<;>simp only [go_sem]
  · exact keep _ _ (by simp [pieceOut,hi]) (by simp only [go_sem]) (by simp only [go_sem]) (by simp only [go_sem])
  refine callN (c145 m a p hp hl) [0] [] true 26 2 (by simp only [go_sem];first|done|simp) (by simp only [go_sem];first|done|simp) (by simp) (by simp) (by simp) ?_ ?_ ?_
  · rintro res out (⟨_,rfl,rfl⟩|⟨rfl,rfl,_⟩)
    · exact ⟨by simp,by simp,.inl rfl,fun i hi=>by obtain rfl:i=0:=(by omega);simp [chH,stepOk]⟩
    · exact ⟨by simp,by simp,.inl rfl,fun i hi=>by obtain rfl:i=0:=(by omega);simp [chH,stepOk]⟩
  · intro i hi
    have:i=0∨i=1:=by omega
    rcases this with rfl|rfl<;>simp only [go_sem]
  · rintro res out (⟨h1,rfl,rfl⟩|⟨rfl,rfl,h3,_⟩)
    · have hpo:∀ c,(mOut m ⟨a,p⟩).2.2=c→pieceOut m ⟨n,true,⟨a,p⟩⟩ s=bif c then ((mOut m ⟨a,p⟩).1,name ⟨9,(mOut m ⟨a,p⟩).2.1⟩) else (m,s):=fun c hc=>by
        subst hc
        rcases hmo:mOut m ⟨a,p⟩ with ⟨x,port,ok⟩
        cases ok<;>simp [pieceOut,hi,hmo]
      simp only [go_sem]
      cases hok:(mOut m ⟨a,p⟩).2.2<;>simp only [go_sem]
      · exact keep _ _ (by rw [hpo _ hok];rfl) (by simp only [go_sem]) (by simp only [go_sem]) (by simp only [go_sem])
      · have hpo:=hpo _ hok
        simp only [cond_true,h1] at hpo
        have hlt:=text_le (e:=⟨9,(mOut m ⟨a,p⟩).2.1⟩)
        with_reducible repeat' (first|refine br ?_ ?_<;>intro h e<;>(try simp only [e,go_sem])<;>clear e|rw [i64w (by omega)]|refine sd ?_<;>try simp only [go_sem]|(first|refine cr (c148 ..) ?_)<;>try simp only [go_sem]|fail)
        refine retN _ _ [] ?_ ⟨rfl,rfl⟩ ?_ (by simp [argH]) (by simp only [go_sem])
        · simp only [go_sem,hpo];simp [name]
        · simp only [go_sem,hpo]
    · have hpo:pieceOut m ⟨n,true,⟨a,p⟩⟩ s=((mOut m ⟨a,p⟩).1,name ⟨9,(mOut m ⟨a,p⟩).2.1⟩):=by
        rcases hmo:mOut m ⟨a,p⟩ with ⟨x,port,ok⟩
        rw [hmo] at h3
        simp only at h3
        subst h3
        simp [pieceOut,hi,hmo]
      simp only [go_sem,h3]
      have hlt:=text_le (e:=⟨9,(mOut m ⟨a,p⟩).2.1⟩)
      with_reducible repeat' (first|refine br ?_ ?_<;>intro h e<;>(try simp only [e,go_sem])<;>clear e|rw [i64w (by omega)]|refine sd ?_<;>try simp only [go_sem]|(first|refine cr (c148 ..) ?_)<;>try simp only [go_sem]|fail)
      refine retN _ _ [(0,102601)] ?_ ⟨rfl,rfl⟩ ?_ (by simp [argH]) (by simp only [go_sem])
      · simp only [go_sem,hpo];simp [name]
      · simp only [go_sem,hpo]
end Go.Proofs.YtggifndkolojmaaGreatDoor.W
