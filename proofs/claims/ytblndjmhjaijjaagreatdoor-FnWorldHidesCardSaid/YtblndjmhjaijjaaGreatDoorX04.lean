/- Part 4 of the proof: the walk over values, the plain model, contracts of the functions of the program. -/
import Derived.Test.YtblndjmhjaijjaaGreatDoorX03
import Derived.Test.YtblndjmhjaijjaaGreatDoorX02
import Derived.OwnWalk
import Derived.WalkKit
import Derived.Deep.LoopGhost
import Derived.Deep.RegionLaw
import Derived.Lib.Walk
import Derived.Lib.SliceRun
import Derived.Sort.WalkB12
set_option linter.all false
namespace Go.Proofs.YtblndjmhjaijjaaGreatDoor.M
theorem forP_le {l : List Part} (i : Int) : 0 ≤ forP l i ∧ forP l i ≤ ((l.flatMap (·.text)).length : Int) := by
  induction l generalizing i with
  | nil => simp [forP]
  | cons p l ih =>
    have := ih (i - p.size)
    simp only [forP,List.flatMap_cons,List.length_append]
    split <;> omega
theorem sOut_len {s : Strm} (h : StrB s) : (sOut s).length ≤ 240 := by
  have h1 := outL_le (l := s.parts) (fun p hp => (h.2.2 p hp).2.2.1) s.parts.length
  rw [List.take_length] at h1
  have := h.2.1
  show (outL s.parts).length ≤ 240
  omega
def toR (was is : Strm) (p : Pk) : Int := if was.inn.length < is.inn.length then ((sOut is).length : Int) else forP is.parts (min (p.at_ + p.text.length) is.inn.length)
theorem toR_le (was is : Strm) (p : Pk) : 0 ≤ toR was is p ∧ toR was is p ≤ (sOut is).length := by
  unfold toR
  split
  · omega
  · exact forP_le _
theorem put_inn (m : List Pair) (s : Strm) (n : Int) (t : B) (out : Bool) : s.inn.length ≤ (put m s n t out).2.1.inn.length := by
  unfold put
  split
  · rename_i h
    obtain ⟨x,hx,_⟩ := behind_app h
    simp only [hx,List.length_append]; omega
  · exact Nat.le_refl _
def sendR (was is : Strm) (p : Pk) : Pk × Bool :=
  if forP is.parts p.at_ ≥ toR was is p then (.zero,false)
  else ({ p with at_ := forP is.parts p.at_,text := ((sOut is).take (toR was is p).toNat).drop (forP is.parts p.at_).toNat },decide ((((sOut is).take (toR was is p).toNat).drop (forP is.parts p.at_).toNat).length ≤ 40))
theorem sendR_on (was is : Strm) (p : Pk) : sendOn was is p = if (sendR was is p).2 then some (sendR was is p).1 else none := by
  have h1 := forP_le (l := is.parts) p.at_
  have h2 := toR_le was is p
  have h3 : sendOn was is p = if forP is.parts p.at_ ≥ toR was is p then none else if toR was is p - forP is.parts p.at_ ≤ 40 then some { p with at_ := forP is.parts p.at_,text := ((sOut is).take (toR was is p).toNat).drop (forP is.parts p.at_).toNat } else none := rfl
  rw [h3]
  unfold sendR
  by_cases hc : forP is.parts p.at_ ≥ toR was is p
  · rw [if_pos hc,if_pos hc]; rfl
  · rw [if_neg hc,if_neg hc]
    have hl : (((sOut is).take (toR was is p).toNat).drop (forP is.parts p.at_).toNat).length = (toR was is p - forP is.parts p.at_).toNat := by
      rw [List.length_drop,List.length_take]; omega
    simp only [hl]
    by_cases h4 : toR was is p - forP is.parts p.at_ ≤ 40
    · rw [if_pos h4,if_pos (by simp; omega)]
    · rw [if_neg h4,if_neg (by simp; omega)]
def goesR (was is : Strm) (p : Pk) : Pk × Bool :=
  ({ p with at_ := forP is.parts p.at_,text := ((sOut is).take (max (toR was is p) (forP is.parts p.at_)).toNat).drop (forP is.parts p.at_).toNat },
    within (((sOut is).take (max (toR was is p) (forP is.parts p.at_)).toNat).drop (forP is.parts p.at_).toNat).length 1 40)
theorem goesR_on (was is : Strm) (p : Pk) : sendOn was is p = if (goesR was is p).2 then some (goesR was is p).1 else none := by
  have h1 := forP_le (l := is.parts) p.at_
  have h2 := toR_le was is p
  have h3 : sendOn was is p = if forP is.parts p.at_ ≥ toR was is p then none else if toR was is p - forP is.parts p.at_ ≤ 40 then some { p with at_ := forP is.parts p.at_,text := ((sOut is).take (toR was is p).toNat).drop (forP is.parts p.at_).toNat } else none := rfl
  rw [h3]
  unfold goesR
  have hl : (((sOut is).take (max (toR was is p) (forP is.parts p.at_)).toNat).drop (forP is.parts p.at_).toNat).length = (max (toR was is p) (forP is.parts p.at_) - forP is.parts p.at_).toNat := by
    rw [List.length_drop,List.length_take]
    have h5 : forP is.parts p.at_ ≤ ((sOut is).length : Int) := h1.2
    omega
  simp only [hl]
  by_cases hc : forP is.parts p.at_ ≥ toR was is p
  · rw [if_pos hc,if_neg]
    rw [within_iff]; omega
  · rw [if_neg hc]
    have hmx : max (toR was is p) (forP is.parts p.at_) = toR was is p := by omega
    by_cases h4 : toR was is p - forP is.parts p.at_ ≤ 40
    · rw [if_pos h4,if_pos (by rw [within_iff]; omega),hmx]
    · rw [if_neg h4,if_neg (by rw [within_iff]; omega)]
def openR (d : Door) (i o : E) : Door × Nat × Bool := match openF d i o with
  | some (x,k) => (x,k,true)
  | none => (d,0,false)
theorem openF_has {d : Door} {i o : E} {k : Nat} (h : flowIx d.flows i o = some k) : openR d i o = (d,k,true) := by
  simp [openR,openF,h]
theorem openF_no {d : Door} {i o : E} (h : flowIx d.flows i o = none) (h2 : (mOut d.map i).2.2 = false) : openR d i o = (d,0,false) := by
  rcases hm : mOut d.map i with ⟨m,n,ok⟩
  rw [hm] at h2
  simp only at h2
  subst h2
  simp [openR,openF,h,hm]
theorem openF_new {d : Door} {i o : E} (h : flowIx d.flows i o = none) (h2 : (mOut d.map i).2.2 = true) (h3 : d.flows.length < 4) : openR d i o = (⟨(mOut d.map i).1,d.flows ++ [⟨i,o,.zero,.zero⟩]⟩,d.flows.length,true) := by
  rcases hm : mOut d.map i with ⟨m,n,ok⟩
  rw [hm] at h2
  simp only at h2
  subst h2
  simp [openR,openF,h,hm,h3]
structure OpenedP (d : Door) (i o : E) (x : Door) (k : Nat) : Prop where
  map : mapOk x.map = true
  port : portOf x.map i ≠ 0
  len : x.flows.length ≤ d.flows.length + 1
  kl : k < x.flows.length
  flow : (x.flows.getD k default).ins = i ∧ (x.flows.getD k default).out = o
  up : strmOk (x.flows.getD k default).up = true
  down : strmOk (x.flows.getD k default).down = true
  ok : doorOk x = true
theorem strmOk_zero : strmOk .zero = true := by decide
theorem portOf_ne' {m : List Pair} (hm : mapOk m = true) (e : E) : portOf m e ≠ 0 ↔ m.any (fun q => decide (q.ins = e)) = true :=
  portOf_ne fun p hp => ((mapOk_ports hm).1 p hp).1
theorem any_mOut {m : List Pair} {e f : E} (h : m.any (fun q => decide (q.ins = f)) = true) : (mOut m e).1.any (fun q => decide (q.ins = f)) = true := by
  unfold mOut
  split
  · exact h
  · split
    · exact h
    · simp only [List.any_append,h,Bool.true_or]
theorem any_mOut_self {m : List Pair} {e : E} (h : (mOut m e).2.2 = true) : (mOut m e).1.any (fun q => decide (q.ins = e)) = true := by
  unfold mOut at h ⊢
  split
  · rename_i p hf
    rw [List.any_eq_true]
    have := List.find?_some hf
    exact ⟨p,List.mem_of_find?_eq_some hf,this⟩
  · rename_i hf
    split
    · rename_i hl; simp only [hf,if_pos hl] at h; cases h
    · simp
theorem flow_at {d : Door} (h : doorOk d = true) {k : Nat} {f : Flw} (hf : d.flows[k]? = some f) : d.map.any (fun p => decide (p.ins = f.ins)) = true ∧ f.out.outside = true ∧ strmOk f.up = true ∧ strmOk f.down = true ∧ (d.flows.take k).any (sameF f.ins f.out) = false := by
  obtain ⟨_,_,h3⟩ := doorOk_iff.1 h
  have hk : k < d.flows.length := (List.getElem?_eq_some_iff.1 hf).1
  have h4 := h3 k hk
  rw [okFlow_i hk] at h4
  obtain rfl : d.flows[k] = f := by rw [List.getElem?_eq_getElem hk] at hf; exact Option.some.inj hf
  simp only [Bool.and_eq_true,Bool.not_eq_true'] at h4
  exact ⟨h4.1.1.1.1,h4.1.1.1.2,h4.1.1.2,h4.1.2,h4.2⟩
theorem doorOk_of {m : List Pair} {fs : List Flw} (hm : mapOk m = true) (hl : fs.length ≤ 4) (h : ∀ k f,fs[k]? = some f → m.any (fun p => decide (p.ins = f.ins)) = true ∧ f.out.outside = true ∧ strmOk f.up = true ∧ strmOk f.down = true ∧ (fs.take k).any (sameF f.ins f.out) = false) : doorOk ⟨m,fs⟩ = true := by
  refine doorOk_iff.2 ⟨hm,hl,fun k hk => ?_⟩
  rw [okFlow_i (d := ⟨m,fs⟩) hk]
  obtain ⟨a,b,c,d,e⟩ := h k _ (List.getElem?_eq_getElem hk)
  simp [a,b,c,d,e]
theorem openR_ok {d : Door} {i o : E} (hd : doorOk d = true) (hi : i.inside = true) (ho : o.outside = true) (hok : (openR d i o).2.2 = true) : OpenedP d i o (openR d i o).1 (openR d i o).2.1 := by
  obtain ⟨hm,hl,h3⟩ := doorOk_iff.1 hd
  cases hf : flowIx d.flows i o with
  | some k =>
    rw [openF_has hf]
    obtain ⟨f,h1,rfl,rfl,h4⟩ := flowIx_some hf
    obtain ⟨a,b,c,e,g⟩ := flow_at hd h1
    have hk : k < d.flows.length := (List.getElem?_eq_some_iff.1 h1).1
    have hg : d.flows.getD k default = f := by simp [List.getD,h1]
    exact ⟨hm,(portOf_ne' hm _).2 a,by simp,hk,by rw [hg]; exact ⟨rfl,rfl⟩,by rw [hg]; exact c,by rw [hg]; exact e,hd⟩
  | none =>
    cases h2 : (mOut d.map i).2.2 with
    | false => rw [openF_no hf h2] at hok; cases hok
    | true =>
      by_cases h4 : d.flows.length < 4
      · rw [openF_new hf h2 h4]
        have hm' := mOut_ok hm hi
        have ha := any_mOut_self h2
        have hg : (d.flows ++ [Flw.mk i o .zero .zero]).getD d.flows.length default = ⟨i,o,.zero,.zero⟩ := by simp [List.getD]
        refine ⟨hm',(portOf_ne' hm' _).2 ha,by simp,by simp,by rw [hg]; exact ⟨rfl,rfl⟩,by rw [hg]; exact strmOk_zero,by rw [hg]; exact strmOk_zero, ?_⟩
        refine doorOk_of hm' (by simp; omega) fun k f hk => ?_
        by_cases hkl : k < d.flows.length
        · rw [List.getElem?_append_left hkl] at hk
          obtain ⟨a,b,c,e,g⟩ := flow_at hd hk
          refine ⟨any_mOut a,b,c,e, ?_⟩
          rw [List.take_append_of_le_length (by omega)]; exact g
        · have := (List.getElem?_eq_some_iff.1 hk).1
          simp only [List.length_append,List.length_cons,List.length_nil] at this
          obtain rfl : k = d.flows.length := by omega
          rw [List.getElem?_append_right (Nat.le_refl _)] at hk
          simp only [Nat.sub_self,List.getElem?_cons_zero,Option.some.injEq] at hk
          subst hk
          refine ⟨ha,ho,strmOk_zero,strmOk_zero, ?_⟩
          rw [List.take_left' rfl]
          exact flowIx_none.1 hf
      · exfalso
        rcases hmo : mOut d.map i with ⟨m,n,ok⟩
        rw [hmo] at h2
        simp only at h2
        subst h2
        simp [openR,openF,hf,hmo,h4] at hok
theorem set_ok {d : Door} {m : List Pair} {k : Nat} {f g : Flw} (hd : doorOk d = true) (hf : d.flows[k]? = some f) (hm : mapOk m = true) (hsub : ∀ e,d.map.any (fun p => decide (p.ins = e)) = true → m.any (fun p => decide (p.ins = e)) = true)
    (h1 : g.ins = f.ins) (h2 : g.out = f.out) (h3 : strmOk g.up = true) (h4 : strmOk g.down = true) : doorOk ⟨m,d.flows.set k g⟩ = true := by
  obtain ⟨_,hl,_⟩ := doorOk_iff.1 hd
  refine doorOk_of hm (by simpa using hl) fun j x hj => ?_
  have hsame : ∀ j i o,((d.flows.set k g).take j).any (sameF i o) = (d.flows.take j).any (sameF i o) := fun j i o => by
    have hkl : k < d.flows.length := (List.getElem?_eq_some_iff.1 hf).1
    have e1 : (d.flows.set k g).map (sameF i o) = d.flows.map (sameF i o) := by
      rw [List.map_set]
      have : sameF i o g = (d.flows.map (sameF i o))[k]'(by simpa using hkl) := by
        rw [List.getElem_map]
        have hfe : d.flows[k] = f := by rw [List.getElem?_eq_getElem hkl] at hf; exact Option.some.inj hf
        rw [hfe,sameF,sameF,h1,h2]
      rw [this,List.set_getElem_self]
    have e2 : ∀ l : List Flw,(l.take j).any (sameF i o) = ((l.map (sameF i o)).take j).any id := fun l => by rw [← List.map_take,List.any_map]; rfl
    rw [e2,e1,← e2]
  rw [hsame]
  by_cases hjk : j = k
  · subst hjk
    have hkl : j < d.flows.length := (List.getElem?_eq_some_iff.1 hf).1
    rw [List.getElem?_set_self hkl] at hj
    cases hj
    obtain ⟨a,b,c,e,q⟩ := flow_at hd hf
    rw [h1,h2]
    exact ⟨hsub _ a,b,h3,h4,q⟩
  · rw [List.getElem?_set_ne (by omega)] at hj
    obtain ⟨a,b,c,e,q⟩ := flow_at hd hj
    exact ⟨hsub _ a,b,c,e,q⟩
end Go.Proofs.YtblndjmhjaijjaaGreatDoor.M
namespace Go.Proofs.YtblndjmhjaijjaaGreatDoor.M
def Flw.at (d : Door) (k : Nat) : Flw := d.flows.getD k default
def outK (x : Door) (k : Nat) (p : Pk) : Door × Option Pk :=
  if p.kind = 2 then
    if p.at_ > (sOut (Flw.at x k).down).length then (x,none) else (x,some ⟨2,⟨9,portOf x.map p.frm⟩,p.to,backP (Flw.at x k).down.parts p.at_,[]⟩)
  else if (put x.map (Flw.at x k).up p.at_ p.text true).2.2 = false then (x,none)
  else (⟨(put x.map (Flw.at x k).up p.at_ p.text true).1,x.flows.set k { Flw.at x k with up := (put x.map (Flw.at x k).up p.at_ p.text true).2.1 }⟩,
    (sendOn (Flw.at x k).up (put x.map (Flw.at x k).up p.at_ p.text true).2.1 p).map fun q => { q with frm := ⟨9,portOf x.map p.frm⟩ })
theorem dOut_no {d : Door} {p : Pk} (h : (openR d p.frm p.to).2.2 = false) : dOut d p = (d,none) := by
  unfold openR at h
  cases ho : openF d p.frm p.to with
  | none => simp [dOut,ho]
  | some x => rw [ho] at h; cases h
theorem dOut_yes {d : Door} {p : Pk} (h : (openR d p.frm p.to).2.2 = true) (hk : (openR d p.frm p.to).2.1 < (openR d p.frm p.to).1.flows.length) :
    dOut d p = outK (openR d p.frm p.to).1 (openR d p.frm p.to).2.1 p := by
  unfold openR at h hk ⊢
  cases ho : openF d p.frm p.to with
  | none => rw [ho] at h; cases h
  | some x =>
    obtain ⟨x,k⟩ := x
    rw [ho] at hk
    simp only at hk ⊢
    have hf : x.flows[k]? = some (Flw.at x k) := by simp [Flw.at,List.getD,hk]
    simp only [dOut,ho,hf,outK]
    split
    · rfl
    · rcases hp : put x.map (Flw.at x k).up p.at_ p.text true with ⟨m,s,ok⟩
      cases ok <;> simp
def inK (x : Door) (k : Nat) (i : E) (p : Pk) : Door × Option Pk :=
  if p.kind = 2 then
    if p.at_ > (sOut (Flw.at x k).up).length then (x,none) else (x,some ⟨2,p.frm,i,backP (Flw.at x k).up.parts p.at_,[]⟩)
  else if (put x.map (Flw.at x k).down p.at_ p.text false).2.2 = false then (x,none)
  else (⟨x.map,x.flows.set k { Flw.at x k with down := (put x.map (Flw.at x k).down p.at_ p.text false).2.1 }⟩,
    (sendOn (Flw.at x k).down (put x.map (Flw.at x k).down p.at_ p.text false).2.1 p).map fun q => { q with to := i })
theorem dIn_no1 {d : Door} {p : Pk} (h : insideOf d.map p.to.p = none) : dIn d p = (d,none) := by simp [dIn,h]
theorem dIn_no2 {d : Door} {p : Pk} {i : E} (h : insideOf d.map p.to.p = some i) (h2 : flowIx d.flows i p.frm = none) : dIn d p = (d,none) := by simp [dIn,h,h2]
theorem dIn_yes {d : Door} {p : Pk} {i : E} {k : Nat} (h : insideOf d.map p.to.p = some i) (h2 : flowIx d.flows i p.frm = some k) : k < d.flows.length ∧ dIn d p = inK d k i p := by
  obtain ⟨f,h3,_⟩ := flowIx_some h2
  have hk : k < d.flows.length := (List.getElem?_eq_some_iff.1 h3).1
  refine ⟨hk, ?_⟩
  have hf : d.flows[k]? = some (Flw.at d k) := by simp [Flw.at,List.getD,hk]
  simp only [dIn,h,h2,hf,inK]
  split
  · rfl
  · rcases hp : put d.map (Flw.at d k).down p.at_ p.text false with ⟨m,s,ok⟩
    cases ok <;> simp
structure PkP (p : Pk) : Prop where
  at_ : 0 ≤ p.at_ ∧ p.at_ ≤ 999
  len : p.text.length ≤ 40
  tx : p.kind = 2 ∨ txOk p.text = true
  ack : p.kind = 2 → p.text = []
  kd : p.kind = 1 ∨ p.kind = 2
theorem pkOk_P {p : Pk} (h : pkOk p = true) : PkP p := by
  simp only [pkOk,Bool.and_eq_true,Bool.or_eq_true,decide_eq_true_eq,within_iff] at h
  obtain ⟨⟨_,h1⟩,h2 | h2⟩ := h
  · exact ⟨⟨h1.1,by omega⟩,txOk_len h2.1.2,.inr h2.1.2,fun h => (by rw [h2.1.1] at h; cases h),.inl h2.1.1⟩
  · have : p.text = [] := by simpa using h2.2
    exact ⟨⟨h1.1,by omega⟩,by simp [this],.inl h2.1,fun _ => this,.inr h2.1⟩
theorem put_sub {m : List Pair} {s : Strm} {n : Int} {t : B} {out : Bool} : ∀ e,m.any (fun p => decide (p.ins = e)) = true → (put m s n t out).1.any (fun p => decide (p.ins = e)) = true := by
  intro e h
  unfold put
  split
  · have key : ∀ (l : List Pc) (m : List Pair) (s : B),m.any (fun p => decide (p.ins = e)) = true → (turned m l s out).1.any (fun p => decide (p.ins = e)) = true := by
      intro l
      induction l with
      | nil => intro m s h; exact h
      | cons q l ih =>
        intro m s h
        simp only [turned]
        refine ih _ _ ?_
        cases out
        · exact h
        · simp only [turn,cond_true,pieceOut]
          split
          · have := any_mOut (e := q.e) h
            rcases hmo : mOut m q.e with ⟨x,port,ok⟩
            rw [hmo] at this
            cases ok
            · exact h
            · exact this
          · exact h
    exact key _ _ _ h
  · exact h
theorem outK_ok {x : Door} {k : Nat} {p : Pk} (hd : doorOk x = true) (hk : k < x.flows.length) (hp : PkP p) : doorOk (outK x k p).1 = true ∧ (outK x k p).1.flows.length = x.flows.length := by
  have hf : x.flows[k]? = some (Flw.at x k) := by simp [Flw.at,List.getD,hk]
  obtain ⟨_,_,hu,hdn,_⟩ := flow_at hd hf
  unfold outK
  split
  · split <;> exact ⟨hd,rfl⟩
  · rename_i hkd
    split
    · exact ⟨hd,rfl⟩
    · obtain ⟨p1,p2⟩ := put_ok (out := true) (doorOk_iff.1 hd).1 hu (hp.tx.resolve_left hkd) hp.at_.1
      exact ⟨set_ok hd hf p1 put_sub rfl rfl p2 hdn,by simp⟩
theorem inK_ok {x : Door} {k : Nat} {i : E} {p : Pk} (hd : doorOk x = true) (hk : k < x.flows.length) (hp : PkP p) : doorOk (inK x k i p).1 = true ∧ (inK x k i p).1.flows.length = x.flows.length ∧ (inK x k i p).1.map = x.map := by
  have hf : x.flows[k]? = some (Flw.at x k) := by simp [Flw.at,List.getD,hk]
  obtain ⟨_,_,hu,hdn,_⟩ := flow_at hd hf
  unfold inK
  split
  · split <;> exact ⟨hd,rfl,rfl⟩
  · rename_i hkd
    split
    · exact ⟨hd,rfl,rfl⟩
    · obtain ⟨p1,p2⟩ := put_ok (out := false) (doorOk_iff.1 hd).1 hdn (hp.tx.resolve_left hkd) hp.at_.1
      exact ⟨set_ok hd hf (doorOk_iff.1 hd).1 (fun e h => h) rfl rfl hu p2,by simp,rfl⟩
theorem openR_no {d : Door} {i o : E} (h : (openR d i o).2.2 = false) : (openR d i o).1 = d := by
  unfold openR at h ⊢
  cases ho : openF d i o with
  | none => rfl
  | some x => rw [ho] at h; cases h
theorem dOut_ok {d : Door} {p : Pk} (hd : doorOk d = true) (hp : PkP p) (h1 : p.outward = true) : doorOk (dOut d p).1 = true ∧ (dOut d p).1.flows.length ≤ d.flows.length + 1 := by
  simp only [Pk.outward,Bool.and_eq_true] at h1
  cases ho : (openR d p.frm p.to).2.2 with
  | false => rw [dOut_no ho]; exact ⟨hd,by simp⟩
  | true =>
    have hx := openR_ok hd h1.1 h1.2 ho
    rw [dOut_yes ho hx.kl]
    have := outK_ok hx.ok hx.kl hp
    exact ⟨this.1,by rw [this.2]; exact hx.len⟩
theorem dIn_ok {d : Door} {p : Pk} (hd : doorOk d = true) (hp : PkP p) : doorOk (dIn d p).1 = true ∧ (dIn d p).1.flows.length = d.flows.length := by
  cases h1 : insideOf d.map p.to.p with
  | none => rw [dIn_no1 h1]; exact ⟨hd,rfl⟩
  | some i =>
    cases h2 : flowIx d.flows i p.frm with
    | none => rw [dIn_no2 h1 h2]; exact ⟨hd,rfl⟩
    | some k =>
      obtain ⟨hk,he⟩ := dIn_yes h1 h2
      rw [he]
      have := inK_ok (i := i) hd hk hp
      exact ⟨this.1,this.2.1⟩
theorem dPass_ok {d : Door} {p : Pk} (hd : doorOk d = true) (hp : PkP p) : doorOk (dPass d p).1 = true ∧ (dPass d p).1.flows.length ≤ d.flows.length + 1 := by
  unfold dPass
  split
  · rename_i h; exact dOut_ok hd hp h
  · split
    · have := dIn_ok hd hp; exact ⟨this.1,by omega⟩
    · exact ⟨hd,by simp⟩
end Go.Proofs.YtblndjmhjaijjaaGreatDoor.M
namespace Go.Proofs.YtblndjmhjaijjaaGreatDoor.W
open Go Go.RowKit Go.Proofs Go.Proofs.YtblndjmhjaijjaaGreatDoor.VL Go.Proofs.YtblndjmhjaijjaaGreatDoor.M
attribute [local congr] optK_congr guardK_congr condK_congr runT_congr runD_congr wpI_congr CallV_congr LoopI_congr pureK_congr effK_congr calK_congr stepV_congr doV_congr exN_congr exB_congr retF_congr retQ_congr gK_congr condW_congr ldK_congr stoK_congr
attribute [local go_sem] argL_cons argL_nil argH_nil argH_cons chH_getH wpI_seq wpI_reg wpI_drw wpI_ret cond_k condW_t condW_f wpI_skip wpI_block wpI_exit wpI_loop exN_n exN_r exN_e exB_n exB_r exB_h exB_m runT_k kT_e runT_nil runD_k kD_e runD_nil step_u step_k gK_t gK_f do_mv do_bino bo_add bo_sub bo_mul bo_subu bo_quo bo_rem bo_xor bo_eql bo_neq bo_lss bo_leq bo_gtr bo_geq bo_cat bo_eqs bo_nes do_pick do_call do_cal calK_f do_box do_alloc do_ldk ldK_s do_stok stoK_s do_fad do_nilc do_not do_neg do_len do_lens do_ext do_eqs do_beq do_isn do_cvi do_sls do_idx do_mn do_mx do_build do_mkf do_s2b do_b2s do_slv do_iad do_bsl do_mks do_app ev_t ev_c app_some app_none
attribute [local go_sem] List.nil_append List.cons_append List.append_nil getL_hit getL_miss getH_nil getH_hit getH_miss nm_eq ne_eq Nat.reduceEqDiff not_false_eq_true Nat.reduceAdd Nat.add_zero Nat.zero_add if_true if_false ite_true ite_false pureK_s effK_s optK_s gdV_t gdV_f gdV_s pick_b ge_iff_le gt_iff_lt cond_true cond_false fresh_k cells_agg cells_int cells_bool cells_str cells_own cells_sl cells_nils ld_pv ld_pa ld_ip ldVar_t ldVar_f ldArr_t ldArr_f ldRow_t ldRow_f ldA_s ld1_s fad_pv fad_pa fad_ip nilc_pv nilc_pa nilc_ip not_b neg_i cvi_i ext_t retF_n retF_r
attribute [local go_sem] resV_k rvs_nil rvs_t rvs_c fstO_s consO_s resK_s resL_1 resL_2 resL_3 resL_4  Option.some.injEq List.map_cons List.map_nil List.all_cons List.all_nil Bool.and_true Bool.and_self Bool.not_true Bool.not_false Option.map_some Option.map_none sls_s slsG_s loV_n loV_i hiV_n hiV_i idx_s mn_i mx_i s2b_s b2s_s bytO_s bytes_nil bytes_cons conB_s slv_sl slv_own slv_nils slvG_s slvN_s slvO_s iad_sl iadG_map take_map drop_map List.length_map iad_own iad_view iadO_a iadW_a mks_i rowO_nils rowO_sl rowO_own rowA_a eq_self appG_nils appG_own appO_a guardP_T mapA_s bld_nil mkf_nil bldF_e fill_nil fill_cons mkf_e lens_s len_nils len_sl len_own len_view isn_nile isn_erre List.getElem?_cons_zero List.getElem?_cons_succ List.length_cons List.length_nil decide_true decide_false Int.toNat_natCast Int.cast_ofNat_Int Int.reduceLT Int.reduceLE Int.reduceEq Int.reduceAdd Int.reduceSub Int.reduceMul Int.reduceNeg Int.reduceToNat List.getD_cons_zero List.getD_cons_succ not_true_eq_false not_false_eq_true Bool.false_eq_true Bool.true_eq_false reduceCtorEq
attribute [local go_sem] E.row Pc.row Pair.row Part.row Strm.row Flw.row Pk.row Door.row Conv.row World.row Ev.row rdV E.eta Pc.eta Pair.eta Part.eta Strm.eta Pk.eta Flw.eta Conv.eta Door.eta World.eta Ev.eta
attribute [local go_sem] sub_ok st_pv st_pa stVar_v stArr_a Nat.le_refl List.drop_zero List.drop_succ_cons List.take_succ_cons List.take_zero setR Nat.reduceLeDiff
attribute [local go_sem] wk_bot wk2_bot wk1_bot wk_undef wk_tup_e wk2_agg_e wk_agg_e wk1_fn_e wk2_fn_e wk_fn_e wkl_nil wkl_cons wkh_var_e wkh_arr_e wkh_fresh_e wkh_dead_v wkh_dead_a wkh_dead_d wk0_undef wk0_int wk0_bool wk0_str wk0_nils wk0_nils_sl wk0_nilp wk0_nile wk0_erre wk0_sl wk0_iptr wk0_own wk0_view wk0_pv wk0_pa fzA_a fzW_a fzP_v wk0_own_sl wk0_view_sl wk0_pv_iptr WkS_nil WkS_cons WkN_nil WkN_cons nonB_nil nonB_cons getN_nil getN_hit getN_miss pinOk_0 pinOk_s and_true true_and and_self
attribute [local go_sem] bot_int one_int unt_int clo_int bot_bool one_bool unt_bool clo_bool bot_str one_str unt_str clo_str bot_nils one_nils unt_nils clo_nils bot_nilp one_nilp unt_nilp clo_nilp bot_nile one_nile unt_nile clo_nile bot_erre one_erre unt_erre clo_erre bot_raw one_raw unt_raw clo_raw bot_sl one_sl unt_sl clo_sl bot_own one_own unt_own clo_own bot_view one_view unt_view clo_view bot_pv one_pv unt_pv clo_pv bot_pa one_pa unt_pa clo_pa bot_iptr one_iptr unt_iptr clo_iptr unt_agg unt_fn one_fn
attribute [local go_sem] rn_tup rn_agg rn2_agg rn_fn rn2_fn rnfn1 rn_bot rn2_bot rn1_bot rn0_int rn0_bool rn0_str rn0_nils rn0_nilp rn0_nile rn0_erre rn0_sl rn0_iptr rn0_own rn0_view rn0_pv rn0_pa hrn_var hrn_arr hrn_dead outU_nil outU_cons deads_nil deads_cons bk_ge bk_lt nsF_0 nsF_s chH_0 chH_s chH_n newN_e andB_s eqR_nil eqR_i eqR_b eqR_s mapX_f mapX_t eqs_a beq_f beq_t live_arr live_var nsl_nil nsl_cons Nat.reduceMul Nat.reduceLT Nat.zero_le Nat.not_lt_zero
attribute [local go_sem] mV lD lA fD bN eX oP nP sR i0 s0
def acksR (s : Strm) (p : Pk) : Pk × Bool := if p.at_ > (sOut s).length then (.zero,false) else ({ p with at_ := backP s.parts p.at_ },true)
def ic116 : IC := sR [oP 2 (.box 89 (.t 0)),oP 3 (.box 40 (.t 1)),oP 4 (.alloc 40 [i0,i0,i0,i0,i0,i0,s0]),oP 5 (.mv (.c (.bool false)))] (.seq (.seq (.drw [0,1,0,4,12,31] [(0,fD 6 5 3),(1,lD 7 1 6),(2,lA 8 2 2),(3,oP 9 (.call 170 [.t 8])),(4,oP 10 (.lens (.t 9))),(5,bN 11 .gtr 7 10)]) (.cond (.t 11) (sR [oP 12 (.build [i0,i0,i0,i0,i0,i0,s0] []),nP (.sto 7 (.t 4) (.t 12)),oP 5 (.mv (.c (.bool false)))] .ret) .skip)) (sR [lA 13 2 2,fD 14 5 3,lD 15 1 14,oP 16 (.call 171 [.t 13,.t 15]),fD 17 5 3,nP (.sto 1 (.t 17) (.t 16))] (sR [lA 18 7 3,nP (.sto 7 (.t 4) (.t 18)),oP 5 (.mv (.c (.bool true)))] .ret)))
theorem dg116 : digF Tryz.prog Tryz.f116 = some (ic116,[(.cell 4 7 true),(.t 5)]) := by kernel_rfl
theorem en116 : entr Tryz.prog 116 = true := by kernel_rfl
theorem c116 (s : Strm) (p : Pk) (h : StrB s) (hp : -10000 ≤ p.at_ ∧ p.at_ ≤ 10000) : FnR Tryz.prog G 116 [.agg [.str s.inn,.sl 2 (s.parts.map Part.row)],.agg [.int .i64 p.kind,.int .i64 p.frm.a,.int .i64 p.frm.p,.int .i64 p.to.a,.int .i64 p.to.p,.int .i64 p.at_,.str p.text]]
    (.tup [.agg (Pk.row (acksR s p).1),.bool (acksR s p).2]) := by
  refine FnR.mkF Tryz.func116 en116 dg116 Tryz.ntmps116 (by simp) ?_
  have so := sOut_len h
  have f1 := c170 s h
  have f2 := c171 s p.at_ h hp
  simp only [ic116,go_sem]
  with_reducible repeat' (first | refine br ?_ ?_ <;> intro h e <;> (try simp only [e,go_sem]) <;> clear e | rw [i64w (by omega)] | (first | refine sk ?_ | refine sd ?_) <;> try simp only [go_sem] | (first | refine cr (f1 ..) ?_ | refine cr (f2 ..) ?_) <;> try simp only [go_sem] | fail)
  · simp only [acksR]; rw [if_pos (by omega)]; simp [Pk.zero,E.zero]
  · simp only [acksR]; rw [if_neg (by omega)]; simp
theorem r113 (rows : List (List V)) (hr : rows.length ≤ 2000000) : FnR Tryz.prog G 113 [.sl 3 rows] (.sl 3 rows) := by
  refine FnR.mkF Tryz.func113 en113 dg113 Tryz.ntmps113 (by simp) ?_
  simp only [ic113,go_sem]
  refine callO (c168 rows hr) [] 4 1 (by simp only [go_sem]; first | done | simp) (by simp) (by rintro _ _ ⟨rfl,rfl⟩; simp) (by intro i hi; obtain rfl : i = 0 := (by omega); simp only [go_sem]) ?_
  rintro _ _ ⟨rfl,rfl⟩
  simp only [go_sem]
  refine callU (o167 rows rows.length rfl) [100400] [] 5 1 (by simp only [go_sem]; first | done | simp) (by simp only [go_sem]; first | done | simp) (by simp) (by simp) (by rintro _ _ ⟨rfl,rfl⟩; simp) (by intro i hi; obtain rfl : i = 0 := (by omega); simp only [go_sem]) ?_
  rintro _ _ ⟨rfl,rfl⟩
  simp only [go_sem]
def ic51 : IC := sR [oP 4 (.box 40 (.t 1)),oP 6 (.alloc 30 [.nils,.nils]),oP 7 (.alloc 40 [i0,i0,i0,i0,i0,i0,s0]),oP 8 (.mv (.c (.bool false)))] (.seq (sR [mV 9 2,oP 10 (.un .not (.t 9))] (.cond (.t 10) (sR [mV 11 0,oP 12 (.nilc (.t 11)),lA 13 2 12,oP 14 (.call 49 [.t 13]),oP 15 (.build [i0,i0,i0,i0,i0,i0,s0] []),nP (.sto 2 (.t 6) (.t 14)),nP (.sto 7 (.t 7) (.t 15)),oP 8 (.mv (.c (.bool false)))] .ret) .skip)) (.seq (.drw [0,1,3,7,0,15,63,127] [(0,mV 16 0),(1,oP 17 (.nilc (.t 16))),(2,lA 18 2 17),(3,oP 19 (.call 49 [.t 18])),(4,lA 20 7 4),(5,nP (.sto 2 (.t 6) (.t 19))),(6,nP (.sto 7 (.t 7) (.t 20))),(7,oP 8 (.mv (.c (.bool true))))]) .ret))
theorem dg51 : digF Tryz.prog Tryz.f51 = some (ic51,[(.cell 6 2 true),(.cell 7 7 true),(.t 8)]) := by kernel_rfl
theorem en51 : entr Tryz.prog 51 = true := by kernel_rfl
theorem c51 (m : List Pair) (fs : List Flw) (p : Pk) (ok : Bool) (hm : m.length ≤ 2000000) (hf : fs.length ≤ 1000000) (h : ∀ f ∈ fs,f.up.parts.length ≤ 2000000 ∧ f.down.parts.length ≤ 2000000) :
    FnP Tryz.prog G 51 0 [.var 30 [.sl 3 (m.map Pair.row),.own 1 fs.length],.arr 91 8 (fs.map Flw.row)] [.pv 0 0,.agg [.int .i64 p.kind,.int .i64 p.frm.a,.int .i64 p.frm.p,.int .i64 p.to.a,.int .i64 p.to.p,.int .i64 p.at_,.str p.text],.bool ok]
      (fun r o => r = .tup [.agg [.sl 3 (m.map Pair.row),.sl 8 (fs.map Flw.row)],.agg (Pk.row (bif ok then p else .zero)),.bool ok] ∧ o = []) := by
  refine FnP.mk' Tryz.func51 en51 dg51 Tryz.ntmps51 (by simp) ⟨_,_,rfl,rfl⟩ ?_
  simp only [ic51,go_sem]
  have fin : ∀ l mm n0 n1,getL l 6 = .pv 1006 0 → getL l 7 = .pv 1007 0 → getL l 8 = .bool ok → getH mm 1006 = .var 30 [.own n0 m.length,.own n1 fs.length] → getH mm 1007 = .var 40 (Pk.row (bif ok then p else .zero)) → getH mm n0 = .arr 98 3 (m.map Pair.row) → getH mm n1 = .arr 91 8 (fs.map Flw.row) →
      retQ [.cell 6 2 true,.cell 7 7 true,.t 8] 0 (fun r o => r = .tup [.agg [.sl 3 (m.map Pair.row),.sl 8 (fs.map Flw.row)],.agg (Pk.row (bif ok then p else .zero)),.bool ok] ∧ o = []) .ret ⟨getL l,getH mm⟩ := fun l mm n0 n1 h1 h2 h3 h4 h5 h6 h7 => by
    refine retN _ _ [] ?_ ⟨rfl,rfl⟩ ?_ (by simp [argH]) (by simp only [go_sem])
    · simp only [go_sem,h1,h2,h3,h4,h5,h6,h7]
    · simp only [go_sem]
  cases ok <;> simp only [go_sem]
  · refine callO (c49 (m.map Pair.row) fs (by simp; omega) hf h) [1] 14 2 (by simp only [go_sem]; first | done | simp) (by simp only [List.mem_singleton]; rintro c rfl; rfl) (by rintro _ _ ⟨rfl,rfl⟩; simp) (by intro i hi; rcases (show i = 0 ∨ i = 1 by omega) with rfl | rfl <;> simp only [go_sem]) ?_
    rintro _ _ ⟨rfl,rfl⟩
    simp only [go_sem]
    exact fin _ _ 101400 101401 (by simp only [go_sem]) (by simp only [go_sem]) (by simp only [go_sem]) (by simp only [go_sem]) (by simp only [go_sem,Pk.zero,E.zero]) (by simp only [go_sem]) (by simp only [go_sem])
  · with_reducible repeat' (first | refine br ?_ ?_ <;> intro h e <;> (try simp only [e,go_sem]) <;> clear e | rw [i64w (by omega)] | (first | refine sk ?_ | refine sd ?_) <;> try simp only [go_sem] | fail)
    refine callO (c49 (m.map Pair.row) fs (by simp; omega) hf h) [1] 19 2 (by simp only [go_sem]; first | done | simp) (by simp only [List.mem_singleton]; rintro c rfl; rfl) (by rintro _ _ ⟨rfl,rfl⟩; simp) (by intro i hi; rcases (show i = 0 ∨ i = 1 by omega) with rfl | rfl <;> simp only [go_sem]) ?_
    rintro _ _ ⟨rfl,rfl⟩
    simp only [go_sem]
    with_reducible repeat' (first | refine br ?_ ?_ <;> intro h e <;> (try simp only [e,go_sem]) <;> clear e | rw [i64w (by omega)] | (first | refine sk ?_ | refine sd ?_) <;> try simp only [go_sem] | fail)
    exact fin _ _ 101900 101901 (by simp only [go_sem]) (by simp only [go_sem]) (by simp only [go_sem]) (by simp only [go_sem]) (by simp only [go_sem]) (by simp only [go_sem]) (by simp only [go_sem])
def ic117 : IC := sR [oP 6 (.box 40 (.t 2)),oP 8 (.alloc 40 [i0,i0,i0,i0,i0,i0,s0]),oP 9 (.mv (.c (.bool false)))] (sR [mV 17 1,oP 18 (.nilc (.t 17)),fD 19 0 18,lD 20 1 19,oP 21 (.lens (.t 20)),mV 10 21] (.seq (.drw [0,1,3,0,8,24,56,0,128,0,512,0,4095,8191,16383,16383,16383,0,163839,458751,1048575] [(0,mV 23 1),(1,oP 24 (.nilc (.t 23))),(2,lA 25 2 24),(3,mV 26 0),(4,oP 27 (.nilc (.t 26))),(5,fD 28 0 27),(6,lD 29 1 28),(7,fD 30 5 6),(8,lD 31 1 30),(9,fD 32 6 6),(10,lD 33 1 32),(11,mV 34 3),(12,oP 35 (.call 172 [.t 25,.t 29,.t 31,.t 33,.t 34])),(13,mV 22 35),(14,eX 36 22 0),(15,eX 37 22 1),(16,eX 38 22 2),(17,oP 12 (.alloc 89 [s0,.nils])),(18,mV 11 36),(19,nP (.sto 2 (.t 12) (.t 37))),(20,mV 13 38)]) (.seq (sR [mV 39 13,oP 40 (.un .not (.t 39))] (.cond (.t 40) (sR [oP 41 (.build [i0,i0,i0,i0,i0,i0,s0] []),nP (.sto 7 (.t 8) (.t 41)),oP 9 (.mv (.c (.bool false)))] .ret) .skip)) (.seq (.drw [0,0,0,4,0,13,45,109,255,511] [(0,mV 42 0),(1,mV 43 1),(2,mV 44 11),(3,oP 45 (.call 113 [.t 44])),(4,lA 46 2 12),(5,oP 47 (.nilc (.t 42))),(6,fD 48 0 47),(7,nP (.sto 1 (.t 48) (.t 45))),(8,oP 49 (.nilc (.t 43))),(9,nP (.sto 2 (.t 49) (.t 46)))]) (sR [mV 50 1,oP 51 (.nilc (.t 50)),lA 52 2 51,oP 53 (.call 170 [.t 52]),mV 14 53] (.seq (.drw [0,1,3,0,8,31,0,64,63,511] [(0,mV 54 1),(1,oP 55 (.nilc (.t 54))),(2,lA 56 2 55),(3,fD 57 5 6),(4,lD 58 1 57),(5,oP 59 (.call 173 [.t 56,.t 58])),(6,mV 60 14),(7,oP 61 (.lens (.t 60))),(8,mV 15 59),(9,mV 16 61)]) (.seq (sR [mV 62 1,oP 63 (.nilc (.t 62)),fD 64 0 63,lD 65 1 64,oP 66 (.lens (.t 65)),mV 67 10,bN 68 .eql 66 67] (.cond (.t 68) (.drw [0,1,3,0,8,0,32,96,248,0,1016,2047,4095] [(0,mV 69 1),(1,oP 70 (.nilc (.t 69))),(2,lA 71 2 70),(3,fD 72 5 6),(4,lD 73 1 72),(5,fD 74 6 6),(6,lD 75 1 74),(7,oP 76 (.lens (.t 75))),(8,bN 77 .add 73 76),(9,mV 78 10),(10,oP 79 (.mn (.t 77) (.t 78))),(11,oP 80 (.call 173 [.t 71,.t 79])),(12,mV 16 80)]) .skip)) (.seq (.drw [0,0,0,0,0,24,62,1,129,511,1023] [(0,mV 81 15),(1,mV 82 14),(2,mV 83 15),(3,mV 84 16),(4,mV 85 15),(5,oP 86 (.mx (.t 84) (.t 85))),(6,oP 87 (.sls (.t 82) (some (.t 83)) (some (.t 86)))),(7,fD 88 5 6),(8,nP (.sto 1 (.t 88) (.t 81))),(9,fD 89 6 6),(10,nP (.sto 1 (.t 89) (.t 87)))]) (.seq (.drw [0,0,2,6,14,31,63] [(0,lA 90 7 6),(1,fD 91 6 6),(2,lD 92 1 91),(3,oP 93 (.lens (.t 92))),(4,oP 94 (.call 36 [.t 93,.c (.int .i64 1),.c (.int .i64 40)])),(5,nP (.sto 7 (.t 8) (.t 90))),(6,mV 9 94)]) .ret)))))))))
theorem dg117 : digF Tryz.prog Tryz.f117 = some (ic117,[(.cell 8 7 true),(.t 9)]) := by kernel_rfl
theorem en117 : entr Tryz.prog 117 = true := by kernel_rfl
def goesA_up (m : List Pair) (fs : List Flw) (k : Nat) (p : Pk) (out : Bool) (r : V) (o : List Hs) : Prop :=
  ((put m (fs.getD k default).up p.at_ p.text out).2.2 = false ∧ r = .tup [.agg (Pk.row .zero),.bool false] ∧ o = [.var 30 [.sl 3 (m.map Pair.row),.own 1 fs.length],.arr 91 8 (fs.map Flw.row)]) ∨
  ((put m (fs.getD k default).up p.at_ p.text out).2.2 = true ∧ r = .tup [.agg (Pk.row (goesR (fs.getD k default).up (put m (fs.getD k default).up p.at_ p.text out).2.1 p).1),.bool (goesR (fs.getD k default).up (put m (fs.getD k default).up p.at_ p.text out).2.1 p).2] ∧
    o = [.var 30 [.sl 3 ((put m (fs.getD k default).up p.at_ p.text out).1.map Pair.row),.own 1 fs.length],.arr 91 8 ((fs.set k { fs.getD k default with up := (put m (fs.getD k default).up p.at_ p.text out).2.1 }).map Flw.row)])
theorem goesA_no_up {m : List Pair} {fs : List Flw} {k : Nat} {p : Pk} {out : Bool} {f : Flw} {m' : List Pair} {s' : Strm} (hf : fs.getD k default = f) (hP : put m f.up p.at_ p.text out = (m',s',false)) :
    goesA_up m fs k p out (.tup [.agg (Pk.row .zero),.bool false]) [.var 30 [.sl 3 (m.map Pair.row),.own 1 fs.length],.arr 91 8 (fs.map Flw.row)] := by
  unfold goesA_up
  rw [hf,hP]
  exact Or.inl ⟨rfl,rfl,rfl⟩
theorem goesA_yes_up {m : List Pair} {fs : List Flw} {k : Nat} {p : Pk} {out : Bool} {f : Flw} {m' : List Pair} {s' : Strm} (hf : fs.getD k default = f) (hP : put m f.up p.at_ p.text out = (m',s',true)) :
    goesA_up m fs k p out (.tup [.agg (Pk.row (goesR f.up s' p).1),.bool (goesR f.up s' p).2]) [.var 30 [.sl 3 (m'.map Pair.row),.own 1 fs.length],.arr 91 8 ((fs.set k { f with up := s' }).map Flw.row)] := by
  unfold goesA_up
  rw [hf,hP]
  exact Or.inr ⟨rfl,rfl,rfl⟩
theorem c117up (m : List Pair) (fs : List Flw) (k : Nat) (p : Pk) (out : Bool) (hm : mapOk m = true) (hk : k < fs.length) (hs : strmOk (fs.getD k default).up = true) (hp : PkP p) (htx : txOk p.text = true) :
    FnP Tryz.prog G 117 2 [.var 30 [.sl 3 (m.map Pair.row),.own 1 fs.length],.arr 91 8 (fs.map Flw.row)] [.pv 0 0,.pa 1 k 4,.agg [.int .i64 p.kind,.int .i64 p.frm.a,.int .i64 p.frm.p,.int .i64 p.to.a,.int .i64 p.to.p,.int .i64 p.at_,.str p.text],.bool out] (goesA_up m fs k p out) := by
  refine FnP.mk' Tryz.func117 en117 dg117 Tryz.ntmps117 (by simp) ?_ ?_
  · cases hb : (put m (fs.getD k default).up p.at_ p.text out).2.2
    · exact ⟨_,_,.inl ⟨hb,rfl,rfl⟩⟩
    · exact ⟨_,_,.inr ⟨hb,rfl,rfl⟩⟩
  have hpa := hp.at_
  have hpl := hp.len
  have hpk := put_ok (m := m) (s := (fs.getD k default).up) (n := p.at_) (t := p.text) (out := out) hm hs htx hpa.1
  have sb := strmOk_B hs
  obtain ⟨s1,s2,s3⟩ := sb
  have f0 := c172 m (fs.getD k default).up p.at_ p.text out ⟨hm,hs,hpa,hpl⟩
  have gs : ∀ R,((fs.map Flw.row).set k R).getD k [] = R := fun R => by simp [List.getD,hk]
  generalize hf : fs.getD k default = f at *
  simp only [ic117,go_sem,getD_mp hk,hf]
  with_reducible repeat' (first | refine br ?_ ?_ <;> intro h e <;> (try simp only [e,go_sem,getD_mp hk,hf]) <;> clear e | rw [i64w (by omega)] | (first | refine sk ?_ | refine sd ?_) <;> try simp only [go_sem,getD_mp hk,hf] | fail)
  refine callR f0 rfl rfl ?_
  have hml := (mapOk_ports hpk.1).2
  have sb := strmOk_B hpk.2
  have so := sOut_len sb
  have gr : ∀ a b,forP (put m f.up p.at_ p.text out).2.1.parts p.at_ = a → toR f.up (put m f.up p.at_ p.text out).2.1 p = b → goesR f.up (put m f.up p.at_ p.text out).2.1 p = ({ p with at_ := a,text := ((sOut (put m f.up p.at_ p.text out).2.1).take (max b a).toNat).drop a.toNat },within (((sOut (put m f.up p.at_ p.text out).2.1).take (max b a).toNat).drop a.toNat).length 1 40) := fun a b ha hb => by subst ha; subst hb; rfl
  have hto : toR f.up (put m f.up p.at_ p.text out).2.1 p = if f.up.inn.length < (put m f.up p.at_ p.text out).2.1.inn.length then ((sOut (put m f.up p.at_ p.text out).2.1).length : Int) else forP (put m f.up p.at_ p.text out).2.1.parts (min (p.at_ + p.text.length) (put m f.up p.at_ p.text out).2.1.inn.length) := rfl
  have fo1 : 0 ≤ forP (put m f.up p.at_ p.text out).2.1.parts p.at_ ∧ forP (put m f.up p.at_ p.text out).2.1.parts p.at_ ≤ (sOut (put m f.up p.at_ p.text out).2.1).length := forP_le _
  have fo2 : 0 ≤ forP (put m f.up p.at_ p.text out).2.1.parts (min (p.at_ + p.text.length) f.up.inn.length) ∧ forP (put m f.up p.at_ p.text out).2.1.parts (min (p.at_ + p.text.length) f.up.inn.length) ≤ (sOut (put m f.up p.at_ p.text out).2.1).length := forP_le _
  have hinn : f.up.inn.length ≤ (put m f.up p.at_ p.text out).2.1.inn.length := put_inn ..
  generalize hP : put m f.up p.at_ p.text out = P at *
  obtain ⟨m',s',ok⟩ := P
  simp only at hpk hml sb so gr hto fo1 fo2 hinn
  cases ok <;> simp only [go_sem]
  · with_reducible repeat' (first | refine br ?_ ?_ <;> intro h e <;> (try simp only [e,go_sem]) <;> clear e | rw [i64w (by omega)] | (first | refine sk ?_ | refine sd ?_) <;> try simp only [go_sem] | fail)
    refine retN (.tup [.agg (Pk.row .zero),.bool false]) [.var 30 [.sl 3 (m.map Pair.row),.own 1 fs.length],.arr 91 8 (fs.map Flw.row)] [] ?_ (goesA_no_up hf hP) ?_ (by simp [argH,getN]) (by simp only [go_sem])
    · simp only [go_sem,Pk.zero,E.zero]
    · simp only [go_sem]
  have f1 := r113 (m'.map Pair.row) (by simp; omega)
  have f2 := c170 s' sb
  have f3 := c173 s' p.at_ sb (by omega)
  have f4 := c173 s' (min (p.at_ + p.text.length) f.up.inn.length) sb (by omega)
  generalize hA : forP s'.parts p.at_ = A at *
  generalize hB : forP s'.parts (min (p.at_ + p.text.length) f.up.inn.length) = Bb at *
  with_reducible repeat' (first | refine br ?_ ?_ <;> intro h e <;> (try simp only [e,go_sem,getD_mp hk,hf,gs]) <;> clear e | rw [i64w (by omega)] | (first | refine sk ?_ | refine sd ?_) <;> try simp only [go_sem,getD_mp hk,hf,gs] | (first | refine cr (f1 ..) ?_ | refine cr (f2 ..) ?_ | refine cr (f3 ..) ?_ | refine cr (f4 ..) ?_ | refine cr (c36 ..) ?_) <;> try simp only [go_sem,getD_mp hk,hf,gs] | fail)
  · have hto' : toR f.up s' p = Bb := by rw [hto,if_neg (by omega),← hB]; congr 2
    have g := gr A _ rfl hto'
    refine retN (.tup [.agg (Pk.row (goesR f.up s' p).1),.bool (goesR f.up s' p).2]) [.var 30 [.sl 3 (m'.map Pair.row),.own 1 fs.length],.arr 91 8 ((fs.set k { f with up := s' }).map Flw.row)] [] ?_ (goesA_yes_up hf hP) ?_ (by simp [argH,getN]) (by simp only [go_sem])
    · simp only [g,go_sem]
    · simp only [go_sem,List.map_set]
  · have hto' : toR f.up s' p = ((sOut s').length : Int) := by rw [hto,if_pos (by omega)]
    have g := gr A _ rfl hto'
    refine retN (.tup [.agg (Pk.row (goesR f.up s' p).1),.bool (goesR f.up s' p).2]) [.var 30 [.sl 3 (m'.map Pair.row),.own 1 fs.length],.arr 91 8 ((fs.set k { f with up := s' }).map Flw.row)] [] ?_ (goesA_yes_up hf hP) ?_ (by simp [argH,getN]) (by simp only [go_sem])
    · simp only [g,go_sem]
    · simp only [go_sem,List.map_set]
end Go.Proofs.YtblndjmhjaijjaaGreatDoor.W
namespace Go.Proofs.YtblndjmhjaijjaaGreatDoor.M
theorem sendOn_to (was is : Strm) (p : Pk) (i : E) : sendOn was is { p with to := i } = (sendOn was is p).map fun q => { q with to := i } := by
  have h3 : ∀ p : Pk,sendOn was is p = if forP is.parts p.at_ ≥ toR was is p then none else if toR was is p - forP is.parts p.at_ ≤ 40 then some { p with at_ := forP is.parts p.at_,text := ((sOut is).take (toR was is p).toNat).drop (forP is.parts p.at_).toNat } else none := fun p => rfl
  rw [h3,h3]
  have : toR was is { p with to := i } = toR was is p := rfl
  rw [this]
  simp only
  split
  · rfl
  · split <;> rfl
theorem sendOn_frm (was is : Strm) (p : Pk) (i : E) : sendOn was is { p with frm := i } = (sendOn was is p).map fun q => { q with frm := i } := by
  have h3 : ∀ p : Pk,sendOn was is p = if forP is.parts p.at_ ≥ toR was is p then none else if toR was is p - forP is.parts p.at_ ≤ 40 then some { p with at_ := forP is.parts p.at_,text := ((sOut is).take (toR was is p).toNat).drop (forP is.parts p.at_).toNat } else none := fun p => rfl
  rw [h3,h3]
  have : toR was is { p with frm := i } = toR was is p := rfl
  rw [this]
  simp only
  split
  · rfl
  · split <;> rfl
theorem put_mapF (m : List Pair) (s : Strm) (n : Int) (t : B) : (put m s n t false).1 = m := by
  have key : ∀ (l : List Pc) (m : List Pair) (s : B),(turned m l s false).1 = m := by
    intro l
    induction l with
    | nil => intro m s; rfl
    | cons q l ih => intro m s; simp only [turned]; rw [ih]; rfl
  unfold put
  split
  · exact key _ _ _
  · rfl
end Go.Proofs.YtblndjmhjaijjaaGreatDoor.M
namespace Go.Proofs.YtblndjmhjaijjaaGreatDoor.W
open Go Go.RowKit Go.Proofs Go.Proofs.YtblndjmhjaijjaaGreatDoor.VL Go.Proofs.YtblndjmhjaijjaaGreatDoor.M
attribute [local congr] optK_congr guardK_congr condK_congr runT_congr runD_congr wpI_congr CallV_congr LoopI_congr pureK_congr effK_congr calK_congr stepV_congr doV_congr exN_congr exB_congr retF_congr retQ_congr gK_congr condW_congr ldK_congr stoK_congr
attribute [local go_sem] argL_cons argL_nil argH_nil argH_cons chH_getH wpI_seq wpI_reg wpI_drw wpI_ret cond_k condW_t condW_f wpI_skip wpI_block wpI_exit wpI_loop exN_n exN_r exN_e exB_n exB_r exB_h exB_m runT_k kT_e runT_nil runD_k kD_e runD_nil step_u step_k gK_t gK_f do_mv do_bino bo_add bo_sub bo_mul bo_subu bo_quo bo_rem bo_xor bo_eql bo_neq bo_lss bo_leq bo_gtr bo_geq bo_cat bo_eqs bo_nes do_pick do_call do_cal calK_f do_box do_alloc do_ldk ldK_s do_stok stoK_s do_fad do_nilc do_not do_neg do_len do_lens do_ext do_eqs do_beq do_isn do_cvi do_sls do_idx do_mn do_mx do_build do_mkf do_s2b do_b2s do_slv do_iad do_bsl do_mks do_app ev_t ev_c app_some app_none
attribute [local go_sem] List.nil_append List.cons_append List.append_nil getL_hit getL_miss getH_nil getH_hit getH_miss nm_eq ne_eq Nat.reduceEqDiff not_false_eq_true Nat.reduceAdd Nat.add_zero Nat.zero_add if_true if_false ite_true ite_false pureK_s effK_s optK_s gdV_t gdV_f gdV_s pick_b ge_iff_le gt_iff_lt cond_true cond_false fresh_k cells_agg cells_int cells_bool cells_str cells_own cells_sl cells_nils ld_pv ld_pa ld_ip ldVar_t ldVar_f ldArr_t ldArr_f ldRow_t ldRow_f ldA_s ld1_s fad_pv fad_pa fad_ip nilc_pv nilc_pa nilc_ip not_b neg_i cvi_i ext_t retF_n retF_r
attribute [local go_sem] resV_k rvs_nil rvs_t rvs_c fstO_s consO_s resK_s resL_1 resL_2 resL_3 resL_4  Option.some.injEq List.map_cons List.map_nil List.all_cons List.all_nil Bool.and_true Bool.and_self Bool.not_true Bool.not_false Option.map_some Option.map_none sls_s slsG_s loV_n loV_i hiV_n hiV_i idx_s mn_i mx_i s2b_s b2s_s bytO_s bytes_nil bytes_cons conB_s slv_sl slv_own slv_nils slvG_s slvN_s slvO_s iad_sl iadG_map take_map drop_map List.length_map iad_own iad_view iadO_a iadW_a mks_i rowO_nils rowO_sl rowO_own rowA_a eq_self appG_nils appG_own appO_a guardP_T mapA_s bld_nil mkf_nil bldF_e fill_nil fill_cons mkf_e lens_s len_nils len_sl len_own len_view isn_nile isn_erre List.getElem?_cons_zero List.getElem?_cons_succ List.length_cons List.length_nil decide_true decide_false Int.toNat_natCast Int.cast_ofNat_Int Int.reduceLT Int.reduceLE Int.reduceEq Int.reduceAdd Int.reduceSub Int.reduceMul Int.reduceNeg Int.reduceToNat List.getD_cons_zero List.getD_cons_succ not_true_eq_false not_false_eq_true Bool.false_eq_true Bool.true_eq_false reduceCtorEq
attribute [local go_sem] E.row Pc.row Pair.row Part.row Strm.row Flw.row Pk.row Door.row Conv.row World.row Ev.row rdV E.eta Pc.eta Pair.eta Part.eta Strm.eta Pk.eta Flw.eta Conv.eta Door.eta World.eta Ev.eta
attribute [local go_sem] sub_ok st_pv st_pa stVar_v stArr_a Nat.le_refl List.drop_zero List.drop_succ_cons List.take_succ_cons List.take_zero setR Nat.reduceLeDiff
attribute [local go_sem] wk_bot wk2_bot wk1_bot wk_undef wk_tup_e wk2_agg_e wk_agg_e wk1_fn_e wk2_fn_e wk_fn_e wkl_nil wkl_cons wkh_var_e wkh_arr_e wkh_fresh_e wkh_dead_v wkh_dead_a wkh_dead_d wk0_undef wk0_int wk0_bool wk0_str wk0_nils wk0_nils_sl wk0_nilp wk0_nile wk0_erre wk0_sl wk0_iptr wk0_own wk0_view wk0_pv wk0_pa fzA_a fzW_a fzP_v wk0_own_sl wk0_view_sl wk0_pv_iptr WkS_nil WkS_cons WkN_nil WkN_cons nonB_nil nonB_cons getN_nil getN_hit getN_miss pinOk_0 pinOk_s and_true true_and and_self
attribute [local go_sem] bot_int one_int unt_int clo_int bot_bool one_bool unt_bool clo_bool bot_str one_str unt_str clo_str bot_nils one_nils unt_nils clo_nils bot_nilp one_nilp unt_nilp clo_nilp bot_nile one_nile unt_nile clo_nile bot_erre one_erre unt_erre clo_erre bot_raw one_raw unt_raw clo_raw bot_sl one_sl unt_sl clo_sl bot_own one_own unt_own clo_own bot_view one_view unt_view clo_view bot_pv one_pv unt_pv clo_pv bot_pa one_pa unt_pa clo_pa bot_iptr one_iptr unt_iptr clo_iptr unt_agg unt_fn one_fn
attribute [local go_sem] rn_tup rn_agg rn2_agg rn_fn rn2_fn rnfn1 rn_bot rn2_bot rn1_bot rn0_int rn0_bool rn0_str rn0_nils rn0_nilp rn0_nile rn0_erre rn0_sl rn0_iptr rn0_own rn0_view rn0_pv rn0_pa hrn_var hrn_arr hrn_dead outU_nil outU_cons deads_nil deads_cons bk_ge bk_lt nsF_0 nsF_s chH_0 chH_s chH_n newN_e andB_s eqR_nil eqR_i eqR_b eqR_s mapX_f mapX_t eqs_a beq_f beq_t live_arr live_var nsl_nil nsl_cons Nat.reduceMul Nat.reduceLT Nat.zero_le Nat.not_lt_zero
attribute [local go_sem] mV lD lA fD bN eX oP nP sR i0 s0
def outB (x : Door × Option Pk) (r : V) (o : List Hs) : Prop :=
  ∃ q,r = .tup [.agg (Pk.row q),.bool x.2.isSome] ∧ (∀ q',x.2 = some q' → q = q') ∧ o = [.var 30 [.sl 3 (x.1.map.map Pair.row),.own 1 x.1.flows.length],.arr 91 8 (x.1.flows.map Flw.row)]
theorem outB_no {d : Door} : outB (d,none) (.tup [.agg (Pk.row .zero),.bool false]) [.var 30 [.sl 3 (d.map.map Pair.row),.own 1 d.flows.length],.arr 91 8 (d.flows.map Flw.row)] := ⟨.zero,rfl,fun q h => (by simp at h),rfl⟩
theorem outB_if (d : Door) (q : Pk) (ok : Bool) : outB (d,if ok = true then some q else none) (.tup [.agg (Pk.row q),.bool ok]) [.var 30 [.sl 3 (d.map.map Pair.row),.own 1 d.flows.length],.arr 91 8 (d.flows.map Flw.row)] :=
  ⟨q,by cases ok <;> rfl,fun q' h => by cases ok <;> simp at h; exact h,rfl⟩
def ic191 : IC := sR [oP 3 (.box 40 (.t 1)),oP 4 (.alloc 40 [i0,i0,i0,i0,i0,i0,s0]),oP 5 (.mv (.c (.bool false)))] (.seq (.drw [0,1,3,7,0,16,48,127,255,511,511,0,3071,8191] [(0,mV 10 0),(1,oP 11 (.nilc (.t 10))),(2,fD 12 0 11),(3,lD 13 1 12),(4,fD 14 3 3),(5,fD 15 1 14),(6,lD 16 1 15),(7,oP 17 (.call 223 [.t 13,.t 16])),(8,mV 9 17),(9,eX 18 9 0),(10,eX 19 9 1),(11,oP 6 (.alloc 38 [i0,i0])),(12,nP (.sto 2 (.t 6) (.t 18))),(13,mV 7 19)]) (.seq (.drw [0,1,3,0,0,16,63,127] [(0,mV 20 0),(1,oP 21 (.nilc (.t 20))),(2,lA 22 2 21),(3,lA 23 2 6),(4,fD 24 1 3),(5,lA 25 2 24),(6,oP 26 (.call 54 [.t 22,.t 23,.t 25])),(7,mV 8 26)]) (.seq (sR [mV 27 7,oP 28 (.un .not (.t 27)),mV 29 28,⟨some 30,some (29,false),.mv (.t 8)⟩,⟨some 31,some (29,false),.bin .lss (.t 30) (.c i0)⟩,oP 32 (.pick (.t 29) (.c (.bool true)) (.t 31))] (.cond (.t 32) (sR [oP 33 (.build [i0,i0,i0,i0,i0,i0,s0] []),nP (.sto 7 (.t 4) (.t 33)),oP 5 (.mv (.c (.bool false)))] .ret) .skip)) (sR [lA 34 2 6,fD 35 3 3,nP (.sto 2 (.t 35) (.t 34))] (.seq (sR [fD 36 0 3,lD 37 1 36,oP 38 (.bin .eql (.t 37) (.c (.int .i64 2)))] (.cond (.t 38) (.seq (.drw [0,1,3,7,0,31,63,127,0,511,1023,1023,4095,8191] [(0,mV 39 0),(1,oP 40 (.nilc (.t 39))),(2,fD 41 1 40),(3,lD 42 1 41),(4,mV 43 8),(5,oP 44 (.iad 8 (.t 42) (.t 43))),(6,fD 45 4 44),(7,lA 46 2 45),(8,lA 47 7 3),(9,oP 48 (.call 116 [.t 46,.t 47])),(10,eX 49 48 0),(11,eX 50 48 1),(12,nP (.sto 7 (.t 4) (.t 49))),(13,mV 5 50)]) .ret) .skip)) (.seq (.drw [0,0,2,6,14,0,62,126,0,511,1023,1023,4095,8191] [(0,mV 51 0),(1,mV 52 0),(2,oP 53 (.nilc (.t 52))),(3,fD 54 1 53),(4,lD 55 1 54),(5,mV 56 8),(6,oP 57 (.iad 8 (.t 55) (.t 56))),(7,fD 58 6 57),(8,lA 59 7 3),(9,oP 60 (.call 117 [.t 51,.t 58,.t 59,.c (.bool false)])),(10,eX 61 60 0),(11,eX 62 60 1),(12,nP (.sto 7 (.t 4) (.t 61))),(13,mV 5 62)]) .ret))))))
theorem dg191 : digF Tryz.prog Tryz.f191 = some (ic191,[(.cell 4 7 true),(.t 5)]) := by kernel_rfl
theorem en191 : entr Tryz.prog 191 = true := by kernel_rfl
def outC (x : Door × Option Pk) (r : V) (o : List Hs) : Prop := ∃ o',outB x r o' ∧ ∀ c,HsW (chH o c) (chH o' c)
theorem outC_of {x : Door × Option Pk} {r : V} {o : List Hs} (h : outB x r o) : outC x r o := ⟨o,h,fun c => HsW.refl _⟩
theorem openF_full {d : Door} {i o : E} (h : flowIx d.flows i o = none) (h3 : ¬ d.flows.length < 4) : openR d i o = (d,0,false) := by
  rcases hm : mOut d.map i with ⟨m,n,ok⟩
  cases ok <;> simp [openR,openF,h,hm,h3]
theorem getD_last (l : List (List V)) (r : List V) {n : Nat} (h : n = l.length) (x : List V) : (l ++ [r]).getD n x = r := by
  subst h; simp [List.getD]
theorem rowsNew (fs : List Flw) (i o : E) : RowsW (fs.map Flw.row ++ [[.int .i64 i.a,.int .i64 i.p,.int .i64 o.a,.int .i64 o.p,.str [],.nils,.str [],.nils]]) ((fs ++ [Flw.mk i o .zero .zero]).map Flw.row) := by
  rw [List.map_append]
  exact RowsW.app (RowsW.refl _) (RowsW.one (.same _ (.same _ (.same _ (.same _ (.same _ (.nils 2 (.same _ (.nils 2 .nil)))))))))
theorem hsNew (M : List Pair) (fs : List Flw) (i o : E) : ∀ c,HsW (chH [.var 30 [.sl 3 (M.map Pair.row),.own 1 (fs ++ [Flw.mk i o .zero .zero]).length],.arr 91 8 (fs.map Flw.row ++ [[.int .i64 i.a,.int .i64 i.p,.int .i64 o.a,.int .i64 o.p,.str [],.nils,.str [],.nils]])] c)
    (chH [.var 30 [.sl 3 (M.map Pair.row),.own 1 (fs ++ [Flw.mk i o .zero .zero]).length],.arr 91 8 ((fs ++ [Flw.mk i o .zero .zero]).map Flw.row)] c)
  | 0 => rfl
  | 1 => ⟨rfl,rfl,rowsNew fs i o⟩
  | n + 2 => rfl
def ic50 : IC := sR [oP 3 (.box 40 (.t 1)),oP 4 (.alloc 40 [i0,i0,i0,i0,i0,i0,s0]),oP 5 (.mv (.c (.bool false)))] (.seq (.drw [0,1,3,0,8,0,32,127,255] [(0,mV 10 0),(1,oP 11 (.nilc (.t 10))),(2,lA 12 2 11),(3,fD 13 1 3),(4,lA 14 2 13),(5,fD 15 3 3),(6,lA 16 2 15),(7,oP 17 (.call 54 [.t 12,.t 14,.t 16])),(8,mV 6 17)]) (.seq (sR [mV 18 6,oP 19 (.bin .lss (.t 18) (.c i0))] (.cond (.t 19) (.seq (.drw [0,1,3,7,0,16,63,127,255,255,255,511,3071,8191] [(0,mV 21 0),(1,oP 22 (.nilc (.t 21))),(2,fD 23 0 22),(3,lD 24 1 23),(4,fD 25 1 3),(5,lA 26 2 25),(6,oP 27 (.call 115 [.t 24,.t 26])),(7,mV 20 27),(8,eX 28 20 0),(9,eX 29 20 1),(10,eX 30 20 2),(11,mV 7 28),(12,mV 8 29),(13,mV 9 30)]) (.seq (sR [mV 31 9,oP 32 (.un .not (.t 31)),mV 33 32,⟨some 34,some (33,false),.mv (.t 0)⟩,⟨some 35,some (33,false),.nilc (.t 34)⟩,⟨some 36,some (33,false),.fad 1 (.t 35)⟩,⟨some 37,some (33,false),.ld 1 false (.t 36)⟩,⟨some 38,some (33,false),.len (.t 37)⟩,⟨some 39,some (33,false),.bin .geq (.t 38) (.c (.int .i64 4))⟩,oP 40 (.pick (.t 33) (.c (.bool true)) (.t 39))] (.cond (.t 40) (sR [oP 41 (.build [i0,i0,i0,i0,i0,i0,s0] []),nP (.sto 7 (.t 4) (.t 41)),oP 5 (.mv (.c (.bool false)))] .ret) .skip)) (sR [mV 42 0,oP 43 (.nilc (.t 42)),fD 44 1 43,lD 45 1 44,oP 46 (.len (.t 45)),mV 6 46] (sR [mV 47 0,mV 48 7,oP 49 (.nilc (.t 47)),fD 50 0 49,nP (.sto 1 (.t 50) (.t 48))] (.drw [0,0,2,6,14,0,32,0,128,480,992,2046,4095,8191,16383] [(0,mV 51 0),(1,mV 52 0),(2,oP 53 (.nilc (.t 52))),(3,fD 54 1 53),(4,lD 55 1 54),(5,fD 56 1 3),(6,lA 57 2 56),(7,fD 58 3 3),(8,lA 59 2 58),(9,oP 60 (.build [i0,i0,i0,i0,s0,.nils,s0,.nils] [(0,(2,.t 57)),(2,(2,.t 59))])),(10,oP 61 (.bsl 91 8 [.t 60])),(11,oP 62 (.app 91 8 (.t 55) (.t 61))),(12,oP 63 (.nilc (.t 51))),(13,fD 64 1 63),(14,nP (.sto 1 (.t 64) (.t 62)))]))))) .skip)) (.seq (.drw [0,1,3,7,0,16,63,127,255,511] [(0,mV 65 0),(1,oP 66 (.nilc (.t 65))),(2,fD 67 0 66),(3,lD 68 1 67),(4,fD 69 1 3),(5,lA 70 2 69),(6,oP 71 (.call 53 [.t 68,.t 70])),(7,oP 72 (.build [i0,i0] [(0,(1,.c (.int .i64 9))),(1,(1,.t 71))])),(8,fD 73 1 3),(9,nP (.sto 2 (.t 73) (.t 72)))]) (.seq (sR [fD 74 0 3,lD 75 1 74,oP 76 (.bin .eql (.t 75) (.c (.int .i64 2)))] (.cond (.t 76) (.seq (.drw [0,1,3,7,0,31,63,127,0,511,1023,1023,4095,8191] [(0,mV 77 0),(1,oP 78 (.nilc (.t 77))),(2,fD 79 1 78),(3,lD 80 1 79),(4,mV 81 6),(5,oP 82 (.iad 8 (.t 80) (.t 81))),(6,fD 83 6 82),(7,lA 84 2 83),(8,lA 85 7 3),(9,oP 86 (.call 116 [.t 84,.t 85])),(10,eX 87 86 0),(11,eX 88 86 1),(12,nP (.sto 7 (.t 4) (.t 87))),(13,mV 5 88)]) .ret) .skip)) (.seq (.drw [0,0,2,6,14,0,62,126,0,511,1023,1023,4095,8191] [(0,mV 89 0),(1,mV 90 0),(2,oP 91 (.nilc (.t 90))),(3,fD 92 1 91),(4,lD 93 1 92),(5,mV 94 6),(6,oP 95 (.iad 8 (.t 93) (.t 94))),(7,fD 96 4 95),(8,lA 97 7 3),(9,oP 98 (.call 117 [.t 89,.t 96,.t 97,.c (.bool true)])),(10,eX 99 98 0),(11,eX 100 98 1),(12,nP (.sto 7 (.t 4) (.t 99))),(13,mV 5 100)]) .ret)))))
theorem dg50 : digF Tryz.prog Tryz.f50 = some (ic50,[(.cell 4 7 true),(.t 5)]) := by kernel_rfl
theorem en50 : entr Tryz.prog 50 = true := by kernel_rfl
theorem c50 (d : Door) (p : Pk) (hd : doorOk d = true) (hp : PkP p) (hi : p.frm.inside = true) (ho : p.to.outside = true) : FnP Tryz.prog G 50 1 [.var 30 [.sl 3 (d.map.map Pair.row),.own 1 d.flows.length],.arr 91 8 (d.flows.map Flw.row)]
    [.pv 0 0,.agg [.int .i64 p.kind,.int .i64 p.frm.a,.int .i64 p.frm.p,.int .i64 p.to.a,.int .i64 p.to.p,.int .i64 p.at_,.str p.text]] (outB (dOut d p)) := by
  refine FnP.rowsOut (post := outC (dOut d p)) ?_ fun r o h => h
  refine FnP.mk' Tryz.func50 en50 dg50 Tryz.ntmps50 (by simp) ?_ ?_
  · exact ⟨_,_,outC_of ⟨(dOut d p).2.getD .zero,rfl,fun q' h => by rw [h]; rfl,rfl⟩⟩
  obtain ⟨hm,hfl,_⟩ := doorOk_iff.1 hd
  obtain ⟨hmp,hml⟩ := mapOk_ports hm
  have hyes := fun ok => openR_ok hd hi ho ok
  have hout := fun ok => dOut_yes (p := p) ok (hyes ok).kl
  have hno := fun ok => dOut_no (d := d) (p := p) ok
  simp only [ic50,go_sem]
  with_reducible repeat' (first | refine br ?_ ?_ <;> intro h e <;> (try simp only [e,go_sem]) <;> clear e | rw [i64w (by omega)] | (first | refine sk ?_ | refine sd ?_) <;> try simp only [go_sem] | fail)
  refine callF (c54 (d.map.map Pair.row) d.flows p.frm p.to (by omega)) [1] false (by simp only [go_sem]; first | done | simp [E.row,Pc.row,Pair.row,Part.row,Flw.row,Pk.row,Conv.row]) (by simp only [List.mem_singleton]; rintro c rfl; rfl) rfl (.inr rfl) ?_
  simp only [go_sem]
  cases hf : flowIx d.flows p.frm p.to with
  | some k =>
    have hop := openF_has hf
    rw [hop] at hyes hout hno
    have hlt : ¬ ((k : Int) < 0) := by omega
    simp only [ixI,go_sem,eq_false hlt]
    obtain ⟨x1,x2,x3,x4,x5,x6,x7,x8⟩ := hyes rfl
    have hout := hout rfl
    simp only at x1 x2 x3 x4 x5 x6 x7 x8 hout
    rw [hout]
    have hg : d.flows.getD k default = Flw.at d k := rfl
    rw [hg] at x6 x7
    have s2 := strmOk_B x7
    have hpa := hp.at_
    have hpl := hp.len
    have f0 := c53 d.map p.frm.a p.frm.p (by omega)
    have f1 := c116 (Flw.at d k).down { p with frm := ⟨9,portOf d.map p.frm⟩ } s2 (by simp only; omega)
    with_reducible repeat' (first | refine br ?_ ?_ <;> intro h e <;> (try simp only [e,go_sem,getD_mp x4,hg]) <;> clear e | rw [i64w (by omega)] | (first | refine sk ?_ | refine sd ?_) <;> try simp only [go_sem,getD_mp x4,hg] | (first | refine cr (f0 ..) ?_ | refine cr (f1 ..) ?_) <;> try simp only [go_sem,getD_mp x4,hg] | fail)
    · have hx : ∀ b,(acksR (Flw.at d k).down { p with frm := ⟨9,portOf d.map p.frm⟩ }).2 = b → outK d k p = (d,if b then some (acksR (Flw.at d k).down { p with frm := ⟨9,portOf d.map p.frm⟩ }).1 else none) := fun b hb => by
        subst hb
        have hk2 : p.kind = 2 := by assumption
        simp only [outK,acksR]
        rw [if_pos hk2]
        by_cases hc : p.at_ > ((sOut (Flw.at d k).down).length : Int)
        · rw [if_pos hc,if_pos hc]; rfl
        · rw [if_neg hc,if_neg hc,hp.ack hk2,hk2]; rfl
      generalize hA : acksR (Flw.at d k).down { p with frm := ⟨9,portOf d.map p.frm⟩ } = A at *
      obtain ⟨q,ok⟩ := A
      have hx := hx _ rfl
      simp only at hx
      rw [hx]
      refine retN _ _ [] ?_ (outC_of (outB_if d q ok)) ?_ (by simp [argH,getN]) (by simp only [go_sem])
      · simp only [go_sem]
      · simp only [go_sem]
    have hk2 : ¬ p.kind = 2 := by assumption
    have htx := hp.tx.resolve_left hk2
    refine callN (c117up d.map d.flows k { p with frm := ⟨9,portOf d.map p.frm⟩ } true hm x4 x6 ⟨hp.at_,hp.len,hp.tx,hp.ack,hp.kd⟩ htx) [0,1] [] true 98 2 (by simp only [go_sem]; first | done | simp) (by simp only [go_sem]; first | done | simp) (by simp) (by simp) (by simp) ?_ ?_ ?_
    · rintro res out (⟨_,rfl,rfl⟩ | ⟨_,rfl,rfl⟩)
      · exact ⟨by simp,by simp,.inl rfl,fun i hi => by rcases (show i = 0 ∨ i = 1 by omega) with rfl | rfl <;> simp [chH,stepOk]⟩
      · exact ⟨by simp,by simp,.inl rfl,fun i hi => by rcases (show i = 0 ∨ i = 1 by omega) with rfl | rfl <;> simp [chH,stepOk]⟩
    · intro i hi
      rcases (show i = 0 ∨ i = 1 by omega) with rfl | rfl <;> simp only [go_sem]
    have hko : outK d k p = if (put d.map (Flw.at d k).up p.at_ p.text true).2.2 = false then (d,none)
        else (⟨(put d.map (Flw.at d k).up p.at_ p.text true).1,d.flows.set k { Flw.at d k with up := (put d.map (Flw.at d k).up p.at_ p.text true).2.1 }⟩,
          sendOn (Flw.at d k).up (put d.map (Flw.at d k).up p.at_ p.text true).2.1 { p with frm := ⟨9,portOf d.map p.frm⟩ }) := by
      simp only [outK]; rw [if_neg hk2,sendOn_frm _ _ p ⟨9,portOf d.map p.frm⟩]
    rintro res out (⟨h,rfl,rfl⟩ | ⟨h,rfl,rfl⟩)
    all_goals
      simp only [hg] at h ⊢
      generalize hP : put d.map (Flw.at d k).up p.at_ p.text true = P at *
      obtain ⟨m',s',ok'⟩ := P
      simp only at h hko
      subst h
      simp only [go_sem]
    · rw [if_pos rfl] at hko
      rw [hko]
      with_reducible repeat' (first | refine br ?_ ?_ <;> intro h e <;> (try simp only [e,go_sem]) <;> clear e | rw [i64w (by omega)] | (first | refine sk ?_ | refine sd ?_) <;> try simp only [go_sem] | fail)
      refine retN _ _ [] ?_ (outC_of outB_no) ?_ (by simp [argH,getN]) (by simp only [go_sem])
      · simp only [go_sem]
      · simp only [go_sem]
    · rw [if_neg (by simp),goesR_on] at hko
      rw [hko]
      with_reducible repeat' (first | refine br ?_ ?_ <;> intro h e <;> (try simp only [e,go_sem]) <;> clear e | rw [i64w (by omega)] | (first | refine sk ?_ | refine sd ?_) <;> try simp only [go_sem] | fail)
      refine retN _ _ [] ?_ (outC_of (outB_if ⟨m',d.flows.set k { Flw.at d k with up := s' }⟩ _ _)) ?_ (by simp [argH,getN]) (by simp only [go_sem])
      · simp only [go_sem]
      · simp only [go_sem,List.map_set,List.length_set]
  | none =>
    simp only [ixI,go_sem]
    with_reducible repeat' (first | refine br ?_ ?_ <;> intro h e <;> (try simp only [e,go_sem]) <;> clear e | rw [i64w (by omega)] | (first | refine sk ?_ | refine sd ?_) <;> try simp only [go_sem] | fail)
    have f9 := c115 d.map p.frm.a p.frm.p hmp (by omega)
    have no : ∀ l mm,dOut d p = (d,none) → getL l 4 = .pv 1004 0 → getL l 5 = .bool false → getH mm 1004 = .var 40 (Pk.row .zero) → getH mm 0 = .var 30 [.sl 3 (d.map.map Pair.row),.own 1 d.flows.length] → getH mm 1 = .arr 91 8 (d.flows.map Flw.row) →
        retQ [.cell 4 7 true,.t 5] 1 (outC (dOut d p)) .ret ⟨getL l,getH mm⟩ := fun l mm hx h1 h2 h3 h4 h5 => by
      rw [hx]
      refine retN _ _ [] ?_ (outC_of outB_no) ?_ (by simp [argH,getN]) (by simp only [go_sem])
      · simp only [go_sem,h1,h2,h3]
      · simp only [go_sem,h4,h5]
    refine callR f9 rfl rfl ?_
    simp only [go_sem]
    cases hok : (mOut d.map p.frm).2.2 with
    | false =>
      rw [openF_no hf hok] at hno
      simp only [go_sem]
      with_reducible repeat' (first | refine br ?_ ?_ <;> intro h e <;> (try simp only [e,go_sem]) <;> clear e | rw [i64w (by omega)] | (first | refine sk ?_ | refine sd ?_) <;> try simp only [go_sem] | fail)
      exact no _ _ (hno rfl) (by simp only [go_sem]) (by simp only [go_sem]) (by simp only [go_sem,Pk.zero,E.zero]) (by simp only [go_sem]) (by simp only [go_sem])
    | true =>
      simp only [go_sem]
      with_reducible repeat' (first | refine br ?_ ?_ <;> intro h e <;> (try simp only [e,go_sem]) <;> clear e | rw [i64w (by omega)] | (first | refine sk ?_ | refine sd ?_) <;> try simp only [go_sem] | fail)
      · rw [openF_full hf (by omega)] at hno
        exact no _ _ (hno rfl) (by simp only [go_sem]) (by simp only [go_sem]) (by simp only [go_sem,Pk.zero,E.zero]) (by simp only [go_sem]) (by simp only [go_sem])
      rw [openF_new hf hok (by omega)] at hyes hout
      obtain ⟨x1,x2,x3,x4,x5,x6,x7,x8⟩ := hyes rfl
      have hout := hout rfl
      simp only at x1 x2 x3 x4 x5 x6 x7 x8 hout
      rw [hout]
      have hm2 := (mapOk_ports x1).2
      have hpa := hp.at_
      have hpl := hp.len
      have hg : Flw.at ⟨(mOut d.map p.frm).1,d.flows ++ [Flw.mk p.frm p.to .zero .zero]⟩ d.flows.length = Flw.mk p.frm p.to .zero .zero := by simp [Flw.at,List.getD]
      have hx : ∀ R : List V,((d.flows.map Flw.row) ++ [R]).getD d.flows.length [] = R := fun R => getD_last _ _ (by simp) _
      have f0 := c53 (mOut d.map p.frm).1 p.frm.a p.frm.p (by omega)
      generalize hM : (mOut d.map p.frm).1 = M at *
      with_reducible repeat' (first | refine br ?_ ?_ <;> intro h e <;> (try simp only [e,go_sem,hx]) <;> clear e | rw [i64w (by omega)] | (first | refine sk ?_ | refine sd ?_) <;> try simp only [go_sem,hx] | (first | refine cr (f0 ..) ?_) <;> try simp only [go_sem,hx] | fail)
      all_goals
        refine effG (by simp only [List.length_append,List.length_map,List.length_cons,List.length_nil]; omega) ?_
        simp only [go_sem,hx]
        with_reducible repeat' (first | refine br ?_ ?_ <;> intro h e <;> (try simp only [e,go_sem,hx]) <;> clear e | rw [i64w (by omega)] | (first | refine sk ?_ | refine sd ?_) <;> try simp only [go_sem,hx] | fail)
      · have f1 := c116 .zero { p with frm := ⟨9,portOf M p.frm⟩ } (strmOk_B strmOk_zero) (by simp only; omega)
        refine callF f1 [] true (by simp only [go_sem,Strm.zero]) (by simp) rfl (.inl rfl) ?_
        simp only [go_sem]
        with_reducible repeat' (first | refine br ?_ ?_ <;> intro h e <;> (try simp only [e,go_sem,hx]) <;> clear e | rw [i64w (by omega)] | (first | refine sk ?_ | refine sd ?_) <;> try simp only [go_sem,hx] | fail)
        have hx2 : ∀ b,(acksR .zero { p with frm := ⟨9,portOf M p.frm⟩ }).2 = b → outK ⟨M,d.flows ++ [Flw.mk p.frm p.to .zero .zero]⟩ d.flows.length p = (⟨M,d.flows ++ [Flw.mk p.frm p.to .zero .zero]⟩,if b then some (acksR .zero { p with frm := ⟨9,portOf M p.frm⟩ }).1 else none) := fun b hb => by
          subst hb
          have hk2 : p.kind = 2 := by assumption
          simp only [outK,acksR,hg]
          rw [if_pos hk2]
          by_cases hc : p.at_ > ((sOut .zero).length : Int)
          · rw [if_pos hc,if_pos hc]; rfl
          · rw [if_neg hc,if_neg hc,hp.ack hk2,hk2]; rfl
        generalize hA : acksR .zero { p with frm := ⟨9,portOf M p.frm⟩ } = A at *
        obtain ⟨q,ok⟩ := A
        have hx2 := hx2 _ rfl
        simp only at hx2
        rw [hx2]
        refine retN _ _ [(1,1062)] ?_ ⟨_,outB_if ⟨M,d.flows ++ [Flw.mk p.frm p.to .zero .zero]⟩ q ok,hsNew M d.flows p.frm p.to⟩ ?_ (by simp [argH,getN]) (by simp only [go_sem])
        · simp only [go_sem]
        · simp only [go_sem]; simp
      have hk2 : ¬ p.kind = 2 := by assumption
      have htx := hp.tx.resolve_left hk2
      refine callN (FnP.rowsIn (c117up M (d.flows ++ [Flw.mk p.frm p.to .zero .zero]) d.flows.length { p with frm := ⟨9,portOf M p.frm⟩ } true x1 x4 x6 ⟨hp.at_,hp.len,hp.tx,hp.ack,hp.kd⟩ htx) (hsNew M d.flows p.frm p.to)) [0,1062] [] true 98 2 (by simp only [go_sem]; first | done | simp) (by simp only [go_sem]; first | done | simp) (by simp) (by simp) (by simp) ?_ ?_ ?_
      · rintro res out (⟨_,rfl,rfl⟩ | ⟨_,rfl,rfl⟩)
        · exact ⟨by simp,by simp,.inl rfl,fun i hi => by rcases (show i = 0 ∨ i = 1 by omega) with rfl | rfl <;> simp [chH,stepOk]⟩
        · exact ⟨by simp,by simp,.inl rfl,fun i hi => by rcases (show i = 0 ∨ i = 1 by omega) with rfl | rfl <;> simp [chH,stepOk]⟩
      · intro i hi
        rcases (show i = 0 ∨ i = 1 by omega) with rfl | rfl <;> simp only [go_sem]
      have hgd : (d.flows ++ [Flw.mk p.frm p.to .zero .zero]).getD d.flows.length default = Flw.mk p.frm p.to .zero .zero := hg
      have hko : outK ⟨M,d.flows ++ [Flw.mk p.frm p.to .zero .zero]⟩ d.flows.length p = if (put M .zero p.at_ p.text true).2.2 = false then (⟨M,d.flows ++ [Flw.mk p.frm p.to .zero .zero]⟩,none)
          else (⟨(put M .zero p.at_ p.text true).1,(d.flows ++ [Flw.mk p.frm p.to .zero .zero]).set d.flows.length { Flw.mk p.frm p.to .zero .zero with up := (put M .zero p.at_ p.text true).2.1 }⟩,
            sendOn .zero (put M .zero p.at_ p.text true).2.1 { p with frm := ⟨9,portOf M p.frm⟩ }) := by
        simp only [outK,hg]; rw [if_neg hk2,sendOn_frm _ _ p ⟨9,portOf M p.frm⟩]
      rintro res out (⟨h,rfl,rfl⟩ | ⟨h,rfl,rfl⟩)
      all_goals
        simp only [hgd] at h ⊢
        generalize hP : put M .zero p.at_ p.text true = P at *
        obtain ⟨m',s',ok'⟩ := P
        simp only at h hko
        subst h
        simp only [go_sem]
      · rw [if_pos rfl] at hko
        rw [hko]
        with_reducible repeat' (first | refine br ?_ ?_ <;> intro h e <;> (try simp only [e,go_sem]) <;> clear e | rw [i64w (by omega)] | (first | refine sk ?_ | refine sd ?_) <;> try simp only [go_sem] | fail)
        refine retN _ _ [(1,1062)] ?_ (outC_of outB_no) ?_ (by simp [argH,getN]) (by simp only [go_sem])
        · simp only [go_sem]
        · simp only [go_sem]
      · rw [if_neg (by simp),goesR_on] at hko
        rw [hko]
        with_reducible repeat' (first | refine br ?_ ?_ <;> intro h e <;> (try simp only [e,go_sem]) <;> clear e | rw [i64w (by omega)] | (first | refine sk ?_ | refine sd ?_) <;> try simp only [go_sem] | fail)
        refine retN _ _ [(1,1062)] ?_ (outC_of (outB_if ⟨m',(d.flows ++ [Flw.mk p.frm p.to .zero .zero]).set d.flows.length { Flw.mk p.frm p.to .zero .zero with up := s' }⟩ _ _)) ?_ (by simp [argH,getN]) (by simp only [go_sem])
        · simp only [go_sem]
        · simp only [go_sem,List.map_set,List.length_set]
theorem copyC {d : Door} (hd : doorOk d = true) : ∀ f ∈ d.flows,f.up.parts.length ≤ 2000000 ∧ f.down.parts.length ≤ 2000000 := fun f hf => by
  obtain ⟨k,hk⟩ := List.mem_iff_getElem?.1 hf
  obtain ⟨_,_,h1,h2,_⟩ := flow_at hd hk
  have := (strmOk_B h1).2.1
  have := (strmOk_B h2).2.1
  omega
def ic146 : IC := sR [oP 3 (.box 40 (.t 1)),oP 4 (.alloc 40 [i0,i0,i0,i0,i0,i0,s0]),oP 5 (.mv (.c (.bool false)))] (.seq (.block 0 (sR [lA 7 7 3,oP 8 (.call 48 [.t 7]),mV 6 8] (.cond (.t 6) (sR [mV 9 0,lA 10 7 3,oP 11 (.call 50 [.t 9,.t 10]),eX 12 11 0,eX 13 11 1,nP (.sto 7 (.t 4) (.t 12)),mV 5 13] .ret) (sR [lA 15 7 3,oP 16 (.call 79 [.t 15]),mV 14 16] (.cond (.t 14) (sR [mV 17 0,lA 18 7 3,oP 19 (.call 191 [.t 17,.t 18]),eX 20 19 0,eX 21 19 1,nP (.sto 7 (.t 4) (.t 20)),mV 5 21] .ret) .skip))))) (sR [oP 22 (.build [i0,i0,i0,i0,i0,i0,s0] []),nP (.sto 7 (.t 4) (.t 22)),oP 5 (.mv (.c (.bool false)))] .ret))
theorem dg146 : digF Tryz.prog Tryz.f146 = some (ic146,[(.cell 4 7 true),(.t 5)]) := by kernel_rfl
theorem en146 : entr Tryz.prog 146 = true := by kernel_rfl
theorem k49 (rows : List (List V)) (fs : List Flw) (hr : rows.length ≤ 2000000) (hf : fs.length ≤ 1000000) (h : ∀ f ∈ fs,f.up.parts.length ≤ 2000000 ∧ f.down.parts.length ≤ 2000000) :
    FnP Tryz.prog G 49 0 [] [.agg [.sl 3 rows,.sl 8 (fs.map Flw.row)]] (fun r o => r = .agg [.sl 3 rows,.own 0 fs.length] ∧ o = [.arr 91 8 (fs.map Flw.row)]) := by
  refine FnP.mk' Tryz.func49 en49 dg49 Tryz.ntmps49 (by simp) ⟨_,_,rfl,rfl⟩ ?_
  simp only [ic49,go_sem]
  with_reducible repeat' (first | refine br ?_ ?_ <;> intro h e <;> (try simp only [e,go_sem]) <;> clear e | rw [i64w (by omega)] | (first | refine sk ?_ | refine sd ?_) <;> try simp only [go_sem] | fail)
  refine callO (c113 rows hr) [] 8 1 (by simp only [go_sem]; first | done | simp) (by simp) (by rintro _ _ ⟨rfl,rfl⟩; simp) (by intro i hi; obtain rfl : i = 0 := (by omega); simp only [go_sem]) ?_
  rintro _ _ ⟨rfl,rfl⟩
  simp only [go_sem]
  with_reducible repeat' (first | refine br ?_ ?_ <;> intro h e <;> (try simp only [e,go_sem]) <;> clear e | rw [i64w (by omega)] | (first | refine sk ?_ | refine sd ?_) <;> try simp only [go_sem] | fail)
  refine loopN (fun k : Nat => ⟨getL [(2,.pv 1002 0),(3,.pv 1003 0),(15,.sl 8 (fs.map Flw.row)),(16,.int .i64 fs.length),(17,.int .i64 (k : Int))],getH [(1002,.var 30 [.nils,.nils]),(1003,.var 30 [.own 100800 rows.length,.own 1012 k]),(100800,.arr 98 3 rows),(1012,.arr 91 8 ((fs.take k).map Flw.row))]⟩) (fun k => fs.length - k)
    (fun k => k ≤ fs.length) 0 (leQ []) (Nat.zero_le _) ?_
  intro k hk
  simp only [go_sem]
  by_cases h5 : (k : Int) < fs.length
  · have hil : k < fs.length := by omega
    have hg : fs.getD k default = fs[k] := by simp [List.getD,hil]
    have hlen : (fs.take k).length = k := by simp; omega
    have c1 := c114 fs[k] (h _ (List.getElem_mem hil))
    simp only [eq_true h5,go_sem]
    with_reducible repeat' (first | refine br ?_ ?_ <;> intro h e <;> (try simp only [e,go_sem,hg,hlen]) <;> clear e | rw [i64w (by omega)] | (first | refine sk ?_ | refine sd ?_) <;> try simp only [go_sem,hg,hlen] | (first | refine cr (c1 ..) ?_) <;> try simp only [go_sem,hg,hlen] | fail)
    refine ⟨k + 1,by omega,by omega,leN [(1012,1026)] ?_ ?_ (by simp [getN]) (by simp only [go_sem])⟩
    · simp only [go_sem]; first | done | omega
    · simp only [go_sem]; rw [List.take_add_one,List.getElem?_eq_getElem hil]; simp only [Option.toList_some,List.map_append,List.map_cons,List.map_nil,Flw.row]
  · simp only [eq_false h5,go_sem]
    have : k = fs.length := by omega
    subst this
    rw [List.take_length]
    with_reducible repeat' (first | refine br ?_ ?_ <;> intro h e <;> (try simp only [e,go_sem]) <;> clear e | rw [i64w (by omega)] | (first | refine sk ?_ | refine sd ?_) <;> try simp only [go_sem] | fail)
    refine retN (.agg [.sl 3 rows,.own 0 fs.length]) [.arr 91 8 (fs.map Flw.row)] [(0,1012)] ?_ ⟨rfl,rfl⟩ ?_ (by simp [argH,getN]) (by simp only [go_sem])
    · simp only [go_sem]; first | done | simp
    · simp only [go_sem]
def ic20 : IC := sR [oP 2 (.box 30 (.t 0)),oP 3 (.box 40 (.t 1)),oP 4 (.alloc 30 [.nils,.nils]),oP 5 (.alloc 40 [i0,i0,i0,i0,i0,i0,s0]),oP 6 (.mv (.c (.bool false)))] (.seq (sR [lA 10 2 2,oP 11 (.call 22 [.t 10]),oP 12 (.un .not (.t 11)),mV 13 12,⟨some 14,some (13,false),.ld 7 true (.t 3)⟩,⟨some 15,some (13,false),.call 47 [.t 14]⟩,⟨some 16,some (13,false),.un .not (.t 15)⟩,oP 17 (.pick (.t 13) (.c (.bool true)) (.t 16)),mV 18 17,⟨some 19,some (18,false),.ld 7 true (.t 3)⟩,⟨some 20,some (18,false),.call 48 [.t 19]⟩,⟨some 21,some (18,false),.un .not (.t 20)⟩,oP 22 (.pick (.t 18) (.c (.bool true)) (.t 21))] (.cond (.t 22) (sR [oP 23 (.build [.nils,.nils] []),oP 24 (.build [i0,i0,i0,i0,i0,i0,s0] []),nP (.sto 2 (.t 4) (.t 23)),nP (.sto 7 (.t 5) (.t 24)),oP 6 (.mv (.c (.bool false)))] .ret) .skip)) (sR [lA 25 2 2,oP 26 (.call 49 [.t 25]),oP 7 (.alloc 30 [.nils,.nils]),nP (.sto 2 (.t 7) (.t 26))] (sR [lA 28 7 3,oP 29 (.call 50 [.t 7,.t 28]),mV 27 29,eX 30 27 0,eX 31 27 1,oP 8 (.alloc 40 [i0,i0,i0,i0,i0,i0,s0]),nP (.sto 7 (.t 8) (.t 30)),mV 9 31] (sR [lA 32 7 8,mV 33 9,oP 34 (.call 51 [.t 7,.t 32,.t 33]),eX 35 34 0,eX 36 34 1,eX 37 34 2,nP (.sto 2 (.t 4) (.t 35)),nP (.sto 7 (.t 5) (.t 36)),mV 6 37] .ret))))
theorem dg20 : digF Tryz.prog Tryz.f20 = some (ic20,[(.cell 4 2 true),(.cell 5 7 true),(.t 6)]) := by kernel_rfl
theorem en20 : entr Tryz.prog 20 = true := by kernel_rfl
theorem c20 (d : Door) (p : Pk) (hb : DB d) (ht : p.text.length ≤ 2000000) : FnR Tryz.prog G 20 [.agg [.sl 3 (d.map.map Pair.row),.sl 8 (d.flows.map Flw.row)],.agg [.int .i64 p.kind,.int .i64 p.frm.a,.int .i64 p.frm.p,.int .i64 p.to.a,.int .i64 p.to.p,.int .i64 p.at_,.str p.text]]
    (.tup [.agg [.sl 3 ((doorOut d p).1.map.map Pair.row),.sl 8 ((doorOut d p).1.flows.map Flw.row)],.agg (Pk.row ((doorOut d p).2.getD .zero)),.bool (doorOut d p).2.isSome]) := by
  refine FnR.mkF Tryz.func20 en20 dg20 Tryz.ntmps20 (by simp) ?_
  simp only [ic20,go_sem]
  have c1 := c22 d hb
  have c2 := c47 p ht
  have b1 := c48 p
  with_reducible repeat' (first | refine br ?_ ?_ <;> intro h e <;> (try simp only [e,go_sem]) <;> clear e | rw [i64w (by omega)] | (first | refine sk ?_ | refine sd ?_) <;> try simp only [go_sem] | (first | refine cr (c1 ..) ?_ | refine cr (c2 ..) ?_ | refine cr (b1 ..) ?_) <;> try simp only [go_sem] | fail)
  all_goals first
    | (have hx : doorOut d p = (.zero,none) := by simp_all [doorOut]
       rw [hx]; simp [Door.zero,Pk.zero,E.zero]; done)
    | skip
  have hd : doorOk d = true := by simp_all
  have hpk : pkOk p = true := by simp_all
  have how : p.outward = true := by simp_all
  have hio : p.frm.inside = true ∧ p.to.outside = true := by simp_all [Pk.outward]
  have hx : doorOut d p = dOut d p := by simp_all [doorOut]
  rw [hx]
  have hp := pkOk_P hpk
  obtain ⟨hd2,hfl2⟩ := dOut_ok hd hp how
  obtain ⟨hm2,hf4,_⟩ := doorOk_iff.1 hd2
  have hml2 := (mapOk_ports hm2).2
  refine callO (k49 (d.map.map Pair.row) d.flows (by simp; exact hb.1) (by have := (doorOk_iff.1 hd).2.1; omega) (copyC hd)) [] 26 1 (by simp only [go_sem]; first | done | simp) (by simp) (by rintro _ _ ⟨rfl,rfl⟩; simp) (by intro i hi; obtain rfl : i = 0 := (by omega); simp only [go_sem]) ?_
  rintro _ _ ⟨rfl,rfl⟩
  simp only [go_sem]
  with_reducible repeat' (first | refine br ?_ ?_ <;> intro h e <;> (try simp only [e,go_sem]) <;> clear e | rw [i64w (by omega)] | (first | refine sk ?_ | refine sd ?_) <;> try simp only [go_sem] | fail)
  refine callN (c50 d p hd hp hio.1 hio.2) [1007,102600] [] true 29 2 (by simp only [go_sem]; first | done | simp) (by simp only [go_sem]; first | done | simp) (by simp) (by simp) (by simp) ?_ ?_ ?_
  · rintro res out ⟨q,rfl,hq,rfl⟩
    exact ⟨by simp,by simp,.inl rfl,fun i hi => by obtain rfl : i = 0 := (by omega); simp [chH,stepOk]⟩
  · intro i hi
    rcases (show i = 0 ∨ i = 1 by omega) with rfl | rfl <;> simp only [go_sem]
  rintro res out ⟨q,rfl,hq,rfl⟩
  simp only [go_sem]
  refine callU (c51 (dOut d p).1.map (dOut d p).1.flows q (dOut d p).2.isSome (by omega) (by omega) (copyC hd2)) [1007,102901] [] 34 0 (by simp only [go_sem]; first | done | simp) (by simp only [go_sem]; first | done | simp) (by simp) (by simp) (by rintro _ _ ⟨rfl,rfl⟩; simp) (by intro i hi; omega) ?_
  rintro _ _ ⟨rfl,rfl⟩
  simp only [go_sem]
  have hqq : (bif (dOut d p).2.isSome then q else .zero) = (dOut d p).2.getD .zero := by
    cases h : (dOut d p).2 with
    | none => rfl
    | some q' => simp [hq q' h]
  simp only [hqq,go_sem]
  with_reducible repeat' (first | refine br ?_ ?_ <;> intro h e <;> (try simp only [e,go_sem]) <;> clear e | rw [i64w (by omega)] | (first | refine sk ?_ | refine sd ?_) <;> try simp only [go_sem] | fail)
end Go.Proofs.YtblndjmhjaijjaaGreatDoor.W
namespace Go.Proofs.YtblndjmhjaijjaaGreatDoor.M
theorem convOk_iff {c : Conv} : convOk c = true ↔ (c.ins.inside = true ∧ c.out.outside = true ∧ saying c.up = true ∧ saying c.down = true ∧ ownT c.up = true) ∧ (0 ≤ c.upAck ∧ c.upAck ≤ c.up.length) ∧ (0 ≤ c.downAck ∧ c.downAck ≤ c.down.length) ∧ txOk c.upGot = true ∧ txOk c.downGot = true := by
  unfold convOk convNew
  split
  · rename_i h
    simp only [Bool.and_eq_true] at h
    simp [within_iff,h,and_assoc]
  · rename_i h
    simp only [Bool.and_eq_true,not_and] at h
    simp only [Option.isSome_none,Bool.false_and,Bool.false_eq_true,false_iff]
    rintro ⟨⟨a,b,c,d,e⟩,_⟩
    exact h ⟨⟨⟨a,b⟩,c⟩,d⟩ e
theorem saying_len {t : B} (h : saying t = true) : t.length ≤ 24 ∧ txOk t = true ∧ held t = 0 := by
  simpa [saying,and_assoc] using h
structure CvB (c : Conv) : Prop where
  up : c.up.length ≤ 24
  down : c.down.length ≤ 24
  upGot : c.upGot.length ≤ 40
  downGot : c.downGot.length ≤ 40
  upAck : 0 ≤ c.upAck ∧ c.upAck ≤ 24
  downAck : 0 ≤ c.downAck ∧ c.downAck ≤ 24
theorem convOk_B {c : Conv} (h : convOk c = true) : CvB c := by
  obtain ⟨⟨_,_,h3,h4,_⟩,h6,h7,h8,h9⟩ := convOk_iff.1 h
  have := (saying_len h3).1
  have := (saying_len h4).1
  exact ⟨by omega,by omega,txOk_len h8,txOk_len h9,by omega,by omega⟩
theorem not_in_out {e : E} (h : e.outside = true) : e.inside = false := by
  cases hi : e.inside with
  | false => rfl
  | true => have := E.inside_iff.1 hi; have := E.outside_iff.1 h; omega
theorem not_in_door {e : E} (h : e.door = true) : e.inside = false := by
  cases hi : e.inside with
  | false => rfl
  | true => have := E.inside_iff.1 hi; have := E.door_iff.1 h; omega
structure NetP (cs : List Conv) (p : Pk) : Prop where
  pk : PkP p
  c : p.frm.inside = true → ∃ c ∈ cs,p.frm = c.ins ∧ p.to = c.out
structure WI (w : World) : Prop where
  cv : ∀ c ∈ w.convs,convOk c = true
  cl : w.convs.length ≤ 2
  door : doorOk w.door = true
  fl : ∀ f ∈ w.door.flows,∃ c ∈ w.convs,f.ins = c.ins ∧ f.out = c.out
  nl : w.nets.length ≤ 10
  net : ∀ p ∈ w.nets,NetP w.convs p
theorem flow_one {cs : List Conv} {fs : List Flw} (hl : cs.length ≤ 2) (h : ∀ f ∈ fs,∃ c ∈ cs,f.ins = c.ins ∧ f.out = c.out)
    (hd : ∀ (j k : Nat) f g,j < k → fs[j]? = some f → fs[k]? = some g → ¬ (f.ins = g.ins ∧ f.out = g.out)) : fs.length ≤ 2 := by
  match fs,cs,hl with
  | [],_,_ => simp
  | [_],_,_ => simp
  | [_,_],_,_ => simp
  | a :: b :: c :: r,cs,hl =>
    exfalso
    have h1 := hd 0 1 a b (by omega) rfl rfl
    have h2 := hd 0 2 a c (by omega) rfl rfl
    have h3 := hd 1 2 b c (by omega) rfl rfl
    obtain ⟨x,hx,x1,x2⟩ := h a (by simp)
    obtain ⟨y,hy,y1,y2⟩ := h b (by simp)
    obtain ⟨z,hz,z1,z2⟩ := h c (by simp)
    match cs,hl with
    | [],_ => cases hx
    | [u],_ =>
      simp only [List.mem_singleton] at hx hy hz
      subst hx; subst hy; subst hz
      exact h1 ⟨x1.trans y1.symm,x2.trans y2.symm⟩
    | [u,v],_ =>
      simp only [List.mem_cons,List.not_mem_nil,or_false] at hx hy hz
      rcases hx with rfl | rfl <;> rcases hy with rfl | rfl <;> rcases hz with rfl | rfl <;> first
        | exact h1 ⟨x1.trans y1.symm,x2.trans y2.symm⟩
        | exact h2 ⟨x1.trans z1.symm,x2.trans z2.symm⟩
        | exact h3 ⟨y1.trans z1.symm,y2.trans z2.symm⟩
theorem doorOk_apart {d : Door} (h : doorOk d = true) (j k : Nat) (f g : Flw) (hjk : j < k) (hf : d.flows[j]? = some f) (hg : d.flows[k]? = some g) : ¬ (f.ins = g.ins ∧ f.out = g.out) := by
  obtain ⟨_,_,_,_,ha⟩ := flow_at h hg
  rintro ⟨e1,e2⟩
  have hm : f ∈ d.flows.take k := List.mem_iff_getElem?.2 ⟨j,by rw [List.getElem?_take,if_pos hjk]; exact hf⟩
  have := List.any_eq_false.1 ha f hm
  simp [sameF,e1,e2] at this
theorem WI.flows2 {w : World} (h : WI w) : w.door.flows.length ≤ 2 := flow_one h.cl h.fl (doorOk_apart h.door)
theorem sOut_ok {s : Strm} (h : StrB s) : (sOut s).all okB = true := by
  simp only [sOut,List.all_flatMap,List.all_eq_true]
  intro p hp
  have := (h.2.2 p hp).2.2.2
  simp only [txOk,Bool.and_eq_true] at this
  exact List.all_eq_true.1 this.1
theorem sendOn_P {was is : Strm} {p q : Pk} (hs : StrB is) (hp : PkP p) (hk : p.kind ≠ 2) (h : sendOn was is p = some q) : PkP q ∧ q.frm = p.frm ∧ q.to = p.to ∧ q.kind = p.kind := by
  have h1 := forP_le (l := is.parts) p.at_
  have h2 := toR_le was is p
  have h3 := sOut_len hs
  have e : sendOn was is p = if forP is.parts p.at_ ≥ toR was is p then none else if toR was is p - forP is.parts p.at_ ≤ 40 then some { p with at_ := forP is.parts p.at_,text := ((sOut is).take (toR was is p).toNat).drop (forP is.parts p.at_).toNat } else none := rfl
  rw [e] at h
  have h1' : forP is.parts p.at_ ≤ ((sOut is).length : Int) := h1.2
  have h1'' := h1.1
  generalize forP is.parts p.at_ = a at *
  generalize toR was is p = b at *
  split at h
  · cases h
  · split at h
    · cases h
      have hl : (((sOut is).take b.toNat).drop a.toNat).length ≤ 40 := by simp only [List.length_drop,List.length_take]; omega
      refine ⟨⟨⟨h1'',by simp only; omega⟩,hl,.inr ?_,fun h => absurd h hk,hp.kd⟩,rfl,rfl,rfl⟩
      simp only [txOk,Bool.and_eq_true,decide_eq_true_eq]
      exact ⟨all_drop (all_take (sOut_ok hs)),hl⟩
    · cases h
theorem backP_P {l : List Part} (h : ∀ p ∈ l,(1 ≤ p.size ∧ p.size ≤ 6)) (hl : l.length ≤ 40) (n : Int) : 0 ≤ backP l n ∧ backP l n ≤ 240 := by
  have := backP_rng (l := l) (fun p hp => by have := h p hp; omega) n
  omega
theorem dOut_flows {d : Door} {p : Pk} : ∀ f ∈ (dOut d p).1.flows,(f.ins = p.frm ∧ f.out = p.to) ∨ ∃ g ∈ d.flows,f.ins = g.ins ∧ f.out = g.out := by
  have hin : ∀ f ∈ d.flows,(f.ins = p.frm ∧ f.out = p.to) ∨ ∃ g ∈ d.flows,f.ins = g.ins ∧ f.out = g.out := fun f hf => .inr ⟨f,hf,rfl,rfl⟩
  have hop : ∀ x k,openF d p.frm p.to = some (x,k) → ∀ f ∈ x.flows,(f.ins = p.frm ∧ f.out = p.to) ∨ ∃ g ∈ d.flows,f.ins = g.ins ∧ f.out = g.out := by
    intro x k h
    unfold openF at h
    split at h
    · cases h; exact hin
    · split at h
      · split at h
        · cases h
          intro f hf
          rcases List.mem_append.1 hf with hf | hf
          · exact hin f hf
          · simp only [List.mem_singleton] at hf; subst hf; exact .inl ⟨rfl,rfl⟩
        · cases h
      · cases h
  unfold dOut
  split
  · exact hin
  · rename_i x k ho
    have hx := hop x k ho
    split
    · exact hx
    · rename_i f hf
      split
      · split <;> exact hx
      · split
        · exact hx
        · intro g hg
          simp only at hg
          rcases List.mem_or_eq_of_mem_set hg with hg | rfl
          · exact hx g hg
          · exact hx f (List.mem_of_getElem? hf)
theorem dIn_flows {d : Door} {p : Pk} : ∀ f ∈ (dIn d p).1.flows,∃ g ∈ d.flows,f.ins = g.ins ∧ f.out = g.out := by
  have hin : ∀ f ∈ d.flows,∃ g ∈ d.flows,f.ins = g.ins ∧ f.out = g.out := fun f hf => ⟨f,hf,rfl,rfl⟩
  unfold dIn
  split
  · exact hin
  · split
    · exact hin
    · split
      · exact hin
      · rename_i f hf
        split
        · split <;> exact hin
        · split
          · exact hin
          · intro g hg
            simp only at hg
            rcases List.mem_or_eq_of_mem_set hg with hg | rfl
            · exact hin g hg
            · exact ⟨f,List.mem_of_getElem? hf,rfl,rfl⟩
theorem outK_P {x : Door} {k : Nat} {p q : Pk} (hd : doorOk x = true) (hk : k < x.flows.length) (hp : PkP p) (h : (outK x k p).2 = some q) : PkP q ∧ q.frm.inside = false ∧ q.frm = ⟨9,portOf x.map p.frm⟩ ∧ q.to = p.to ∧ q.kind = p.kind := by
  have hf : x.flows[k]? = some (Flw.at x k) := by simp [Flw.at,List.getD,hk]
  obtain ⟨_,_,hu,hdn,_⟩ := flow_at hd hf
  have hn : ∀ n,(⟨9,n⟩ : E).inside = false := fun n => by simp [E.inside,within]
  unfold outK at h
  split at h
  · rename_i hk2
    split at h
    · cases h
    · cases h
      have hb := strmOk_B hdn
      have := backP_P (fun p hp => (hb.2.2 p hp).1) hb.2.1 p.at_
      exact ⟨⟨⟨this.1,by simp only; omega⟩,by simp,.inl rfl,fun _ => rfl,.inr rfl⟩,hn _,rfl,rfl,hk2.symm⟩
  · rename_i hkd
    split at h
    · cases h
    · obtain ⟨p1,p2⟩ := put_ok (out := true) (doorOk_iff.1 hd).1 hu (hp.tx.resolve_left hkd) hp.at_.1
      simp only [Option.map_eq_some_iff] at h
      obtain ⟨q',hq,rfl⟩ := h
      obtain ⟨h1,h2,h3,h4⟩ := sendOn_P (strmOk_B p2) hp hkd hq
      exact ⟨⟨h1.at_,h1.len,h1.tx,h1.ack,h1.kd⟩,hn _,rfl,h3,h4⟩
theorem inK_P {x : Door} {k : Nat} {i : E} {p q : Pk} (hd : doorOk x = true) (hk : k < x.flows.length) (hp : PkP p) (h : (inK x k i p).2 = some q) : PkP q ∧ q.frm = p.frm ∧ q.to = i ∧ q.kind = p.kind := by
  have hf : x.flows[k]? = some (Flw.at x k) := by simp [Flw.at,List.getD,hk]
  obtain ⟨_,_,hu,hdn,_⟩ := flow_at hd hf
  unfold inK at h
  split at h
  · rename_i hk2
    split at h
    · cases h
    · cases h
      have hb := strmOk_B hu
      have := backP_P (fun p hp => (hb.2.2 p hp).1) hb.2.1 p.at_
      exact ⟨⟨⟨this.1,by simp only; omega⟩,by simp,.inl rfl,fun _ => rfl,.inr rfl⟩,rfl,rfl,hk2.symm⟩
  · rename_i hkd
    split at h
    · cases h
    · obtain ⟨p1,p2⟩ := put_ok (out := false) (doorOk_iff.1 hd).1 hdn (hp.tx.resolve_left hkd) hp.at_.1
      simp only [Option.map_eq_some_iff] at h
      obtain ⟨q',hq,rfl⟩ := h
      obtain ⟨h1,h2,h3,h4⟩ := sendOn_P (strmOk_B p2) hp hkd hq
      exact ⟨⟨h1.at_,h1.len,h1.tx,h1.ack,h1.kd⟩,h2,rfl,h4⟩
end Go.Proofs.YtblndjmhjaijjaaGreatDoor.M
namespace Go.Proofs.YtblndjmhjaijjaaGreatDoor.M
theorem behind_P {c : B} {n : Int} {t : B} (hc : txOk c = true) (ht : txOk t = true) (hn : 0 ≤ n) : txOk (behind c n t).1 = true := by
  cases h : (behind c n t).2 with
  | true => exact behind_tx hc ht hn h
  | false =>
    have : (behind c n t).1 = c := by
      revert h; unfold behind; split
      · intro; rfl
      · split <;> (intro h; cases h)
    rw [this]; exact hc
theorem hear_same (c : Conv) (inward : Bool) (p : Pk) : (hear c inward p).1.ins = c.ins ∧ (hear c inward p).1.out = c.out ∧ (hear c inward p).1.up = c.up ∧ (hear c inward p).1.down = c.down := by
  unfold hear
  cases inward <;> simp only [cond_true,cond_false] <;> split <;> (try split) <;> exact ⟨rfl,rfl,rfl,rfl⟩
theorem hear_ok {c : Conv} {inward : Bool} {p : Pk} (hc : convOk c = true) (hp : PkP p) : convOk (hear c inward p).1 = true := by
  obtain ⟨h1,h2,h3,h4,h5⟩ := convOk_iff.1 hc
  have hp1 := hp.at_
  unfold hear
  cases inward <;> simp only [cond_true,cond_false] <;> split
  · split
    · exact convOk_iff.2 ⟨h1,h2,by simp only; omega,h4,h5⟩
    · rename_i hk
      exact convOk_iff.2 ⟨h1,h2,h3,behind_P h4 (hp.tx.resolve_left hk) hp1.1,h5⟩
  · exact hc
  · split
    · exact convOk_iff.2 ⟨h1,by simp only; omega,h3,h4,h5⟩
    · rename_i hk
      exact convOk_iff.2 ⟨h1,h2,h3,h4,behind_P h5 (hp.tx.resolve_left hk) hp1.1⟩
  · exact hc
theorem hear_ans {c : Conv} {inward : Bool} {p q : Pk} (hc : convOk c = true) (hp : PkP p) (h : (hear c inward p).2 = some q) : PkP q ∧ q.kind = 2 ∧ q.frm = p.to ∧ q.to = p.frm ∧ (bif inward then p.frm = c.out ∧ p.to = c.ins else p.to = c.out ∧ p.frm.door = true) := by
  have hh := hear_ok (inward := inward) hc hp
  revert hh h
  unfold hear
  cases inward <;> simp only [cond_true,cond_false] <;> split
  · rename_i hb
    simp only [Bool.and_eq_true,decide_eq_true_eq] at hb
    split
    · intro h; cases h
    · intro h hh; cases h
      have := (convOk_B hh).upGot
      exact ⟨⟨by simp only at this ⊢; omega,by simp,.inl rfl,fun _ => rfl,.inr rfl⟩,rfl,rfl,rfl,hb⟩
  · intro h; cases h
  · rename_i hb
    simp only [Bool.and_eq_true,decide_eq_true_eq] at hb
    split
    · intro h; cases h
    · intro h hh; cases h
      have := (convOk_B hh).downGot
      exact ⟨⟨by simp only at this ⊢; omega,by simp,.inl rfl,fun _ => rfl,.inr rfl⟩,rfl,rfl,rfl,hb⟩
  · intro h; cases h
theorem hostIx_at {w : World} {p : Pk} {i : Nat} {b : Bool} (h : hostIx w p = some (i,b)) : ∃ c,w.convs[i]? = some c ∧ b = (decide (p.to = c.ins) && decide (p.frm = c.out)) := by
  unfold hostIx at h
  split at h
  · split at h
    · rename_i c hc
      cases h
      exact ⟨c,hc,rfl⟩
    · cases h
  · cases h
theorem NetP.set {cs : List Conv} {i : Nat} {c x : Conv} {p : Pk} (hi : cs[i]? = some c) (h1 : x.ins = c.ins) (h2 : x.out = c.out) (h : NetP cs p) : NetP (cs.set i x) p := by
  refine ⟨h.pk,fun hin => ?_⟩
  obtain ⟨c',hc',h3,h4⟩ := h.c hin
  obtain ⟨j,hj⟩ := List.mem_iff_getElem?.1 hc'
  by_cases hij : i = j
  · subst hij
    rw [hi] at hj; cases hj
    have hl := (List.getElem?_eq_some_iff.1 hi).1
    exact ⟨x,List.mem_set hl x,by rw [h3,h1],by rw [h4,h2]⟩
  · exact ⟨c',List.mem_iff_getElem?.2 ⟨j,by rw [List.getElem?_set_ne hij]; exact hj⟩,h3,h4⟩
theorem WI.setC {w : World} (h : WI w) {i : Nat} {c x : Conv} (hi : w.convs[i]? = some c) (h1 : x.ins = c.ins) (h2 : x.out = c.out) (hx : convOk x = true) : WI { w with convs := w.convs.set i x } := by
  refine ⟨fun y hy => ?_,by simpa using h.cl,h.door,fun f hf => ?_,h.nl,fun p hp => (h.net p hp).set hi h1 h2⟩
  · rcases List.mem_or_eq_of_mem_set hy with hy | rfl
    · exact h.cv y hy
    · exact hx
  · obtain ⟨c',hc',h3,h4⟩ := h.fl f hf
    obtain ⟨j,hj⟩ := List.mem_iff_getElem?.1 hc'
    by_cases hij : i = j
    · subst hij
      rw [hi] at hj; cases hj
      have hl := (List.getElem?_eq_some_iff.1 hi).1
      exact ⟨x,List.mem_set hl x,by rw [h3,h1],by rw [h4,h2]⟩
    · exact ⟨c',List.mem_iff_getElem?.2 ⟨j,by simp only; rw [List.getElem?_set_ne hij]; exact hj⟩,h3,h4⟩
theorem dPass_P {cs : List Conv} {d : Door} {p q : Pk} (hd : doorOk d = true) (hp : NetP cs p) (h : (dPass d p).2 = some q) : NetP cs q := by
  unfold dPass at h
  split at h
  · rename_i ho
    simp only [Pk.outward,Bool.and_eq_true] at ho
    cases hok : (openR d p.frm p.to).2.2 with
    | false => rw [dOut_no hok] at h; cases h
    | true =>
      have hx := openR_ok hd ho.1 ho.2 hok
      rw [dOut_yes hok hx.kl] at h
      obtain ⟨h1,h2,_⟩ := outK_P hx.ok hx.kl hp.pk h
      exact ⟨h1,fun hin => by rw [h2] at hin; cases hin⟩
  · split at h
    · rename_i hi
      simp only [Pk.inward,Bool.and_eq_true] at hi
      cases h1 : insideOf d.map p.to.p with
      | none => rw [dIn_no1 h1] at h; cases h
      | some i =>
        cases h2 : flowIx d.flows i p.frm with
        | none => rw [dIn_no2 h1 h2] at h; cases h
        | some k =>
          obtain ⟨hk,he⟩ := dIn_yes h1 h2
          rw [he] at h
          obtain ⟨h3,h4,_⟩ := inK_P hd hk hp.pk h
          exact ⟨h3,fun hin => by rw [h4,not_in_out hi.1] at hin; cases hin⟩
    · cases h
theorem carry_ok {w : World} {p : Pk} (h : WI w) (hp : NetP w.convs p) : WI (carry w p).1 ∧ ∀ q,(carry w p).2 = some q → NetP (carry w p).1.convs q := by
  unfold carry
  split
  · refine ⟨⟨h.cv,h.cl,(dPass_ok h.door hp.pk).1,fun f hf => ?_,h.nl,h.net⟩,fun q hq => dPass_P h.door hp hq⟩
    simp only at hf
    unfold dPass at hf
    split at hf
    · rename_i ho
      simp only [Pk.outward,Bool.and_eq_true] at ho
      rcases dOut_flows f hf with ⟨h1,h2⟩ | ⟨g,hg,h1,h2⟩
      · obtain ⟨c,hc,h3,h4⟩ := hp.c ho.1
        exact ⟨c,hc,by rw [h1,h3],by rw [h2,h4]⟩
      · obtain ⟨c,hc,h3,h4⟩ := h.fl g hg
        exact ⟨c,hc,by rw [h1,h3],by rw [h2,h4]⟩
    · split at hf
      · obtain ⟨g,hg,h1,h2⟩ := dIn_flows f hf
        obtain ⟨c,hc,h3,h4⟩ := h.fl g hg
        exact ⟨c,hc,by rw [h1,h3],by rw [h2,h4]⟩
      · exact h.fl f hf
  · split
    · exact ⟨h,fun q hq => by cases hq⟩
    · rename_i i b hb
      obtain ⟨c,hc,hbe⟩ := hostIx_at hb
      simp only [hc]
      have hcv := h.cv c (List.mem_of_getElem? hc)
      obtain ⟨s1,s2,_,_⟩ := hear_same c b p
      refine ⟨h.setC hc s1 s2 (hear_ok hcv hp.pk),fun q hq => ?_⟩
      obtain ⟨h1,h2,h3,h4,h5⟩ := hear_ans hcv hp.pk hq
      refine NetP.set hc s1 s2 ⟨h1,fun hin => ?_⟩
      have hcc := convOk_iff.1 hcv
      cases b with
      | true => exact ⟨c,List.mem_of_getElem? hc,by rw [h3]; exact h5.2,by rw [h4]; exact h5.1⟩
      | false =>
        rw [h3] at hin
        simp only [cond_false] at h5
        rw [h5.1,not_in_out hcc.1.2.1] at hin
        cases hin
theorem send_ok {w : World} {o : Option Pk} (h : WI w) (hp : ∀ p,o = some p → NetP w.convs p) : WI (send w o) := by
  unfold send
  cases o with
  | none => exact h
  | some p =>
    simp only
    split
    · refine ⟨h.cv,h.cl,h.door,h.fl,by simp; omega,fun q hq => ?_⟩
      rcases List.mem_append.1 hq with hq | hq
      · exact h.net q hq
      · simp only [List.mem_singleton] at hq; subst hq; exact hp _ rfl
    · exact h
theorem say_P {c : Conv} {up : Bool} {port n m : Int} {p : Pk} (hc : convOk c = true) (h : say c up port n m = some p) :
    PkP p ∧ p.kind = 1 ∧ (bif up then p.frm = c.ins ∧ p.to = c.out else p.frm = c.out ∧ p.to = ⟨9,port⟩ ∧ (10 ≤ port ∧ port ≤ 17)) ∧ p.at_ = n ∧ p.text = ((bif up then c.up else c.down).drop n.toNat).take (min m ((bif up then c.up else c.down).length - n)).toNat ∧ (0 ≤ n ∧ n < (bif up then c.up else c.down).length) ∧ 1 ≤ m := by
  obtain ⟨⟨_,_,h3,h4,_⟩,_⟩ := convOk_iff.1 hc
  unfold say at h
  cases up <;> simp only [Bool.false_eq_true,if_false,if_true,Bool.false_or,Bool.true_or,Bool.and_true] at h <;> split at h
  · rename_i hg
    cases h
    simp only [Bool.and_eq_true,within_iff,decide_eq_true_eq,E.door_iff] at hg
    obtain ⟨a,b,_⟩ := saying_len h4
    have b' := b
    simp only [txOk,Bool.and_eq_true,decide_eq_true_eq] at b'
    have hl : ((c.down.drop n.toNat).take (min m (c.down.length - n)).toNat).length ≤ 40 := by simp only [List.length_take,List.length_drop]; omega
    refine ⟨⟨by simp only; omega,hl,.inr ?_,(fun h => by cases h),.inl rfl⟩,rfl,⟨rfl,rfl,hg.2.2⟩,rfl,rfl,by simp only [cond_false]; omega,hg.1.2⟩
    simp only [txOk,Bool.and_eq_true,decide_eq_true_eq]
    exact ⟨all_take (all_drop b'.1),hl⟩
  · cases h
  · rename_i hg
    cases h
    simp only [Bool.and_eq_true,within_iff,decide_eq_true_eq] at hg
    obtain ⟨a,b,_⟩ := saying_len h3
    have b' := b
    simp only [txOk,Bool.and_eq_true,decide_eq_true_eq] at b'
    have hl : ((c.up.drop n.toNat).take (min m (c.up.length - n)).toNat).length ≤ 40 := by simp only [List.length_take,List.length_drop]; omega
    refine ⟨⟨by simp only; omega,hl,.inr ?_,(fun h => by cases h),.inl rfl⟩,rfl,⟨rfl,rfl⟩,rfl,rfl,by simp only [cond_true]; omega,hg.2⟩
    simp only [txOk,Bool.and_eq_true,decide_eq_true_eq]
    exact ⟨all_take (all_drop b'.1),hl⟩
  · cases h
theorem say_net {cs : List Conv} {c : Conv} {up : Bool} {port n m : Int} {p : Pk} (hm : c ∈ cs) (hc : convOk c = true) (h : say c up port n m = some p) : NetP cs p := by
  obtain ⟨h1,_,h2,_⟩ := say_P hc h
  refine ⟨h1,fun hin => ?_⟩
  cases up with
  | true => exact ⟨c,hm,h2.1,h2.2⟩
  | false => simp only [cond_false] at h2; rw [h2.1,not_in_out (convOk_iff.1 hc).1.2.1] at hin; cases hin
theorem sayW_net {w : World} (h : WI w) {up : Bool} {a b c : Int} {p : Pk} (hs : sayW w up a b c = some p) : NetP w.convs p := by
  unfold sayW at hs
  split at hs
  · split at hs
    · rename_i cv hcv
      have hm := List.mem_of_getElem? hcv
      exact say_net hm (h.cv _ hm) hs
    · cases hs
  · cases hs
theorem stranger_net {w : World} {p : Pk} (h : stranger w p = true) : NetP w.convs p := by
  simp only [stranger,Bool.and_eq_true,Pk.inward] at h
  exact ⟨pkOk_P h.1.1,fun hin => by rw [not_in_out h.1.2.1] at hin; cases hin⟩
theorem WI.erase {w : World} (h : WI w) (k : Nat) : WI { w with nets := w.nets.eraseIdx k } :=
  ⟨h.cv,h.cl,h.door,h.fl,by have := List.length_eraseIdx_le w.nets k; have := h.nl; simp only; omega,fun p hp => h.net p (List.mem_of_mem_eraseIdx hp)⟩
theorem wDo_ok {w : World} (h : WI w) (e : Ev) : WI (wDo w e) := by
  unfold wDo
  simp only
  split
  · exact send_ok h fun p hp => sayW_net h hp
  split
  · exact send_ok h fun p hp => sayW_net h hp
  split
  · split
    · split
      · rename_i p hp
        have hn := h.net p (List.mem_of_getElem? hp)
        obtain ⟨h1,h2⟩ := carry_ok (h.erase e.a.toNat) hn
        exact send_ok h1 h2
      · exact h
    · exact h
  split
  · split
    · exact h.erase _
    · exact h
  split
  · split
    · exact send_ok h fun p hp => h.net p (List.mem_of_getElem? hp)
    · exact h
  split
  · split
    · rename_i hs
      exact send_ok h fun p hp => by cases hp; exact stranger_net hs
    · exact h
  · exact h
theorem together_iff {cs : List Conv} : together cs = true ↔ cs.length ≤ 2 ∧ ∀ i,i < cs.length → okConv cs i = true := by
  simp [together,and_comm]
theorem okConv_i {cs : List Conv} {i : Nat} (h : i < cs.length) : okConv cs i = (convOk cs[i] && !(cs.take i).any fun o => decide (o.ins = cs[i].ins) || decide (o.out = cs[i].out)) := by
  simp [okConv,h]
theorem together_ok {cs : List Conv} (h : together cs = true) : ∀ c ∈ cs,convOk c = true := fun c hc => by
  obtain ⟨i,hi⟩ := List.mem_iff_getElem?.1 hc
  obtain ⟨hl,rfl⟩ := List.getElem?_eq_some_iff.1 hi
  have := (together_iff.1 h).2 i hl
  rw [okConv_i hl,Bool.and_eq_true] at this
  exact this.1
theorem worldNew_ok {cs : List Conv} {w : World} (h : worldNew cs = some w) : WI w := by
  unfold worldNew at h
  split at h
  · split at h
    · rename_i ht
      cases h
      exact ⟨together_ok ht,(together_iff.1 ht).1,(by decide : doorOk .zero = true),(fun f hf => by cases hf),by simp,(fun p hp => by cases hp)⟩
    · cases h
  · cases h
theorem play_ok {w : World} (h : WI w) : ∀ es : List Ev,WI (es.foldl wDo w)
  | [] => h
  | e :: es => play_ok (wDo_ok h e) es
end Go.Proofs.YtblndjmhjaijjaaGreatDoor.M
namespace Go.Proofs.YtblndjmhjaijjaaGreatDoor.W
open Go Go.RowKit Go.Proofs Go.Proofs.YtblndjmhjaijjaaGreatDoor.VL Go.Proofs.YtblndjmhjaijjaaGreatDoor.M
attribute [local congr] optK_congr guardK_congr condK_congr runT_congr runD_congr wpI_congr CallV_congr LoopI_congr pureK_congr effK_congr calK_congr stepV_congr doV_congr exN_congr exB_congr retF_congr retQ_congr gK_congr condW_congr ldK_congr stoK_congr
attribute [local go_sem] argL_cons argL_nil argH_nil argH_cons chH_getH wpI_seq wpI_reg wpI_drw wpI_ret cond_k condW_t condW_f wpI_skip wpI_block wpI_exit wpI_loop exN_n exN_r exN_e exB_n exB_r exB_h exB_m runT_k kT_e runT_nil runD_k kD_e runD_nil step_u step_k gK_t gK_f do_mv do_bino bo_add bo_sub bo_mul bo_subu bo_quo bo_rem bo_xor bo_eql bo_neq bo_lss bo_leq bo_gtr bo_geq bo_cat bo_eqs bo_nes do_pick do_call do_cal calK_f do_box do_alloc do_ldk ldK_s do_stok stoK_s do_fad do_nilc do_not do_neg do_len do_lens do_ext do_eqs do_beq do_isn do_cvi do_sls do_idx do_mn do_mx do_build do_mkf do_s2b do_b2s do_slv do_iad do_bsl do_mks do_app ev_t ev_c app_some app_none
attribute [local go_sem] List.nil_append List.cons_append List.append_nil getL_hit getL_miss getH_nil getH_hit getH_miss nm_eq ne_eq Nat.reduceEqDiff not_false_eq_true Nat.reduceAdd Nat.add_zero Nat.zero_add if_true if_false ite_true ite_false pureK_s effK_s optK_s gdV_t gdV_f gdV_s pick_b ge_iff_le gt_iff_lt cond_true cond_false fresh_k cells_agg cells_int cells_bool cells_str cells_own cells_sl cells_nils ld_pv ld_pa ld_ip ldVar_t ldVar_f ldArr_t ldArr_f ldRow_t ldRow_f ldA_s ld1_s fad_pv fad_pa fad_ip nilc_pv nilc_pa nilc_ip not_b neg_i cvi_i ext_t retF_n retF_r
attribute [local go_sem] resV_k rvs_nil rvs_t rvs_c fstO_s consO_s resK_s resL_1 resL_2 resL_3 resL_4  Option.some.injEq List.map_cons List.map_nil List.all_cons List.all_nil Bool.and_true Bool.and_self Bool.not_true Bool.not_false Option.map_some Option.map_none sls_s slsG_s loV_n loV_i hiV_n hiV_i idx_s mn_i mx_i s2b_s b2s_s bytO_s bytes_nil bytes_cons conB_s slv_sl slv_own slv_nils slvG_s slvN_s slvO_s iad_sl iadG_map take_map drop_map List.length_map iad_own iad_view iadO_a iadW_a mks_i rowO_nils rowO_sl rowO_own rowA_a eq_self appG_nils appG_own appO_a guardP_T mapA_s bld_nil mkf_nil bldF_e fill_nil fill_cons mkf_e lens_s len_nils len_sl len_own len_view isn_nile isn_erre List.getElem?_cons_zero List.getElem?_cons_succ List.length_cons List.length_nil decide_true decide_false Int.toNat_natCast Int.cast_ofNat_Int Int.reduceLT Int.reduceLE Int.reduceEq Int.reduceAdd Int.reduceSub Int.reduceMul Int.reduceNeg Int.reduceToNat List.getD_cons_zero List.getD_cons_succ not_true_eq_false not_false_eq_true Bool.false_eq_true Bool.true_eq_false reduceCtorEq
attribute [local go_sem] E.row Pc.row Pair.row Part.row Strm.row Flw.row Pk.row Door.row Conv.row World.row Ev.row rdV E.eta Pc.eta Pair.eta Part.eta Strm.eta Pk.eta Flw.eta Conv.eta Door.eta World.eta Ev.eta
attribute [local go_sem] sub_ok st_pv st_pa stVar_v stArr_a Nat.le_refl List.drop_zero List.drop_succ_cons List.take_succ_cons List.take_zero setR Nat.reduceLeDiff
attribute [local go_sem] wk_bot wk2_bot wk1_bot wk_undef wk_tup_e wk2_agg_e wk_agg_e wk1_fn_e wk2_fn_e wk_fn_e wkl_nil wkl_cons wkh_var_e wkh_arr_e wkh_fresh_e wkh_dead_v wkh_dead_a wkh_dead_d wk0_undef wk0_int wk0_bool wk0_str wk0_nils wk0_nils_sl wk0_nilp wk0_nile wk0_erre wk0_sl wk0_iptr wk0_own wk0_view wk0_pv wk0_pa fzA_a fzW_a fzP_v wk0_own_sl wk0_view_sl wk0_pv_iptr WkS_nil WkS_cons WkN_nil WkN_cons nonB_nil nonB_cons getN_nil getN_hit getN_miss pinOk_0 pinOk_s and_true true_and and_self
attribute [local go_sem] bot_int one_int unt_int clo_int bot_bool one_bool unt_bool clo_bool bot_str one_str unt_str clo_str bot_nils one_nils unt_nils clo_nils bot_nilp one_nilp unt_nilp clo_nilp bot_nile one_nile unt_nile clo_nile bot_erre one_erre unt_erre clo_erre bot_raw one_raw unt_raw clo_raw bot_sl one_sl unt_sl clo_sl bot_own one_own unt_own clo_own bot_view one_view unt_view clo_view bot_pv one_pv unt_pv clo_pv bot_pa one_pa unt_pa clo_pa bot_iptr one_iptr unt_iptr clo_iptr unt_agg unt_fn one_fn
attribute [local go_sem] rn_tup rn_agg rn2_agg rn_fn rn2_fn rnfn1 rn_bot rn2_bot rn1_bot rn0_int rn0_bool rn0_str rn0_nils rn0_nilp rn0_nile rn0_erre rn0_sl rn0_iptr rn0_own rn0_view rn0_pv rn0_pa hrn_var hrn_arr hrn_dead outU_nil outU_cons deads_nil deads_cons bk_ge bk_lt nsF_0 nsF_s chH_0 chH_s chH_n newN_e andB_s eqR_nil eqR_i eqR_b eqR_s mapX_f mapX_t eqs_a beq_f beq_t live_arr live_var nsl_nil nsl_cons Nat.reduceMul Nat.reduceLT Nat.zero_le Nat.not_lt_zero
attribute [local go_sem] mV lD lA fD bN eX oP nP sR i0 s0
def goesW_up (u : M.World) (m : List Pair) (fs : List Flw) (k : Nat) (p : Pk) (out : Bool) (r : V) (o : List Hs) : Prop :=
  ((put m (fs.getD k default).up p.at_ p.text out).2.2 = false ∧ r = .tup [.agg (Pk.row .zero),.bool false] ∧ o = [.var 33 [.own 2 u.convs.length,.sl 3 (m.map Pair.row),.own 1 fs.length,.own 3 u.nets.length],.arr 91 8 (fs.map Flw.row),.arr 42 10 (u.convs.map Conv.row),.arr 40 7 (u.nets.map Pk.row)]) ∨
  ((put m (fs.getD k default).up p.at_ p.text out).2.2 = true ∧ r = .tup [.agg (Pk.row (goesR (fs.getD k default).up (put m (fs.getD k default).up p.at_ p.text out).2.1 p).1),.bool (goesR (fs.getD k default).up (put m (fs.getD k default).up p.at_ p.text out).2.1 p).2] ∧
    o = [.var 33 [.own 2 u.convs.length,.sl 3 ((put m (fs.getD k default).up p.at_ p.text out).1.map Pair.row),.own 1 fs.length,.own 3 u.nets.length],.arr 91 8 ((fs.set k { fs.getD k default with up := (put m (fs.getD k default).up p.at_ p.text out).2.1 }).map Flw.row),.arr 42 10 (u.convs.map Conv.row),.arr 40 7 (u.nets.map Pk.row)])
theorem goesW_no_up {u : M.World} {m : List Pair} {fs : List Flw} {k : Nat} {p : Pk} {out : Bool} {f : Flw} {m' : List Pair} {s' : Strm} (hf : fs.getD k default = f) (hP : put m f.up p.at_ p.text out = (m',s',false)) :
    goesW_up u m fs k p out (.tup [.agg (Pk.row .zero),.bool false]) [.var 33 [.own 2 u.convs.length,.sl 3 (m.map Pair.row),.own 1 fs.length,.own 3 u.nets.length],.arr 91 8 (fs.map Flw.row),.arr 42 10 (u.convs.map Conv.row),.arr 40 7 (u.nets.map Pk.row)] := by
  unfold goesW_up
  rw [hf,hP]
  exact Or.inl ⟨rfl,rfl,rfl⟩
theorem goesW_yes_up {u : M.World} {m : List Pair} {fs : List Flw} {k : Nat} {p : Pk} {out : Bool} {f : Flw} {m' : List Pair} {s' : Strm} (hf : fs.getD k default = f) (hP : put m f.up p.at_ p.text out = (m',s',true)) :
    goesW_up u m fs k p out (.tup [.agg (Pk.row (goesR f.up s' p).1),.bool (goesR f.up s' p).2]) [.var 33 [.own 2 u.convs.length,.sl 3 (m'.map Pair.row),.own 1 fs.length,.own 3 u.nets.length],.arr 91 8 ((fs.set k { f with up := s' }).map Flw.row),.arr 42 10 (u.convs.map Conv.row),.arr 40 7 (u.nets.map Pk.row)] := by
  unfold goesW_up
  rw [hf,hP]
  exact Or.inr ⟨rfl,rfl,rfl⟩
theorem w117up (u : M.World) (m : List Pair) (fs : List Flw) (k : Nat) (p : Pk) (out : Bool) (hm : mapOk m = true) (hk : k < fs.length) (hs : strmOk (fs.getD k default).up = true) (hp : PkP p) (htx : txOk p.text = true) :
    FnP Tryz.prog G 117 4 [.var 33 [.own 2 u.convs.length,.sl 3 (m.map Pair.row),.own 1 fs.length,.own 3 u.nets.length],.arr 91 8 (fs.map Flw.row),.arr 42 10 (u.convs.map Conv.row),.arr 40 7 (u.nets.map Pk.row)] [.pv 0 1,.pa 1 k 4,.agg [.int .i64 p.kind,.int .i64 p.frm.a,.int .i64 p.frm.p,.int .i64 p.to.a,.int .i64 p.to.p,.int .i64 p.at_,.str p.text],.bool out] (goesW_up u m fs k p out) := by
  refine FnP.mk' Tryz.func117 en117 dg117 Tryz.ntmps117 (by simp) ?_ ?_
  · cases hb : (put m (fs.getD k default).up p.at_ p.text out).2.2
    · exact ⟨_,_,.inl ⟨hb,rfl,rfl⟩⟩
    · exact ⟨_,_,.inr ⟨hb,rfl,rfl⟩⟩
  have hpa := hp.at_
  have hpl := hp.len
  have hpk := put_ok (m := m) (s := (fs.getD k default).up) (n := p.at_) (t := p.text) (out := out) hm hs htx hpa.1
  have sb := strmOk_B hs
  obtain ⟨s1,s2,s3⟩ := sb
  have f0 := c172 m (fs.getD k default).up p.at_ p.text out ⟨hm,hs,hpa,hpl⟩
  have gs : ∀ R,((fs.map Flw.row).set k R).getD k [] = R := fun R => by simp [List.getD,hk]
  generalize hf : fs.getD k default = f at *
  simp only [ic117,go_sem,getD_mp hk,hf]
  with_reducible repeat' (first | refine br ?_ ?_ <;> intro h e <;> (try simp only [e,go_sem,getD_mp hk,hf]) <;> clear e | rw [i64w (by omega)] | (first | refine sk ?_ | refine sd ?_) <;> try simp only [go_sem,getD_mp hk,hf] | fail)
  refine callR f0 rfl rfl ?_
  have hml := (mapOk_ports hpk.1).2
  have sb := strmOk_B hpk.2
  have so := sOut_len sb
  have gr : ∀ a b,forP (put m f.up p.at_ p.text out).2.1.parts p.at_ = a → toR f.up (put m f.up p.at_ p.text out).2.1 p = b → goesR f.up (put m f.up p.at_ p.text out).2.1 p = ({ p with at_ := a,text := ((sOut (put m f.up p.at_ p.text out).2.1).take (max b a).toNat).drop a.toNat },within (((sOut (put m f.up p.at_ p.text out).2.1).take (max b a).toNat).drop a.toNat).length 1 40) := fun a b ha hb => by subst ha; subst hb; rfl
  have hto : toR f.up (put m f.up p.at_ p.text out).2.1 p = if f.up.inn.length < (put m f.up p.at_ p.text out).2.1.inn.length then ((sOut (put m f.up p.at_ p.text out).2.1).length : Int) else forP (put m f.up p.at_ p.text out).2.1.parts (min (p.at_ + p.text.length) (put m f.up p.at_ p.text out).2.1.inn.length) := rfl
  have fo1 : 0 ≤ forP (put m f.up p.at_ p.text out).2.1.parts p.at_ ∧ forP (put m f.up p.at_ p.text out).2.1.parts p.at_ ≤ (sOut (put m f.up p.at_ p.text out).2.1).length := forP_le _
  have fo2 : 0 ≤ forP (put m f.up p.at_ p.text out).2.1.parts (min (p.at_ + p.text.length) f.up.inn.length) ∧ forP (put m f.up p.at_ p.text out).2.1.parts (min (p.at_ + p.text.length) f.up.inn.length) ≤ (sOut (put m f.up p.at_ p.text out).2.1).length := forP_le _
  have hinn : f.up.inn.length ≤ (put m f.up p.at_ p.text out).2.1.inn.length := put_inn ..
  generalize hP : put m f.up p.at_ p.text out = P at *
  obtain ⟨m',s',ok⟩ := P
  simp only at hpk hml sb so gr hto fo1 fo2 hinn
  cases ok <;> simp only [go_sem]
  · with_reducible repeat' (first | refine br ?_ ?_ <;> intro h e <;> (try simp only [e,go_sem]) <;> clear e | rw [i64w (by omega)] | (first | refine sk ?_ | refine sd ?_) <;> try simp only [go_sem] | fail)
    refine retN (.tup [.agg (Pk.row .zero),.bool false]) [.var 33 [.own 2 u.convs.length,.sl 3 (m.map Pair.row),.own 1 fs.length,.own 3 u.nets.length],.arr 91 8 (fs.map Flw.row),.arr 42 10 (u.convs.map Conv.row),.arr 40 7 (u.nets.map Pk.row)] [] ?_ (goesW_no_up hf hP) ?_ (by simp [argH,getN]) (by simp only [go_sem])
    · simp only [go_sem,Pk.zero,E.zero]
    · simp only [go_sem]
  have f1 := r113 (m'.map Pair.row) (by simp; omega)
  have f2 := c170 s' sb
  have f3 := c173 s' p.at_ sb (by omega)
  have f4 := c173 s' (min (p.at_ + p.text.length) f.up.inn.length) sb (by omega)
  generalize hA : forP s'.parts p.at_ = A at *
  generalize hB : forP s'.parts (min (p.at_ + p.text.length) f.up.inn.length) = Bb at *
  with_reducible repeat' (first | refine br ?_ ?_ <;> intro h e <;> (try simp only [e,go_sem,getD_mp hk,hf,gs]) <;> clear e | rw [i64w (by omega)] | (first | refine sk ?_ | refine sd ?_) <;> try simp only [go_sem,getD_mp hk,hf,gs] | (first | refine cr (f1 ..) ?_ | refine cr (f2 ..) ?_ | refine cr (f3 ..) ?_ | refine cr (f4 ..) ?_ | refine cr (c36 ..) ?_) <;> try simp only [go_sem,getD_mp hk,hf,gs] | fail)
  · have hto' : toR f.up s' p = Bb := by rw [hto,if_neg (by omega),← hB]; congr 2
    have g := gr A _ rfl hto'
    refine retN (.tup [.agg (Pk.row (goesR f.up s' p).1),.bool (goesR f.up s' p).2]) [.var 33 [.own 2 u.convs.length,.sl 3 (m'.map Pair.row),.own 1 fs.length,.own 3 u.nets.length],.arr 91 8 ((fs.set k { f with up := s' }).map Flw.row),.arr 42 10 (u.convs.map Conv.row),.arr 40 7 (u.nets.map Pk.row)] [] ?_ (goesW_yes_up hf hP) ?_ (by simp [argH,getN]) (by simp only [go_sem])
    · simp only [g,go_sem]
    · simp only [go_sem,List.map_set]
  · have hto' : toR f.up s' p = ((sOut s').length : Int) := by rw [hto,if_pos (by omega)]
    have g := gr A _ rfl hto'
    refine retN (.tup [.agg (Pk.row (goesR f.up s' p).1),.bool (goesR f.up s' p).2]) [.var 33 [.own 2 u.convs.length,.sl 3 (m'.map Pair.row),.own 1 fs.length,.own 3 u.nets.length],.arr 91 8 ((fs.set k { f with up := s' }).map Flw.row),.arr 42 10 (u.convs.map Conv.row),.arr 40 7 (u.nets.map Pk.row)] [] ?_ (goesW_yes_up hf hP) ?_ (by simp [argH,getN]) (by simp only [go_sem])
    · simp only [g,go_sem]
    · simp only [go_sem,List.map_set]
def goesW_down (u : M.World) (m : List Pair) (fs : List Flw) (k : Nat) (p : Pk) (out : Bool) (r : V) (o : List Hs) : Prop :=
  ((put m (fs.getD k default).down p.at_ p.text out).2.2 = false ∧ r = .tup [.agg (Pk.row .zero),.bool false] ∧ o = [.var 33 [.own 2 u.convs.length,.sl 3 (m.map Pair.row),.own 1 fs.length,.own 3 u.nets.length],.arr 91 8 (fs.map Flw.row),.arr 42 10 (u.convs.map Conv.row),.arr 40 7 (u.nets.map Pk.row)]) ∨
  ((put m (fs.getD k default).down p.at_ p.text out).2.2 = true ∧ r = .tup [.agg (Pk.row (goesR (fs.getD k default).down (put m (fs.getD k default).down p.at_ p.text out).2.1 p).1),.bool (goesR (fs.getD k default).down (put m (fs.getD k default).down p.at_ p.text out).2.1 p).2] ∧
    o = [.var 33 [.own 2 u.convs.length,.sl 3 ((put m (fs.getD k default).down p.at_ p.text out).1.map Pair.row),.own 1 fs.length,.own 3 u.nets.length],.arr 91 8 ((fs.set k { fs.getD k default with down := (put m (fs.getD k default).down p.at_ p.text out).2.1 }).map Flw.row),.arr 42 10 (u.convs.map Conv.row),.arr 40 7 (u.nets.map Pk.row)])
theorem goesW_no_down {u : M.World} {m : List Pair} {fs : List Flw} {k : Nat} {p : Pk} {out : Bool} {f : Flw} {m' : List Pair} {s' : Strm} (hf : fs.getD k default = f) (hP : put m f.down p.at_ p.text out = (m',s',false)) :
    goesW_down u m fs k p out (.tup [.agg (Pk.row .zero),.bool false]) [.var 33 [.own 2 u.convs.length,.sl 3 (m.map Pair.row),.own 1 fs.length,.own 3 u.nets.length],.arr 91 8 (fs.map Flw.row),.arr 42 10 (u.convs.map Conv.row),.arr 40 7 (u.nets.map Pk.row)] := by
  unfold goesW_down
  rw [hf,hP]
  exact Or.inl ⟨rfl,rfl,rfl⟩
theorem goesW_yes_down {u : M.World} {m : List Pair} {fs : List Flw} {k : Nat} {p : Pk} {out : Bool} {f : Flw} {m' : List Pair} {s' : Strm} (hf : fs.getD k default = f) (hP : put m f.down p.at_ p.text out = (m',s',true)) :
    goesW_down u m fs k p out (.tup [.agg (Pk.row (goesR f.down s' p).1),.bool (goesR f.down s' p).2]) [.var 33 [.own 2 u.convs.length,.sl 3 (m'.map Pair.row),.own 1 fs.length,.own 3 u.nets.length],.arr 91 8 ((fs.set k { f with down := s' }).map Flw.row),.arr 42 10 (u.convs.map Conv.row),.arr 40 7 (u.nets.map Pk.row)] := by
  unfold goesW_down
  rw [hf,hP]
  exact Or.inr ⟨rfl,rfl,rfl⟩
theorem w117down (u : M.World) (m : List Pair) (fs : List Flw) (k : Nat) (p : Pk) (out : Bool) (hm : mapOk m = true) (hk : k < fs.length) (hs : strmOk (fs.getD k default).down = true) (hp : PkP p) (htx : txOk p.text = true) :
    FnP Tryz.prog G 117 4 [.var 33 [.own 2 u.convs.length,.sl 3 (m.map Pair.row),.own 1 fs.length,.own 3 u.nets.length],.arr 91 8 (fs.map Flw.row),.arr 42 10 (u.convs.map Conv.row),.arr 40 7 (u.nets.map Pk.row)] [.pv 0 1,.pa 1 k 6,.agg [.int .i64 p.kind,.int .i64 p.frm.a,.int .i64 p.frm.p,.int .i64 p.to.a,.int .i64 p.to.p,.int .i64 p.at_,.str p.text],.bool out] (goesW_down u m fs k p out) := by
  refine FnP.mk' Tryz.func117 en117 dg117 Tryz.ntmps117 (by simp) ?_ ?_
  · cases hb : (put m (fs.getD k default).down p.at_ p.text out).2.2
    · exact ⟨_,_,.inl ⟨hb,rfl,rfl⟩⟩
    · exact ⟨_,_,.inr ⟨hb,rfl,rfl⟩⟩
  have hpa := hp.at_
  have hpl := hp.len
  have hpk := put_ok (m := m) (s := (fs.getD k default).down) (n := p.at_) (t := p.text) (out := out) hm hs htx hpa.1
  have sb := strmOk_B hs
  obtain ⟨s1,s2,s3⟩ := sb
  have f0 := c172 m (fs.getD k default).down p.at_ p.text out ⟨hm,hs,hpa,hpl⟩
  have gs : ∀ R,((fs.map Flw.row).set k R).getD k [] = R := fun R => by simp [List.getD,hk]
  generalize hf : fs.getD k default = f at *
  simp only [ic117,go_sem,getD_mp hk,hf]
  with_reducible repeat' (first | refine br ?_ ?_ <;> intro h e <;> (try simp only [e,go_sem,getD_mp hk,hf]) <;> clear e | rw [i64w (by omega)] | (first | refine sk ?_ | refine sd ?_) <;> try simp only [go_sem,getD_mp hk,hf] | fail)
  refine callR f0 rfl rfl ?_
  have hml := (mapOk_ports hpk.1).2
  have sb := strmOk_B hpk.2
  have so := sOut_len sb
  have gr : ∀ a b,forP (put m f.down p.at_ p.text out).2.1.parts p.at_ = a → toR f.down (put m f.down p.at_ p.text out).2.1 p = b → goesR f.down (put m f.down p.at_ p.text out).2.1 p = ({ p with at_ := a,text := ((sOut (put m f.down p.at_ p.text out).2.1).take (max b a).toNat).drop a.toNat },within (((sOut (put m f.down p.at_ p.text out).2.1).take (max b a).toNat).drop a.toNat).length 1 40) := fun a b ha hb => by subst ha; subst hb; rfl
  have hto : toR f.down (put m f.down p.at_ p.text out).2.1 p = if f.down.inn.length < (put m f.down p.at_ p.text out).2.1.inn.length then ((sOut (put m f.down p.at_ p.text out).2.1).length : Int) else forP (put m f.down p.at_ p.text out).2.1.parts (min (p.at_ + p.text.length) (put m f.down p.at_ p.text out).2.1.inn.length) := rfl
  have fo1 : 0 ≤ forP (put m f.down p.at_ p.text out).2.1.parts p.at_ ∧ forP (put m f.down p.at_ p.text out).2.1.parts p.at_ ≤ (sOut (put m f.down p.at_ p.text out).2.1).length := forP_le _
  have fo2 : 0 ≤ forP (put m f.down p.at_ p.text out).2.1.parts (min (p.at_ + p.text.length) f.down.inn.length) ∧ forP (put m f.down p.at_ p.text out).2.1.parts (min (p.at_ + p.text.length) f.down.inn.length) ≤ (sOut (put m f.down p.at_ p.text out).2.1).length := forP_le _
  have hinn : f.down.inn.length ≤ (put m f.down p.at_ p.text out).2.1.inn.length := put_inn ..
  generalize hP : put m f.down p.at_ p.text out = P at *
  obtain ⟨m',s',ok⟩ := P
  simp only at hpk hml sb so gr hto fo1 fo2 hinn
  cases ok <;> simp only [go_sem]
  · with_reducible repeat' (first | refine br ?_ ?_ <;> intro h e <;> (try simp only [e,go_sem]) <;> clear e | rw [i64w (by omega)] | (first | refine sk ?_ | refine sd ?_) <;> try simp only [go_sem] | fail)
    refine retN (.tup [.agg (Pk.row .zero),.bool false]) [.var 33 [.own 2 u.convs.length,.sl 3 (m.map Pair.row),.own 1 fs.length,.own 3 u.nets.length],.arr 91 8 (fs.map Flw.row),.arr 42 10 (u.convs.map Conv.row),.arr 40 7 (u.nets.map Pk.row)] [] ?_ (goesW_no_down hf hP) ?_ (by simp [argH,getN]) (by simp only [go_sem])
    · simp only [go_sem,Pk.zero,E.zero]
    · simp only [go_sem]
  have f1 := r113 (m'.map Pair.row) (by simp; omega)
  have f2 := c170 s' sb
  have f3 := c173 s' p.at_ sb (by omega)
  have f4 := c173 s' (min (p.at_ + p.text.length) f.down.inn.length) sb (by omega)
  generalize hA : forP s'.parts p.at_ = A at *
  generalize hB : forP s'.parts (min (p.at_ + p.text.length) f.down.inn.length) = Bb at *
  with_reducible repeat' (first | refine br ?_ ?_ <;> intro h e <;> (try simp only [e,go_sem,getD_mp hk,hf,gs]) <;> clear e | rw [i64w (by omega)] | (first | refine sk ?_ | refine sd ?_) <;> try simp only [go_sem,getD_mp hk,hf,gs] | (first | refine cr (f1 ..) ?_ | refine cr (f2 ..) ?_ | refine cr (f3 ..) ?_ | refine cr (f4 ..) ?_ | refine cr (c36 ..) ?_) <;> try simp only [go_sem,getD_mp hk,hf,gs] | fail)
  · have hto' : toR f.down s' p = Bb := by rw [hto,if_neg (by omega),← hB]; congr 2
    have g := gr A _ rfl hto'
    refine retN (.tup [.agg (Pk.row (goesR f.down s' p).1),.bool (goesR f.down s' p).2]) [.var 33 [.own 2 u.convs.length,.sl 3 (m'.map Pair.row),.own 1 fs.length,.own 3 u.nets.length],.arr 91 8 ((fs.set k { f with down := s' }).map Flw.row),.arr 42 10 (u.convs.map Conv.row),.arr 40 7 (u.nets.map Pk.row)] [] ?_ (goesW_yes_down hf hP) ?_ (by simp [argH,getN]) (by simp only [go_sem])
    · simp only [g,go_sem]
    · simp only [go_sem,List.map_set]
  · have hto' : toR f.down s' p = ((sOut s').length : Int) := by rw [hto,if_pos (by omega)]
    have g := gr A _ rfl hto'
    refine retN (.tup [.agg (Pk.row (goesR f.down s' p).1),.bool (goesR f.down s' p).2]) [.var 33 [.own 2 u.convs.length,.sl 3 (m'.map Pair.row),.own 1 fs.length,.own 3 u.nets.length],.arr 91 8 ((fs.set k { f with down := s' }).map Flw.row),.arr 42 10 (u.convs.map Conv.row),.arr 40 7 (u.nets.map Pk.row)] [] ?_ (goesW_yes_down hf hP) ?_ (by simp [argH,getN]) (by simp only [go_sem])
    · simp only [g,go_sem]
    · simp only [go_sem,List.map_set]
def outW (u : M.World) (x : Door × Option Pk) (r : V) (o : List Hs) : Prop :=
  ∃ q,r = .tup [.agg (Pk.row q),.bool x.2.isSome] ∧ (∀ q',x.2 = some q' → q = q') ∧ o = [.var 33 [.own 2 u.convs.length,.sl 3 (x.1.map.map Pair.row),.own 1 x.1.flows.length,.own 3 u.nets.length],.arr 91 8 (x.1.flows.map Flw.row),.arr 42 10 (u.convs.map Conv.row),.arr 40 7 (u.nets.map Pk.row)]
theorem outW_no {u : M.World} {d : Door} : outW u (d,none) (.tup [.agg (Pk.row .zero),.bool false]) [.var 33 [.own 2 u.convs.length,.sl 3 (d.map.map Pair.row),.own 1 d.flows.length,.own 3 u.nets.length],.arr 91 8 (d.flows.map Flw.row),.arr 42 10 (u.convs.map Conv.row),.arr 40 7 (u.nets.map Pk.row)] := ⟨.zero,rfl,fun q h => (by simp at h),rfl⟩
theorem outW_if {u : M.World} (d : Door) (q : Pk) (ok : Bool) : outW u (d,if ok = true then some q else none) (.tup [.agg (Pk.row q),.bool ok]) [.var 33 [.own 2 u.convs.length,.sl 3 (d.map.map Pair.row),.own 1 d.flows.length,.own 3 u.nets.length],.arr 91 8 (d.flows.map Flw.row),.arr 42 10 (u.convs.map Conv.row),.arr 40 7 (u.nets.map Pk.row)] :=
  ⟨q,by cases ok <;> rfl,fun q' h => by cases ok <;> simp at h; exact h,rfl⟩
theorem w191 (u : M.World) (d : Door) (p : Pk) (hd : doorOk d = true) (hp : PkP p) : FnP Tryz.prog G 191 1 [.var 33 [.own 2 u.convs.length,.sl 3 (d.map.map Pair.row),.own 1 d.flows.length,.own 3 u.nets.length],.arr 91 8 (d.flows.map Flw.row),.arr 42 10 (u.convs.map Conv.row),.arr 40 7 (u.nets.map Pk.row)]
    [.pv 0 1,.agg [.int .i64 p.kind,.int .i64 p.frm.a,.int .i64 p.frm.p,.int .i64 p.to.a,.int .i64 p.to.p,.int .i64 p.at_,.str p.text]] (outW u (dIn d p)) := by
  refine FnP.mk' Tryz.func191 en191 dg191 Tryz.ntmps191 (by simp) ?_ ?_
  · exact ⟨_,_,(dIn d p).2.getD .zero,rfl,fun q' h => by rw [h]; rfl,rfl⟩
  obtain ⟨hm,hfl,_⟩ := doorOk_iff.1 hd
  obtain ⟨hmp,hml⟩ := mapOk_ports hm
  have no : ∀ l mm,dIn d p = (d,none) → getL l 4 = .pv 1004 0 → getL l 5 = .bool false → getH mm 1004 = .var 40 (Pk.row .zero) → getH mm 0 = .var 33 [.own 2 u.convs.length,.sl 3 (d.map.map Pair.row),.own 1 d.flows.length,.own 3 u.nets.length] → getH mm 1 = .arr 91 8 (d.flows.map Flw.row) → getH mm 2 = .arr 42 10 (u.convs.map Conv.row) → getH mm 3 = .arr 40 7 (u.nets.map Pk.row) →
      retQ [.cell 4 7 true,.t 5] 1 (outW u (dIn d p)) .ret ⟨getL l,getH mm⟩ := fun l mm hx h1 h2 h3 h4 h5 h6 h7 => by
    rw [hx]
    refine retN _ _ [] ?_ outW_no ?_ (by simp [argH,getN]) (by simp only [go_sem])
    · simp only [go_sem,h1,h2,h3]
    · simp only [go_sem,h4,h5,h6,h7]
  simp only [ic191,go_sem]
  have f0 := c223 d.map p.to.p (by omega)
  with_reducible repeat' (first | refine br ?_ ?_ <;> intro h e <;> (try simp only [e,go_sem]) <;> clear e | rw [i64w (by omega)] | (first | refine sk ?_ | refine sd ?_) <;> try simp only [go_sem] | (first | refine cr (f0 ..) ?_) <;> try simp only [go_sem] | fail)
  cases hin : insideOf d.map p.to.p with
  | none =>
    simp only [go_sem,Option.isSome_none,Option.getD_none,E.zero]
    with_reducible repeat' (first | refine br ?_ ?_ <;> intro h e <;> (try simp only [e,go_sem]) <;> clear e | rw [i64w (by omega)] | (first | refine sk ?_ | refine sd ?_) <;> try simp only [go_sem] | fail)
    refine callF (c54 (d.map.map Pair.row) d.flows ⟨0,0⟩ p.frm (by omega)) [1] false (by simp only [go_sem]; first | done | simp [E.row,Pc.row,Pair.row,Part.row,Flw.row,Pk.row,Conv.row]) (by simp only [List.mem_singleton]; rintro c rfl; rfl) rfl (.inr rfl) ?_
    simp only [go_sem]
    with_reducible repeat' (first | refine br ?_ ?_ <;> intro h e <;> (try simp only [e,go_sem]) <;> clear e | rw [i64w (by omega)] | (first | refine sk ?_ | refine sd ?_) <;> try simp only [go_sem] | fail)
    exact no _ _ (dIn_no1 hin) (by simp only [go_sem]) (by simp only [go_sem]) (by simp only [go_sem,Pk.zero,E.zero]) (by simp only [go_sem]) (by simp only [go_sem]) (by simp only [go_sem]) (by simp only [go_sem])
  | some i =>
    simp only [go_sem,Option.isSome_some,Option.getD_some]
    with_reducible repeat' (first | refine br ?_ ?_ <;> intro h e <;> (try simp only [e,go_sem]) <;> clear e | rw [i64w (by omega)] | (first | refine sk ?_ | refine sd ?_) <;> try simp only [go_sem] | fail)
    refine callF (c54 (d.map.map Pair.row) d.flows i p.frm (by omega)) [1] false (by simp only [go_sem]; first | done | simp [E.row,Pc.row,Pair.row,Part.row,Flw.row,Pk.row,Conv.row]) (by simp only [List.mem_singleton]; rintro c rfl; rfl) rfl (.inr rfl) ?_
    simp only [go_sem]
    cases hf : flowIx d.flows i p.frm with
    | none =>
      simp only [ixI,go_sem]
      with_reducible repeat' (first | refine br ?_ ?_ <;> intro h e <;> (try simp only [e,go_sem]) <;> clear e | rw [i64w (by omega)] | (first | refine sk ?_ | refine sd ?_) <;> try simp only [go_sem] | fail)
      exact no _ _ (dIn_no2 hin hf) (by simp only [go_sem]) (by simp only [go_sem]) (by simp only [go_sem,Pk.zero,E.zero]) (by simp only [go_sem]) (by simp only [go_sem]) (by simp only [go_sem]) (by simp only [go_sem])
    | some k =>
      obtain ⟨hk,hke⟩ := dIn_yes hin hf
      rw [hke]
      have hg : d.flows.getD k default = Flw.at d k := rfl
      have hfk : d.flows[k]? = some (Flw.at d k) := by simp [Flw.at,List.getD,hk]
      obtain ⟨_,_,x6,x7,_⟩ := flow_at hd hfk
      have s1 := strmOk_B x6
      have hpa := hp.at_
      have hpl := hp.len
      have f1 := c116 (Flw.at d k).up { p with to := i } s1 (by simp only; omega)
      have hlt : ¬ ((k : Int) < 0) := by omega
      simp only [ixI,go_sem,eq_false hlt]
      with_reducible repeat' (first | refine br ?_ ?_ <;> intro h e <;> (try simp only [e,go_sem,getD_mp hk,hg]) <;> clear e | rw [i64w (by omega)] | (first | refine sk ?_ | refine sd ?_) <;> try simp only [go_sem,getD_mp hk,hg] | (first | refine cr (f1 ..) ?_) <;> try simp only [go_sem,getD_mp hk,hg] | fail)
      · have hx : ∀ b,(acksR (Flw.at d k).up { p with to := i }).2 = b → inK d k i p = (d,if b then some (acksR (Flw.at d k).up { p with to := i }).1 else none) := fun b hb => by
          subst hb
          have hk2 : p.kind = 2 := by assumption
          simp only [inK,acksR]
          rw [if_pos hk2]
          by_cases hc : p.at_ > ((sOut (Flw.at d k).up).length : Int)
          · rw [if_pos hc,if_pos hc]; rfl
          · rw [if_neg hc,if_neg hc,hp.ack hk2,hk2]; rfl
        generalize hA : acksR (Flw.at d k).up { p with to := i } = A at *
        obtain ⟨q,ok⟩ := A
        have hx := hx _ rfl
        simp only at hx
        rw [hx]
        refine retN (.tup [.agg (Pk.row q),.bool ok]) [.var 33 [.own 2 u.convs.length,.sl 3 (d.map.map Pair.row),.own 1 d.flows.length,.own 3 u.nets.length],.arr 91 8 (d.flows.map Flw.row),.arr 42 10 (u.convs.map Conv.row),.arr 40 7 (u.nets.map Pk.row)] [] ?_ ⟨q,by cases ok <;> rfl,fun q' h => by cases ok <;> simp at h; exact h,rfl⟩ ?_ (by simp [argH,getN]) (by simp only [go_sem])
        · simp only [go_sem]
        · simp only [go_sem]
      have hk2 : ¬ p.kind = 2 := by assumption
      have htx := hp.tx.resolve_left hk2
      refine callN (w117down u d.map d.flows k { p with to := i } false hm hk x7 ⟨hp.at_,hp.len,hp.tx,hp.ack,hp.kd⟩ htx) [0,1,2,3] [] true 60 4 (by simp only [go_sem]; first | done | simp) (by simp only [go_sem]; first | done | simp) (by simp) (by simp) (by simp) ?_ ?_ ?_
      · rintro res out (⟨_,rfl,rfl⟩ | ⟨_,rfl,rfl⟩)
        · exact ⟨by simp,by simp,.inl rfl,fun i hi => by rcases (show i = 0 ∨ i = 1 ∨ i = 2 ∨ i = 3 by omega) with rfl | rfl | rfl | rfl <;> simp [chH,stepOk]⟩
        · exact ⟨by simp,by simp,.inl rfl,fun i hi => by rcases (show i = 0 ∨ i = 1 ∨ i = 2 ∨ i = 3 by omega) with rfl | rfl | rfl | rfl <;> simp [chH,stepOk]⟩
      · intro i hi
        rcases (show i = 0 ∨ i = 1 ∨ i = 2 ∨ i = 3 by omega) with rfl | rfl | rfl | rfl <;> simp only [go_sem]
      have hko : inK d k i p = if (put d.map (Flw.at d k).down p.at_ p.text false).2.2 = false then (d,none)
          else (⟨d.map,d.flows.set k { Flw.at d k with down := (put d.map (Flw.at d k).down p.at_ p.text false).2.1 }⟩,
            sendOn (Flw.at d k).down (put d.map (Flw.at d k).down p.at_ p.text false).2.1 { p with to := i }) := by
        simp only [inK]; rw [if_neg hk2,sendOn_to _ _ p i]
      have hpm := put_mapF d.map (Flw.at d k).down p.at_ p.text
      rintro res out (⟨h,rfl,rfl⟩ | ⟨h,rfl,rfl⟩)
      all_goals
        simp only [hg] at h ⊢
        generalize hP : put d.map (Flw.at d k).down p.at_ p.text false = P at *
        obtain ⟨m',s',ok'⟩ := P
        simp only at h hko hpm
        subst h
        subst hpm
        simp only [go_sem]
      · rw [if_pos rfl] at hko
        rw [hko]
        with_reducible repeat' (first | refine br ?_ ?_ <;> intro h e <;> (try simp only [e,go_sem]) <;> clear e | rw [i64w (by omega)] | (first | refine sk ?_ | refine sd ?_) <;> try simp only [go_sem] | fail)
        refine retN _ _ [] ?_ outW_no ?_ (by simp [argH,getN]) (by simp only [go_sem])
        · simp only [go_sem]
        · simp only [go_sem]
      · rw [if_neg (by simp),goesR_on] at hko
        rw [hko]
        with_reducible repeat' (first | refine br ?_ ?_ <;> intro h e <;> (try simp only [e,go_sem]) <;> clear e | rw [i64w (by omega)] | (first | refine sk ?_ | refine sd ?_) <;> try simp only [go_sem] | fail)
        refine retN _ _ [] ?_ (outW_if ⟨d.map,d.flows.set k { Flw.at d k with down := s' }⟩ _ _) ?_ (by simp [argH,getN]) (by simp only [go_sem])
        · simp only [go_sem]
        · simp only [go_sem,List.map_set,List.length_set]
def outX (u : M.World) (x : Door × Option Pk) (r : V) (o : List Hs) : Prop := ∃ o',outW u x r o' ∧ ∀ c,HsW (chH o c) (chH o' c)
theorem outX_of {u : M.World} {x : Door × Option Pk} {r : V} {o : List Hs} (h : outW u x r o) : outX u x r o := ⟨o,h,fun c => HsW.refl _⟩
theorem hsNewW (u : M.World) (M : List Pair) (fs : List Flw) (i o : E) : ∀ c,HsW (chH [.var 33 [.own 2 u.convs.length,.sl 3 (M.map Pair.row),.own 1 (fs ++ [Flw.mk i o .zero .zero]).length,.own 3 u.nets.length],.arr 91 8 (fs.map Flw.row ++ [[.int .i64 i.a,.int .i64 i.p,.int .i64 o.a,.int .i64 o.p,.str [],.nils,.str [],.nils]]),.arr 42 10 (u.convs.map Conv.row),.arr 40 7 (u.nets.map Pk.row)] c)
    (chH [.var 33 [.own 2 u.convs.length,.sl 3 (M.map Pair.row),.own 1 (fs ++ [Flw.mk i o .zero .zero]).length,.own 3 u.nets.length],.arr 91 8 ((fs ++ [Flw.mk i o .zero .zero]).map Flw.row),.arr 42 10 (u.convs.map Conv.row),.arr 40 7 (u.nets.map Pk.row)] c)
  | 0 => rfl
  | 1 => ⟨rfl,rfl,rowsNew fs i o⟩
  | 2 => HsW.refl _
  | 3 => HsW.refl _
  | n + 4 => rfl
theorem w50 (u : M.World) (d : Door) (p : Pk) (hd : doorOk d = true) (hp : PkP p) (hi : p.frm.inside = true) (ho : p.to.outside = true) : FnP Tryz.prog G 50 1 [.var 33 [.own 2 u.convs.length,.sl 3 (d.map.map Pair.row),.own 1 d.flows.length,.own 3 u.nets.length],.arr 91 8 (d.flows.map Flw.row),.arr 42 10 (u.convs.map Conv.row),.arr 40 7 (u.nets.map Pk.row)]
    [.pv 0 1,.agg [.int .i64 p.kind,.int .i64 p.frm.a,.int .i64 p.frm.p,.int .i64 p.to.a,.int .i64 p.to.p,.int .i64 p.at_,.str p.text]] (outW u (dOut d p)) := by
  refine FnP.rowsOut (post := outX u (dOut d p)) ?_ fun r o h => h
  refine FnP.mk' Tryz.func50 en50 dg50 Tryz.ntmps50 (by simp) ?_ ?_
  · exact ⟨_,_,outX_of ⟨(dOut d p).2.getD .zero,rfl,fun q' h => by rw [h]; rfl,rfl⟩⟩
  obtain ⟨hm,hfl,_⟩ := doorOk_iff.1 hd
  obtain ⟨hmp,hml⟩ := mapOk_ports hm
  have hyes := fun ok => openR_ok hd hi ho ok
  have hout := fun ok => dOut_yes (p := p) ok (hyes ok).kl
  have hno := fun ok => dOut_no (d := d) (p := p) ok
  simp only [ic50,go_sem]
  with_reducible repeat' (first | refine br ?_ ?_ <;> intro h e <;> (try simp only [e,go_sem]) <;> clear e | rw [i64w (by omega)] | (first | refine sk ?_ | refine sd ?_) <;> try simp only [go_sem] | fail)
  refine callF (c54 (d.map.map Pair.row) d.flows p.frm p.to (by omega)) [1] false (by simp only [go_sem]; first | done | simp [E.row,Pc.row,Pair.row,Part.row,Flw.row,Pk.row,Conv.row]) (by simp only [List.mem_singleton]; rintro c rfl; rfl) rfl (.inr rfl) ?_
  simp only [go_sem]
  cases hf : flowIx d.flows p.frm p.to with
  | some k =>
    have hop := openF_has hf
    rw [hop] at hyes hout hno
    have hlt : ¬ ((k : Int) < 0) := by omega
    simp only [ixI,go_sem,eq_false hlt]
    obtain ⟨x1,x2,x3,x4,x5,x6,x7,x8⟩ := hyes rfl
    have hout := hout rfl
    simp only at x1 x2 x3 x4 x5 x6 x7 x8 hout
    rw [hout]
    have hg : d.flows.getD k default = Flw.at d k := rfl
    rw [hg] at x6 x7
    have s2 := strmOk_B x7
    have hpa := hp.at_
    have hpl := hp.len
    have f0 := c53 d.map p.frm.a p.frm.p (by omega)
    have f1 := c116 (Flw.at d k).down { p with frm := ⟨9,portOf d.map p.frm⟩ } s2 (by simp only; omega)
    with_reducible repeat' (first | refine br ?_ ?_ <;> intro h e <;> (try simp only [e,go_sem,getD_mp x4,hg]) <;> clear e | rw [i64w (by omega)] | (first | refine sk ?_ | refine sd ?_) <;> try simp only [go_sem,getD_mp x4,hg] | (first | refine cr (f0 ..) ?_ | refine cr (f1 ..) ?_) <;> try simp only [go_sem,getD_mp x4,hg] | fail)
    · have hx : ∀ b,(acksR (Flw.at d k).down { p with frm := ⟨9,portOf d.map p.frm⟩ }).2 = b → outK d k p = (d,if b then some (acksR (Flw.at d k).down { p with frm := ⟨9,portOf d.map p.frm⟩ }).1 else none) := fun b hb => by
        subst hb
        have hk2 : p.kind = 2 := by assumption
        simp only [outK,acksR]
        rw [if_pos hk2]
        by_cases hc : p.at_ > ((sOut (Flw.at d k).down).length : Int)
        · rw [if_pos hc,if_pos hc]; rfl
        · rw [if_neg hc,if_neg hc,hp.ack hk2,hk2]; rfl
      generalize hA : acksR (Flw.at d k).down { p with frm := ⟨9,portOf d.map p.frm⟩ } = A at *
      obtain ⟨q,ok⟩ := A
      have hx := hx _ rfl
      simp only at hx
      rw [hx]
      refine retN _ _ [] ?_ (outX_of (outW_if d q ok)) ?_ (by simp [argH,getN]) (by simp only [go_sem])
      · simp only [go_sem]
      · simp only [go_sem]
    have hk2 : ¬ p.kind = 2 := by assumption
    have htx := hp.tx.resolve_left hk2
    refine callN (w117up u d.map d.flows k { p with frm := ⟨9,portOf d.map p.frm⟩ } true hm x4 x6 ⟨hp.at_,hp.len,hp.tx,hp.ack,hp.kd⟩ htx) [0,1,2,3] [] true 98 4 (by simp only [go_sem]; first | done | simp) (by simp only [go_sem]; first | done | simp) (by simp) (by simp) (by simp) ?_ ?_ ?_
    · rintro res out (⟨_,rfl,rfl⟩ | ⟨_,rfl,rfl⟩)
      · exact ⟨by simp,by simp,.inl rfl,fun i hi => by rcases (show i = 0 ∨ i = 1 ∨ i = 2 ∨ i = 3 by omega) with rfl | rfl | rfl | rfl <;> simp [chH,stepOk]⟩
      · exact ⟨by simp,by simp,.inl rfl,fun i hi => by rcases (show i = 0 ∨ i = 1 ∨ i = 2 ∨ i = 3 by omega) with rfl | rfl | rfl | rfl <;> simp [chH,stepOk]⟩
    · intro i hi
      rcases (show i = 0 ∨ i = 1 ∨ i = 2 ∨ i = 3 by omega) with rfl | rfl | rfl | rfl <;> simp only [go_sem]
    have hko : outK d k p = if (put d.map (Flw.at d k).up p.at_ p.text true).2.2 = false then (d,none)
        else (⟨(put d.map (Flw.at d k).up p.at_ p.text true).1,d.flows.set k { Flw.at d k with up := (put d.map (Flw.at d k).up p.at_ p.text true).2.1 }⟩,
          sendOn (Flw.at d k).up (put d.map (Flw.at d k).up p.at_ p.text true).2.1 { p with frm := ⟨9,portOf d.map p.frm⟩ }) := by
      simp only [outK]; rw [if_neg hk2,sendOn_frm _ _ p ⟨9,portOf d.map p.frm⟩]
    rintro res out (⟨h,rfl,rfl⟩ | ⟨h,rfl,rfl⟩)
    all_goals
      simp only [hg] at h ⊢
      generalize hP : put d.map (Flw.at d k).up p.at_ p.text true = P at *
      obtain ⟨m',s',ok'⟩ := P
      simp only at h hko
      subst h
      simp only [go_sem]
    · rw [if_pos rfl] at hko
      rw [hko]
      with_reducible repeat' (first | refine br ?_ ?_ <;> intro h e <;> (try simp only [e,go_sem]) <;> clear e | rw [i64w (by omega)] | (first | refine sk ?_ | refine sd ?_) <;> try simp only [go_sem] | fail)
      refine retN _ _ [] ?_ (outX_of outW_no) ?_ (by simp [argH,getN]) (by simp only [go_sem])
      · simp only [go_sem]
      · simp only [go_sem]
    · rw [if_neg (by simp),goesR_on] at hko
      rw [hko]
      with_reducible repeat' (first | refine br ?_ ?_ <;> intro h e <;> (try simp only [e,go_sem]) <;> clear e | rw [i64w (by omega)] | (first | refine sk ?_ | refine sd ?_) <;> try simp only [go_sem] | fail)
      refine retN _ _ [] ?_ (outX_of (outW_if ⟨m',d.flows.set k { Flw.at d k with up := s' }⟩ _ _)) ?_ (by simp [argH,getN]) (by simp only [go_sem])
      · simp only [go_sem]
      · simp only [go_sem,List.map_set,List.length_set]
  | none =>
    simp only [ixI,go_sem]
    with_reducible repeat' (first | refine br ?_ ?_ <;> intro h e <;> (try simp only [e,go_sem]) <;> clear e | rw [i64w (by omega)] | (first | refine sk ?_ | refine sd ?_) <;> try simp only [go_sem] | fail)
    have f9 := c115 d.map p.frm.a p.frm.p hmp (by omega)
    have no : ∀ l mm,dOut d p = (d,none) → getL l 4 = .pv 1004 0 → getL l 5 = .bool false → getH mm 1004 = .var 40 (Pk.row .zero) → getH mm 0 = .var 33 [.own 2 u.convs.length,.sl 3 (d.map.map Pair.row),.own 1 d.flows.length,.own 3 u.nets.length] → getH mm 1 = .arr 91 8 (d.flows.map Flw.row) → getH mm 2 = .arr 42 10 (u.convs.map Conv.row) → getH mm 3 = .arr 40 7 (u.nets.map Pk.row) →
        retQ [.cell 4 7 true,.t 5] 1 (outX u (dOut d p)) .ret ⟨getL l,getH mm⟩ := fun l mm hx h1 h2 h3 h4 h5 h6 h7 => by
      rw [hx]
      refine retN _ _ [] ?_ (outX_of outW_no) ?_ (by simp [argH,getN]) (by simp only [go_sem])
      · simp only [go_sem,h1,h2,h3]
      · simp only [go_sem,h4,h5,h6,h7]
    refine callR f9 rfl rfl ?_
    simp only [go_sem]
    cases hok : (mOut d.map p.frm).2.2 with
    | false =>
      rw [openF_no hf hok] at hno
      simp only [go_sem]
      with_reducible repeat' (first | refine br ?_ ?_ <;> intro h e <;> (try simp only [e,go_sem]) <;> clear e | rw [i64w (by omega)] | (first | refine sk ?_ | refine sd ?_) <;> try simp only [go_sem] | fail)
      exact no _ _ (hno rfl) (by simp only [go_sem]) (by simp only [go_sem]) (by simp only [go_sem,Pk.zero,E.zero]) (by simp only [go_sem]) (by simp only [go_sem]) (by simp only [go_sem]) (by simp only [go_sem])
    | true =>
      simp only [go_sem]
      with_reducible repeat' (first | refine br ?_ ?_ <;> intro h e <;> (try simp only [e,go_sem]) <;> clear e | rw [i64w (by omega)] | (first | refine sk ?_ | refine sd ?_) <;> try simp only [go_sem] | fail)
      · rw [openF_full hf (by omega)] at hno
        exact no _ _ (hno rfl) (by simp only [go_sem]) (by simp only [go_sem]) (by simp only [go_sem,Pk.zero,E.zero]) (by simp only [go_sem]) (by simp only [go_sem]) (by simp only [go_sem]) (by simp only [go_sem])
      rw [openF_new hf hok (by omega)] at hyes hout
      obtain ⟨x1,x2,x3,x4,x5,x6,x7,x8⟩ := hyes rfl
      have hout := hout rfl
      simp only at x1 x2 x3 x4 x5 x6 x7 x8 hout
      rw [hout]
      have hm2 := (mapOk_ports x1).2
      have hpa := hp.at_
      have hpl := hp.len
      have hg : Flw.at ⟨(mOut d.map p.frm).1,d.flows ++ [Flw.mk p.frm p.to .zero .zero]⟩ d.flows.length = Flw.mk p.frm p.to .zero .zero := by simp [Flw.at,List.getD]
      have hx : ∀ R : List V,((d.flows.map Flw.row) ++ [R]).getD d.flows.length [] = R := fun R => getD_last _ _ (by simp) _
      have f0 := c53 (mOut d.map p.frm).1 p.frm.a p.frm.p (by omega)
      generalize hM : (mOut d.map p.frm).1 = M at *
      with_reducible repeat' (first | refine br ?_ ?_ <;> intro h e <;> (try simp only [e,go_sem,hx]) <;> clear e | rw [i64w (by omega)] | (first | refine sk ?_ | refine sd ?_) <;> try simp only [go_sem,hx] | (first | refine cr (f0 ..) ?_) <;> try simp only [go_sem,hx] | fail)
      all_goals
        refine effG (by simp only [List.length_append,List.length_map,List.length_cons,List.length_nil]; omega) ?_
        simp only [go_sem,hx]
        with_reducible repeat' (first | refine br ?_ ?_ <;> intro h e <;> (try simp only [e,go_sem,hx]) <;> clear e | rw [i64w (by omega)] | (first | refine sk ?_ | refine sd ?_) <;> try simp only [go_sem,hx] | fail)
      · have f1 := c116 .zero { p with frm := ⟨9,portOf M p.frm⟩ } (strmOk_B strmOk_zero) (by simp only; omega)
        refine callF f1 [] true (by simp only [go_sem,Strm.zero]) (by simp) rfl (.inl rfl) ?_
        simp only [go_sem]
        with_reducible repeat' (first | refine br ?_ ?_ <;> intro h e <;> (try simp only [e,go_sem,hx]) <;> clear e | rw [i64w (by omega)] | (first | refine sk ?_ | refine sd ?_) <;> try simp only [go_sem,hx] | fail)
        have hx2 : ∀ b,(acksR .zero { p with frm := ⟨9,portOf M p.frm⟩ }).2 = b → outK ⟨M,d.flows ++ [Flw.mk p.frm p.to .zero .zero]⟩ d.flows.length p = (⟨M,d.flows ++ [Flw.mk p.frm p.to .zero .zero]⟩,if b then some (acksR .zero { p with frm := ⟨9,portOf M p.frm⟩ }).1 else none) := fun b hb => by
          subst hb
          have hk2 : p.kind = 2 := by assumption
          simp only [outK,acksR,hg]
          rw [if_pos hk2]
          by_cases hc : p.at_ > ((sOut .zero).length : Int)
          · rw [if_pos hc,if_pos hc]; rfl
          · rw [if_neg hc,if_neg hc,hp.ack hk2,hk2]; rfl
        generalize hA : acksR .zero { p with frm := ⟨9,portOf M p.frm⟩ } = A at *
        obtain ⟨q,ok⟩ := A
        have hx2 := hx2 _ rfl
        simp only at hx2
        rw [hx2]
        refine retN _ _ [(1,1062)] ?_ ⟨_,outW_if ⟨M,d.flows ++ [Flw.mk p.frm p.to .zero .zero]⟩ q ok,hsNewW u M d.flows p.frm p.to⟩ ?_ (by simp [argH,getN]) (by simp only [go_sem])
        · simp only [go_sem]
        · simp only [go_sem]; simp
      have hk2 : ¬ p.kind = 2 := by assumption
      have htx := hp.tx.resolve_left hk2
      refine callN (FnP.rowsIn (w117up u M (d.flows ++ [Flw.mk p.frm p.to .zero .zero]) d.flows.length { p with frm := ⟨9,portOf M p.frm⟩ } true x1 x4 x6 ⟨hp.at_,hp.len,hp.tx,hp.ack,hp.kd⟩ htx) (hsNewW u M d.flows p.frm p.to)) [0,1062,2,3] [] true 98 4 (by simp only [go_sem]; first | done | simp) (by simp only [go_sem]; first | done | simp) (by simp) (by simp) (by simp) ?_ ?_ ?_
      · rintro res out (⟨_,rfl,rfl⟩ | ⟨_,rfl,rfl⟩)
        · exact ⟨by simp,by simp,.inl rfl,fun i hi => by rcases (show i = 0 ∨ i = 1 ∨ i = 2 ∨ i = 3 by omega) with rfl | rfl | rfl | rfl <;> simp [chH,stepOk]⟩
        · exact ⟨by simp,by simp,.inl rfl,fun i hi => by rcases (show i = 0 ∨ i = 1 ∨ i = 2 ∨ i = 3 by omega) with rfl | rfl | rfl | rfl <;> simp [chH,stepOk]⟩
      · intro i hi
        rcases (show i = 0 ∨ i = 1 ∨ i = 2 ∨ i = 3 by omega) with rfl | rfl | rfl | rfl <;> simp only [go_sem]
      have hgd : (d.flows ++ [Flw.mk p.frm p.to .zero .zero]).getD d.flows.length default = Flw.mk p.frm p.to .zero .zero := hg
      have hko : outK ⟨M,d.flows ++ [Flw.mk p.frm p.to .zero .zero]⟩ d.flows.length p = if (put M .zero p.at_ p.text true).2.2 = false then (⟨M,d.flows ++ [Flw.mk p.frm p.to .zero .zero]⟩,none)
          else (⟨(put M .zero p.at_ p.text true).1,(d.flows ++ [Flw.mk p.frm p.to .zero .zero]).set d.flows.length { Flw.mk p.frm p.to .zero .zero with up := (put M .zero p.at_ p.text true).2.1 }⟩,
            sendOn .zero (put M .zero p.at_ p.text true).2.1 { p with frm := ⟨9,portOf M p.frm⟩ }) := by
        simp only [outK,hg]; rw [if_neg hk2,sendOn_frm _ _ p ⟨9,portOf M p.frm⟩]
      rintro res out (⟨h,rfl,rfl⟩ | ⟨h,rfl,rfl⟩)
      all_goals
        simp only [hgd] at h ⊢
        generalize hP : put M .zero p.at_ p.text true = P at *
        obtain ⟨m',s',ok'⟩ := P
        simp only at h hko
        subst h
        simp only [go_sem]
      · rw [if_pos rfl] at hko
        rw [hko]
        with_reducible repeat' (first | refine br ?_ ?_ <;> intro h e <;> (try simp only [e,go_sem]) <;> clear e | rw [i64w (by omega)] | (first | refine sk ?_ | refine sd ?_) <;> try simp only [go_sem] | fail)
        refine retN _ _ [(1,1062)] ?_ (outX_of outW_no) ?_ (by simp [argH,getN]) (by simp only [go_sem])
        · simp only [go_sem]
        · simp only [go_sem]
      · rw [if_neg (by simp),goesR_on] at hko
        rw [hko]
        with_reducible repeat' (first | refine br ?_ ?_ <;> intro h e <;> (try simp only [e,go_sem]) <;> clear e | rw [i64w (by omega)] | (first | refine sk ?_ | refine sd ?_) <;> try simp only [go_sem] | fail)
        refine retN _ _ [(1,1062)] ?_ (outX_of (outW_if ⟨m',(d.flows ++ [Flw.mk p.frm p.to .zero .zero]).set d.flows.length { Flw.mk p.frm p.to .zero .zero with up := s' }⟩ _ _)) ?_ (by simp [argH,getN]) (by simp only [go_sem])
        · simp only [go_sem]
        · simp only [go_sem,List.map_set,List.length_set]
theorem w146 (u : M.World) (d : Door) (p : Pk) (hd : doorOk d = true) (hp : PkP p) : FnP Tryz.prog G 146 1 [.var 33 [.own 2 u.convs.length,.sl 3 (d.map.map Pair.row),.own 1 d.flows.length,.own 3 u.nets.length],.arr 91 8 (d.flows.map Flw.row),.arr 42 10 (u.convs.map Conv.row),.arr 40 7 (u.nets.map Pk.row)]
    [.pv 0 1,.agg [.int .i64 p.kind,.int .i64 p.frm.a,.int .i64 p.frm.p,.int .i64 p.to.a,.int .i64 p.to.p,.int .i64 p.at_,.str p.text]] (outW u (dPass d p)) := by
  refine FnP.mk' Tryz.func146 en146 dg146 Tryz.ntmps146 (by simp) ?_ ?_
  · exact ⟨_,_,(dPass d p).2.getD .zero,rfl,fun q' h => by rw [h]; rfl,rfl⟩
  have b1 := c48 p
  have b2 := c79 p
  simp only [ic146,go_sem]
  with_reducible repeat' (first | refine br ?_ ?_ <;> intro h e <;> (try simp only [e,go_sem]) <;> clear e | rw [i64w (by omega)] | (first | refine sk ?_ | refine sd ?_) <;> try simp only [go_sem] | (first | refine cr (b1 ..) ?_ | refine cr (b2 ..) ?_) <;> try simp only [go_sem] | fail)
  · have hx : dPass d p = dOut d p := by simp_all [dPass]
    rw [hx]
    have hio : p.frm.inside = true ∧ p.to.outside = true := by simp_all [Pk.outward]
    refine callN (w50 u d p hd hp hio.1 hio.2) [0,1,2,3] [] true 11 4 (by simp only [go_sem]; first | done | simp) (by simp only [go_sem]; first | done | simp) (by simp) (by simp) (by simp) ?_ ?_ ?_
    · rintro res out ⟨q,rfl,hq,rfl⟩
      exact ⟨by simp,by simp,.inl rfl,fun i hi => by obtain rfl : i = 0 := (by omega); simp [chH,stepOk]⟩
    · intro i hi
      rcases (show i = 0 ∨ i = 1 ∨ i = 2 ∨ i = 3 by omega) with rfl | rfl | rfl | rfl <;> simp only [go_sem]
    rintro res out ⟨q,rfl,hq,rfl⟩
    simp only [go_sem]
    refine retN _ _ [(1,101101),(2,101102),(3,101103)] ?_ ⟨q,rfl,hq,rfl⟩ ?_ (by simp [argH,getN]) (by simp only [go_sem])
    · simp only [go_sem]
    · simp only [go_sem]
  · have hx : dPass d p = dIn d p := by simp_all [dPass]
    rw [hx]
    refine callN (w191 u d p hd hp) [0,1,2,3] [] true 19 4 (by simp only [go_sem]; first | done | simp) (by simp only [go_sem]; first | done | simp) (by simp) (by simp) (by simp) ?_ ?_ ?_
    · rintro res out ⟨q,rfl,hq,rfl⟩
      exact ⟨by simp,by simp,.inl rfl,fun i hi => by obtain rfl : i = 0 := (by omega); simp [chH,stepOk]⟩
    · intro i hi
      rcases (show i = 0 ∨ i = 1 ∨ i = 2 ∨ i = 3 by omega) with rfl | rfl | rfl | rfl <;> simp only [go_sem]
    rintro res out ⟨q,rfl,hq,rfl⟩
    simp only [go_sem]
    refine retN _ _ [(1,101901),(2,101902),(3,101903)] ?_ ⟨q,rfl,hq,rfl⟩ ?_ (by simp [argH,getN]) (by simp only [go_sem])
    · simp only [go_sem]
    · simp only [go_sem]
  · have hx : dPass d p = (d,none) := by simp_all [dPass]
    rw [hx]
    refine retN _ _ [] ?_ outW_no ?_ (by simp [argH,getN]) (by simp only [go_sem])
    · simp only [go_sem,Pk.zero,E.zero]
    · simp only [go_sem]
def ic142 : IC := sR [oP 2 (.mv (.c (.bool false)))] (sR [mV 3 0,oP 4 (.lens (.t 3)),oP 5 (.bin .leq (.t 4) (.c (.int .i64 24))),mV 6 5,⟨some 7,some (6,true),.mv (.t 0)⟩,⟨some 8,some (6,true),.call 90 [.t 7]⟩,oP 9 (.pick (.t 6) (.t 8) (.c (.bool false))),mV 10 9,⟨some 11,some (10,true),.mv (.t 0)⟩,⟨some 12,some (10,true),.call 156 [.t 11]⟩,⟨some 13,some (10,true),.bin .eql (.t 12) (.c i0)⟩,oP 14 (.pick (.t 10) (.t 13) (.c (.bool false))),mV 2 14] .ret)
theorem dg142 : digF Tryz.prog Tryz.f142 = some (ic142,[(.t 2)]) := by kernel_rfl
theorem en142 : entr Tryz.prog 142 = true := by kernel_rfl
theorem c142 (t : B) (hl : t.length ≤ 2000000) : FnR Tryz.prog G 142 [.str t] (.bool (saying t)) := by
  refine FnR.mkF Tryz.func142 en142 dg142 Tryz.ntmps142 (by simp) ?_
  simp only [ic142,go_sem]
  have c1 := c90 t hl
  have c2 := c156 t hl
  with_reducible repeat' (first | refine br ?_ ?_ <;> intro h e <;> (try simp only [e,go_sem]) <;> clear e | rw [i64w (by omega)] | (first | refine sk ?_ | refine sd ?_) <;> try simp only [go_sem] | (first | refine cr (c1 ..) ?_ | refine cr (c2 ..) ?_) <;> try simp only [go_sem] | fail)
  all_goals simp_all [saying]
  all_goals omega
theorem findIdx_no {α : Type} {P : α → Bool} {l : List α} (h : l.any P = false) : l.findIdx? P = none := List.findIdx?_eq_none_iff.2 fun x hx => by simpa using List.any_eq_false.1 h x hx
theorem findIdx_yes {α : Type} {P : α → Bool} {l : List α} {k : Nat} (hk : k < l.length) (h : (l.take k).any P = false) (hp : P l[k] = true) : l.findIdx? P = some k := by
  refine List.findIdx?_eq_some_iff_getElem.2 ⟨hk,hp,fun j hj => ?_⟩
  have := List.any_eq_false.1 h l[j] (List.mem_iff_getElem?.2 ⟨j,by rw [List.getElem?_take,if_pos hj]; exact List.getElem?_eq_getElem _⟩)
  simpa using this
theorem any_step {α : Type} {P : α → Bool} {l : List α} {k : Nat} (hk : k < l.length) (h : (l.take k).any P = false) (hp : P l[k] = false) : (l.take (k + 1)).any P = false := by
  rw [List.take_add_one,List.getElem?_eq_getElem hk]
  simp only [Option.toList_some,List.any_append,h,List.any_cons,List.any_nil,Bool.or_false,Bool.false_or,hp]
theorem ixI_any {α : Type} {P : α → Bool} {l : List α} : decide (0 ≤ ixI (l.findIdx? P)) = l.any P := by
  cases h : l.any P with
  | false => rw [findIdx_no h]; rfl
  | true =>
    obtain ⟨x,hx,hp⟩ := List.any_eq_true.1 h
    cases hf : l.findIdx? P with
    | none => have := List.findIdx?_eq_none_iff.1 hf x hx; rw [hp] at this; cases this
    | some k => simp [ixI]
def ic190 : IC := sR [oP 4 (.mv (.c i0))] (.seq (sR [mV 6 0,oP 7 (.len (.t 6)),oP 8 (.mv (.c i0))] (.block 0 (.loop (sR [bN 9 .lss 8 7] (.seq (.cond (.t 9) .skip (.exit 0)) (.seq (.block 1 (sR [mV 10 8,mV 5 10] (sR [mV 11 1,mV 12 0,mV 13 5,oP 14 (.iad 2 (.t 12) (.t 13)),lA 15 2 14,oP 16 (.cal (.t 11) [.t 15])] (.cond (.t 16) (sR [mV 17 5,mV 4 17] .ret) .skip)))) (.reg [oP 18 (.bin .add (.t 8) (.c (.int .i64 1))),mV 8 18]))))))) (sR [oP 4 (.mv (.c (.int .i64 (-1))))] .ret))
theorem dg190 : digF Tryz.prog Tryz.f190 = some (ic190,[(.t 4)]) := by kernel_rfl
theorem en190 : entr Tryz.prog 190 = true := by kernel_rfl
theorem c190 (l : List E) (hl : l.length ≤ 2000000) : FnR Tryz.prog G 190 [.sl 2 (l.map E.row),.fn 13 []] (.int .i64 (ixI (l.findIdx? E.door))) := by
  refine FnR.mkF Tryz.func190 en190 dg190 Tryz.ntmps190 (by simp) ?_
  simp only [ic190,go_sem]
  refine loopN (fun k : Nat => ⟨getL [(0,.sl 2 (l.map E.row)),(1,.fn 13 []),(7,.int .i64 l.length),(8,.int .i64 (k : Int))],getH []⟩) (fun k => l.length - k)
    (fun k => k ≤ l.length ∧ (l.take k).any E.door = false) 0 (leQ []) ⟨Nat.zero_le _,by simp⟩ ?_
  intro k ⟨hk,ha⟩
  simp only [go_sem]
  by_cases h : (k : Int) < l.length
  · have hil : k < l.length := by omega
    have hg : l.getD k default = l[k] := by simp [List.getD,hil]
    have hy := findIdx_yes hil ha
    have hs := any_step hil ha
    simp only [eq_true h,go_sem]
    with_reducible repeat' (first | refine br ?_ ?_ <;> intro h e <;> (try simp only [e,go_sem,hg]) <;> clear e | rw [i64w (by omega)] | (first | refine sk ?_ | refine sd ?_) <;> try simp only [go_sem,hg] | (first | refine cr (c13 ..) ?_) <;> try simp only [go_sem,hg] | fail)
    · rw [hy (by assumption)]; rfl
    · exact ⟨k + 1,by omega,⟨by omega,hs (by assumption)⟩,(leQ [])⟩
  · simp only [eq_false h,go_sem]
    have : k = l.length := by omega
    subst this
    rw [List.take_length] at ha
    rw [findIdx_no ha]; rfl
def ic143 : IC := sR [oP 4 (.mv (.c (.bool false)))] (sR [mV 5 0,mV 6 1,oP 7 (.call 190 [.t 5,.t 6]),oP 8 (.bin .geq (.t 7) (.c i0)),mV 4 8] .ret)
theorem dg143 : digF Tryz.prog Tryz.f143 = some (ic143,[(.t 4)]) := by kernel_rfl
theorem en143 : entr Tryz.prog 143 = true := by kernel_rfl
theorem c143 (l : List E) (hl : l.length ≤ 2000000) : FnR Tryz.prog G 143 [.sl 2 (l.map E.row),.fn 13 []] (.bool (l.any E.door)) := by
  refine FnR.mkF Tryz.func143 en143 dg143 Tryz.ntmps143 (by simp) ?_
  simp only [ic143,go_sem]
  refine callR (c190 l hl) rfl rfl ?_
  simp only [go_sem,ixI_any]
theorem names_2m {t : B} (hl : t.length ≤ 2000000) : (textNames t).length ≤ 2000000 := by
  have h1 := textPieces_len t
  have h2 := names_le (textPieces t)
  unfold textNames; omega
def ic70 : IC := sR [oP 4 (.box 38 (.t 0)),oP 5 (.box 38 (.t 1)),oP 8 (.alloc 42 [i0,i0,i0,i0,s0,s0,i0,i0,s0,s0]),oP 9 (.mv (.c (.bool false)))] (.seq (sR [lA 10 2 4,oP 11 (.call 16 [.t 10]),oP 12 (.un .not (.t 11)),mV 13 12,⟨some 14,some (13,false),.ld 2 true (.t 5)⟩,⟨some 15,some (13,false),.call 17 [.t 14]⟩,⟨some 16,some (13,false),.un .not (.t 15)⟩,oP 17 (.pick (.t 13) (.c (.bool true)) (.t 16)),mV 18 17,⟨some 19,some (18,false),.mv (.t 2)⟩,⟨some 20,some (18,false),.call 142 [.t 19]⟩,⟨some 21,some (18,false),.un .not (.t 20)⟩,oP 22 (.pick (.t 18) (.c (.bool true)) (.t 21)),mV 23 22,⟨some 24,some (23,false),.mv (.t 3)⟩,⟨some 25,some (23,false),.call 142 [.t 24]⟩,⟨some 26,some (23,false),.un .not (.t 25)⟩,oP 27 (.pick (.t 23) (.c (.bool true)) (.t 26)),mV 28 27,⟨some 29,some (28,false),.mv (.t 2)⟩,⟨some 30,some (28,false),.call 15 [.t 29]⟩,⟨some 31,some (28,false),.call 143 [.t 30,.c (.fn 13 [])]⟩,oP 32 (.pick (.t 28) (.c (.bool true)) (.t 31))] (.cond (.t 32) (sR [oP 33 (.build [i0,i0,i0,i0,s0,s0,i0,i0,s0,s0] []),nP (.sto 10 (.t 8) (.t 33)),oP 9 (.mv (.c (.bool false)))] .ret) .skip)) (sR [lA 34 2 4,lA 35 2 5,mV 36 2,mV 37 3,oP 38 (.build [i0,i0,i0,i0,s0,s0,i0,i0,s0,s0] [(0,(2,.t 34)),(2,(2,.t 35)),(4,(1,.t 36)),(5,(1,.t 37))]),nP (.sto 10 (.t 8) (.t 38)),oP 9 (.mv (.c (.bool true)))] .ret))
theorem dg70 : digF Tryz.prog Tryz.f70 = some (ic70,[(.cell 8 10 true),(.t 9)]) := by kernel_rfl
theorem en70 : entr Tryz.prog 70 = true := by kernel_rfl
theorem c70 (i o : E) (up down : B) (h1 : up.length ≤ 2000000) (h2 : down.length ≤ 2000000) : FnR Tryz.prog G 70 [.agg [.int .i64 i.a,.int .i64 i.p],.agg [.int .i64 o.a,.int .i64 o.p],.str up,.str down]
    (.tup [.agg (Conv.row ((convNew i o up down).getD .zero)),.bool (convNew i o up down).isSome]) := by
  refine FnR.mkF Tryz.func70 en70 dg70 Tryz.ntmps70 (by simp) ?_
  simp only [ic70,go_sem]
  have c1 := c142 up h1
  have c2 := c142 down h2
  have c3 := c15 up h1
  have c4 := c143 (textNames up) (names_2m h1)
  have ho : ownT up = !(textNames up).any E.door := rfl
  generalize (textNames up).any E.door = nd at *
  with_reducible repeat' (first | refine br ?_ ?_ <;> intro h e <;> (try simp only [e,go_sem]) <;> clear e | rw [i64w (by omega)] | (first | refine sk ?_ | refine sd ?_) <;> try simp only [go_sem] | (first | refine cr (c16 ..) ?_ | refine cr (c17 ..) ?_ | refine cr (c1 ..) ?_ | refine cr (c2 ..) ?_ | refine cr (c3 ..) ?_ | refine cr (c4 ..) ?_) <;> try simp only [go_sem] | fail)
  all_goals simp_all [convNew,Conv.zero,E.zero]
def ic144 : IC := sR [oP 1 (.box 42 (.t 0)),oP 2 (.mv (.c (.bool false)))] (sR [fD 6 0 1,lA 7 2 6,fD 8 2 1,lA 9 2 8,fD 10 4 1,lD 11 1 10,fD 12 5 1,lD 13 1 12,oP 14 (.call 70 [.t 7,.t 9,.t 11,.t 13]),mV 5 14,eX 15 5 0,eX 16 5 1,oP 3 (.alloc 42 [i0,i0,i0,i0,s0,s0,i0,i0,s0,s0]),nP (.sto 10 (.t 3) (.t 15)),mV 4 16] (sR [mV 17 4,mV 18 17,⟨some 19,some (18,true),.fad 6 (.t 1)⟩,⟨some 20,some (18,true),.ld 1 false (.t 19)⟩,⟨some 21,some (18,true),.fad 4 (.t 1)⟩,⟨some 22,some (18,true),.ld 1 false (.t 21)⟩,⟨some 23,some (18,true),.lens (.t 22)⟩,⟨some 24,some (18,true),.call 36 [.t 20,.c i0,.t 23]⟩,oP 25 (.pick (.t 18) (.t 24) (.c (.bool false))),mV 26 25,⟨some 27,some (26,true),.fad 7 (.t 1)⟩,⟨some 28,some (26,true),.ld 1 false (.t 27)⟩,⟨some 29,some (26,true),.fad 5 (.t 1)⟩,⟨some 30,some (26,true),.ld 1 false (.t 29)⟩,⟨some 31,some (26,true),.lens (.t 30)⟩,⟨some 32,some (26,true),.call 36 [.t 28,.c i0,.t 31]⟩,oP 33 (.pick (.t 26) (.t 32) (.c (.bool false))),mV 34 33,⟨some 35,some (34,true),.fad 8 (.t 1)⟩,⟨some 36,some (34,true),.ld 1 false (.t 35)⟩,⟨some 37,some (34,true),.call 90 [.t 36]⟩,oP 38 (.pick (.t 34) (.t 37) (.c (.bool false))),mV 39 38,⟨some 40,some (39,true),.fad 9 (.t 1)⟩,⟨some 41,some (39,true),.ld 1 false (.t 40)⟩,⟨some 42,some (39,true),.call 90 [.t 41]⟩,oP 43 (.pick (.t 39) (.t 42) (.c (.bool false))),mV 2 43] .ret))
theorem dg144 : digF Tryz.prog Tryz.f144 = some (ic144,[(.t 2)]) := by kernel_rfl
theorem en144 : entr Tryz.prog 144 = true := by kernel_rfl
theorem c144 (c : Conv) (h1 : c.up.length ≤ 2000000) (h2 : c.down.length ≤ 2000000) (h3 : c.upGot.length ≤ 2000000) (h4 : c.downGot.length ≤ 2000000) : FnR Tryz.prog G 144 [.agg [.int .i64 c.ins.a,.int .i64 c.ins.p,.int .i64 c.out.a,.int .i64 c.out.p,.str c.up,.str c.down,.int .i64 c.upAck,.int .i64 c.downAck,.str c.upGot,.str c.downGot]] (.bool (convOk c)) := by
  refine FnR.mkF Tryz.func144 en144 dg144 Tryz.ntmps144 (by simp) ?_
  simp only [ic144,go_sem]
  refine callR (c70 c.ins c.out c.up c.down h1 h2) rfl rfl ?_
  simp only [go_sem]
  have c1 := c90 c.upGot h3
  have c2 := c90 c.downGot h4
  with_reducible repeat' (first | refine br ?_ ?_ <;> intro h e <;> (try simp only [e,go_sem]) <;> clear e | rw [i64w (by omega)] | (first | refine sk ?_ | refine sd ?_) <;> try simp only [go_sem] | (first | refine cr (c36 ..) ?_ | refine cr (c1 ..) ?_ | refine cr (c2 ..) ?_) <;> try simp only [go_sem] | fail)
  all_goals simp_all [convOk]
theorem take_drop_len {t : B} {n k : Int} (hn : 0 ≤ n) (hk : 0 ≤ k) : (t.take (n + k).toNat).drop n.toNat = (t.drop n.toNat).take k.toNat := by
  rw [List.drop_take]; congr 1; omega
def sameC (c o : Conv) : Bool := decide (o.ins = c.ins) || decide (o.out = c.out)
def ic145 : IC := sR [oP 2 (.box 42 (.t 0)),oP 3 (.mv (.c (.bool false)))] (sR [fD 4 0 2,lA 5 2 4,fD 6 0 1,lA 7 2 6,oP 8 (.eqs false [.i,.i] (.t 5) (.t 7)),mV 9 8,⟨some 10,some (9,false),.fad 2 (.t 2)⟩,⟨some 11,some (9,false),.ld 2 true (.t 10)⟩,⟨some 12,some (9,false),.fad 2 (.t 1)⟩,⟨some 13,some (9,false),.ld 2 true (.t 12)⟩,⟨some 14,some (9,false),.eqs false [.i,.i] (.t 11) (.t 13)⟩,oP 15 (.pick (.t 9) (.c (.bool true)) (.t 14)),mV 3 15] .ret)
theorem dg145 : digF Tryz.prog Tryz.f145 = some (ic145,[(.t 3)]) := by kernel_rfl
theorem en145 : entr Tryz.prog 145 = true := by kernel_rfl
theorem c145 (o c : Conv) : FnR Tryz.prog G 145 [.agg [.int .i64 o.ins.a,.int .i64 o.ins.p,.int .i64 o.out.a,.int .i64 o.out.p,.str o.up,.str o.down,.int .i64 o.upAck,.int .i64 o.downAck,.str o.upGot,.str o.downGot],.iptr [.int .i64 c.ins.a,.int .i64 c.ins.p,.int .i64 c.out.a,.int .i64 c.out.p,.str c.up,.str c.down,.int .i64 c.upAck,.int .i64 c.downAck,.str c.upGot,.str c.downGot] 0] (.bool (sameC c o)) := by
  refine FnR.mkF Tryz.func145 en145 dg145 Tryz.ntmps145 (by simp) ?_
  simp only [ic145,go_sem,E.ext_iff']
  with_reducible repeat' (first | refine br ?_ ?_ <;> intro h e <;> (try simp only [e,go_sem,E.ext_iff']) <;> clear e | rw [i64w (by omega)] | (first | refine sk ?_ | refine sd ?_) <;> try simp only [go_sem,E.ext_iff'] | fail)
  all_goals simp_all [sameC]
def ic149 : IC := sR [oP 4 (.mv (.c i0))] (.seq (sR [mV 6 0,oP 7 (.len (.t 6)),oP 8 (.mv (.c i0))] (.block 0 (.loop (sR [bN 9 .lss 8 7] (.seq (.cond (.t 9) .skip (.exit 0)) (.seq (.block 1 (sR [mV 10 8,mV 5 10] (sR [mV 11 1,mV 12 0,mV 13 5,oP 14 (.iad 10 (.t 12) (.t 13)),lA 15 10 14,oP 16 (.cal (.t 11) [.t 15])] (.cond (.t 16) (sR [mV 17 5,mV 4 17] .ret) .skip)))) (.reg [oP 18 (.bin .add (.t 8) (.c (.int .i64 1))),mV 8 18]))))))) (sR [oP 4 (.mv (.c (.int .i64 (-1))))] .ret))
theorem dg149 : digF Tryz.prog Tryz.f149 = some (ic149,[(.t 4)]) := by kernel_rfl
theorem en149 : entr Tryz.prog 149 = true := by kernel_rfl
theorem c149T (l : List Conv) (c : Conv) (hl : l.length ≤ 2000000) : FnR Tryz.prog G 149 [.sl 10 (l.map Conv.row),.fn 145 [.iptr [.int .i64 c.ins.a,.int .i64 c.ins.p,.int .i64 c.out.a,.int .i64 c.out.p,.str c.up,.str c.down,.int .i64 c.upAck,.int .i64 c.downAck,.str c.upGot,.str c.downGot] 0]] (.int .i64 (ixI (l.findIdx? (sameC c)))) := by
  refine FnR.mkF Tryz.func149 en149 dg149 Tryz.ntmps149 (by simp) ?_
  simp only [ic149,go_sem]
  refine loopN (fun k : Nat => ⟨getL [(0,.sl 10 (l.map Conv.row)),(1,.fn 145 [.iptr [.int .i64 c.ins.a,.int .i64 c.ins.p,.int .i64 c.out.a,.int .i64 c.out.p,.str c.up,.str c.down,.int .i64 c.upAck,.int .i64 c.downAck,.str c.upGot,.str c.downGot] 0]),(7,.int .i64 l.length),(8,.int .i64 (k : Int))],getH []⟩) (fun k => l.length - k)
    (fun k => k ≤ l.length ∧ (l.take k).any (sameC c) = false) 0 (leQ []) ⟨Nat.zero_le _,by simp⟩ ?_
  intro k ⟨hk,ha⟩
  simp only [go_sem]
  by_cases h : (k : Int) < l.length
  · have hil : k < l.length := by omega
    have hg : l.getD k default = l[k] := by simp [List.getD,hil]
    have hy := findIdx_yes hil ha
    have hs := any_step hil ha
    simp only [eq_true h,go_sem]
    refine effG (by omega) ?_
    simp only [hg,go_sem]
    refine callR (c145 l[k] c) rfl rfl ?_
    simp only [go_sem]
    with_reducible repeat' (first | refine br ?_ ?_ <;> intro h e <;> (try simp only [e,go_sem]) <;> clear e | rw [i64w (by omega)] | (first | refine sk ?_ | refine sd ?_) <;> try simp only [go_sem] | fail)
    · rw [hy (by assumption)]; rfl
    · exact ⟨k + 1,by omega,⟨by omega,hs (by assumption)⟩,(leQ [])⟩
  · simp only [eq_false h,go_sem]
    have : k = l.length := by omega
    subst this
    rw [List.take_length] at ha
    rw [findIdx_no ha]; rfl
def ic77 : IC := sR [oP 4 (.mv (.c (.bool false)))] (sR [mV 5 0,mV 6 1,oP 7 (.call 149 [.t 5,.t 6]),oP 8 (.bin .geq (.t 7) (.c i0)),mV 4 8] .ret)
theorem dg77 : digF Tryz.prog Tryz.f77 = some (ic77,[(.t 4)]) := by kernel_rfl
theorem en77 : entr Tryz.prog 77 = true := by kernel_rfl
theorem c77T (l : List Conv) (c : Conv) (hl : l.length ≤ 2000000) : FnR Tryz.prog G 77 [.sl 10 (l.map Conv.row),.fn 145 [.iptr [.int .i64 c.ins.a,.int .i64 c.ins.p,.int .i64 c.out.a,.int .i64 c.out.p,.str c.up,.str c.down,.int .i64 c.upAck,.int .i64 c.downAck,.str c.upGot,.str c.downGot] 0]] (.bool (l.any (sameC c))) := by
  refine FnR.mkF Tryz.func77 en77 dg77 Tryz.ntmps77 (by simp) ?_
  simp only [ic77,go_sem]
  refine callR (c149T l c hl) rfl rfl ?_
  simp only [go_sem,ixI_any]
theorem okConv_b {cs : List Conv} {k : Nat} (h : k < cs.length) (hb : okConv cs k = false) : together cs = false := by
  cases ht : together cs with
  | false => rfl
  | true => rw [(together_iff.1 ht).2 k h] at hb; cases hb
def ic71 : IC := sR [oP 2 (.mv (.c (.bool false)))] (.seq (sR [mV 5 0,oP 6 (.len (.t 5)),oP 7 (.mv (.c i0))] (.block 0 (.loop (sR [bN 8 .lss 7 6] (.seq (.cond (.t 8) .skip (.exit 0)) (.seq (.block 1 (sR [mV 9 7,oP 10 (.iad 10 (.t 5) (.t 7)),lA 11 10 10,oP 4 (.alloc 42 [i0,i0,i0,i0,s0,s0,i0,i0,s0,s0]),mV 3 9,nP (.sto 10 (.t 4) (.t 11))] (sR [lA 12 10 4,oP 13 (.call 144 [.t 12]),oP 14 (.un .not (.t 13)),mV 15 14,⟨some 16,some (15,false),.mv (.t 0)⟩,⟨some 17,some (15,false),.mv (.t 3)⟩,⟨some 18,some (15,false),.slv 10 (.t 16) none (some (.t 17))⟩,⟨some 19,some (15,false),.mkf 145 [.t 4]⟩,⟨some 20,some (15,false),.call 77 [.t 18,.t 19]⟩,oP 21 (.pick (.t 15) (.c (.bool true)) (.t 20))] (.cond (.t 21) (sR [oP 2 (.mv (.c (.bool false)))] .ret) .skip)))) (.reg [oP 22 (.bin .add (.t 7) (.c (.int .i64 1))),mV 7 22]))))))) (sR [mV 23 0,oP 24 (.len (.t 23)),oP 25 (.bin .leq (.t 24) (.c (.int .i64 2))),mV 2 25] .ret))
theorem dg71 : digF Tryz.prog Tryz.f71 = some (ic71,[(.t 2)]) := by kernel_rfl
theorem en71 : entr Tryz.prog 71 = true := by kernel_rfl
theorem c71 (cs : List Conv) (hl : cs.length ≤ 2000000) (hB : ∀ c ∈ cs,(c.up.length ≤ 2000000 ∧ c.down.length ≤ 2000000) ∧ c.upGot.length ≤ 2000000 ∧ c.downGot.length ≤ 2000000) : FnR Tryz.prog G 71 [.sl 10 (cs.map Conv.row)] (.bool (together cs)) := by
  refine FnR.mkF Tryz.func71 en71 dg71 Tryz.ntmps71 (by simp) ?_
  simp only [ic71,go_sem]
  refine loopN (fun i : Nat => ⟨getL [(0,.sl 10 (cs.map Conv.row)),(5,.sl 10 (cs.map Conv.row)),(6,.int .i64 cs.length),(7,.int .i64 (i : Int))],getH []⟩) (fun i => cs.length - i) (fun i => i ≤ cs.length ∧ ∀ j,j < i → okConv cs j = true) 0 (leQ []) ⟨Nat.zero_le _,by omega⟩ ?_
  intro i ⟨hi,ha⟩
  simp only [go_sem]
  by_cases h : (i : Int) < cs.length
  · have hil : i < cs.length := by omega
    have hg : cs.getD i default = cs[i] := by simp [List.getD,hil]
    have hok := okConv_i hil
    obtain ⟨⟨b1,b2⟩,b3,b4⟩ := hB _ (List.getElem_mem hil)
    have c1 := c144 cs[i] b1 b2 b3 b4
    have c2 := c77T (cs.take i) cs[i] (by simp; omega)
    simp only [eq_true h,go_sem]
    with_reducible repeat' (first | refine br ?_ ?_ <;> intro h e <;> (try simp only [e,go_sem,hg,mkf_pv1]) <;> clear e | rw [i64w (by omega)] | (first | refine sk ?_ | refine sd ?_) <;> try simp only [go_sem,hg,mkf_pv1] | (first | refine cr (c1 ..) ?_) <;> try simp only [go_sem,hg,mkf_pv1] | fail)
    · exact okConv_b hil (by rw [hok]; simp_all)
    refine callF c2 [1004] true (by simp only [go_sem,List.mem_cons,true_or,or_true]) (by simp only [List.mem_singleton]; rintro c rfl; rfl) rfl (.inl rfl) ?_
    have he : (cs.take i).any (fun o => decide (o.ins = cs[i].ins) || decide (o.out = cs[i].out)) = (cs.take i).any (sameC cs[i]) := rfl
    rw [he] at hok
    generalize (cs.take i).any (sameC cs[i]) = b at *
    simp only [go_sem]
    cases b <;> simp only [go_sem]
    · with_reducible repeat' (first | refine br ?_ ?_ <;> intro h e <;> (try simp only [e,go_sem]) <;> clear e | rw [i64w (by omega)] | (first | refine sk ?_ | refine sd ?_) <;> try simp only [go_sem] | fail)
      refine ⟨i + 1,by omega,⟨by omega,fun j hj => ?_⟩,(leQ [])⟩
      rcases Nat.lt_or_ge j i with hji | hji
      · exact ha j hji
      · obtain rfl : j = i := by omega
        rw [hok]; simp_all
    · exact okConv_b hil (by rw [hok]; simp_all)
  · simp only [eq_false h,go_sem]
    have : i = cs.length := by omega
    subst this
    with_reducible repeat' (first | refine br ?_ ?_ <;> intro h e <;> (try simp only [e,go_sem]) <;> clear e | rw [i64w (by omega)] | (first | refine sk ?_ | refine sd ?_) <;> try simp only [go_sem] | fail)
    have h1 := together_iff (cs := cs)
    by_cases h2 : cs.length ≤ 2
    · rw [h1.2 ⟨h2,ha⟩]; exact (decide_eq_true (by omega)).symm
    · have : together cs = false := by
        cases ht : together cs with
        | false => rfl
        | true => exact absurd (h1.1 ht).1 h2
      rw [this]; exact (decide_eq_false (by omega)).symm
end Go.Proofs.YtblndjmhjaijjaaGreatDoor.W
namespace Go.Proofs.YtblndjmhjaijjaaGreatDoor.M
def matchC (w : World) (p : Pk) (c : Conv) : Bool := (decide (p.to = c.ins) && decide (p.frm = c.out)) || (decide (p.to = c.out) && p.frm.door && decide (p.frm.p = portOf w.door.map c.ins))
def hostR (w : World) (p : Pk) : World × Option Pk := match hostIx w p with
  | none => (w,none)
  | some (i,inward) => match w.convs[i]? with
    | none => (w,none)
    | some c => ({ w with convs := w.convs.set i (hear c inward p).1 },(hear c inward p).2)
theorem carry_host {w : World} {p : Pk} (h : (p.to.door || p.frm.inside) = false) : carry w p = hostR w p := by
  unfold carry
  rw [if_neg (by simp [h])]
  rfl
theorem carry_door {w : World} {p : Pk} (h : (p.to.door || p.frm.inside) = true) : carry w p = ({ w with door := (dPass w.door p).1 },(dPass w.door p).2) := by
  unfold carry
  rw [if_pos h]
theorem hostR_no {w : World} {p : Pk} (h : w.convs.any (matchC w p) = false) : hostR w p = (w,none) := by
  have : w.convs.findIdx? (matchC w p) = none := List.findIdx?_eq_none_iff.2 fun x hx => by simpa using List.any_eq_false.1 h x hx
  have e : hostIx w p = none := by
    unfold hostIx
    rw [show (w.convs.findIdx? fun c => (decide (p.to = c.ins) && decide (p.frm = c.out)) || (decide (p.to = c.out) && p.frm.door && decide (p.frm.p = portOf w.door.map c.ins))) = none from this]
  unfold hostR
  rw [e]
theorem hostR_at {w : World} {p : Pk} {k : Nat} (hk : k < w.convs.length) (h : (w.convs.take k).any (matchC w p) = false) (hm : matchC w p w.convs[k] = true) :
    hostR w p = ({ w with convs := w.convs.set k (hear w.convs[k] (decide (p.to = w.convs[k].ins) && decide (p.frm = w.convs[k].out)) p).1 },(hear w.convs[k] (decide (p.to = w.convs[k].ins) && decide (p.frm = w.convs[k].out)) p).2) := by
  have : w.convs.findIdx? (matchC w p) = some k := by
    refine List.findIdx?_eq_some_iff_getElem.2 ⟨hk,hm,fun j hj => ?_⟩
    have := List.any_eq_false.1 h w.convs[j] (List.mem_iff_getElem?.2 ⟨j,by rw [List.getElem?_take,if_pos hj]; exact List.getElem?_eq_getElem _⟩)
    simpa using this
  have e : hostIx w p = some (k,decide (p.to = w.convs[k].ins) && decide (p.frm = w.convs[k].out)) := by
    unfold hostIx
    rw [show (w.convs.findIdx? fun c => (decide (p.to = c.ins) && decide (p.frm = c.out)) || (decide (p.to = c.out) && p.frm.door && decide (p.frm.p = portOf w.door.map c.ins))) = some k from this]
    simp only [List.getElem?_eq_getElem hk]
  unfold hostR
  rw [e]
  simp only [List.getElem?_eq_getElem hk]
theorem matchC_e (w : World) (p : Pk) (c : Conv) : matchC w p c = ((decide (p.to = c.ins) && decide (p.frm = c.out)) || (decide (p.to = c.out) && p.frm.door && decide (p.frm.p = portOf w.door.map c.ins))) := rfl
end Go.Proofs.YtblndjmhjaijjaaGreatDoor.M
namespace Go.Proofs.YtblndjmhjaijjaaGreatDoor.W
open Go Go.RowKit Go.Proofs Go.Proofs.YtblndjmhjaijjaaGreatDoor.VL Go.Proofs.YtblndjmhjaijjaaGreatDoor.M
attribute [local congr] optK_congr guardK_congr condK_congr runT_congr runD_congr wpI_congr CallV_congr LoopI_congr pureK_congr effK_congr calK_congr stepV_congr doV_congr exN_congr exB_congr retF_congr retQ_congr gK_congr condW_congr ldK_congr stoK_congr
attribute [local go_sem] argL_cons argL_nil argH_nil argH_cons chH_getH wpI_seq wpI_reg wpI_drw wpI_ret cond_k condW_t condW_f wpI_skip wpI_block wpI_exit wpI_loop exN_n exN_r exN_e exB_n exB_r exB_h exB_m runT_k kT_e runT_nil runD_k kD_e runD_nil step_u step_k gK_t gK_f do_mv do_bino bo_add bo_sub bo_mul bo_subu bo_quo bo_rem bo_xor bo_eql bo_neq bo_lss bo_leq bo_gtr bo_geq bo_cat bo_eqs bo_nes do_pick do_call do_cal calK_f do_box do_alloc do_ldk ldK_s do_stok stoK_s do_fad do_nilc do_not do_neg do_len do_lens do_ext do_eqs do_beq do_isn do_cvi do_sls do_idx do_mn do_mx do_build do_mkf do_s2b do_b2s do_slv do_iad do_bsl do_mks do_app ev_t ev_c app_some app_none
attribute [local go_sem] List.nil_append List.cons_append List.append_nil getL_hit getL_miss getH_nil getH_hit getH_miss nm_eq ne_eq Nat.reduceEqDiff not_false_eq_true Nat.reduceAdd Nat.add_zero Nat.zero_add if_true if_false ite_true ite_false pureK_s effK_s optK_s gdV_t gdV_f gdV_s pick_b ge_iff_le gt_iff_lt cond_true cond_false fresh_k cells_agg cells_int cells_bool cells_str cells_own cells_sl cells_nils ld_pv ld_pa ld_ip ldVar_t ldVar_f ldArr_t ldArr_f ldRow_t ldRow_f ldA_s ld1_s fad_pv fad_pa fad_ip nilc_pv nilc_pa nilc_ip not_b neg_i cvi_i ext_t retF_n retF_r
attribute [local go_sem] resV_k rvs_nil rvs_t rvs_c fstO_s consO_s resK_s resL_1 resL_2 resL_3 resL_4  Option.some.injEq List.map_cons List.map_nil List.all_cons List.all_nil Bool.and_true Bool.and_self Bool.not_true Bool.not_false Option.map_some Option.map_none sls_s slsG_s loV_n loV_i hiV_n hiV_i idx_s mn_i mx_i s2b_s b2s_s bytO_s bytes_nil bytes_cons conB_s slv_sl slv_own slv_nils slvG_s slvN_s slvO_s iad_sl iadG_map take_map drop_map List.length_map iad_own iad_view iadO_a iadW_a mks_i rowO_nils rowO_sl rowO_own rowA_a eq_self appG_nils appG_own appO_a guardP_T mapA_s bld_nil mkf_nil bldF_e fill_nil fill_cons mkf_e lens_s len_nils len_sl len_own len_view isn_nile isn_erre List.getElem?_cons_zero List.getElem?_cons_succ List.length_cons List.length_nil decide_true decide_false Int.toNat_natCast Int.cast_ofNat_Int Int.reduceLT Int.reduceLE Int.reduceEq Int.reduceAdd Int.reduceSub Int.reduceMul Int.reduceNeg Int.reduceToNat List.getD_cons_zero List.getD_cons_succ not_true_eq_false not_false_eq_true Bool.false_eq_true Bool.true_eq_false reduceCtorEq
attribute [local go_sem] E.row Pc.row Pair.row Part.row Strm.row Flw.row Pk.row Door.row Conv.row World.row Ev.row rdV E.eta Pc.eta Pair.eta Part.eta Strm.eta Pk.eta Flw.eta Conv.eta Door.eta World.eta Ev.eta
attribute [local go_sem] sub_ok st_pv st_pa stVar_v stArr_a Nat.le_refl List.drop_zero List.drop_succ_cons List.take_succ_cons List.take_zero setR Nat.reduceLeDiff
attribute [local go_sem] wk_bot wk2_bot wk1_bot wk_undef wk_tup_e wk2_agg_e wk_agg_e wk1_fn_e wk2_fn_e wk_fn_e wkl_nil wkl_cons wkh_var_e wkh_arr_e wkh_fresh_e wkh_dead_v wkh_dead_a wkh_dead_d wk0_undef wk0_int wk0_bool wk0_str wk0_nils wk0_nils_sl wk0_nilp wk0_nile wk0_erre wk0_sl wk0_iptr wk0_own wk0_view wk0_pv wk0_pa fzA_a fzW_a fzP_v wk0_own_sl wk0_view_sl wk0_pv_iptr WkS_nil WkS_cons WkN_nil WkN_cons nonB_nil nonB_cons getN_nil getN_hit getN_miss pinOk_0 pinOk_s and_true true_and and_self
attribute [local go_sem] bot_int one_int unt_int clo_int bot_bool one_bool unt_bool clo_bool bot_str one_str unt_str clo_str bot_nils one_nils unt_nils clo_nils bot_nilp one_nilp unt_nilp clo_nilp bot_nile one_nile unt_nile clo_nile bot_erre one_erre unt_erre clo_erre bot_raw one_raw unt_raw clo_raw bot_sl one_sl unt_sl clo_sl bot_own one_own unt_own clo_own bot_view one_view unt_view clo_view bot_pv one_pv unt_pv clo_pv bot_pa one_pa unt_pa clo_pa bot_iptr one_iptr unt_iptr clo_iptr unt_agg unt_fn one_fn
attribute [local go_sem] rn_tup rn_agg rn2_agg rn_fn rn2_fn rnfn1 rn_bot rn2_bot rn1_bot rn0_int rn0_bool rn0_str rn0_nils rn0_nilp rn0_nile rn0_erre rn0_sl rn0_iptr rn0_own rn0_view rn0_pv rn0_pa hrn_var hrn_arr hrn_dead outU_nil outU_cons deads_nil deads_cons bk_ge bk_lt nsF_0 nsF_s chH_0 chH_s chH_n newN_e andB_s eqR_nil eqR_i eqR_b eqR_s mapX_f mapX_t eqs_a beq_f beq_t live_arr live_var nsl_nil nsl_cons Nat.reduceMul Nat.reduceLT Nat.zero_le Nat.not_lt_zero
attribute [local go_sem] mV lD lA fD bN eX oP nP sR i0 s0
theorem resL_0 : resL [] = some (.tup []) := rfl
theorem say_no {c : Conv} {up : Bool} {port n m : Int} (h : within n 0 ((bif up then c.up else c.down).length - 1) = false ∨ m < 1 ∨ (up = false ∧ (⟨9,port⟩ : E).door = false)) : say c up port n m = none := by
  unfold say
  cases up <;> simp only [cond_true,cond_false] at h <;> simp only [Bool.false_eq_true,if_false,if_true] <;> rw [if_neg] <;> simp only [Bool.and_eq_true,decide_eq_true_eq,not_and,Bool.or_eq_true,Bool.false_eq_true,false_or,true_or,not_true_eq_false]
  · rintro ⟨h1,h2⟩ h3
    rcases h with h | h | h
    · rw [h1] at h; cases h
    · omega
    · rw [h.2] at h3; cases h3
  · rintro h1
    rcases h with h | h | h
    · rw [h1.1] at h; cases h
    · omega
    · cases h.1
theorem say_yes {c : Conv} {up : Bool} {port n m : Int} (h1 : within n 0 ((bif up then c.up else c.down).length - 1) = true) (h2 : 1 ≤ m) (h3 : up = true ∨ (⟨9,port⟩ : E).door = true) :
    say c up port n m = some (bif up then ⟨1,c.ins,c.out,n,(c.up.drop n.toNat).take (min m (c.up.length - n)).toNat⟩ else ⟨1,c.out,⟨9,port⟩,n,(c.down.drop n.toNat).take (min m (c.down.length - n)).toNat⟩) := by
  unfold say
  cases up <;> simp only [cond_true,cond_false] at h1 ⊢ <;> simp only [Bool.false_eq_true,if_false,if_true] <;> rw [if_pos]
  · simp only [h1,Bool.true_and,Bool.and_eq_true,decide_eq_true_eq,Bool.false_or]
    exact ⟨h2,h3.resolve_left (by simp)⟩
  · simp only [h1,Bool.true_and,Bool.and_eq_true,decide_eq_true_eq,Bool.true_or,and_true]
    exact h2
def ic73 : IC := sR [oP 5 (.box 42 (.t 0)),oP 10 (.alloc 40 [i0,i0,i0,i0,i0,i0,s0]),oP 11 (.mv (.c (.bool false)))] (sR [fD 14 0 5,lA 15 2 14,fD 16 2 5,lA 17 2 16,mV 18 3,oP 19 (.build [i0,i0,i0,i0,i0,i0,s0] [(0,(1,.c (.int .i64 1))),(1,(2,.t 15)),(3,(2,.t 17)),(5,(1,.t 18))]),oP 12 (.alloc 40 [i0,i0,i0,i0,i0,i0,s0]),nP (.sto 7 (.t 12) (.t 19))] (sR [fD 20 4 5,lD 21 1 20,mV 13 21] (.seq (sR [mV 22 1,oP 23 (.un .not (.t 22))] (.cond (.t 23) (sR [fD 24 2 5,lA 25 2 24,mV 26 2,oP 27 (.build [i0,i0] [(0,(1,.c (.int .i64 9))),(1,(1,.t 26))]),fD 28 1 12,nP (.sto 2 (.t 28) (.t 25)),fD 29 3 12,nP (.sto 2 (.t 29) (.t 27))] (.reg [fD 30 5 5,lD 31 1 30,mV 13 31])) .skip)) (.seq (sR [mV 32 3,mV 33 13,oP 34 (.lens (.t 33)),oP 35 (.bin .sub (.t 34) (.c (.int .i64 1))),oP 36 (.call 36 [.t 32,.c i0,.t 35]),oP 37 (.un .not (.t 36)),mV 38 37,⟨some 39,some (38,false),.mv (.t 4)⟩,⟨some 40,some (38,false),.bin .lss (.t 39) (.c (.int .i64 1))⟩,oP 41 (.pick (.t 38) (.c (.bool true)) (.t 40)),mV 42 41,⟨some 43,some (42,false),.mv (.t 1)⟩,⟨some 44,some (42,false),.un .not (.t 43)⟩,⟨some 45,some (42,false),.mv (.t 44)⟩,⟨some 46,some (45,true),.fad 3 (.t 12)⟩,⟨some 47,some (45,true),.ld 2 true (.t 46)⟩,⟨some 48,some (45,true),.call 13 [.t 47]⟩,⟨some 49,some (45,true),.un .not (.t 48)⟩,⟨some 50,some (42,false),.pick (.t 45) (.t 49) (.c (.bool false))⟩,oP 51 (.pick (.t 42) (.c (.bool true)) (.t 50))] (.cond (.t 51) (sR [oP 52 (.build [i0,i0,i0,i0,i0,i0,s0] []),nP (.sto 7 (.t 10) (.t 52)),oP 11 (.mv (.c (.bool false)))] .ret) .skip)) (sR [mV 53 13,mV 54 3,mV 55 3,mV 56 4,mV 57 13,oP 58 (.lens (.t 57)),mV 59 3,bN 60 .sub 58 59,oP 61 (.mn (.t 56) (.t 60)),bN 62 .add 55 61,oP 63 (.sls (.t 53) (some (.t 54)) (some (.t 62))),fD 64 6 12,nP (.sto 1 (.t 64) (.t 63))] (sR [lA 65 7 12,nP (.sto 7 (.t 10) (.t 65)),oP 11 (.mv (.c (.bool true)))] .ret))))))
theorem dg73 : digF Tryz.prog Tryz.f73 = some (ic73,[(.cell 10 7 true),(.t 11)]) := by kernel_rfl
theorem en73 : entr Tryz.prog 73 = true := by kernel_rfl
theorem c73 (c : Conv) (up : Bool) (port n m : Int) (h1 : c.up.length ≤ 2000000) (h2 : c.down.length ≤ 2000000) : FnR Tryz.prog G 73 [.agg [.int .i64 c.ins.a,.int .i64 c.ins.p,.int .i64 c.out.a,.int .i64 c.out.p,.str c.up,.str c.down,.int .i64 c.upAck,.int .i64 c.downAck,.str c.upGot,.str c.downGot],.bool up,.int .i64 port,.int .i64 n,.int .i64 m]
    (.tup [.agg (Pk.row ((say c up port n m).getD .zero)),.bool (say c up port n m).isSome]) := by
  refine FnR.mkF Tryz.func73 en73 dg73 Tryz.ntmps73 (by simp) ?_
  simp only [ic73,go_sem]
  cases up <;> simp only [go_sem]
  · have hno := fun h => say_no (c := c) (up := false) (port := port) (n := n) (m := m) h
    have hyes := fun h1 h2 h3 => say_yes (c := c) (up := false) (port := port) (n := n) (m := m) h1 h2 h3
    simp only [cond_false,true_and,Bool.false_eq_true,false_or] at hno hyes
    rw [i64w (by omega)]
    refine callR (c36 n 0 ((c.down.length : Int) - 1)) rfl rfl ?_
    cases hw : within n 0 ((c.down.length : Int) - 1) <;> simp only [go_sem]
    · rw [hno (.inl hw)]; simp [Pk.zero,E.zero]
    have hw2 := M.within_iff.1 hw
    have w1 : IntKind.i64.wrap ((c.down.length : Int) - n) = c.down.length - n := i64w (by omega)
    have w2 : 1 ≤ m → IntKind.i64.wrap (n + min m ((c.down.length : Int) - n)) = n + min m ((c.down.length : Int) - n) := fun _ => i64w (by omega)
    with_reducible repeat' (first | refine br ?_ ?_ <;> intro h e <;> (try simp only [e,go_sem,w1]) <;> clear e | rw [i64w (by omega)] | (first | refine sk ?_ | refine sd ?_) <;> try simp only [go_sem,w1] | (first | refine cr (c13 ..) ?_) <;> try simp only [go_sem,w1] | fail)
    · rw [hno (.inr (.inl (by assumption)))]; simp [Pk.zero,E.zero]
    · have w2 := w2 (by omega)
      rw [hyes hw (by omega) (by assumption),take_drop_len (by omega) (by omega)]
      simp
    · rw [hno (.inr (.inr (by assumption)))]; simp [Pk.zero,E.zero]
  · have hno := fun h => say_no (c := c) (up := true) (port := port) (n := n) (m := m) h
    have hyes := fun h1 h2 h3 => say_yes (c := c) (up := true) (port := port) (n := n) (m := m) h1 h2 h3
    simp only [cond_true,true_or,true_implies,Bool.true_eq_false,false_and,or_false] at hno hyes
    rw [i64w (by omega)]
    refine callR (c36 n 0 ((c.up.length : Int) - 1)) rfl rfl ?_
    cases hw : within n 0 ((c.up.length : Int) - 1) <;> simp only [go_sem]
    · rw [hno (.inl hw)]; simp [Pk.zero,E.zero]
    have hw2 := M.within_iff.1 hw
    have w1 : IntKind.i64.wrap ((c.up.length : Int) - n) = c.up.length - n := i64w (by omega)
    have w2 : 1 ≤ m → IntKind.i64.wrap (n + min m ((c.up.length : Int) - n)) = n + min m ((c.up.length : Int) - n) := fun _ => i64w (by omega)
    with_reducible repeat' (first | refine br ?_ ?_ <;> intro h e <;> (try simp only [e,go_sem,w1]) <;> clear e | rw [i64w (by omega)] | (first | refine sk ?_ | refine sd ?_) <;> try simp only [go_sem,w1] | (first | refine cr (c13 ..) ?_) <;> try simp only [go_sem,w1] | fail)
    · rw [hno (.inr (by assumption))]; simp [Pk.zero,E.zero]
    · have w2 := w2 (by omega)
      rw [hyes hw (by omega),take_drop_len (by omega) (by omega)]
      simp
def ic72 : IC := sR [oP 4 (.box 40 (.t 1))] (sR [mV 6 2,mV 7 6,⟨some 8,some (7,true),.mv (.t 0)⟩,⟨some 9,some (7,true),.nilc (.t 8)⟩,⟨some 10,some (7,true),.fad 3 (.t 9)⟩,⟨some 11,some (7,true),.ld 1 false (.t 10)⟩,⟨some 12,some (7,true),.len (.t 11)⟩,⟨some 13,some (7,true),.bin .lss (.t 12) (.c (.int .i64 10))⟩,oP 14 (.pick (.t 7) (.t 13) (.c (.bool false)))] (.cond (.t 14) (.drw [0,0,2,6,14,0,32,126,255,511,1023] [(0,mV 15 0),(1,mV 16 0),(2,oP 17 (.nilc (.t 16))),(3,fD 18 3 17),(4,lD 19 1 18),(5,lA 20 7 4),(6,oP 21 (.bsl 40 7 [.t 20])),(7,oP 22 (.app 40 7 (.t 19) (.t 21))),(8,oP 23 (.nilc (.t 15))),(9,fD 24 3 23),(10,nP (.sto 1 (.t 24) (.t 22)))]) .skip))
theorem dg72 : digF Tryz.prog Tryz.f72 = some (ic72,[]) := by kernel_rfl
theorem en72 : entr Tryz.prog 72 = true := by kernel_rfl
theorem c72 (w : M.World) (p : Pk) (ok : Bool) (hn : w.nets.length ≤ 2000000) : FnP Tryz.prog G 72 1 [.var 33 [.own 2 w.convs.length,.sl 3 (w.door.map.map Pair.row),.own 1 w.door.flows.length,.own 3 w.nets.length],.arr 91 8 (w.door.flows.map Flw.row),.arr 42 10 (w.convs.map Conv.row),.arr 40 7 (w.nets.map Pk.row)] [.pv 0 0,.agg [.int .i64 p.kind,.int .i64 p.frm.a,.int .i64 p.frm.p,.int .i64 p.to.a,.int .i64 p.to.p,.int .i64 p.at_,.str p.text],.bool ok] (fun r o => r = .tup [] ∧ ∃ v,v = send w (bif ok then some p else none) ∧ o = [.var 33 [.own 2 v.convs.length,.sl 3 (v.door.map.map Pair.row),.own 1 v.door.flows.length,.own 3 v.nets.length],.arr 91 8 (v.door.flows.map Flw.row),.arr 42 10 (v.convs.map Conv.row),.arr 40 7 (v.nets.map Pk.row)]) := by
  refine FnP.mk' Tryz.func72 en72 dg72 Tryz.ntmps72 (by simp) ⟨_,_,rfl,_,rfl,rfl⟩ ?_
  simp only [ic72,go_sem]
  have hno : send w none = w := rfl
  have hfull : ¬ w.nets.length < 10 → send w (some p) = w := fun h => by simp only [send]; rw [if_neg h]
  have fin : ∀ l mm (v : M.World) (o : Option Pk) (n : Nat),send w o = v → v.convs = w.convs → v.door = w.door → getH mm 0 = .var 33 [.own 2 w.convs.length,.sl 3 (w.door.map.map Pair.row),.own 1 w.door.flows.length,.own n v.nets.length] → getH mm 1 = .arr 91 8 (w.door.flows.map Flw.row) → getH mm 2 = .arr 42 10 (w.convs.map Conv.row) → getH mm n = .arr 40 7 (v.nets.map Pk.row) → n ≠ 0 → n ≠ 1 → n ≠ 2 →
      retQ [] 1 (fun r o' => r = .tup [] ∧ ∃ v,v = send w o ∧ o' = [.var 33 [.own 2 v.convs.length,.sl 3 (v.door.map.map Pair.row),.own 1 v.door.flows.length,.own 3 v.nets.length],.arr 91 8 (v.door.flows.map Flw.row),.arr 42 10 (v.convs.map Conv.row),.arr 40 7 (v.nets.map Pk.row)]) .normal ⟨getL l,getH mm⟩ := fun l mm v o n h0 h1 h2 h3 h4 h5 h6 n0 n1 n2 => by
    show retQ _ _ _ .ret _
    refine retN (.tup []) [.var 33 [.own 2 v.convs.length,.sl 3 (v.door.map.map Pair.row),.own 1 v.door.flows.length,.own 3 v.nets.length],.arr 91 8 (v.door.flows.map Flw.row),.arr 42 10 (v.convs.map Conv.row),.arr 40 7 (v.nets.map Pk.row)] [(3,n)] (by simp only [go_sem,resL_0]) ⟨rfl,v,h0.symm,rfl⟩ ?_ ?_ (by simp only [go_sem])
    · rw [h1,h2]; simp only [go_sem,h3,h4,h5,h6]
    · simp [argH,getN]; omega
  cases ok <;> simp only [go_sem]
  · exact fin _ _ w none 3 rfl rfl rfl (by simp only [go_sem]) (by simp only [go_sem]) (by simp only [go_sem]) (by simp only [go_sem]) (by omega) (by omega) (by omega)
  with_reducible repeat' (first | refine br ?_ ?_ <;> intro h e <;> (try simp only [e,go_sem]) <;> clear e | rw [i64w (by omega)] | (first | refine sk ?_ | refine sd ?_) <;> try simp only [go_sem] | fail)
  · have hx : send w (some p) = { w with nets := w.nets ++ [p] } := by simp only [send]; rw [if_pos (by omega)]
    exact fin _ _ { w with nets := w.nets ++ [p] } (some p) 1022 hx rfl rfl (by simp only [go_sem]; simp) (by simp only [go_sem]) (by simp only [go_sem]) (by simp only [go_sem]; simp [Pk.row]) (by omega) (by omega) (by omega)
  · exact fin _ _ w (some p) 3 (hfull (by omega)) rfl rfl (by simp only [go_sem]) (by simp only [go_sem]) (by simp only [go_sem]) (by simp only [go_sem]) (by omega) (by omega) (by omega)
def ic147 : IC := sR [oP 5 (.box 40 (.t 2)),oP 6 (.alloc 40 [i0,i0,i0,i0,i0,i0,s0]),oP 7 (.mv (.c (.bool false)))] (.seq (.drw [0,1,3,0,8,24,0,64,192,448,960,7,2111,8191] [(0,mV 12 0),(1,oP 13 (.nilc (.t 12))),(2,fD 14 8 13),(3,mV 15 0),(4,oP 16 (.nilc (.t 15))),(5,fD 17 7 16),(6,mV 18 0),(7,oP 19 (.nilc (.t 18))),(8,fD 20 5 19),(9,lD 21 1 20),(10,oP 22 (.lens (.t 21))),(11,mV 8 14),(12,mV 9 17),(13,mV 10 22)]) (.seq (.drw [0,1,3,7,15,31,15,79,207,463,1023,2047,4095] [(0,fD 23 1 5),(1,lA 24 2 23),(2,oP 25 (.call 13 [.t 24])),(3,mV 26 25),(4,⟨some 27,some (26,true),.fad 3 (.t 5)⟩),(5,⟨some 28,some (26,true),.ld 2 true (.t 27)⟩),(6,⟨some 29,some (26,true),.mv (.t 0)⟩),(7,⟨some 30,some (26,true),.nilc (.t 29)⟩),(8,⟨some 31,some (26,true),.fad 2 (.t 30)⟩),(9,⟨some 32,some (26,true),.ld 2 true (.t 31)⟩),(10,⟨some 33,some (26,true),.eqs false [.i,.i] (.t 28) (.t 32)⟩),(11,oP 34 (.pick (.t 26) (.t 33) (.c (.bool false)))),(12,mV 11 34)]) (.seq (sR [mV 35 1] (.cond (.t 35) (.seq (.drw [0,1,3,0,8,24,0,64,192,448,960,7,2111,8191] [(0,mV 36 0),(1,oP 37 (.nilc (.t 36))),(2,fD 38 9 37),(3,mV 39 0),(4,oP 40 (.nilc (.t 39))),(5,fD 41 6 40),(6,mV 42 0),(7,oP 43 (.nilc (.t 42))),(8,fD 44 4 43),(9,lD 45 1 44),(10,oP 46 (.lens (.t 45))),(11,mV 8 38),(12,mV 9 41),(13,mV 10 46)]) (.drw [0,1,0,4,12,28,63,127,255,511,255,1279,3327,7423,16383,32767,65535] [(0,fD 47 1 5),(1,lA 48 2 47),(2,mV 49 0),(3,oP 50 (.nilc (.t 49))),(4,fD 51 2 50),(5,lA 52 2 51),(6,oP 53 (.eqs false [.i,.i] (.t 48) (.t 52))),(7,mV 54 53),(8,⟨some 55,some (54,true),.fad 3 (.t 5)⟩),(9,⟨some 56,some (54,true),.ld 2 true (.t 55)⟩),(10,⟨some 57,some (54,true),.mv (.t 0)⟩),(11,⟨some 58,some (54,true),.nilc (.t 57)⟩),(12,⟨some 59,some (54,true),.fad 0 (.t 58)⟩),(13,⟨some 60,some (54,true),.ld 2 true (.t 59)⟩),(14,⟨some 61,some (54,true),.eqs false [.i,.i] (.t 56) (.t 60)⟩),(15,oP 62 (.pick (.t 54) (.t 61) (.c (.bool false)))),(16,mV 11 62)])) .skip)) (.seq (.block 0 (sR [mV 64 11,oP 65 (.un .not (.t 64)),mV 63 65] (.cond (.t 63) (sR [oP 66 (.build [i0,i0,i0,i0,i0,i0,s0] []),nP (.sto 7 (.t 6) (.t 66)),oP 7 (.mv (.c (.bool false)))] .ret) (sR [fD 68 0 5,lD 69 1 68,oP 70 (.bin .eql (.t 69) (.c (.int .i64 2))),mV 67 70] (.cond (.t 67) (.seq (.drw [0,0,2,6,0,16,0,112,254,511,1023] [(0,mV 71 9),(1,mV 72 9),(2,oP 73 (.nilc (.t 72))),(3,lD 74 1 73),(4,fD 75 5 5),(5,lD 76 1 75),(6,mV 77 10),(7,oP 78 (.mn (.t 76) (.t 77))),(8,oP 79 (.mx (.t 74) (.t 78))),(9,oP 80 (.nilc (.t 71))),(10,nP (.sto 1 (.t 80) (.t 79)))]) (sR [oP 81 (.build [i0,i0,i0,i0,i0,i0,s0] []),nP (.sto 7 (.t 6) (.t 81)),oP 7 (.mv (.c (.bool false)))] .ret)) .skip))))) (.seq (.drw [0,0,2,6,0,16,0,64,254,510,1022,1022,2047,6143] [(0,mV 83 8),(1,mV 84 8),(2,oP 85 (.nilc (.t 84))),(3,lD 86 1 85),(4,fD 87 5 5),(5,lD 88 1 87),(6,fD 89 6 5),(7,lD 90 1 89),(8,oP 91 (.call 192 [.t 86,.t 88,.t 90])),(9,mV 82 91),(10,eX 92 82 0),(11,eX 93 82 1),(12,oP 94 (.nilc (.t 83))),(13,nP (.sto 1 (.t 94) (.t 92)))]) (.seq (.drw [0,1,0,4,0,16,48,112,255,511,1023] [(0,fD 95 3 5),(1,lA 96 2 95),(2,fD 97 1 5),(3,lA 98 2 97),(4,mV 99 8),(5,oP 100 (.nilc (.t 99))),(6,lD 101 1 100),(7,oP 102 (.lens (.t 101))),(8,oP 103 (.build [i0,i0,i0,i0,i0,i0,s0] [(0,(1,.c (.int .i64 2))),(1,(2,.t 96)),(3,(2,.t 98)),(5,(1,.t 102))])),(9,nP (.sto 7 (.t 6) (.t 103))),(10,oP 7 (.mv (.c (.bool true))))]) .ret))))))
theorem dg147 : digF Tryz.prog Tryz.f147 = some (ic147,[(.cell 6 7 true),(.t 7)]) := by kernel_rfl
theorem en147 : entr Tryz.prog 147 = true := by kernel_rfl
theorem c147 (cs : List Conv) (k : Nat) (b : Bool) (p : Pk) (hk : k < cs.length) (hc : CvB (cs.getD k default)) (hp : PkP p) : FnP Tryz.prog G 147 1 [.arr 42 10 (cs.map Conv.row)] [.pa 0 k 0,.bool b,.agg [.int .i64 p.kind,.int .i64 p.frm.a,.int .i64 p.frm.p,.int .i64 p.to.a,.int .i64 p.to.p,.int .i64 p.at_,.str p.text]]
    (fun r o => ∃ x,x = hear (cs.getD k default) b p ∧ r = .tup [.agg (Pk.row (x.2.getD .zero)),.bool x.2.isSome] ∧ o = [.arr 42 10 ((cs.set k x.1).map Conv.row)]) := by
  refine FnP.mk' Tryz.func147 en147 dg147 Tryz.ntmps147 (by simp) ⟨_,_,_,rfl,rfl,rfl⟩ ?_
  have h1 := hp.at_
  have h2 := hp.len
  have h3 := hc.upGot
  have h4 := hc.downGot
  generalize hcc : cs.getD k default = c at *
  have g1 := c192 c.upGot p.at_ p.text (by omega) (by omega) (by omega)
  have g2 := c192 c.downGot p.at_ p.text (by omega) (by omega) (by omega)
  have hcc2 : c = cs[k] := by rw [← hcc]; simp [List.getD,hk]
  have hset : ∀ x : Conv,(cs.set k x).map Conv.row = (cs.map Conv.row).set k (Conv.row x) := fun x => List.map_set
  have hsame : cs.set k c = cs := by rw [hcc2]; exact List.set_getElem_self hk
  clear hcc2
  have fin : ∀ l mm (x : Conv × Option Pk),hear c b p = x → getL l 6 = .pv 1006 0 → getL l 7 = .bool x.2.isSome → getH mm 1006 = .var 40 (Pk.row (x.2.getD .zero)) → getH mm 0 = .arr 42 10 ((cs.set k x.1).map Conv.row) →
      retQ [.cell 6 7 true,.t 7] 1 (fun r o => ∃ x,x = hear c b p ∧ r = .tup [.agg (Pk.row (x.2.getD .zero)),.bool x.2.isSome] ∧ o = [.arr 42 10 ((cs.set k x.1).map Conv.row)]) .ret ⟨getL l,getH mm⟩ := fun l mm x h1 h2 h3 h4 h5 => by
    refine retN (.tup [.agg (Pk.row (x.2.getD .zero)),.bool x.2.isSome]) [.arr 42 10 ((cs.set k x.1).map Conv.row)] [] ?_ ⟨x,h1.symm,rfl,rfl⟩ ?_ (by simp [argH,getN]) (by simp only [go_sem])
    · simp only [go_sem,h2,h3,h4]
    · simp only [go_sem,h5]
  have gs : ∀ R,((cs.map Conv.row).set k R).getD k [] = R := fun R => by simp [List.getD,hk]
  simp only [ic147,go_sem]
  cases b <;> simp only [go_sem,getD_mp hk,hcc,E.ext_iff']
  all_goals
    with_reducible repeat' (first | refine br ?_ ?_ <;> intro h e <;> (try simp only [e,go_sem,getD_mp hk,hcc,gs,E.ext_iff']) <;> clear e | rw [i64w (by omega)] | (first | refine sk ?_ | refine sd ?_) <;> try simp only [go_sem,getD_mp hk,hcc,gs,E.ext_iff'] | (first | refine cr (c13 ..) ?_ | refine cr (g1 ..) ?_ | refine cr (g2 ..) ?_) <;> try simp only [go_sem,getD_mp hk,hcc,gs,E.ext_iff'] | fail)
  all_goals clear g1 g2
  all_goals clear gs hset hcc
  all_goals have hset : ∀ x : Conv,(cs.set k x).map Conv.row = (cs.map Conv.row).set k (Conv.row x) := fun x => List.map_set
  all_goals first
    | (refine fin _ _ (c,none) (by simp [hear, *]) ?_ ?_ ?_ ?_ <;> simp only [go_sem,Option.isSome_none,Option.getD_none,Pk.zero,E.zero,hsame]; done)
    | (refine fin _ _ ({ c with downAck := max c.downAck (min p.at_ c.down.length) },none) (by simp [hear, *]) ?_ ?_ ?_ ?_ <;> simp only [go_sem,Option.isSome_none,Option.getD_none,Pk.zero,E.zero,hset]; done)
    | (refine fin _ _ ({ c with upAck := max c.upAck (min p.at_ c.up.length) },none) (by simp [hear, *]) ?_ ?_ ?_ ?_ <;> simp only [go_sem,Option.isSome_none,Option.getD_none,Pk.zero,E.zero,hset]; done)
    | (refine fin _ _ ({ c with upGot := (behind c.upGot p.at_ p.text).1 },some ⟨2,p.to,p.frm,(behind c.upGot p.at_ p.text).1.length,[]⟩) (by simp [hear, *]) ?_ ?_ ?_ ?_ <;> simp only [go_sem,Option.isSome_some,Option.getD_some,hset]; done)
    | (refine fin _ _ ({ c with downGot := (behind c.downGot p.at_ p.text).1 },some ⟨2,p.to,p.frm,(behind c.downGot p.at_ p.text).1.length,[]⟩) (by simp [hear, *]) ?_ ?_ ?_ ?_ <;> simp only [go_sem,Option.isSome_some,Option.getD_some,hset]; done)
def ic74 : IC := sR [oP 4 (.mv (.c i0))] (.seq (.drw [0,1,3,7,15,0,32,96,224,0,992,2016,4064,8191,16383] [(0,mV 5 0),(1,oP 6 (.nilc (.t 5))),(2,fD 7 1 6),(3,fD 8 0 7),(4,lD 9 1 8),(5,mV 10 0),(6,oP 11 (.nilc (.t 10))),(7,fD 12 0 11),(8,lD 13 1 12),(9,mV 14 1),(10,oP 15 (.iad 10 (.t 13) (.t 14))),(11,fD 16 0 15),(12,lA 17 2 16),(13,oP 18 (.call 53 [.t 9,.t 17])),(14,mV 4 18)]) .ret)
theorem dg74 : digF Tryz.prog Tryz.f74 = some (ic74,[(.t 4)]) := by kernel_rfl
theorem en74 : entr Tryz.prog 74 = true := by kernel_rfl
theorem c74 (w : M.World) (k : Nat) (hk : k < w.convs.length) (hm : w.door.map.length ≤ 2000000) : FnP Tryz.prog G 74 4 [.var 33 [.own 2 w.convs.length,.sl 3 (w.door.map.map Pair.row),.own 1 w.door.flows.length,.own 3 w.nets.length],.arr 91 8 (w.door.flows.map Flw.row),.arr 42 10 (w.convs.map Conv.row),.arr 40 7 (w.nets.map Pk.row)] [.pv 0 0,.int .i64 (k : Int)] (fun r o => r = .int .i64 (portOf w.door.map (w.convs.getD k default).ins) ∧ o = [.var 33 [.own 2 w.convs.length,.sl 3 (w.door.map.map Pair.row),.own 1 w.door.flows.length,.own 3 w.nets.length],.arr 91 8 (w.door.flows.map Flw.row),.arr 42 10 (w.convs.map Conv.row),.arr 40 7 (w.nets.map Pk.row)]) := by
  refine FnP.mk' Tryz.func74 en74 dg74 Tryz.ntmps74 (by simp) ⟨_,_,rfl,rfl⟩ ?_
  generalize hc : w.convs.getD k default = c at *
  have f1 := c53 w.door.map c.ins.a c.ins.p hm
  simp only [ic74,go_sem]
  with_reducible repeat' (first | refine br ?_ ?_ <;> intro h e <;> (try simp only [e,go_sem,getD_mp hk,hc]) <;> clear e | rw [i64w (by omega)] | (first | refine sk ?_ | refine sd ?_) <;> try simp only [go_sem,getD_mp hk,hc] | (first | refine cr (f1 ..) ?_) <;> try simp only [go_sem,getD_mp hk,hc] | fail)
  refine retN _ _ [] ?_ ⟨rfl,rfl⟩ ?_ (by simp [argH,getN]) (by simp only [go_sem])
  · simp only [go_sem]
  · simp only [go_sem]
def carryA (x : M.World × Option Pk) (r : V) (o : List Hs) : Prop := ∃ q,r = .tup [.agg (Pk.row q),.bool x.2.isSome] ∧ (∀ q',x.2 = some q' → q = q') ∧ o = [.var 33 [.own 2 x.1.convs.length,.sl 3 (x.1.door.map.map Pair.row),.own 1 x.1.door.flows.length,.own 3 x.1.nets.length],.arr 91 8 (x.1.door.flows.map Flw.row),.arr 42 10 (x.1.convs.map Conv.row),.arr 40 7 (x.1.nets.map Pk.row)]
theorem carryRet {x : M.World × Option Pk} {w : M.World} {o : Option Pk} {l : List (Nat × V)} {mm : List (Nat × Hs)} (q : Pk) (n1 n2 n3 : Nat) (hx : x = (w,o)) (hq : ∀ q',o = some q' → q = q') (h4 : getL l 4 = .pv 1004 0) (h5 : getL l 5 = .bool o.isSome) (m4 : getH mm 1004 = .var 40 (Pk.row q))
    (m0 : getH mm 0 = .var 33 [.own n2 w.convs.length,.sl 3 (w.door.map.map Pair.row),.own n1 w.door.flows.length,.own n3 w.nets.length])
    (m1 : getH mm n1 = .arr 91 8 (w.door.flows.map Flw.row)) (m2 : getH mm n2 = .arr 42 10 (w.convs.map Conv.row)) (m3 : getH mm n3 = .arr 40 7 (w.nets.map Pk.row))
    (hne : [0,n1,n2,n3].Nodup) : retQ [.cell 4 7 true,.t 5] 1 (carryA x) .ret ⟨getL l,getH mm⟩ := by
  subst hx
  refine retN (.tup [.agg (Pk.row q),.bool o.isSome]) [.var 33 [.own 2 w.convs.length,.sl 3 (w.door.map.map Pair.row),.own 1 w.door.flows.length,.own 3 w.nets.length],.arr 91 8 (w.door.flows.map Flw.row),.arr 42 10 (w.convs.map Conv.row),.arr 40 7 (w.nets.map Pk.row)] [(1,n1),(2,n2),(3,n3)] ?_ ⟨q,rfl,hq,rfl⟩ ?_ (by simpa [argH,getN] using hne) (by simp only [go_sem])
  · simp only [go_sem,h4,h5,m4]
  · simp only [go_sem,m0,m1,m2,m3]
def ic75 : IC := sR [oP 3 (.box 40 (.t 1)),oP 4 (.alloc 40 [i0,i0,i0,i0,i0,i0,s0]),oP 5 (.mv (.c (.bool false)))] (.seq (sR [fD 9 3 3,lA 10 2 9,oP 11 (.call 13 [.t 10]),mV 12 11,⟨some 13,some (12,false),.fad 1 (.t 3)⟩,⟨some 14,some (12,false),.ld 2 true (.t 13)⟩,⟨some 15,some (12,false),.call 16 [.t 14]⟩,oP 16 (.pick (.t 12) (.c (.bool true)) (.t 15))] (.cond (.t 16) (.seq (.drw [0,1,3,0,15,31,31,127,255] [(0,mV 17 0),(1,oP 18 (.nilc (.t 17))),(2,fD 19 1 18),(3,lA 20 7 3),(4,oP 21 (.call 146 [.t 19,.t 20])),(5,eX 22 21 0),(6,eX 23 21 1),(7,nP (.sto 7 (.t 4) (.t 22))),(8,mV 5 23)]) .ret) .skip)) (.seq (sR [mV 24 0,oP 25 (.nilc (.t 24)),fD 26 0 25,lD 27 1 26,oP 28 (.len (.t 27)),oP 29 (.mv (.c i0))] (.block 0 (.loop (sR [bN 30 .lss 29 28] (.seq (.cond (.t 30) .skip (.exit 0)) (.seq (.block 1 (sR [mV 31 29,mV 6 31] (sR [mV 32 0,oP 33 (.nilc (.t 32)),fD 34 0 33,lD 35 1 34,mV 36 6,oP 37 (.iad 10 (.t 35) (.t 36)),mV 7 37] (.seq (.drw [0,1,0,4,12,28,63,127,255,511,255,1279,3327,7423,16383,32767,65535] [(0,fD 38 3 3),(1,lA 39 2 38),(2,mV 40 7),(3,oP 41 (.nilc (.t 40))),(4,fD 42 0 41),(5,lA 43 2 42),(6,oP 44 (.eqs false [.i,.i] (.t 39) (.t 43))),(7,mV 45 44),(8,⟨some 46,some (45,true),.fad 1 (.t 3)⟩),(9,⟨some 47,some (45,true),.ld 2 true (.t 46)⟩),(10,⟨some 48,some (45,true),.mv (.t 7)⟩),(11,⟨some 49,some (45,true),.nilc (.t 48)⟩),(12,⟨some 50,some (45,true),.fad 2 (.t 49)⟩),(13,⟨some 51,some (45,true),.ld 2 true (.t 50)⟩),(14,⟨some 52,some (45,true),.eqs false [.i,.i] (.t 47) (.t 51)⟩),(15,oP 53 (.pick (.t 45) (.t 52) (.c (.bool false)))),(16,mV 8 53)]) (.seq (.drw [0,1,3,7,3,19,51,115,255,511,1023,2047,4095,8191,16383,32767,65535,131071,32767,32767,819199,2097151,4194303,8388607] [(0,mV 54 8),(1,mV 55 54),(2,⟨some 56,some (55,false),.fad 3 (.t 3)⟩),(3,⟨some 57,some (55,false),.ld 2 true (.t 56)⟩),(4,⟨some 58,some (55,false),.mv (.t 7)⟩),(5,⟨some 59,some (55,false),.nilc (.t 58)⟩),(6,⟨some 60,some (55,false),.fad 2 (.t 59)⟩),(7,⟨some 61,some (55,false),.ld 2 true (.t 60)⟩),(8,⟨some 62,some (55,false),.eqs false [.i,.i] (.t 57) (.t 61)⟩),(9,⟨some 63,some (55,false),.mv (.t 62)⟩),(10,⟨some 64,some (63,true),.fad 1 (.t 3)⟩),(11,⟨some 65,some (63,true),.ld 2 true (.t 64)⟩),(12,⟨some 66,some (63,true),.call 13 [.t 65]⟩),(13,⟨some 67,some (55,false),.pick (.t 63) (.t 66) (.c (.bool false))⟩),(14,⟨some 68,some (55,false),.mv (.t 67)⟩),(15,⟨some 69,some (68,true),.fad 1 (.t 3)⟩),(16,⟨some 70,some (68,true),.fad 1 (.t 69)⟩),(17,⟨some 71,some (68,true),.ld 1 false (.t 70)⟩),(18,⟨some 72,some (68,true),.mv (.t 0)⟩),(19,⟨some 73,some (68,true),.mv (.t 6)⟩),(20,⟨some 74,some (68,true),.call 74 [.t 72,.t 73]⟩),(21,⟨some 75,some (68,true),.bin .eql (.t 71) (.t 74)⟩),(22,⟨some 76,some (55,false),.pick (.t 68) (.t 75) (.c (.bool false))⟩),(23,oP 77 (.pick (.t 55) (.c (.bool true)) (.t 76)))]) (.cond (.t 77) (sR [mV 78 7,mV 79 8,lA 80 7 3,oP 81 (.call 147 [.t 78,.t 79,.t 80]),eX 82 81 0,eX 83 81 1,nP (.sto 7 (.t 4) (.t 82)),mV 5 83] .ret) .skip)))))) (.reg [oP 84 (.bin .add (.t 29) (.c (.int .i64 1))),mV 29 84]))))))) (sR [oP 85 (.build [i0,i0,i0,i0,i0,i0,s0] []),nP (.sto 7 (.t 4) (.t 85)),oP 5 (.mv (.c (.bool false)))] .ret)))
theorem dg75 : digF Tryz.prog Tryz.f75 = some (ic75,[(.cell 4 7 true),(.t 5)]) := by kernel_rfl
theorem en75 : entr Tryz.prog 75 = true := by kernel_rfl
set_option maxHeartbeats 1000000 in
theorem c75 (w : M.World) (p : Pk) (hw : WI w) (hp : PkP p) : FnP Tryz.prog G 75 1 [.var 33 [.own 2 w.convs.length,.sl 3 (w.door.map.map Pair.row),.own 1 w.door.flows.length,.own 3 w.nets.length],.arr 91 8 (w.door.flows.map Flw.row),.arr 42 10 (w.convs.map Conv.row),.arr 40 7 (w.nets.map Pk.row)] [.pv 0 0,.agg [.int .i64 p.kind,.int .i64 p.frm.a,.int .i64 p.frm.p,.int .i64 p.to.a,.int .i64 p.to.p,.int .i64 p.at_,.str p.text]] (carryA (carry w p)) := by
  refine FnP.mk' Tryz.func75 en75 dg75 Tryz.ntmps75 (by simp) ⟨_,_,(carry w p).2.getD .zero,rfl,fun q' h => by rw [h]; rfl,rfl⟩ ?_
  have hml := (mapOk_ports (doorOk_iff.1 hw.door).1).2
  have hcl := hw.cl
  have hdoor : (p.to.door = true ∨ p.frm.inside = true) → carry w p = ({ w with door := (dPass w.door p).1 },(dPass w.door p).2) := fun h => carry_door (by simpa using h)
  simp only [ic75,go_sem]
  with_reducible repeat' (first | refine br ?_ ?_ <;> intro h e <;> (try simp only [e,go_sem]) <;> clear e | rw [i64w (by omega)] | (first | refine sk ?_ | refine sd ?_) <;> try simp only [go_sem] | (first | refine cr (c13 ..) ?_ | refine cr (c16 ..) ?_) <;> try simp only [go_sem] | fail)
  · refine callN (w146 w w.door p hw.door hp) [0,1,2,3] [] true 21 4 (by simp only [go_sem]; first | done | simp) (by simp only [go_sem]; first | done | simp) (by simp) (by simp) (by simp) ?_ ?_ ?_
    · rintro res out ⟨q,rfl,hq,rfl⟩
      exact ⟨by simp,by simp,.inl rfl,fun i hi => by obtain rfl : i = 0 := (by omega); simp [chH,stepOk]⟩
    · intro i hi
      rcases (show i = 0 ∨ i = 1 ∨ i = 2 ∨ i = 3 by omega) with rfl | rfl | rfl | rfl <;> simp only [go_sem]
    rintro res out ⟨q,rfl,hq,rfl⟩
    simp only [go_sem]
    with_reducible repeat' (first | refine br ?_ ?_ <;> intro h e <;> (try simp only [e,go_sem]) <;> clear e | rw [i64w (by omega)] | (first | refine sk ?_ | refine sd ?_) <;> try simp only [go_sem] | fail)
    refine carryRet (w := { w with door := (dPass w.door p).1 }) (o := (dPass w.door p).2) q 102101 102102 102103 (hdoor (.inl (by assumption))) hq ?_ ?_ ?_ ?_ ?_ ?_ ?_ (by decide) <;> simp only [go_sem]
  · refine callN (w146 w w.door p hw.door hp) [0,1,2,3] [] true 21 4 (by simp only [go_sem]; first | done | simp) (by simp only [go_sem]; first | done | simp) (by simp) (by simp) (by simp) ?_ ?_ ?_
    · rintro res out ⟨q,rfl,hq,rfl⟩
      exact ⟨by simp,by simp,.inl rfl,fun i hi => by obtain rfl : i = 0 := (by omega); simp [chH,stepOk]⟩
    · intro i hi
      rcases (show i = 0 ∨ i = 1 ∨ i = 2 ∨ i = 3 by omega) with rfl | rfl | rfl | rfl <;> simp only [go_sem]
    rintro res out ⟨q,rfl,hq,rfl⟩
    simp only [go_sem]
    with_reducible repeat' (first | refine br ?_ ?_ <;> intro h e <;> (try simp only [e,go_sem]) <;> clear e | rw [i64w (by omega)] | (first | refine sk ?_ | refine sd ?_) <;> try simp only [go_sem] | fail)
    refine carryRet (w := { w with door := (dPass w.door p).1 }) (o := (dPass w.door p).2) q 102101 102102 102103 (hdoor (.inr (by assumption))) hq ?_ ?_ ?_ ?_ ?_ ?_ ?_ (by decide) <;> simp only [go_sem]
  rw [carry_host (by simp [*])]
  clear hdoor
  refine loopN (fun k : Nat => ⟨getL [(0,.pv 0 0),(3,.pv 1003 0),(4,.pv 1004 0),(28,.int .i64 w.convs.length),(29,.int .i64 (k : Int))],getH [(0,.var 33 [.own 2 w.convs.length,.sl 3 (w.door.map.map Pair.row),.own 1 w.door.flows.length,.own 3 w.nets.length]),(1,.arr 91 8 (w.door.flows.map Flw.row)),(2,.arr 42 10 (w.convs.map Conv.row)),(3,.arr 40 7 (w.nets.map Pk.row)),(1003,.var 40 [.int .i64 p.kind,.int .i64 p.frm.a,.int .i64 p.frm.p,.int .i64 p.to.a,.int .i64 p.to.p,.int .i64 p.at_,.str p.text]),(1004,.var 40 [.int .i64 0,.int .i64 0,.int .i64 0,.int .i64 0,.int .i64 0,.int .i64 0,.str []])]⟩)
    (fun k => w.convs.length - k) (fun k => k ≤ w.convs.length ∧ (w.convs.take k).any (matchC w p) = false) 0 (leQ []) ⟨Nat.zero_le _,by simp⟩ ?_
  intro k ⟨hk,ha⟩
  simp only [go_sem]
  by_cases h : (k : Int) < w.convs.length
  · have hil : k < w.convs.length := by omega
    have hg : w.convs.getD k default = w.convs[k] := by simp [List.getD,hil]
    have hat := hostR_at (w := w) (p := p) hil ha
    have hstep := any_step hil ha
    have hB := convOk_B (hw.cv _ (List.getElem_mem hil))
    rw [matchC_e] at hat hstep
    have fp := c74 w k hil (by omega)
    have ft := c147 w.convs k true p hil (by rw [hg]; exact hB) hp
    have ff := c147 w.convs k false p hil (by rw [hg]; exact hB) hp
    rw [hg] at fp ft ff
    simp only [eq_true h,go_sem]
    generalize hc : w.convs[k] = c at *
    generalize hinw : (decide (p.to = c.ins) && decide (p.frm = c.out)) = inw at *
    with_reducible repeat' (first | refine br ?_ ?_ <;> intro h e <;> (try simp only [e,go_sem,getD_mp hil,hg,E.ext_iff']) <;> clear e | rw [i64w (by omega)] | (first | refine sk ?_ | refine sd ?_) <;> try simp only [go_sem,getD_mp hil,hg,E.ext_iff'] | (first | refine cr (c13 ..) ?_) <;> try simp only [go_sem,getD_mp hil,hg,E.ext_iff'] | fail)
    all_goals try (
      refine callN fp [0,1,2,3] [] true 74 4 (by simp only [go_sem]; first | done | simp) (by simp only [go_sem]; first | done | simp) (by simp) (by simp) (by simp) ?_ ?_ ?_
      · rintro _ _ ⟨rfl,rfl⟩
        exact ⟨by simp,by simp,.inl rfl,fun i hi => by rcases (show i = 0 ∨ i = 1 ∨ i = 2 ∨ i = 3 by omega) with rfl | rfl | rfl | rfl <;> simp [chH,stepOk]⟩
      · intro i hi
        rcases (show i = 0 ∨ i = 1 ∨ i = 2 ∨ i = 3 by omega) with rfl | rfl | rfl | rfl <;> simp only [go_sem]
      rintro _ _ ⟨rfl,rfl⟩
      simp only [go_sem]
      with_reducible repeat' (first | refine br ?_ ?_ <;> intro h e <;> (try simp only [e,go_sem,getD_mp hil,hg,E.ext_iff']) <;> clear e | rw [i64w (by omega)] | (first | refine sk ?_ | refine sd ?_) <;> try simp only [go_sem,getD_mp hil,hg,E.ext_iff'] | (first | refine cr (c13 ..) ?_) <;> try simp only [go_sem,getD_mp hil,hg,E.ext_iff'] | fail)
      )
    all_goals clear fp
    all_goals first
      | (refine ⟨k + 1,by omega,⟨by omega,hstep ?_⟩,(leQ [])⟩
         clear ft ff
         simp_all; done)
      | (refine callN ft [2] [] true 81 1 (by simp only [go_sem]; first | done | simp) (by simp only [go_sem]; first | done | simp) (by simp) (by simp) (by simp) ?_ ?_ ?_
         · rintro _ _ ⟨x,rfl,rfl,rfl⟩
           exact ⟨by simp,by simp,.inl rfl,fun i hi => by obtain rfl : i = 0 := (by omega); simp [chH,stepOk]⟩
         · intro i hi; obtain rfl : i = 0 := (by omega); simp only [go_sem]
         rintro _ _ ⟨x,hx,rfl,rfl⟩
         clear ft ff
         simp only [go_sem]
         with_reducible repeat' (first | refine br ?_ ?_ <;> intro h e <;> (try simp only [e,go_sem]) <;> clear e | rw [i64w (by omega)] | (first | refine sk ?_ | refine sd ?_) <;> try simp only [go_sem] | fail)
         have hi : inw = true := by clear hx; simp_all
         have hh := hat (by clear hx; simp_all)
         rw [hi,← hx] at hh
         refine carryRet (w := { w with convs := w.convs.set k x.1 }) (o := x.2) (x.2.getD .zero) 1 2 3 hh (fun q' h => by rw [h]; rfl) ?_ ?_ ?_ ?_ ?_ ?_ ?_ (by decide)
         all_goals simp only [go_sem,List.length_set]
         done)
      | (refine callN ff [2] [] true 81 1 (by simp only [go_sem]; first | done | simp) (by simp only [go_sem]; first | done | simp) (by simp) (by simp) (by simp) ?_ ?_ ?_
         · rintro _ _ ⟨x,rfl,rfl,rfl⟩
           exact ⟨by simp,by simp,.inl rfl,fun i hi => by obtain rfl : i = 0 := (by omega); simp [chH,stepOk]⟩
         · intro i hi; obtain rfl : i = 0 := (by omega); simp only [go_sem]
         rintro _ _ ⟨x,hx,rfl,rfl⟩
         clear ft ff
         simp only [go_sem]
         with_reducible repeat' (first | refine br ?_ ?_ <;> intro h e <;> (try simp only [e,go_sem]) <;> clear e | rw [i64w (by omega)] | (first | refine sk ?_ | refine sd ?_) <;> try simp only [go_sem] | fail)
         have hi : inw = false := by clear hx; simp_all
         have hh := hat (by clear hx; simp_all)
         rw [hi,← hx] at hh
         refine carryRet (w := { w with convs := w.convs.set k x.1 }) (o := x.2) (x.2.getD .zero) 1 2 3 hh (fun q' h => by rw [h]; rfl) ?_ ?_ ?_ ?_ ?_ ?_ ?_ (by decide)
         all_goals simp only [go_sem,List.length_set]
         done)
  · simp only [eq_false h,go_sem]
    have : k = w.convs.length := by omega
    subst this
    rw [List.take_length] at ha
    rw [hostR_no ha]
    refine carryRet .zero 1 2 3 rfl (fun q' h => by cases h) ?_ ?_ ?_ ?_ ?_ ?_ ?_ (by decide) <;> simp only [go_sem,Option.isSome_none,Pk.zero,E.zero]
end Go.Proofs.YtblndjmhjaijjaaGreatDoor.W
namespace Go.Proofs.YtblndjmhjaijjaaGreatDoor.W
open Go Go.RowKit Go.Proofs Go.Proofs.YtblndjmhjaijjaaGreatDoor.VL
theorem run_clear_one {P : Program} (w : World) (t e ty : TypeId) (z : Value) (ht : P.underlying t = some (.slice e)) (hv : ∀ w,(zeroValue e).run P w = .ok z w) (h1 : ∀ u,u ∈ z.cells.toList → u.oneCell' = true) (b o c : Nat)
    (hc : ∀ j,j < z.cells.toList.length → (w.cell? ⟨b,o + j,none⟩).isSome = true) (hf : ∀ j,j < z.cells.toList.length → w.frozen? ⟨b,o + j,none⟩ = false) :
    (Builtin.clear_ #[t] ty #[.slice (some ⟨b,o,none⟩) 1 c]).run P w = .ok (.tuple #[]) (w.setCells b o z.cells.toList) := by
  have hzc : (Builtin.zeroCells z.cells 1).toList = z.cells.toList := by
    simp only [Builtin.zeroCells]
    apply List.ext_getElem
    · simp
    · intro i h1 h2
      simp at h1 h2 ⊢
      have e : i % z.cells.size = i := Nat.mod_eq_of_lt h2
      simp [e,h2]
  have hst := run_storeCells_cells (P := P) b o z.cells.toList 0 w (by simpa using hc) (by simpa using hf) h1
  simp only [Nat.add_zero] at hst
  simp [Builtin.clear_,run_underlying ht,hv,hzc,hst]
set_option maxRecDepth 100000
set_option maxHeartbeats 4000000
theorem m148 (blk off cap n k j : Nat) (us : List Value) (w : World) (hl : us.length = n * 7) (hcl : ∀ (t : Nat) u,us[t]? = some u → w.cell? ⟨blk,off + t,none⟩ = some u) (hone : ∀ u,u ∈ us → u.oneCell' = true)
    (hfz : ∀ t,t < n * 7 → w.frozen? ⟨blk,off + t,none⟩ = false) (hcap : n ≤ cap) (hk : k < n) (hj : j = k + 1) :
    Calls Tryz.prog 148 #[.slice (some ⟨blk,off,none⟩) n cap,.int .i64 k,.int .i64 (j : Int)] w fun e w' => e = .returned (.slice (some ⟨blk,off,none⟩) (n - 1) cap) ∧
      w' = ((w.drew.setCells blk (off + k * 7) (us.drop (j * 7))).setCells blk (off + (n - 1) * 7) [.int .i64 0,.int .i64 0,.int .i64 0,.int .i64 0,.int .i64 0,.int .i64 0,.string ⟨#[]⟩]) := by
  have t27 : Tryz.prog.underlying 31 = some (.slice 40) := by kernel_rfl
  obtain ⟨i0,z0,hi,hz,hs,hzs,hb⟩ := infoP (P := Tryz.prog) (t := 40) (sz := 7) (by kernel_rfl)
  have hlt : k < j := by omega
  obtain ⟨news,hnews⟩ : ∃ news,news = us.drop (j * 7) := ⟨_,rfl⟩
  have hlen : news.length = (n - j) * 7 := by rw [hnews]; simp; omega
  obtain ⟨A,hA,hsrc⟩ : ∃ A : Addr,(if cap = j then some (⟨blk,off,none⟩ : Addr) else some ⟨blk,off + j * 7,none⟩) = some A ∧ Hid (∀ (t : Nat) u,news[t]? = some u → w.drew.cell? (A.add t) = some u) := by
    by_cases h : cap = j
    · refine ⟨⟨blk,off,none⟩,by simp [h],fun t u hu => ?_⟩
      have h0 : news.length = 0 := by rw [hlen]; omega
      rw [List.length_eq_zero_iff.1 h0] at hu
      simp at hu
    · refine ⟨⟨blk,off + j * 7,none⟩,by simp [h],fun t u hu => ?_⟩
      rw [hnews,List.getElem?_drop] at hu
      rw [Addr.add_lit,Nat.add_assoc]
      exact hcl _ u hu
  have s1 : Hid (news.length = (n - j) * 7) := hlen
  have s2 : Hid (∀ u ∈ news,u.oneCell' = true) := fun u hu => hone u (by rw [hnews] at hu; exact List.mem_of_mem_drop hu)
  have s3 : Hid (∀ t,t < news.length → (w.drew.cell? ⟨blk,off + k * 7 + t,none⟩).isSome = true ∧ w.drew.frozen? ⟨blk,off + k * 7 + t,none⟩ = false) := by
    intro t ht
    rw [hlen] at ht
    have hlt : k * 7 + t < us.length := by rw [hl]; omega
    rw [Nat.add_assoc]
    refine ⟨?_,hfz _ (by omega)⟩
    show (w.cell? _).isSome = true
    rw [hcl (k * 7 + t) _ (List.getElem?_eq_getElem hlt)]
    rfl
  obtain ⟨W1,hW1⟩ : ∃ W1,W1 = w.drew.setCells blk (off + k * 7) news := ⟨_,rfl⟩
  have hz' : ∀ w,(zeroValue 40).run Tryz.prog w = .ok (.agg #[.int .i64 0,.int .i64 0,.int .i64 0,.int .i64 0,.int .i64 0,.int .i64 0,.string ⟨#[]⟩]) w := fun w => by kernel_rfl
  have hcl2 : ∀ ty,(Builtin.clear_ #[31] ty #[.slice (some ⟨blk,off + (k + (n - j)) * 7,none⟩) (n - (k + (n - j))) (cap - (k + (n - j)))]).run Tryz.prog W1 = .ok (.tuple #[]) (W1.setCells blk (off + (k + (n - j)) * 7) [.int .i64 0,.int .i64 0,.int .i64 0,.int .i64 0,.int .i64 0,.int .i64 0,.string ⟨#[]⟩]) := fun ty => by
    rw [show n - (k + (n - j)) = 1 by omega]
    refine run_clear_one W1 _ _ ty _ t27 hz' (by simp [Value.cells,Value.oneCell']) blk _ _ (fun j' hj' => ?_) (fun j' hj' => ?_)
    · have hlt : (n - 1) * 7 + j' < us.length := by rw [hl]; simp [Value.cells] at hj'; omega
      have e : off + (k + (n - j)) * 7 + j' = off + ((n - 1) * 7 + j') := by rw [show k + (n - j) = n - 1 by omega]; omega
      rw [e,hW1,World.cell?_setCells_out _ _ _ _ _ (fun _ _ => .inr (by rw [hlen]; simp only; omega))]
      show (w.cell? _).isSome = true
      rw [hcl _ _ (List.getElem?_eq_getElem hlt)]
      rfl
    · have e : off + (k + (n - j)) * 7 + j' = off + ((n - 1) * 7 + j') := by rw [show k + (n - j) = n - 1 by omega]; omega
      rw [e,hW1,World.frozen?_setCells]
      exact hfz _ (by simp [Value.cells] at hj'; omega)
  have hW : Hid (W1 = w.drew.setCells blk (off + k * 7) news) := hW1
  have hkc : k ≤ cap := by omega
  have hkc1 : j ≤ cap := by omega
  have hjn : j ≤ n := by omega
  have hx : Hid (j = k + 1 ∧ news = us.drop (j * 7)) := ⟨hj,hnews⟩
  clear hW1 hnews hlen hcl hfz hone hj
  go_enter Tryz.func148,Tryz.ntmps148
  go_wp2_with fail
  go_region_law (refine step_append_room rfl (.tmp 22) (.tmp 25) 31 rfl 40 i0 7 t27 hi hs blk off k cap (by simp [Act.eval,Act.put]) A (n - j) (cap - j) news (by simp [Act.eval,Act.put,hA]) s1.out hsrc.out s2.out (by omega) s3.out ?_; rw [← hW.out])
  go_wp2
  go_ret
  have e2 : k + (n - j) = n - 1 := by have := hx.out.1; omega
  refine ⟨by simp [e2],by rw [hW.out,hx.out.2,e2]⟩
theorem map_eraseIdx {α β : Type} (f : α → β) : ∀ (l : List α) (k : Nat),(l.map f).eraseIdx k = (l.eraseIdx k).map f
  | [],_ => rfl
  | _ :: _,0 => rfl
  | a :: l,k + 1 => by simp [map_eraseIdx f l k]
def DelM (P : Program) (f : FuncId) (sz : Nat) (zr : List Value) : Prop := ∀ (blk off cap n k j : Nat) (us : List Value) (w : World),us.length = n * sz → (∀ (t : Nat) u,us[t]? = some u → w.cell? ⟨blk,off + t,none⟩ = some u) → (∀ u,u ∈ us → u.oneCell' = true) →
  (∀ t,t < n * sz → w.frozen? ⟨blk,off + t,none⟩ = false) → n ≤ cap → k < n → j = k + 1 →
  Calls P f #[.slice (some ⟨blk,off,none⟩) n cap,.int .i64 k,.int .i64 (j : Int)] w fun e w' => e = .returned (.slice (some ⟨blk,off,none⟩) (n - 1) cap) ∧ w' = ((w.drew.setCells blk (off + k * sz) (us.drop (j * sz))).setCells blk (off + (n - 1) * sz) zr)
theorem us_three {w : World} {O : Nat → Prop} {ρ : Nat → VL.Loc} {h : Nat → Hs} {a b c : V} {us : List Value} (hargs : DenArgs w O ρ h [a,b,c] us) : ∃ x y z,us = [x,y,z] ∧ Den w O ρ h a x ∧ Den w O ρ h b y ∧ Den w O ρ h c z := by
  obtain ⟨h1,h2⟩ := hargs
  match us,h1 with
  | [x,y,z],_ => exact ⟨x,y,z,rfl,h2 0 _ _ rfl rfl,h2 1 _ _ rfl rfl,h2 2 _ _ rfl rfl⟩
set_option maxHeartbeats 400000
theorem deleteOwn {P : Program} {G : Glob} {f : FuncId} (hn : entr P f = true) {sz : Nat} {zr : List Value} (h : DelM P f sz zr) (hzr : zr.length = sz) (ty : Nat) (rows : List (List V)) (n k : Nat) (hrn : rows.length = n) (hk : k < n) :
    FnP P G f 0 [.arr ty sz rows] [.own 0 n,.int .i64 (k : Int),.int .i64 ((k : Int) + 1)] (fun r o => r = .own 0 (n - 1) ∧ o = [.arr ty sz (rows.eraseIdx k)]) where
  en := hn
  ne := ⟨_,_,rfl,rfl⟩
  run := fun W ρ ext us0 hg hlt hno hng r hargs => by
    obtain ⟨u,u1,u2,rfl,hd,hd1,hd2⟩ := us_three hargs
    have e1 := inv_int hd1
    have e2 := inv_int hd2
    subst e1 e2
    have h0 : ∀ R,chH [Hs.arr ty sz R] 0 = .arr ty sz R := fun _ => rfl
    have h1 : ∀ R c,c ≠ 0 → chH [Hs.arr ty sz R] c = .fresh := fun R c hc => by
      match c,hc with
      | c + 1,_ => simp [chH]
    have hl : ∀ R c,(chH [Hs.arr ty sz R] c).live = true → c = 0 := fun R c hc => by
      by_cases h' : c = 0
      · exact h'
      · rw [h1 R c h'] at hc; cases hc
    have hl0 : ∀ R,(chH [Hs.arr ty sz R] 0).live = true := fun R => rfl
    have hd : u = (ρ 0).sl n := by
      simp only [Den,Den2,Den1,Den0,h0] at hd
      exact hd
    subst hd
    have hch := r.chunk 0
    rw [h0] at hch
    rcases hch with ⟨_,e,_⟩ | ⟨hnil,cs,hcs,hsz,hcap,hrl,hrows⟩
    · rw [e] at hrn; simp at hrn; omega
    have hlt0 : (ρ 0).blk < W.heap.size := lt_of_get hcs
    have hown : owns ⟨W,blocks ρ (chH [.arr ty sz rows]),ext,0,ρ⟩ ρ (chH [.arr ty sz rows]) (ρ 0).blk := .inr ⟨0,hl0 _,hnil,rfl⟩
    obtain ⟨us,hu1,hu2,hu3,hu4⟩ := rows_flat (w := W) (rows := rows) (sz := sz) (blk := (ρ 0).blk) (off := (ρ 0).off) hrl (fun i x j y hx hy => by
      obtain ⟨z,hz1,hz2⟩ := hrows i x j y hx hy
      exact ⟨z,cell_at _ _ _ _ _ _ _ hcs hz1,hz2⟩)
    have hsl : (ρ 0).sl n = .slice (some ⟨(ρ 0).blk,(ρ 0).off,none⟩) n (ρ 0).cap := by simp [VL.Loc.sl,VL.Loc.addr,hnil]
    rw [hrn] at hu1
    have hcell : ∀ (t : Nat) u,us[t]? = some u → W.cell? ⟨(ρ 0).blk,(ρ 0).off + t,none⟩ = some u := fun t u hu => by
      have := hu2 t u hu
      rwa [Addr.add_lit] at this
    have run := h (ρ 0).blk (ρ 0).off (ρ 0).cap n k (k + 1) us W hu1 hcell hu3 (fun t ht => by simp [World.frozen?,hcs]) (by omega) hk rfl
    rw [hsl]
    have ecast : ((k + 1 : Nat) : Int) = (k : Int) + 1 := by omega
    rw [ecast] at run
    refine run.mono fun e w' ⟨he,hw⟩ => ?_
    have hn1 : (n - 1) * sz + sz = n * sz := by rw [← Nat.succ_mul]; congr 1; omega
    have hk1 : (k + 1) * sz = k * sz + sz := Nat.succ_mul k sz
    have hkn : (k + 1) * sz ≤ n * sz := Nat.mul_le_mul_right _ hk
    have hcapn : n * sz ≤ (ρ 0).cap * sz := Nat.mul_le_mul_right _ (by omega)
    have hdl : (us.drop ((k + 1) * sz)).length = n * sz - (k + 1) * sz := by simp [hu1]
    obtain ⟨a1,a2,a3,a4,a5⟩ := setCells_frame (ρ 0).blk (us.drop ((k + 1) * sz)) ((ρ 0).off + k * sz) W.drew
    obtain ⟨b1,b2,b3,b4,b5⟩ := setCells_frame (ρ 0).blk zr ((ρ 0).off + (n - 1) * sz) (W.drew.setCells (ρ 0).blk ((ρ 0).off + k * sz) (us.drop ((k + 1) * sz)))
    obtain ⟨c1,m1,m2,m3⟩ := setCells_block (ρ 0).blk ty (0,0) (us.drop ((k + 1) * sz)) ((ρ 0).off + k * sz) W.drew cs hcs (by rw [hdl]; omega)
    obtain ⟨c2,n1,n2,n3⟩ := setCells_block (ρ 0).blk ty (0,0) zr ((ρ 0).off + (n - 1) * sz) _ c1 m1 (by rw [hzr,m2]; omega)
    rw [← hw] at b1 b2 b3 b4 b5 n1
    have bel : ∀ b,b ≠ (ρ 0).blk → w'.heap[b]? = W.heap[b]? := fun b hb => (b5 b hb).trans (a5 b hb)
    have hsize : w'.heap.size = W.heap.size := b4.trans a4
    refine ⟨_,_,_,ρ,he,⟨rfl,rfl⟩,⟨(b1.trans a1).trans r.os,(b2.trans a2).trans r.tape,(b3.trans a3).trans r.output,by rw [hsize]; exact r.grow,fun b hb1 hb2 => (bel b fun hx => hb2 ⟨0,hl0 _,by rw [hx]; exact ⟨hnil,rfl⟩⟩).trans (r.keep b hb1 hb2),fun c => ?_,fun c hc hnl => ?_,fun c c' hc hc' _ _ _ => (hl _ c hc).trans (hl _ c' hc').symm,fun i hi => absurd hi (Nat.not_lt_zero _)⟩, ?_⟩
    · by_cases hc : c = 0
      · subst hc
        rw [h0]
        refine .inr ⟨hnil,c2,n1,by rw [n2,m2]; exact hsz,by rw [List.length_eraseIdx]; split <;> omega,fun x hx => hrl x (List.mem_of_mem_eraseIdx hx),fun i x j y hx hy => ?_⟩
        have hjs : j < sz := by
          have := hrl x (List.mem_of_mem_eraseIdx (List.mem_of_getElem? hx))
          have h2 := (List.getElem?_eq_some_iff.1 hy).1
          omega
        have him : i < n - 1 := by
          have := (List.getElem?_eq_some_iff.1 hx).1
          rw [List.length_eraseIdx] at this
          split at this <;> omega
        have him2 : (i + 1) * sz ≤ (n - 1) * sz := Nat.mul_le_mul_right _ him
        have hi1 : (i + 1) * sz = i * sz + sz := Nat.succ_mul i sz
        have tail : ∀ q z,us[q * sz + j]? = some z → Imm W (owns ⟨W,blocks ρ (chH [.arr ty sz rows]),ext,0,ρ⟩ ρ (chH [.arr ty sz rows])) y z → Imm w' (owns ⟨W,blocks ρ (chH [.arr ty sz rows]),ext,0,ρ⟩ ρ (chH [.arr ty sz (rows.eraseIdx k)])) y z := fun q z _ hz => by
          refine hz.mono (Nat.le_of_eq hsize.symm) (fun b hb1 hb2 => bel b fun hx => hb2 (hx ▸ hown)) fun b hb1 ho => ?_
          rcases ho with ho | ⟨c,hc,hnl,hb⟩
          · exact .inl ho
          · obtain rfl := hl _ c hc
            exact .inr ⟨0,hl0 _,hnl,hb⟩
        rw [n3,if_neg (by omega),m3]
        rw [List.getElem?_eraseIdx] at hx
        by_cases hik : i < k
        · rw [if_pos hik] at hx
          have hi2 : (i + 1) * sz ≤ k * sz := Nat.mul_le_mul_right _ hik
          obtain ⟨z,hz1,hz2⟩ := hu4 i x j y hx hy
          refine ⟨z, ?_,tail i z hz1 hz2⟩
          rw [if_neg (by omega)]
          have := hcell _ _ hz1
          simpa [World.cell?,hcs] using this
        · rw [if_neg hik] at hx
          have hi2 : k * sz ≤ i * sz := Nat.mul_le_mul_right _ (by omega)
          obtain ⟨z,hz1,hz2⟩ := hu4 (i + 1) x j y hx hy
          refine ⟨z, ?_,tail (i + 1) z hz1 hz2⟩
          rw [if_pos (by rw [hdl]; omega),List.getElem?_drop]
          rw [← hz1]
          congr 1
          omega
      · rw [h1 _ c hc]; trivial
    · obtain rfl := hl _ c hc
      exact r.home 0 (hl0 _) hnl
    · simp only [Den,Den2,Den1,Den0,h0]
      exact (by simp [VL.Loc.sl,VL.Loc.addr,hnil])
theorem e148 : entr Tryz.prog 148 = true := by kernel_rfl
theorem o148 (ps : List M.Pk) (k : Nat) (hk : k < ps.length) : FnP Tryz.prog G 148 0 [.arr 40 7 (ps.map M.Pk.row)] [.own 0 ps.length,.int .i64 (k : Int),.int .i64 ((k : Int) + 1)] (fun r o => r = .own 0 (ps.length - 1) ∧ o = [.arr 40 7 ((ps.eraseIdx k).map M.Pk.row)]) := by
  have := deleteOwn (G := G) e148 m148 rfl 40 (ps.map M.Pk.row) ps.length k (by simp) hk
  rw [map_eraseIdx] at this
  exact this
end Go.Proofs.YtblndjmhjaijjaaGreatDoor.W
