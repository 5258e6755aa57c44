/- FnWorldHides: outside nobody is told of an end inside, in a drawn play. Conditions: those of the row alone. -/
import Derived.Test.YtblndjmhjaijjaaGreatDoorX05
import Derived.Test.YtblndjmhjaijjaaGreatDoorX06
import Derived.Test.YtblndjmhjaijjaaGreatDoorCards
import Derived.Test.YtblndjmhjaijjaaGreatDoorTie
set_option linter.all false
namespace Go.Proofs.YtblndjmhjaijjaaGreatDoor.M
theorem text_bytes (e : E) : 64 ∉ e.text ∧ 59 ∉ e.text := by
  by_cases h : e.any = true
  · have key : ∀ e ∈ ends,64 ∉ e.text ∧ 59 ∉ e.text := by decide +kernel
    exact key e (E.any_iff.1 h)
  · have : e.text = [] := by unfold E.text; rw [if_neg h]
    rw [this]; simp
inductive Al : B → B → Prop
  | nil : Al [] []
  | one (b : UInt8) (s t : B) : nameAt (b :: s) = none → Al s t → Al (b :: s) (b :: t)
  | nm (e e' : E) (s t : B) : e'.inside = false → Al s t → Al (name e ++ s) (name e' ++ t)
theorem Al.pre {s t : B} (h : Al s t) : ∀ u : B,64 ∉ u → u <+: t → u <+: s := by
  induction h with
  | nil => intro u _ h; exact h
  | one b s t _ _ ih =>
    intro u hu h
    cases u with
    | nil => exact List.nil_prefix
    | cons c u =>
      rw [List.cons_prefix_cons] at h ⊢
      exact ⟨h.1,ih u (fun hm => hu (List.mem_cons_of_mem _ hm)) h.2⟩
  | nm e e' s t _ _ ih =>
    intro u hu h
    cases u with
    | nil => exact List.nil_prefix
    | cons c u =>
      simp only [name,List.cons_append,List.cons_prefix_cons] at h
      exact absurd (by rw [h.1]; exact List.mem_cons_self) hu
theorem split_at {c : UInt8} : ∀ {x y z w : B},c ∉ x → c ∉ y → x ++ c :: z = y ++ c :: w → x = y ∧ z = w
  | [],[],z,w,_,_,h => by simpa using h
  | [],b :: y,z,w,_,hy,h => by simp at h; exact absurd (by rw [h.1]; exact List.mem_cons_self) hy
  | a :: x,[],z,w,hx,_,h => by simp at h; exact absurd (by rw [← h.1]; exact List.mem_cons_self) hx
  | a :: x,b :: y,z,w,hx,hy,h => by
    simp only [List.cons_append,List.cons.injEq] at h
    obtain ⟨h1,h2⟩ := split_at (fun hm => hx (List.mem_cons_of_mem _ hm)) (fun hm => hy (List.mem_cons_of_mem _ hm)) h.2
    exact ⟨by rw [h.1,h1],h2⟩
theorem split_in {c : UInt8} : ∀ {x z y w : B},c ∉ x → x ++ z = y ++ c :: w → ∃ y',y = x ++ y' ∧ z = y' ++ c :: w
  | [],z,y,w,_,h => ⟨y,rfl,h⟩
  | a :: x,z,[],w,hx,h => by simp at h; exact absurd (by rw [h.1]; exact List.mem_cons_self) hx
  | a :: x,z,b :: y,w,hx,h => by
    simp only [List.cons_append,List.cons.injEq] at h
    obtain ⟨y',h1,h2⟩ := split_in (fun hm => hx (List.mem_cons_of_mem _ hm)) h.2
    exact ⟨y',by rw [h.1,h1]; rfl,h2⟩
theorem Al.clean {s t : B} (h : Al s t) : ∀ (e : E) (a c : B),e.any = true → e.inside = true → t ≠ a ++ (name e ++ c) := by
  induction h with
  | nil => intro e a c _ _ h; simp [name] at h
  | one b s t hn hal ih =>
    intro e a c he hi h
    cases a with
    | nil =>
      simp only [name,List.nil_append,List.cons_append,List.cons.injEq,List.append_assoc] at h
      obtain ⟨rfl,h⟩ := h
      have hp : (e.text ++ [59]) <+: s := hal.pre _ (by have := (text_bytes e).1; simp [this]) ⟨c,by rw [h]; simp⟩
      obtain ⟨r,hr⟩ := hp
      have : nameAt (64 :: s) = some e := by
        rw [← hr]
        have := nameAt_name he r
        simpa [name] using this
      rw [hn] at this; cases this
    | cons x a =>
      simp only [List.cons_append,List.cons.injEq] at h
      exact ih e a c he hi h.2
  | nm e0 e' s t hni hal ih =>
    intro e a c he hi h
    cases a with
    | nil =>
      simp only [name,List.nil_append,List.cons_append,List.cons.injEq,List.append_assoc,true_and] at h
      have := (split_at (text_bytes e').2 (text_bytes e).2 h).1
      have := text_inj he this.symm
      rw [this,hni] at hi; cases hi
    | cons x a =>
      simp only [name,List.cons_append,List.cons.injEq] at h
      obtain ⟨_,h⟩ := h
      obtain ⟨y',_,h2⟩ := split_in (c := 64) (x := e'.text ++ [59]) (z := t) (y := a) (by have := (text_bytes e').1; simp [this]) h
      exact ih e y' c he hi (by rw [h2]; rfl)
theorem Al.app {s t : B} (h : Al s t) : ∀ {s2 t2 : B},Al s2 t2 → (∀ i e,i < s.length → nameAt ((s ++ s2).drop i) = some e → i + (name e).length ≤ s.length) → Al (s ++ s2) (t ++ t2) := by
  induction h with
  | nil => intro s2 t2 h2 _; exact h2
  | one b s t hn _ ih =>
    intro s2 t2 h2 hc
    refine .one b _ _ ?_ (ih h2 fun i e hi hs => ?_)
    · cases hx : nameAt (b :: (s ++ s2)) with
      | none => rfl
      | some e =>
        have := hc 0 e (by simp) (by simpa using hx)
        have := nameAt_back (s := b :: s) (r := s2) (by simpa using hx) (by simpa using this)
        rw [hn] at this; cases this
    · have := hc (i + 1) e (by simp; omega) (by simpa using hs)
      simp only [List.length_cons] at this
      omega
  | nm e0 e' s t hni _ ih =>
    intro s2 t2 h2 hc
    rw [List.append_assoc,List.append_assoc]
    refine .nm e0 e' _ _ hni (ih h2 fun i e hi hs => ?_)
    have := hc ((name e0).length + i) e (by simp; omega) (by rw [List.append_assoc,← List.drop_drop,List.drop_left]; exact hs)
    simp only [List.length_append] at this
    omega
theorem names_occ : ∀ (n : Nat) (s : B),s.length ≤ n → ∀ e ∈ namesOf (pcs s),e.any = true ∧ ∃ a c,s = a ++ (name e ++ c) := by
  intro n
  induction n with
  | zero =>
    intro s hs e he
    obtain rfl : s = [] := List.eq_nil_of_length_eq_zero (by omega)
    simp [pcs_nil,namesOf] at he
  | succ n ih =>
    intro s hs e he
    by_cases hz : s = []
    · subst hz; simp [pcs_nil,namesOf] at he
    rw [pcs_cons hz] at he
    obtain ⟨p1,p2,_⟩ := pc1_size hz
    have hrest : e ∈ namesOf (pcs (s.drop (pc1 s).size)) → e.any = true ∧ ∃ a c,s = a ++ (name e ++ c) := fun h => by
      obtain ⟨h1,a,c,h2⟩ := ih _ (by simp only [List.length_drop]; omega) e h
      refine ⟨h1,s.take (pc1 s).size ++ a,c, ?_⟩
      rw [List.append_assoc,← h2,List.take_append_drop]
    cases hn : nameAt s with
    | none =>
      have : pc1 s = ⟨1,false,.zero⟩ := by simp [pc1,hn]
      rw [this] at he hrest
      exact hrest (by simpa [namesOf] using he)
    | some e1 =>
      have hp : pc1 s = ⟨(name e1).length,true,e1⟩ := by simp [pc1,hn]
      rw [hp] at he hrest
      simp only [namesOf,List.filter_cons,if_true,List.map_cons,List.mem_cons] at he
      rcases he with rfl | he
      · obtain ⟨h1,r,h2⟩ := nameAt_some hn
        exact ⟨h1,[],r,h2⟩
      · exact hrest he
theorem textNames_occ {t : B} {e : E} (h : e ∈ textNames t) : e.any = true ∧ ∃ a c,t = a ++ (name e ++ c) := by
  unfold textNames textPieces at h
  split at h
  · rw [pieces_eq] at h
    obtain ⟨h1,a,c,h2⟩ := names_occ _ _ (Nat.le_refl _) e h
    refine ⟨h1,a,c ++ t.drop (t.length - held t), ?_⟩
    have : t = body t ++ t.drop (t.length - held t) := (List.take_append_drop _ t).symm
    rw [← List.append_assoc,← List.append_assoc,List.append_assoc a,← h2]
    exact this
  · simp [namesOf] at h
theorem turned_al : ∀ (n : Nat) (r : B),r.length ≤ n → ∀ (m : List Pair) (tl : B),(turned m (pcs r) (r ++ tl) true).1.length ≤ 7 → Al r (turned m (pcs r) (r ++ tl) true).2.flatten := by
  intro n
  induction n with
  | zero =>
    intro r hr m tl _
    obtain rfl : r = [] := List.eq_nil_of_length_eq_zero (by omega)
    exact .nil
  | succ n ih =>
    intro r hr m tl hm
    by_cases hz : r = []
    · subst hz; exact .nil
    obtain ⟨p1,p2,_⟩ := pc1_size hz
    rw [pcs_cons hz] at hm ⊢
    simp only [turned,List.flatten_cons] at hm ⊢
    have ht : (r ++ tl).take (pc1 r).size = r.take (pc1 r).size := List.take_append_of_le_length p2
    have hd : (r ++ tl).drop (pc1 r).size = r.drop (pc1 r).size ++ tl := List.drop_append_of_le_length p2
    rw [ht,hd] at hm ⊢
    have hrec := ih (r.drop (pc1 r).size) (by simp only [List.length_drop]; omega) (turn m (pc1 r) (r.take (pc1 r).size) true).1 tl hm
    obtain ⟨x,hx⟩ := turned_pre (pcs (r.drop (pc1 r).size)) (turn m (pc1 r) (r.take (pc1 r).size) true).1 (r.drop (pc1 r).size ++ tl) true
    rw [hx,List.length_append] at hm
    obtain ⟨y,hy⟩ := turn_pre m (pc1 r) (r.take (pc1 r).size) true
    have hml : m.length ≤ 7 := by rw [hy,List.length_append] at hm; omega
    cases hn : nameAt r with
    | none =>
      have hp : pc1 r = ⟨1,false,.zero⟩ := by simp [pc1,hn]
      rw [hp] at hrec ⊢
      cases r with
      | nil => exact absurd rfl hz
      | cons b r =>
        simpa [turn,pieceOut] using Al.one b _ _ hn (by simpa [turn,pieceOut] using hrec)
    | some e =>
      have hp : pc1 r = ⟨(name e).length,true,e⟩ := by simp [pc1,hn]
      obtain ⟨_,r',hr'⟩ := nameAt_some hn
      rw [hp] at hrec ⊢
      subst hr'
      simp only [List.drop_left,List.take_left] at hrec ⊢
      by_cases hi : e.inside = true
      · have hmo : ∃ y port,mOut m e = (y,port,true) := by
          unfold mOut
          split
          · exact ⟨_,_,rfl⟩
          · rw [if_neg (by omega)]; exact ⟨_,_,rfl⟩
        obtain ⟨y,port,hmo⟩ := hmo
        simp only [turn,cond_true,pieceOut,hi,Bool.true_and,if_true,hmo] at hrec ⊢
        exact .nm e ⟨9,port⟩ _ _ (by simp [E.inside,within]) hrec
      · simp only [turn,cond_true,pieceOut,hi,Bool.true_and,if_false,Bool.false_eq_true] at hrec ⊢
        exact .nm e e _ _ (by simpa using hi) hrec
end Go.Proofs.YtblndjmhjaijjaaGreatDoor.M
namespace Go.Proofs.YtblndjmhjaijjaaGreatDoor.M
theorem body_fits (s t : B) (i : Nat) (e : E) (hi : i < (body s).length) (hn : nameAt ((body s ++ (body (s ++ t)).drop (body s).length).drop i) = some e) : i + (name e).length ≤ (body s).length := by
  rw [← body_app] at hn
  obtain ⟨ha,q,hq⟩ := nameAt_some hn
  have hu : ∃ q',(s ++ t).drop i = name e ++ q' := by
    refine ⟨q ++ (s ++ t).drop ((s ++ t).length - held (s ++ t)), ?_⟩
    rw [← List.append_assoc,← hq]
    have : s ++ t = body (s ++ t) ++ (s ++ t).drop ((s ++ t).length - held (s ++ t)) := (List.take_append_drop _ _).symm
    conv => lhs; rw [this]
    rw [List.drop_append_of_le_length]
    have h1 := congrArg List.length (body_app s t)
    simp only [List.length_append] at h1
    omega
  obtain ⟨q',hq'⟩ := hu
  have hnl := name_len ha
  have hbl := body_len s
  have h5 := held5 s
  rcases Nat.lt_or_ge (body s).length (i + (name e).length) with hlt | hge
  · exfalso
    by_cases hh : held s = 0
    · have hk : 0 < s.length - i := by omega
      have hkl : s.length - i < (name e).length := by omega
      have hb := name_beg ha hk hkl
      have e1 : (name e).take (s.length - i) = s.drop (s.length - (s.length - i)) := by
        have h2 := congrArg (List.take (s.length - i)) hq'
        rw [List.take_append_of_le_length (by omega),List.drop_append_of_le_length (by omega),List.take_append_of_le_length (by simp),List.take_of_length_le (by simp)] at h2
        rw [← h2]; congr 1; omega
      rw [e1] at hb
      have := held_max (by split at hnl <;> omega) (by omega) hk hb
      omega
    · have hb := held_beg (t := s) (by omega)
      obtain ⟨_,r,hr⟩ := begs_head hb
      have e1 : (s ++ t)[(body s).length]? = some 64 := by
        rw [List.getElem?_append_left (by omega),hbl]
        have := congrArg (fun l => l[0]?) hr
        simpa using this
      have e2 : (s ++ t)[(body s).length]? = (name e)[(body s).length - i]? := by
        have := congrArg (fun l => l[(body s).length - i]?) hq'
        simp only [List.getElem?_drop] at this
        rw [show i + ((body s).length - i) = (body s).length by omega] at this
        rw [this,List.getElem?_append_left (by omega)]
      rw [e2] at e1
      exact name_64 (by omega) e1
  · exact hge
theorem mkParts_out : ∀ (l : List Pc) (ts : List B),ts.length = l.length → (mkParts l ts).flatMap (·.text) = ts.flatten
  | [],[],_ => rfl
  | [],_ :: _,h => by simp at h
  | _ :: _,[],h => by simp at h
  | p :: l,b :: ts,h => by
    simp only [mkParts,List.flatMap_cons,List.flatten_cons]
    rw [mkParts_out l ts (by simpa using h)]
theorem put_al {m : List Pair} {s : Strm} {n : Int} {t : B} (hs : strmOk s = true) (h : Al (body s.inn) (sOut s)) (hm : (put m s n t true).1.length ≤ 7) :
    Al (body (put m s n t true).2.1.inn) (sOut (put m s n t true).2.1) ∧ sOut s <+: sOut (put m s n t true).2.1 := by
  unfold put at hm ⊢
  by_cases hb : (behind s.inn n t).2 = true
  · rw [if_pos hb] at hm ⊢
    simp only at hm ⊢
    obtain ⟨x,hx,_⟩ := behind_app hb
    rw [hx] at hm ⊢
    obtain ⟨h1,h2⟩ := strmOk_done hs
    obtain ⟨_,f2,_,_⟩ := put_fits hs x
    have hbd := body_app s.inn x
    have hl := congrArg List.length hbd
    simp only [List.length_append] at hl
    generalize hr : (body (s.inn ++ x)).drop (body s.inn).length = r at *
    have hsrc : (s.inn ++ x).drop (doneP s.parts) = r ++ (s.inn ++ x).drop ((s.inn ++ x).length - held (s.inn ++ x)) := by
      have : s.inn ++ x = body (s.inn ++ x) ++ (s.inn ++ x).drop ((s.inn ++ x).length - held (s.inn ++ x)) := (List.take_append_drop _ _).symm
      conv => lhs; rw [this]
      rw [h1,List.drop_append_of_le_length (by omega),hr]
    rw [f2,hsrc] at hm ⊢
    have ht := turned_al _ r (Nat.le_refl _) m _ hm
    have hso : sOut ⟨s.inn ++ x,s.parts ++ mkParts (pcs r) (turned m (pcs r) (r ++ (s.inn ++ x).drop ((s.inn ++ x).length - held (s.inn ++ x))) true).2⟩ = sOut s ++ (turned m (pcs r) (r ++ (s.inn ++ x).drop ((s.inn ++ x).length - held (s.inn ++ x))) true).2.flatten := by
      simp only [sOut,List.flatMap_append]
      rw [mkParts_out _ _ (turned_len _ _ _ _)]
    rw [hso]
    refine ⟨?_,List.prefix_append _ _⟩
    rw [hbd]
    refine h.app ht fun i e hi hn => body_fits s.inn x i e hi ?_
    rw [hr]; exact hn
  · rw [if_neg hb] at hm ⊢
    exact ⟨h,List.prefix_rfl⟩
def Sl (T : B) (q : Pk) : Prop := 0 ≤ q.at_ ∧ q.text <+: T.drop q.at_.toNat
theorem Sl.mono {T U : B} {q : Pk} (h : Sl T q) (hp : T <+: U) (ht : q.text ≠ []) : Sl U q := by
  obtain ⟨y,rfl⟩ := hp
  obtain ⟨h0,z,hz⟩ := h
  refine ⟨h0,z ++ y, ?_⟩
  have hlt : q.at_.toNat ≤ T.length := by
    rcases Nat.lt_or_ge T.length q.at_.toNat with h | h
    · rw [List.drop_eq_nil_of_le (by omega)] at hz
      exact absurd (List.append_eq_nil_iff.1 hz).1 ht
    · exact h
  rw [← List.append_assoc,hz,List.drop_append_of_le_length hlt]
theorem sendOn_sl {was is : Strm} {p q : Pk} (h : sendOn was is p = some q) : Sl (sOut is) q ∧ q.text ≠ [] := by
  have h1 := forP_le (l := is.parts) p.at_
  have h2 := toR_le was is p
  have e : sendOn was is p = if forP is.parts p.at_ ≥ toR was is p then none else if toR was is p - forP is.parts p.at_ ≤ 40 then some { p with at_ := forP is.parts p.at_,text := ((sOut is).take (toR was is p).toNat).drop (forP is.parts p.at_).toNat } else none := rfl
  rw [e] at h
  generalize forP is.parts p.at_ = a at *
  generalize toR was is p = b at *
  split at h
  · cases h
  · split at h
    · cases h
      refine ⟨⟨h1.1, ?_⟩,fun hn => ?_⟩
      · simp only
        rw [List.drop_take]
        exact List.take_prefix _ _
      · have := congrArg List.length hn
        simp only [List.length_drop,List.length_take,List.length_nil] at this
        omega
    · cases h
def AlD (d : Door) : Prop := ∀ f ∈ d.flows,Al (body f.up.inn) (sOut f.up)
def Grows (d x : Door) : Prop := ∀ f ∈ d.flows,∃ g ∈ x.flows,g.ins = f.ins ∧ g.out = f.out ∧ sOut f.up <+: sOut g.up
theorem Grows.refl (d : Door) : Grows d d := fun f hf => ⟨f,hf,rfl,rfl,List.prefix_rfl⟩
theorem set_grows {x : Door} {m : List Pair} {k : Nat} {f g : Flw} (hf : x.flows[k]? = some f) (h1 : g.ins = f.ins) (h2 : g.out = f.out) (h3 : sOut f.up <+: sOut g.up) : Grows x ⟨m,x.flows.set k g⟩ := fun u hu => by
  obtain ⟨j,hj⟩ := List.mem_iff_getElem?.1 hu
  have hl := (List.getElem?_eq_some_iff.1 hf).1
  by_cases hkj : k = j
  · subst hkj
    rw [hf] at hj; cases hj
    exact ⟨g,List.mem_set hl _,h1,h2,h3⟩
  · exact ⟨u,List.mem_iff_getElem?.2 ⟨j,by simp only; rw [List.getElem?_set_ne hkj]; exact hj⟩,rfl,rfl,List.prefix_rfl⟩
theorem openR_al {d : Door} {i o : E} (hal : AlD d) : AlD (openR d i o).1 ∧ ∀ f ∈ d.flows,f ∈ (openR d i o).1.flows := by
  unfold openR openF
  split
  · rename_i ho
    split at ho
    · cases ho; exact ⟨hal,fun f hf => hf⟩
    · split at ho
      · split at ho
        · cases ho
          refine ⟨fun f hf => ?_,fun f hf => List.mem_append_left _ hf⟩
          rcases List.mem_append.1 hf with hf | hf
          · exact hal f hf
          · simp only [List.mem_singleton] at hf; subst hf; exact .nil
        · cases ho
      · cases ho
  · exact ⟨hal,fun f hf => hf⟩
theorem dOut_hide {d : Door} {p : Pk} (hd : doorOk d = true) (hi : p.frm.inside = true) (ho : p.to.outside = true) (hm : (dOut d p).1.map.length ≤ 7) (hal : AlD d) :
    AlD (dOut d p).1 ∧ Grows d (dOut d p).1 ∧ ∀ q,(dOut d p).2 = some q → q.kind = 1 → ∃ g ∈ (dOut d p).1.flows,g.ins = p.frm ∧ g.out = p.to ∧ Sl (sOut g.up) q ∧ q.text ≠ [] := by
  cases hok : (openR d p.frm p.to).2.2 with
  | false => rw [dOut_no hok]; exact ⟨hal,.refl _,fun q h => by cases h⟩
  | true =>
    have hx := openR_ok hd hi ho hok
    rw [dOut_yes hok hx.kl] at hm ⊢
    obtain ⟨hal2,hsub⟩ := openR_al (i := p.frm) (o := p.to) hal
    generalize (openR d p.frm p.to).1 = x at *
    generalize (openR d p.frm p.to).2.1 = k at *
    have hgr : Grows d x := fun f hf => ⟨f,hsub f hf,rfl,rfl,List.prefix_rfl⟩
    have hf : x.flows[k]? = some (Flw.at x k) := by simp [Flw.at,List.getD,hx.kl]
    obtain ⟨_,_,hu,_,_⟩ := flow_at hx.ok hf
    unfold outK at hm ⊢
    split
    · split
      · exact ⟨hal2,hgr,fun q h => by cases h⟩
      · exact ⟨hal2,hgr,fun q h hk => by cases h; cases hk⟩
    · rename_i hk2
      rw [if_neg hk2] at hm
      split
      · exact ⟨hal2,hgr,fun q h => by cases h⟩
      · rename_i hp
        rw [if_neg hp] at hm
        obtain ⟨ha,hpre⟩ := put_al (m := x.map) (n := p.at_) (t := p.text) hu (hal2 _ (List.mem_of_getElem? hf)) hm
        have hsg := set_grows (x := x) (m := (put x.map (Flw.at x k).up p.at_ p.text true).1) (g := { Flw.at x k with up := (put x.map (Flw.at x k).up p.at_ p.text true).2.1 }) hf rfl rfl hpre
        refine ⟨fun f hfm => ?_,fun f hfm => ?_,fun q h _ => ?_⟩
        · rcases List.mem_or_eq_of_mem_set hfm with h | rfl
          · exact hal2 f h
          · exact ha
        · exact hsg f (hsub f hfm)
        · obtain ⟨r,hr,rfl⟩ := Option.map_eq_some_iff.1 h
          obtain ⟨h1,h2⟩ := sendOn_sl hr
          exact ⟨_,List.mem_set hx.kl _,hx.flow.1,hx.flow.2,h1,h2⟩
theorem dIn_hide {d : Door} {p : Pk} (hal : AlD d) : AlD (dIn d p).1 ∧ Grows d (dIn d p).1 := by
  unfold dIn
  split
  · exact ⟨hal,.refl _⟩
  · split
    · exact ⟨hal,.refl _⟩
    · split
      · exact ⟨hal,.refl _⟩
      · rename_i f hf
        split
        · split <;> exact ⟨hal,.refl _⟩
        · split
          · exact ⟨hal,.refl _⟩
          · rename_i _ m s _
            refine ⟨fun g hg => ?_,set_grows (m := d.map) (g := { f with down := s }) hf rfl rfl List.prefix_rfl⟩
            rcases List.mem_or_eq_of_mem_set hg with h | rfl
            · exact hal g h
            · exact hal f (List.mem_of_getElem? hf)
theorem port_back {m : List Pair} {e : E} (hm : mapOk m = true) (h : portOf m e ≠ 0) : insideOf m (portOf m e) = some e := by
  unfold portOf at h ⊢
  cases hf : m.find? fun p => decide (p.ins = e) with
  | none => rw [hf] at h; exact absurd rfl h
  | some p =>
    have hp := List.find?_some hf
    simp only [decide_eq_true_eq] at hp
    obtain ⟨i,hi⟩ := List.getElem?_of_mem (List.mem_of_find?_eq_some hf)
    have hl := (List.getElem?_eq_some_iff.1 hi).1
    have hpo : p.port = 10 + (i : Int) := by
      have h2 := hm
      simp only [mapOk,Bool.and_eq_true,decide_eq_true_eq,List.all_eq_true,List.mem_range] at h2
      have h3 := h2.1 i hl
      simp only [okPair,hi,Bool.and_eq_true,decide_eq_true_eq] at h3
      exact h3.1.1
    simp only
    rw [insideOf_at hm,dif_pos (by omega)]
    have : (p.port - 10).toNat = i := by omega
    simp only [this]
    have := List.getElem?_eq_getElem hl
    rw [hi] at this; cases this
    rw [hp]
theorem port_inj {m : List Pair} {a b : E} (hm : mapOk m = true) (h : portOf m a ≠ 0) (he : portOf m a = portOf m b) : a = b := by
  have h1 := port_back hm h
  have h2 := port_back hm (by rw [← he]; exact h)
  rw [he,h2] at h1
  exact (Option.some.inj h1).symm
theorem flow_uniq {d : Door} (h : doorOk d = true) {f g : Flw} (hf : f ∈ d.flows) (hg : g ∈ d.flows) (h1 : f.ins = g.ins) (h2 : f.out = g.out) : f = g := by
  obtain ⟨j,hj⟩ := List.mem_iff_getElem?.1 hf
  obtain ⟨k,hk⟩ := List.mem_iff_getElem?.1 hg
  rcases Nat.lt_trichotomy j k with hlt | rfl | hlt
  · exact absurd ⟨h1,h2⟩ (doorOk_apart h j k f g hlt hj hk)
  · rw [hj] at hk; exact Option.some.inj hk
  · exact absurd ⟨h1.symm,h2.symm⟩ (doorOk_apart h k j g f hlt hk hj)
def HidK (cs : List Conv) (d : Door) : Prop := d.map.length ≤ 7 → AlD d ∧ ∀ c ∈ cs,c.upGot ≠ [] → ∃ f ∈ d.flows,f.ins = c.ins ∧ f.out = c.out ∧ c.upGot <+: sOut f.up
def HidN (_ : List Conv) (d : Door) (p : Pk) : Prop := (p.frm.inside = true ∨ p.frm.door = true → p.to.outside = true) ∧
  (d.map.length ≤ 7 → p.kind = 1 → p.frm.door = true → p.text ≠ [] ∧ ∃ f ∈ d.flows,f.out = p.to ∧ portOf d.map f.ins = p.frm.p ∧ Sl (sOut f.up) p)
theorem out_no {e : E} (h : e.outside = true) : ¬ (e.inside = true ∨ e.door = true) := by
  have := E.outside_iff.1 h
  rintro (h | h)
  · have := E.inside_iff.1 h; omega
  · have := E.door_iff.1 h; omega
theorem behind_pre {T g : B} {q : Pk} (hg : g <+: T) (hq : Sl T q) : (behind g q.at_ q.text).1 <+: T := by
  unfold behind
  split
  · exact hg
  · rename_i h1
    split
    · exact hg
    · rename_i h2
      obtain ⟨y,rfl⟩ := hg
      obtain ⟨h0,z,hz⟩ := hq
      simp only [Bool.or_eq_true,decide_eq_true_eq,not_or] at h1
      simp only
      rw [List.prefix_append_right_inj]
      have hle : q.at_.toNat ≤ g.length := by omega
      rw [List.drop_append_of_le_length hle] at hz
      have := congrArg (List.drop ((g.length : Int) - q.at_).toNat) hz
      rw [List.drop_append_of_le_length (by omega),List.drop_append_of_le_length (by rw [List.length_drop]; omega),List.drop_drop] at this
      rw [List.drop_eq_nil_of_le (show g.length ≤ q.at_.toNat + ((g.length : Int) - q.at_).toNat by omega)] at this
      exact ⟨z,by simpa using this⟩
theorem hide_step : StepI HidK HidN where
  say := fun w c up port n m p hw hk hc hport hs => by
    have hcc := convOk_iff.1 (hw.cv c hc)
    obtain ⟨_,_,h3,_⟩ := say_P (hw.cv c hc) hs
    cases up with
    | true =>
      simp only [cond_true] at h3
      refine ⟨fun _ => by rw [h3.2]; exact hcc.1.2.1,fun _ _ hdr => ?_⟩
      rw [h3.1,] at hdr
      have := not_in_door hdr
      rw [hcc.1.1] at this; cases this
    | false =>
      simp only [cond_false] at h3
      have hno := out_no (e := p.frm) (by rw [h3.1]; exact hcc.1.2.1)
      exact ⟨fun h => absurd h hno,fun _ _ h => absurd (.inr h) hno⟩
  str := fun w p hw hk hs => by
    simp only [stranger,Bool.and_eq_true,Pk.inward] at hs
    have hno := out_no hs.1.2.1
    exact ⟨fun h => absurd h hno,fun _ _ h => absurd (.inr h) hno⟩
  pass := fun w p hw hk hp hn _ => by
    have hext : ∃ y,(dPass w.door p).1.map = w.door.map ++ y := by
      unfold dPass
      split
      · exact (dOut_ext _ _).1
      · split
        · exact ⟨[],by rw [(dIn_ext w.door p).1]; simp⟩
        · exact ⟨[],by simp⟩
    obtain ⟨y,hy⟩ := hext
    have hml : (dPass w.door p).1.map.length ≤ 7 → w.door.map.length ≤ 7 := fun h => by rw [hy,List.length_append] at h; omega
    have hall : (dPass w.door p).1.map.length ≤ 7 → AlD (dPass w.door p).1 ∧ Grows w.door (dPass w.door p).1 ∧ (p.outward = true → ∀ q,(dPass w.door p).2 = some q → q.kind = 1 → ∃ g ∈ (dPass w.door p).1.flows,g.ins = p.frm ∧ g.out = p.to ∧ Sl (sOut g.up) q ∧ q.text ≠ []) := fun hm => by
      have hal := (hk (hml hm)).1
      unfold dPass at hm ⊢
      split
      · rename_i ho
        rw [if_pos ho] at hm
        have ho' := ho
        simp only [Pk.outward,Bool.and_eq_true] at ho'
        obtain ⟨a,b,c⟩ := dOut_hide hw.door ho'.1 ho'.2 hm hal
        exact ⟨a,b,fun _ => c⟩
      · rename_i ho
        split
        · obtain ⟨a,b⟩ := dIn_hide (p := p) hal
          exact ⟨a,b,fun h => absurd h ho⟩
        · exact ⟨hal,.refl _,fun h => absurd h ho⟩
    refine ⟨fun hm => ?_,fun q hq => ?_,fun q _ hq => ⟨hq.1,fun hm h1 h2 => ?_⟩⟩
    · obtain ⟨a,b,_⟩ := hall hm
      refine ⟨a,fun c hc hne => ?_⟩
      obtain ⟨f,hf,h1,h2,h3⟩ := (hk (hml hm)).2 c hc hne
      obtain ⟨g,hg,g1,g2,g3⟩ := b f hf
      exact ⟨g,hg,g1.trans h1,g2.trans h2,h3.trans g3⟩
    · rcases dPass_is hw.door hp hq with ⟨h1,h2,h3,h4,h5⟩ | ⟨h1,h2,_⟩
      · have ho := h1
        simp only [Pk.outward,Bool.and_eq_true] at ho
        refine ⟨fun _ => by rw [h4]; exact ho.2,fun hm hk1 _ => ?_⟩
        obtain ⟨g,hg,g1,g2,g3,g4⟩ := (hall hm).2.2 h1 q hq hk1
        exact ⟨g4,g,hg,by rw [g2,h4],by rw [g1,h2],g3⟩
      · simp only [Pk.inward,Bool.and_eq_true] at h1
        have hno := out_no (e := q.frm) (by rw [h2]; exact h1.1)
        exact ⟨fun h => absurd h hno,fun _ _ h => absurd (.inr h) hno⟩
    · obtain ⟨ht,f,hf,f1,f2,f3⟩ := hq.2 (hml hm) h1 h2
      obtain ⟨g,hg,g1,g2,g3⟩ := (hall hm).2.1 f hf
      refine ⟨ht,g,hg,g2.trans f1, ?_,f3.mono g3 ht⟩
      rw [hy,g1,portOf_app (by have := E.door_iff.1 h2; omega),f2]
  hear := fun w p i b c hw hk hp hn hno hb hc => by
    have hcm := List.mem_of_getElem? hc
    have hcc := convOk_iff.1 (hw.cv c hcm)
    obtain ⟨s1,s2,_,_⟩ := hear_same c b p
    have hbx := hostIx_is hb hc
    refine ⟨fun hm => ?_,fun q hq => ?_,fun q _ h => h⟩
    · obtain ⟨hal,hcs⟩ := hk hm
      refine ⟨hal,fun c2 hc2 hne => ?_⟩
      rcases mem_set_or hc2 with h6 | rfl
      · exact hcs c2 h6 hne
      rw [s1,s2]
      by_cases hsame : (hear c b p).1.upGot = c.upGot
      · rw [hsame] at hne ⊢
        exact hcs c hcm hne
      have hup : b = false ∧ p.kind ≠ 2 ∧ (hear c b p).1.upGot = (behind c.upGot p.at_ p.text).1 := by
        revert hsame
        unfold hear
        cases b <;> simp only [cond_true,cond_false] <;> split
        · split
          · intro h; exact absurd rfl h
          · rename_i h2 ; intro _; exact ⟨trivial,h2,rfl⟩
        · intro h; exact absurd rfl h
        · split <;> (intro h; exact absurd rfl h)
        · intro h; exact absurd rfl h
      obtain ⟨rfl,hk2,hup⟩ := hup
      simp only [cond_false] at hbx
      obtain ⟨ht,f,hf,f1,f2,f3⟩ := hn.2 hm (hp.pk.kd.resolve_right hk2) hbx.2.1
      have hpn : portOf w.door.map f.ins ≠ 0 := by rw [f2]; have := E.door_iff.1 hbx.2.1; omega
      have hfi : f.ins = c.ins := port_inj (doorOk_iff.1 hw.door).1 hpn (by rw [f2,hbx.2.2])
      refine ⟨f,hf,hfi,by rw [f1,hbx.1], ?_⟩
      rw [hup]
      refine behind_pre ?_ f3
      by_cases hz : c.upGot = []
      · rw [hz]; exact List.nil_prefix
      · obtain ⟨g,hg,g1,g2,g3⟩ := hcs c hcm hz
        obtain rfl := flow_uniq hw.door hf hg (by rw [hfi,g1]) (by rw [f1,hbx.1,g2])
        exact g3
    · obtain ⟨_,hq2,hq3,hq4,hq5⟩ := hear_ans (hw.cv c hcm) hp.pk hq
      refine ⟨fun h => ?_,fun _ h1 => by omega⟩
      cases b with
      | true =>
        simp only [cond_true] at hq5
        rw [hq4,hq5.1]; exact hcc.1.2.1
      | false =>
        simp only [cond_false] at hq5
        exact absurd h (out_no (by rw [hq3,hq5.1]; exact hcc.1.2.1))
theorem law_hides {cs : List Conv} {es : List Ev} {w : World} (h : worldPlay cs es = some w) :
    (w.door.map.length ≤ 7 → ∀ c ∈ w.convs,∀ e ∈ textNames c.upGot,e.inside = false) ∧ ∀ p ∈ w.nets,p.frm.inside = true ∨ p.frm.door = true → p.to.outside = true := by
  have hs := play_si hide_step (fun w0 h0 _ => by
    obtain ⟨_,h1,h2,_⟩ := worldNew_is h0
    exact ⟨(by rw [h2]; intro f hf; cases hf),fun c hc hne => absurd (newConvs_got h1 c hc).1 hne⟩) h
  refine ⟨fun hm c hc e he => ?_,fun p hp => (hs.n p hp).1⟩
  obtain ⟨hal,hcs⟩ := hs.k hm
  obtain ⟨ha,x,y,hxy⟩ := textNames_occ he
  have hne : c.upGot ≠ [] := by rw [hxy]; simp [name]
  obtain ⟨f,hf,_,_,z,hz⟩ := hcs c hc hne
  cases hi : e.inside with
  | false => rfl
  | true =>
    refine absurd ?_ ((hal f hf).clean e x (y ++ z) ha hi)
    rw [← hz,hxy]
    simp
end Go.Proofs.YtblndjmhjaijjaaGreatDoor.M
namespace Go.Proofs.YtblndjmhjaijjaaGreatDoor.W
open Go Go.RowKit Go.Proofs Go.Proofs.YtblndjmhjaijjaaGreatDoor.VL Go.Proofs.YtblndjmhjaijjaaGreatDoor.M
attribute [local congr] optK_congr guardK_congr condK_congr runT_congr runD_congr wpI_congr CallV_congr LoopI_congr pureK_congr effK_congr calK_congr stepV_congr doV_congr exN_congr exB_congr retF_congr retQ_congr gK_congr condW_congr ldK_congr stoK_congr
attribute [local go_sem] argL_cons argL_nil argH_nil argH_cons chH_getH wpI_seq wpI_reg wpI_drw wpI_ret cond_k condW_t condW_f wpI_skip wpI_block wpI_exit wpI_loop exN_n exN_r exN_e exB_n exB_r exB_h exB_m runT_k kT_e runT_nil runD_k kD_e runD_nil step_u step_k gK_t gK_f do_mv do_bino bo_add bo_sub bo_mul bo_subu bo_quo bo_rem bo_xor bo_eql bo_neq bo_lss bo_leq bo_gtr bo_geq bo_cat bo_eqs bo_nes do_pick do_call do_cal calK_f do_box do_alloc do_ldk ldK_s do_stok stoK_s do_fad do_nilc do_not do_neg do_len do_lens do_ext do_eqs do_beq do_isn do_cvi do_sls do_idx do_mn do_mx do_build do_mkf do_s2b do_b2s do_slv do_iad do_bsl do_mks do_app ev_t ev_c app_some app_none
attribute [local go_sem] List.nil_append List.cons_append List.append_nil getL_hit getL_miss getH_nil getH_hit getH_miss nm_eq ne_eq Nat.reduceEqDiff not_false_eq_true Nat.reduceAdd Nat.add_zero Nat.zero_add if_true if_false ite_true ite_false pureK_s effK_s optK_s gdV_t gdV_f gdV_s pick_b ge_iff_le gt_iff_lt cond_true cond_false fresh_k cells_agg cells_int cells_bool cells_str cells_own cells_sl cells_nils ld_pv ld_pa ld_ip ldVar_t ldVar_f ldArr_t ldArr_f ldRow_t ldRow_f ldA_s ld1_s fad_pv fad_pa fad_ip nilc_pv nilc_pa nilc_ip not_b neg_i cvi_i ext_t retF_n retF_r
attribute [local go_sem] resV_k rvs_nil rvs_t rvs_c fstO_s consO_s resK_s resL_1 resL_2 resL_3 resL_4  Option.some.injEq List.map_cons List.map_nil List.all_cons List.all_nil Bool.and_true Bool.and_self Bool.not_true Bool.not_false Option.map_some Option.map_none sls_s slsG_s loV_n loV_i hiV_n hiV_i idx_s mn_i mx_i s2b_s b2s_s bytO_s bytes_nil bytes_cons conB_s slv_sl slv_own slv_nils slvG_s slvN_s slvO_s iad_sl iadG_map take_map drop_map List.length_map iad_own iad_view iadO_a iadW_a mks_i rowO_nils rowO_sl rowO_own rowA_a eq_self appG_nils appG_own appO_a guardP_T mapA_s bld_nil mkf_nil bldF_e fill_nil fill_cons mkf_e lens_s len_nils len_sl len_own len_view isn_nile isn_erre List.getElem?_cons_zero List.getElem?_cons_succ List.length_cons List.length_nil decide_true decide_false Int.toNat_natCast Int.cast_ofNat_Int Int.reduceLT Int.reduceLE Int.reduceEq Int.reduceAdd Int.reduceSub Int.reduceMul Int.reduceNeg Int.reduceToNat List.getD_cons_zero List.getD_cons_succ not_true_eq_false not_false_eq_true Bool.false_eq_true Bool.true_eq_false reduceCtorEq
attribute [local go_sem] E.row Pc.row Pair.row Part.row Strm.row Flw.row Pk.row Door.row Conv.row World.row Ev.row rdV E.eta Pc.eta Pair.eta Part.eta Strm.eta Pk.eta Flw.eta Conv.eta Door.eta World.eta Ev.eta
attribute [local go_sem] sub_ok st_pv st_pa stVar_v stArr_a Nat.le_refl List.drop_zero List.drop_succ_cons List.take_succ_cons List.take_zero setR Nat.reduceLeDiff
attribute [local go_sem] wk_bot wk2_bot wk1_bot wk_undef wk_tup_e wk2_agg_e wk_agg_e wk1_fn_e wk2_fn_e wk_fn_e wkl_nil wkl_cons wkh_var_e wkh_arr_e wkh_fresh_e wkh_dead_v wkh_dead_a wkh_dead_d wk0_undef wk0_int wk0_bool wk0_str wk0_nils wk0_nils_sl wk0_nilp wk0_nile wk0_erre wk0_sl wk0_iptr wk0_own wk0_view wk0_pv wk0_pa fzA_a fzW_a fzP_v wk0_own_sl wk0_view_sl wk0_pv_iptr WkS_nil WkS_cons WkN_nil WkN_cons nonB_nil nonB_cons getN_nil getN_hit getN_miss pinOk_0 pinOk_s and_true true_and and_self
attribute [local go_sem] bot_int one_int unt_int clo_int bot_bool one_bool unt_bool clo_bool bot_str one_str unt_str clo_str bot_nils one_nils unt_nils clo_nils bot_nilp one_nilp unt_nilp clo_nilp bot_nile one_nile unt_nile clo_nile bot_erre one_erre unt_erre clo_erre bot_raw one_raw unt_raw clo_raw bot_sl one_sl unt_sl clo_sl bot_own one_own unt_own clo_own bot_view one_view unt_view clo_view bot_pv one_pv unt_pv clo_pv bot_pa one_pa unt_pa clo_pa bot_iptr one_iptr unt_iptr clo_iptr unt_agg unt_fn one_fn
attribute [local go_sem] rn_tup rn_agg rn2_agg rn_fn rn2_fn rnfn1 rn_bot rn2_bot rn1_bot rn0_int rn0_bool rn0_str rn0_nils rn0_nilp rn0_nile rn0_erre rn0_sl rn0_iptr rn0_own rn0_view rn0_pv rn0_pa hrn_var hrn_arr hrn_dead outU_nil outU_cons deads_nil deads_cons bk_ge bk_lt nsF_0 nsF_s chH_0 chH_s chH_n newN_e andB_s eqR_nil eqR_i eqR_b eqR_s mapX_f mapX_t eqs_a beq_f beq_t live_arr live_var nsl_nil nsl_cons Nat.reduceMul Nat.reduceLT Nat.zero_le Nat.not_lt_zero
attribute [local go_sem] mV lD lA fD bN eX oP nP sR i0 s0
theorem names_len (t : B) : (textNames t).length ≤ t.length := by
  unfold textNames textPieces namesOf
  rw [List.length_map]
  refine Nat.le_trans (List.length_filter_le _ _) ?_
  split
  · exact pieces_len t
  · simp
def ic14 : IC := sR [oP 1 (.box 33 (.t 0)),oP 2 (.mv (.c (.bool false)))] (sR [fD 3 1 1,fD 4 0 3,lD 5 1 4,oP 6 (.len (.t 5)),oP 7 (.bin .leq (.t 6) (.c (.int .i64 7))),mV 2 7] .ret)
theorem dg14 : digF Tryz.prog Tryz.f14 = some (ic14,[(.t 2)]) := by kernel_rfl
theorem en14 : entr Tryz.prog 14 = true := by kernel_rfl
theorem c14 (w : M.World) : FnR Tryz.prog G 14 [.agg [.sl 10 (w.convs.map Conv.row),.sl 3 (w.door.map.map Pair.row),.sl 8 (w.door.flows.map Flw.row),.sl 7 (w.nets.map Pk.row)]] (.bool (decide ((w.door.map.length : Int) ≤ 7))) := by
  refine FnR.mkF Tryz.func14 en14 dg14 Tryz.ntmps14 (by simp) ?_
  simp only [ic14,go_sem]
def ic5 : IC := sR [oP 2 (.mv (.c (.bool false)))] (.seq (sR [mV 14 0,oP 15 (.len (.t 14)),oP 16 (.bin .gtr (.t 15) (.c (.int .i64 1048576)))] (.cond (.t 16) (sR [oP 2 (.mv (.c (.bool true)))] .ret) .skip)) (sR [mV 18 0,oP 19 (.call 9 [.t 18]),mV 17 19,eX 20 17 0,eX 21 17 1,mV 3 20,mV 4 21] (sR [mV 23 3,mV 24 4,oP 25 (.call 10 [.t 23,.t 24]),mV 22 25,eX 26 22 0,eX 27 22 1,oP 5 (.alloc 33 [.nils,.nils,.nils,.nils]),nP (.sto 4 (.t 5) (.t 26)),mV 6 27] (sR [mV 29 3,mV 30 4,oP 31 (.call 11 [.t 29,.t 30]),mV 28 31,eX 32 28 0,eX 33 28 1,oP 7 (.alloc 33 [.nils,.nils,.nils,.nils]),nP (.sto 4 (.t 7) (.t 32)),mV 8 33] (.seq (sR [mV 34 6,mV 35 8,oP 36 (.beq true (.t 34) (.t 35)),mV 37 36,⟨some 38,some (37,false),.ld 4 true (.t 5)⟩,⟨some 39,some (37,false),.ld 4 true (.t 7)⟩,⟨some 40,some (37,false),.call 12 [.t 38,.t 39]⟩,⟨some 41,some (37,false),.un .not (.t 40)⟩,oP 42 (.pick (.t 37) (.c (.bool true)) (.t 41)),mV 43 42,⟨some 44,some (43,false),.mv (.t 6)⟩,⟨some 45,some (43,false),.un .not (.t 44)⟩,oP 46 (.pick (.t 43) (.c (.bool true)) (.t 45)),mV 47 46,⟨some 48,some (47,false),.ld 4 true (.t 5)⟩,⟨some 49,some (47,false),.call 14 [.t 48]⟩,⟨some 50,some (47,false),.un .not (.t 49)⟩,oP 51 (.pick (.t 47) (.c (.bool true)) (.t 50))] (.cond (.t 51) (sR [mV 52 6,mV 53 8,oP 54 (.beq false (.t 52) (.t 53)),mV 55 54,⟨some 56,some (55,true),.ld 4 true (.t 5)⟩,⟨some 57,some (55,true),.ld 4 true (.t 7)⟩,⟨some 58,some (55,true),.call 12 [.t 56,.t 57]⟩,oP 59 (.pick (.t 55) (.t 58) (.c (.bool false))),mV 2 59] .ret) .skip)) (.seq (sR [oP 9 (.mv (.c i0))] (.block 0 (.loop (.seq (sR [mV 60 9,fD 61 0 5,lD 62 1 61,oP 63 (.len (.t 62)),bN 64 .lss 60 63] (.cond (.t 64) .skip (.exit 0))) (.seq (.block 1 (sR [fD 67 0 5,lD 68 1 67,mV 69 9,oP 70 (.iad 10 (.t 68) (.t 69)),fD 71 8 70,lD 72 1 71,oP 73 (.call 15 [.t 72]),mV 10 73] (sR [oP 11 (.mv (.c i0))] (.block 2 (.loop (.seq (sR [mV 74 11,mV 75 10,oP 76 (.len (.t 75)),bN 77 .lss 74 76] (.cond (.t 77) .skip (.exit 2))) (.seq (.block 3 (sR [mV 80 10,mV 81 11,oP 82 (.iad 2 (.t 80) (.t 81)),lA 83 2 82,oP 84 (.call 16 [.t 83])] (.cond (.t 84) (sR [oP 2 (.mv (.c (.bool false)))] .ret) .skip))) (.reg [mV 78 11,oP 79 (.bin .add (.t 78) (.c (.int .i64 1))),mV 11 79])))))))) (.reg [mV 65 9,oP 66 (.bin .add (.t 65) (.c (.int .i64 1))),mV 9 66])))))) (.seq (sR [oP 12 (.mv (.c i0))] (.block 4 (.loop (.seq (sR [mV 85 12,fD 86 3 5,lD 87 1 86,oP 88 (.len (.t 87)),bN 89 .lss 85 88] (.cond (.t 89) .skip (.exit 4))) (.seq (.block 5 (sR [fD 92 3 5,lD 93 1 92,mV 94 12,oP 95 (.iad 7 (.t 93) (.t 94)),lA 96 7 95,oP 13 (.alloc 40 [i0,i0,i0,i0,i0,i0,s0]),nP (.sto 7 (.t 13) (.t 96))] (sR [fD 97 1 13,lA 98 2 97,oP 99 (.call 16 [.t 98]),mV 100 99,⟨some 101,some (100,true),.fad 3 (.t 13)⟩,⟨some 102,some (100,true),.ld 2 true (.t 101)⟩,⟨some 103,some (100,true),.call 17 [.t 102]⟩,⟨some 104,some (100,true),.un .not (.t 103)⟩,oP 105 (.pick (.t 100) (.t 104) (.c (.bool false))),mV 106 105,⟨some 107,some (106,false),.fad 1 (.t 13)⟩,⟨some 108,some (106,false),.ld 2 true (.t 107)⟩,⟨some 109,some (106,false),.call 13 [.t 108]⟩,⟨some 110,some (106,false),.mv (.t 109)⟩,⟨some 111,some (110,true),.fad 3 (.t 13)⟩,⟨some 112,some (110,true),.ld 2 true (.t 111)⟩,⟨some 113,some (110,true),.call 17 [.t 112]⟩,⟨some 114,some (110,true),.un .not (.t 113)⟩,⟨some 115,some (106,false),.pick (.t 110) (.t 114) (.c (.bool false))⟩,oP 116 (.pick (.t 106) (.c (.bool true)) (.t 115))] (.cond (.t 116) (sR [oP 2 (.mv (.c (.bool false)))] .ret) .skip)))) (.reg [mV 90 12,oP 91 (.bin .add (.t 90) (.c (.int .i64 1))),mV 12 91])))))) (sR [oP 2 (.mv (.c (.bool true)))] .ret))))))))
theorem dg5 : digF Tryz.prog Tryz.f5 = some (ic5,[(.t 2)]) := by kernel_rfl
theorem en5 : entr Tryz.prog 5 = true := by kernel_rfl
theorem c5 (code : B) : FnR Tryz.prog G 5 [.sl 1 (code.map byR)] (.bool true) := by
  refine FnR.mkF Tryz.func5 en5 dg5 Tryz.ntmps5 (by simp) ?_
  simp only [ic5,go_sem]
  by_cases hc : (1048576 : Int) < code.length
  · simp only [eq_true hc,go_sem]
  simp only [eq_false hc,go_sem]
  refine callO (c9 code (by omega)) [] 19 0 (by simp only [go_sem]; first | done | simp) (by simp) (by rintro _ _ ⟨_,_,_,_,_,rfl⟩; simp) (by intro i hi; omega) ?_
  rintro _ _ ⟨cs,es,⟨⟨hc1,hc2⟩,hcB⟩,⟨he1,heB⟩,rfl,rfl⟩
  simp only [go_sem]
  have fi := c10 cs es (by omega) (fun c h => by have := hcB c h; omega) (by omega) (fun e h => by have := heB e h; omega)
  with_reducible repeat' (first | refine br ?_ ?_ <;> intro h e <;> (try simp only [e,go_sem]) <;> clear e | rw [i64w (by omega)] | (first | refine sk ?_ | refine sd ?_) <;> try simp only [go_sem] | (first | refine cr (fi ..) ?_) <;> try simp only [go_sem] | fail)
  refine callO (c11 cs es (by omega) (fun c h => by have := hcB c h; omega) (by omega) (fun e h => by have := heB e h; omega)) [] 31 4 (by simp only [go_sem]; first | done | simp) (by simp) (by rintro _ _ (⟨w,_,rfl,rfl⟩ | ⟨_,rfl,rfl⟩) <;> simp) (by intro i hi; rcases (show i = 0 ∨ i = 1 ∨ i = 2 ∨ i = 3 by omega) with rfl | rfl | rfl | rfl <;> simp only [go_sem]) ?_
  rintro _ _ (⟨w,hw,rfl,rfl⟩ | ⟨hw,rfl,rfl⟩)
  · rw [hw]
    have hwi := play_wi hw
    obtain ⟨law1,law2⟩ := law_hides hw
    have hcl := hwi.cl
    have hnl := hwi.nl
    have hct : ∀ c ∈ w.convs,(textNames c.upGot).length ≤ 40 ∧ c.upGot.length ≤ 40 := fun c hcm => by
      have := (convOk_B (hwi.cv c hcm)).upGot
      have := names_len c.upGot
      omega
    simp only [go_sem,Option.isSome_some,Option.getD_some,btt]
    with_reducible repeat' (first | refine br ?_ ?_ <;> intro h e <;> (try simp only [e,go_sem,btt]) <;> clear e | rw [i64w (by omega)] | (first | refine sk ?_ | refine sd ?_) <;> try simp only [go_sem,btt] | fail)
    refine callF (c12 w (wi_wb hwi)) [103100,103101,103102,103103] false (by simp only [go_sem]; first | done | simp [E.row,Pc.row,Pair.row,Part.row,Flw.row,Pk.row,Conv.row]) (by simp only [List.mem_cons,List.not_mem_nil,or_false]; rintro c (rfl | rfl | rfl | rfl) <;> simp only [go_sem]) rfl (.inr rfl) ?_
    simp only [go_sem]
    have fp := c14 w
    by_cases hm : (w.door.map.length : Int) ≤ 7
    · rw [decide_eq_true hm] at fp
      have law1 := law1 (by omega)
      with_reducible repeat' (first | refine br ?_ ?_ <;> intro h e <;> (try simp only [e,go_sem]) <;> clear e | rw [i64w (by omega)] | (first | refine sk ?_ | refine sd ?_) <;> try simp only [go_sem] | (first | refine cr (fp ..) ?_) <;> try simp only [go_sem] | fail)
      refine loopN (fun i : Nat => ⟨getL [(5,.pv 1005 0),(9,.int .i64 (i : Int))],getH [(1005,.var 33 [.sl 10 (w.convs.map Conv.row),.sl 3 (w.door.map.map Pair.row),.sl 8 (w.door.flows.map Flw.row),.sl 7 (w.nets.map Pk.row)])]⟩) (fun i => w.convs.length - i) (fun i => i ≤ w.convs.length) 0 (leQ []) (Nat.zero_le _) ?_
      intro i hi
      simp only [go_sem]
      by_cases h : (i : Int) < w.convs.length
      · have hil : i < w.convs.length := by omega
        have hg : w.convs.getD i default = w.convs[i] := by simp [List.getD,hil]
        have law1 := law1 _ (List.getElem_mem hil)
        have hct := hct _ (List.getElem_mem hil)
        simp only [eq_true h,go_sem]
        generalize w.convs[i] = c at *
        have ft := c15 c.upGot (by omega)
        generalize textNames c.upGot = ns at *
        with_reducible repeat' (first | refine br ?_ ?_ <;> intro h e <;> (try simp only [e,go_sem,hg]) <;> clear e | rw [i64w (by omega)] | (first | refine sk ?_ | refine sd ?_) <;> try simp only [go_sem,hg] | (first | refine cr (ft ..) ?_) <;> try simp only [go_sem,hg] | fail)
        refine loopN (fun k : Nat => ⟨getL [(5,.pv 1005 0),(9,.int .i64 (i : Int)),(10,.sl 2 (ns.map E.row)),(11,.int .i64 (k : Int))],getH [(1005,.var 33 [.sl 10 (w.convs.map Conv.row),.sl 3 (w.door.map.map Pair.row),.sl 8 (w.door.flows.map Flw.row),.sl 7 (w.nets.map Pk.row)])]⟩) (fun k => ns.length - k) (fun k => k ≤ ns.length) 0 (leQ []) (Nat.zero_le _) ?_
        intro k hk
        simp only [go_sem]
        by_cases h2 : (k : Int) < ns.length
        · have hkl : k < ns.length := by omega
          have hgk : ns.getD k default = ns[k] := by simp [List.getD,hkl]
          have law1 := law1 _ (List.getElem_mem hkl)
          simp only [eq_true h2,go_sem]
          generalize ns[k] = e at *
          have fe := c16 e.a e.p
          rw [E.eta,law1] at fe
          with_reducible repeat' (first | refine br ?_ ?_ <;> intro h e <;> (try simp only [e,go_sem,hgk]) <;> clear e | rw [i64w (by omega)] | (first | refine sk ?_ | refine sd ?_) <;> try simp only [go_sem,hgk] | (first | refine cr (fe ..) ?_) <;> try simp only [go_sem,hgk] | fail)
          exact ⟨k + 1,by omega,by omega,(leQ [])⟩
        · simp only [eq_false h2,go_sem]
          with_reducible repeat' (first | refine br ?_ ?_ <;> intro h e <;> (try simp only [e,go_sem]) <;> clear e | rw [i64w (by omega)] | (first | refine sk ?_ | refine sd ?_) <;> try simp only [go_sem] | fail)
          exact ⟨i + 1,by omega,by omega,(leQ [])⟩
      · simp only [eq_false h,go_sem]
        with_reducible repeat' (first | refine br ?_ ?_ <;> intro h e <;> (try simp only [e,go_sem]) <;> clear e | rw [i64w (by omega)] | (first | refine sk ?_ | refine sd ?_) <;> try simp only [go_sem] | fail)
        refine loopN (fun i : Nat => ⟨getL [(5,.pv 1005 0),(12,.int .i64 (i : Int))],getH [(1005,.var 33 [.sl 10 (w.convs.map Conv.row),.sl 3 (w.door.map.map Pair.row),.sl 8 (w.door.flows.map Flw.row),.sl 7 (w.nets.map Pk.row)])]⟩) (fun i => w.nets.length - i) (fun i => i ≤ w.nets.length) 0 (leQ []) (Nat.zero_le _) ?_
        intro i hi
        simp only [go_sem]
        by_cases h : (i : Int) < w.nets.length
        · have hil : i < w.nets.length := by omega
          have hg : w.nets.getD i default = w.nets[i] := by simp [List.getD,hil]
          have law2 := law2 _ (List.getElem_mem hil)
          simp only [eq_true h,go_sem]
          generalize w.nets[i] = p at *
          have f1 := c16 p.frm.a p.frm.p
          have f2 := c13 p.frm.a p.frm.p
          have f3 := c17 p.to.a p.to.p
          rw [E.eta] at f1 f2 f3
          have law3 : p.frm.inside = true → p.to.outside = true := fun h => law2 (.inl h)
          have law4 : p.frm.door = true → p.to.outside = true := fun h => law2 (.inr h)
          generalize p.frm.inside = b1 at *
          generalize p.frm.door = b2 at *
          generalize p.to.outside = b3 at *
          with_reducible repeat' (first | refine br ?_ ?_ <;> intro h e <;> (try simp only [e,go_sem,hg]) <;> clear e | rw [i64w (by omega)] | (first | refine sk ?_ | refine sd ?_) <;> try simp only [go_sem,hg] | (first | refine cr (f1 ..) ?_ | refine cr (f2 ..) ?_ | refine cr (f3 ..) ?_) <;> try simp only [go_sem,hg] | fail)
          all_goals first
            | exact ⟨i + 1,by omega,by omega,(leQ [])⟩
            | exact absurd (law3 (by assumption)) (by simpa using h)
            | exact absurd (law4 (by assumption)) (by simpa using h)
        · simp only [eq_false h,go_sem]
    · rw [decide_eq_false hm] at fp
      with_reducible repeat' (first | refine br ?_ ?_ <;> intro h e <;> (try simp only [e,go_sem,btt]) <;> clear e | rw [i64w (by omega)] | (first | refine sk ?_ | refine sd ?_) <;> try simp only [go_sem,btt] | (first | refine cr (fp ..) ?_) <;> try simp only [go_sem,btt] | fail)
      refine callF (c12 w (wi_wb hwi)) [103100,103101,103102,103103] false (by simp only [go_sem]; first | done | simp [E.row,Pc.row,Pair.row,Part.row,Flw.row,Pk.row,Conv.row]) (by simp only [List.mem_cons,List.not_mem_nil,or_false]; rintro c (rfl | rfl | rfl | rfl) <;> simp only [go_sem]) rfl (.inr rfl) ?_
      simp only [go_sem]
  · rw [hw]
    simp only [go_sem,Option.isSome_none,Option.getD_none,zero_e,List.map_nil,bff]
    with_reducible repeat' (first | refine br ?_ ?_ <;> intro h e <;> (try simp only [e,go_sem,bff]) <;> clear e | rw [i64w (by omega)] | (first | refine sk ?_ | refine sd ?_) <;> try simp only [go_sem,bff] | fail)
    refine callF (c12 .zero zeroWB) [] true (by simp only [go_sem,zero_e,List.map_nil]; first | done | simp) (by simp) rfl (.inl rfl) ?_
    simp only [go_sem,bff]
    with_reducible repeat' (first | refine br ?_ ?_ <;> intro h e <;> (try simp only [e,go_sem,bff]) <;> clear e | rw [i64w (by omega)] | (first | refine sk ?_ | refine sd ?_) <;> try simp only [go_sem,bff] | fail)
    all_goals first
      | (refine callF (c12 .zero zeroWB) [] true (by simp only [go_sem,zero_e,List.map_nil]; first | done | simp) (by simp) rfl (.inl rfl) ?_
         simp only [go_sem,bff]; done)
      | skip
end Go.Proofs.YtblndjmhjaijjaaGreatDoor.W
namespace Go.Proofs.YtblndjmhjaijjaaGreatDoor.fnWorldHides
open Go Go.ChangeShapes Go.WideShapes Go.ChangeAt Go.RowKit Go.Proofs.YtblndjmhjaijjaaGreatDoor.W
theorem walk (v0 : Value) (W : World) (hs : W.ShapedOpen Tryz.prog) (hL : laidMetH Tryz.prog Rows.fnWorldHidesRow.laid W) (hv0 : ∃ code : M.B,VL.Den W noO noρ noH (.sl 1 (code.map M.byR)) v0) :
    Calls Tryz.prog 5 #[v0] W fun e W' => e = .returned (.bool true) ∧ Below W.heap.size W W' := by
  obtain ⟨code,hdv0⟩ := hv0
  have := Go.Proofs.YtblndjmhjaijjaaGreatDoor.W.FnR.calls (c5 code) (us := [v0]) (gOk rfl hL hs) ⟨rfl,fun j a b ha hb => by
    match j,ha,hb with
    | 0,ha,hb => cases ha; cases hb; exact hdv0
    | j + 1,ha,hb => simp at ha⟩
  exact this
set_option maxRecDepth 100000 in
theorem contract (H : Type) (enc : TypeId × Value → H) (W : World) (base : Nat) (args : Array Value) (ds gs : List (DataW H)) (before : List MemPlace)
    (hval : ∀ (j : Nat) t v,Tryz.f5.params[j]? = some t → args[j]? = some v → Value.okWide Tryz.prog W .any base t v)
    (hW : DataW.Whole enc Tryz.prog Tryz.f5.params.toList Rows.fnWorldHidesSpec.vars false W args.toList ds gs before) (hL : laidMetH Tryz.prog Rows.fnWorldHidesRow.laid W) (hs : W.ShapedOpen Tryz.prog) :
    Calls Tryz.prog 5 args W fun e W' => ∃ v,e = .returned v ∧ Rows.fnWorldHidesSpec.post enc Tryz.prog Tryz.f5 false true false false W args v W' := by
  have hW' := hW
  obtain ⟨p,q,hA0,hV,rfl,hfz,hnd⟩ := hW
  have hA : DataW.TrodAll enc Tryz.prog W 0 (fun _ => true) true Tryz.f5.params.toList args.toList ds p := hA0
  rw [Tryz.params5] at hA hval
  obtain ⟨v0,r0s,d0,d0s,p0,q0,hargs0,rfl,rfl,h0,r0⟩ := trodAll_cons hA
  obtain ⟨e1,e2,e3⟩ := trodAll_nil r0
  subst e1 e2 e3
  obtain rfl : args = #[v0] := by cases args; simp_all
  obtain ⟨rfl,rfl⟩ := trodVars_none hV
  obtain ⟨a0,len0,cap0,hv0⟩ := okWide_slice Tryz.underlying22 (hval 0 22 v0 rfl rfl)
  have k0 := h0
  have lt0 : ∀ x ∈ p0,x.block < W.heap.size := by obtain ⟨m,hm⟩ := k0; exact DataW.trod_lt m _ _ _ hm
  have hc0 := open_code h0 ⟨a0,len0,cap0,hv0⟩
  clear hA0
  refine (walk v0 W hs hL hc0).mono fun e W' ⟨he,bel⟩ => ?_
  subst he
  exact ⟨_,rfl,_,_,_,[],_,[],hW',trodAll_mk1 (shut_bool Tryz.underlying4 _),(trodAll_cons_mk (Below.trod laidOut (by kernel_rfl) (of_decide_eq_true (by kernel_rfl)) k0 bel lt0) trodAll_mk0),rfl,bel.frame _,fun h => by cases h⟩
theorem door_met (os : Os) (args : Array Value) : laidMetH Tryz.prog Rows.fnWorldHidesRow.laid ((World.doorLaid Tryz.prog 400 os).forCall (fun _ _ => 0) ⟨#[],args,[]⟩).memory :=
  laidMetH_of_parts3 (fuel := 8) (laidMet_of_run' 8 (by kernel_rfl) (by kernel_rfl)) (by kernel_rfl) (by kernel_rfl)
theorem reads (os : Os) {H : Type} (enc : TypeId × Value → H) : ∃ places,DataW.whole enc Tryz.prog ((World.doorLaid Tryz.prog 400 os).forCall (fun _ _ => 0) ⟨#[],#[.slice none 0 0],[]⟩).memory Tryz.f5.params.toList Rows.fnWorldHidesSpec.vars false #[Value.slice none 0 0].toList 8 = some ([.nil],[],places) :=
  ⟨[],by kernel_rfl⟩
set_option maxRecDepth 100000 in
theorem lifted (os : Os) (started : os.Started) (H : Type) (enc : TypeId × Value → H) (F : Stop.Interp) :
    ReturnsInHanded {} Tryz.checked os 5 .any ((OpenSpec.ofChange Rows.fnWorldHidesSpec).preRow enc Tryz.prog Tryz.f5 Rows.fnWorldHidesRow.domain false Rows.fnWorldHidesRow.laid) (((OpenSpec.ofChange Rows.fnWorldHidesSpec).at F).post enc Tryz.prog Tryz.f5 false true false false) := by
  obtain ⟨places,hx⟩ := reads os enc
  refine returnsInHanded_of_row (C := Tryz.checked) (s := OpenSpec.ofChange Rows.fnWorldHidesSpec) own started (by kernel_rfl) Tryz.func5
    (witness_row_atRef (enc := enc) (C := Tryz.checked) false (World.doorLaid Tryz.prog 400 os) #[.slice none 0 0] rfl (by kernel_rfl) (by kernel_rfl) (by kernel_rfl)
      (OpenSpec.preRow_of_cond 8 hx (by kernel_rfl) (fun k hk => by cases hk) (by kernel_rfl) (door_met os _))) ?_
  intro W base args ds gs before hval hW _ _ _ hL hs _
  exact contract H enc W base args ds gs before hval hW hL hs
theorem said : Rows.FnWorldHidesSaid :=
  OpenClaim.holds_of_cond 5 Tryz.f5 rfl rfl rfl rfl rfl rfl rfl ⟨rfl,rfl,rfl,rfl,rfl⟩ rfl rfl rfl rfl rfl (by kernel_rfl) Tryz.func5 (by kernel_rfl)
    (of_decide_eq_true (by kernel_rfl)) (by unfold Func.isWrapper; first | (rw [if_pos (by decide +kernel)]; kernel_rfl) | (rw [if_neg (by decide +kernel)]; exact ⟨rfl,rfl⟩))
    (fun os started H enc _ F => by rw [OpenClaim.pre_eq_preRow]; exact lifted os started H enc F)
theorem plain (f : FuncId) (fn : Func) (hf : Tryz.pinned.checked.prog.funcNamed "loop.example/ostiary/laws.FnWorldHides" = some f) (hfn : Tryz.pinned.checked.prog.funcs[f]? = some fn) :
    true = Tryz.pinned.checked.prog.looks [] ∧ ∀ (j : Nat) t,fn.params[j]? = some t → Tryz.pinned.checked.prog.wantsStandIn t = false := by
  obtain rfl : f = 5 := Option.some.inj ((show Tryz.prog.funcNamed "loop.example/ostiary/laws.FnWorldHides" = some 5 by kernel_rfl).symm.trans hf) |>.symm
  obtain rfl : fn = Tryz.f5 := (Option.some.inj (Tryz.func5.symm.trans hfn)).symm
  refine ⟨by kernel_rfl,fun j t ht => ?_⟩
  rw [Tryz.params5] at ht
  obtain rfl : t = 22 := by simpa using Array.mem_of_getElem? ht
  exact (show Tryz.prog.wantsStandIn 22 = false by kernel_rfl)
theorem card : Rows.FnWorldHidesCardSaid :=
  Claim7.holds_tied_plain_at .later [] _ _ _ _ said (fun _ h => by cases h) (by kernel_rfl) (fun _ h => by cases h) fnWorldHides_row_tie rfl ⟨rfl,rfl⟩ (by kernel_rfl) rfl plain (by kernel_rfl)
end Go.Proofs.YtblndjmhjaijjaaGreatDoor.fnWorldHides
