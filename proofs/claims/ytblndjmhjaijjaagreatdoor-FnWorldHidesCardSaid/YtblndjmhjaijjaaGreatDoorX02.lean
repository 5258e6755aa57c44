/- Part 2 of the proof: the walk over values, the plain model, contracts of the functions of the program. -/
import Derived.Test.YtblndjmhjaijjaaGreatDoorX01
import Derived.IntWalk
import Derived.Laws.AppendOwn
import Derived.Test.YtblndjmhjaijjaaGreatDoorChecked
import Derived.Shelf.LaysC
import Derived.Shelf.LaysM
import Derived.Shelf.Strings.Builder1
import Derived.Shelf.Small.Wraps
import Derived.Shelf.Strconv.Itoa3
import Derived.Shelf.Strconv.Clone
import Derived.Shelf.Strings.Cut
import Derived.Test.YtblndjmhjaijjaaGreatDoorProg
import Derived.Shelf.Strconv.AtoiAll
set_option linter.all false
namespace Go.Proofs.YtblndjmhjaijjaaGreatDoor.VL
open Go Go.RowKit
def FzV (F : Nat → Prop) (h : Nat → Hs) : V → V → Prop
  | .own c k,.sl sz rows => (∃ ty,h c = .arr ty sz rows) ∧ rows.length = k ∧ F c
  | .view c o k,.sl sz rows => (∃ ty all,h c = .arr ty sz all ∧ rows = (all.drop o).take k) ∧ rows.length = k ∧ F c
  | .pv c o,.iptr row o' => o' = o ∧ (∃ ty,h c = .var ty row) ∧ row.all V.closed = true ∧ F c
  | _,_ => False
def NoN (f : Nat → Nat) (h' : Nat → Hs) (c : Nat) : Prop := ∀ c',(h' c').live = true → f c' ≠ c
def Wk0 (F : Nat → Prop) (f : Nat → Nat) (h h' : Nat → Hs) : V → V → Prop
  | _,.undef => True
  | .own c k,.own c' k' => f c' = c ∧ k' = k ∧ h' c' ≠ .fresh
  | .view c o k,.view c' o' k' => f c' = c ∧ o' = o ∧ k' = k ∧ h' c' ≠ .fresh
  | .pv c o,.pv c' o' => f c' = c ∧ o' = o ∧ h' c' ≠ .fresh
  | .pa c i o,.pa c' i' o' => f c' = c ∧ i' = i ∧ o' = o ∧ h' c' ≠ .fresh
  | .nils,.sl _ [] => True
  | .own c k,.sl sz rows => FzV F h (.own c k) (.sl sz rows)
  | .view c o k,.sl sz rows => FzV F h (.view c o k) (.sl sz rows)
  | .pv c o,.iptr row o' => FzV F h (.pv c o) (.iptr row o')
  | .own ..,_ | .view ..,_ | .pv ..,_ | .pa ..,_ => False
  | v,v' => v' = v
def Wk1 (F : Nat → Prop) (f : Nat → Nat) (h h' : Nat → Hs) : V → V → Prop
  | .fn g caps,.fn g' caps' => g' = g ∧ caps'.length = caps.length ∧ ∀ (j : Nat) v v',caps[j]? = some v → caps'[j]? = some v' → Wk0 F f h h' v v'
  | v,v' => Wk0 F f h h' v v'
def Wk2 (F : Nat → Prop) (f : Nat → Nat) (h h' : Nat → Hs) : V → V → Prop
  | .agg fs,.agg fs' => fs'.length = fs.length ∧ ∀ (j : Nat) v v',fs[j]? = some v → fs'[j]? = some v' → Wk1 F f h h' v v'
  | v,v' => Wk1 F f h h' v v'
def Wk (F : Nat → Prop) (f : Nat → Nat) (h h' : Nat → Hs) : V → V → Prop
  | .tup fs,.tup fs' => fs'.length = fs.length ∧ ∀ (j : Nat) v v',fs[j]? = some v → fs'[j]? = some v' → Wk2 F f h h' v v'
  | v,v' => Wk2 F f h h' v v'
def WkH (F : Nat → Prop) (f : Nat → Nat) (h h' : Nat → Hs) : Hs → Hs → Prop
  | _,.fresh => True
  | a,.dead => a ≠ .fresh
  | .var ty row,.var ty' row' => ty' = ty ∧ row'.length = row.length ∧ ∀ (j : Nat) v v',row[j]? = some v → row'[j]? = some v' → Wk1 F f h h' v v'
  | .arr ty sz rows,.arr ty' sz' rows' => ty' = ty ∧ sz' = sz ∧ rows' = rows
  | _,_ => False
section
variable {w : World} {O O' : Nat → Prop} {ρ : Nat → Loc} {h h' : Nat → Hs} {f : Nat → Nat} {F : Nat → Prop}
theorem Den0.wk (hH : ∀ c,WkH F f h h' (h (f c)) (h' c)) (himm : ∀ v u,Imm w O v u → Imm w O' v u) (hfz : ∀ v v' u,FzV F h v v' → Den0 w O ρ h v u → Imm w O' v' u) {v v' : V} {u : Value} (hw : Wk0 F f h h' v v') (hd : Den0 w O ρ h v u) : Den0 w O' (fun c => ρ (f c)) h' v' u := by
  have gen : v' = v → v.closed = true ∨ (∃ g caps,v = .fn g caps) → Den0 w O' (fun c => ρ (f c)) h' v' u := fun e hc => by
    subst e
    rcases hc with hc | ⟨g,caps,rfl⟩
    · exact (himm _ _ (imm_of_den1 hc (by cases v' <;> first | exact hd | (simp [V.closed] at hc)))).den0
    · exact himm _ _ hd
  cases v with
  | own c k =>
    cases v' <;> simp only [Wk0] at hw
    case undef => trivial
    case sl sz rows => exact (hfz _ _ _ hw hd).den0
    case own c' k' =>
      obtain ⟨rfl,rfl,hne⟩ := hw
      have h1 := hd.shape
      have hc := hH c'
      simp only [Den0] at hd ⊢
      cases e1 : h' c' with
      | fresh => exact hne e1
      | dead => exact h1
      | var ty row => exact h1
      | arr ty sz rows =>
        rw [e1] at hc
        cases e2 : h (f c') <;> rw [e2] at hc hd <;> simp only [WkH] at hc
        exact hd
  | view c o k =>
    cases v' <;> simp only [Wk0] at hw
    case undef => trivial
    case sl sz rows => exact (hfz _ _ _ hw hd).den0
    case view c' o' k' =>
      obtain ⟨rfl,rfl,rfl,hne⟩ := hw
      have h1 := hd.shape
      have hc := hH c'
      simp only [Den0] at hd ⊢
      cases e1 : h' c' with
      | fresh => exact hne e1
      | dead => exact h1
      | var ty row => exact h1
      | arr ty sz rows =>
        rw [e1] at hc
        cases e2 : h (f c') <;> rw [e2] at hc hd <;> simp only [WkH] at hc
        obtain ⟨rfl,rfl,rfl⟩ := hc
        exact hd
  | pv c o =>
    cases v' <;> simp only [Wk0] at hw
    case undef => trivial
    case iptr row o' => exact (hfz _ _ _ hw hd).den0
    case pv c' o' =>
      obtain ⟨rfl,rfl,hne⟩ := hw
      have h1 := hd.shape
      have hc := hH c'
      simp only [Den0] at hd ⊢
      cases e1 : h' c' with
      | fresh => exact hne e1
      | dead => exact h1
      | arr ty sz row => exact h1
      | var ty rows =>
        rw [e1] at hc
        cases e2 : h (f c') <;> rw [e2] at hc hd <;> simp only [WkH] at hc
        exact hd
  | pa c i o =>
    cases v' <;> simp only [Wk0] at hw
    case undef => trivial
    case pa c' i' o' =>
      obtain ⟨rfl,rfl,rfl,hne⟩ := hw
      have h1 := hd.shape
      have hc := hH c'
      simp only [Den0] at hd ⊢
      cases e1 : h' c' with
      | fresh => exact hne e1
      | dead => exact h1
      | var ty row => exact h1
      | arr ty sz rows =>
        rw [e1] at hc
        cases e2 : h (f c') <;> rw [e2] at hc hd <;> simp only [WkH] at hc
        obtain ⟨rfl,rfl,rfl⟩ := hc
        exact hd
  | nils =>
    cases v' <;> simp only [Wk0,reduceCtorEq] at hw
    case undef => trivial
    case nils => exact gen rfl (.inl rfl)
    case sl sz rows =>
      cases rows with
      | nil =>
        have := inv_nils hd
        subst this
        exact Imm.esl sz none 0
      | cons r rs => simp at hw
  | undef =>
    cases v' <;> simp only [Wk0,reduceCtorEq] at hw
    trivial
  | fn g caps =>
    cases v' <;> simp only [Wk0,reduceCtorEq] at hw
    case undef => trivial
    case fn => exact gen hw (.inr ⟨g,caps,rfl⟩)
  | agg fs =>
    exact absurd hd (fun hd => by cases hd)
  | tup fs =>
    exact absurd hd (fun hd => by cases hd)
  | _ =>
    by_cases hu : v' = .undef
    · subst hu; trivial
    · refine gen ?_ (.inl rfl)
      cases v' <;> first | exact absurd rfl hu | exact hw | (rename_i sz rows; cases rows <;> exact hw)
theorem Den1.wk (hH : ∀ c,WkH F f h h' (h (f c)) (h' c)) (himm : ∀ v u,Imm w O v u → Imm w O' v u) (hfz : ∀ v v' u,FzV F h v v' → Den0 w O ρ h v u → Imm w O' v' u) {v v' : V} {u : Value} (hw : Wk1 F f h h' v v') (hd : Den1 w O ρ h v u) : Den1 w O' (fun c => ρ (f c)) h' v' u := by
  by_cases hf : ∃ g caps,v = .fn g caps
  · obtain ⟨g,caps,rfl⟩ := hf
    obtain ⟨vs,rfl,hl,hd⟩ := hd
    cases v' <;> simp only [Wk1,Wk0,reduceCtorEq] at hw
    case undef => trivial
    case fn g' caps' =>
      obtain ⟨rfl,hl',hw⟩ := hw
      refine ⟨vs,rfl,by omega,fun j v x hv hx => ?_⟩
      have hj : j < caps.length := by rw [← hl']; exact (List.getElem?_eq_some_iff.1 hv).1
      exact (hd j caps[j] x (List.getElem?_eq_getElem hj) hx).wk hH himm hfz (hw j _ _ (List.getElem?_eq_getElem hj) hv)
  · have hw0 : Wk0 F f h h' v v' := by cases v <;> first | exact hw | exact absurd ⟨_,_,rfl⟩ hf
    have hd0 : Den0 w O ρ h v u := by cases v <;> first | exact hd | exact absurd ⟨_,_,rfl⟩ hf
    have := hd0.wk hH himm hfz hw0
    by_cases hf' : ∃ g caps,v' = .fn g caps
    · obtain ⟨g,caps,rfl⟩ := hf'
      exfalso
      cases v <;> simp only [Wk0,reduceCtorEq] at hw0
      all_goals exact hf ⟨_,_,hw0.symm⟩
    · cases v' <;> first | exact this | exact absurd ⟨_,_,rfl⟩ hf'
theorem Den2.wk (hH : ∀ c,WkH F f h h' (h (f c)) (h' c)) (himm : ∀ v u,Imm w O v u → Imm w O' v u) (hfz : ∀ v v' u,FzV F h v v' → Den0 w O ρ h v u → Imm w O' v' u) {v v' : V} {u : Value} (hw : Wk2 F f h h' v v') (hd : Den2 w O ρ h v u) : Den2 w O' (fun c => ρ (f c)) h' v' u := by
  by_cases hf : ∃ fs,v = .agg fs
  · obtain ⟨fs,rfl⟩ := hf
    obtain ⟨vs,rfl,hl,hd⟩ := hd
    cases v' <;> simp only [Wk2,Wk1,Wk0,reduceCtorEq] at hw
    case undef => trivial
    case agg fs' =>
      obtain ⟨hl',hw⟩ := hw
      refine ⟨vs,rfl,by omega,fun j v x hv hx => ?_⟩
      have hj : j < fs.length := by rw [← hl']; exact (List.getElem?_eq_some_iff.1 hv).1
      exact (hd j fs[j] x (List.getElem?_eq_getElem hj) hx).wk hH himm hfz (hw j _ _ (List.getElem?_eq_getElem hj) hv)
  · have hw0 : Wk1 F f h h' v v' := by cases v <;> first | exact hw | exact absurd ⟨_,rfl⟩ hf
    have hd0 : Den1 w O ρ h v u := by cases v <;> first | exact hd | exact absurd ⟨_,rfl⟩ hf
    have := hd0.wk hH himm hfz hw0
    by_cases hf' : ∃ fs,v' = .agg fs
    · obtain ⟨fs,rfl⟩ := hf'
      exfalso
      cases this
    · cases v' <;> first | exact this | exact absurd ⟨_,rfl⟩ hf'
theorem Den.wk (hH : ∀ c,WkH F f h h' (h (f c)) (h' c)) (himm : ∀ v u,Imm w O v u → Imm w O' v u) (hfz : ∀ v v' u,FzV F h v v' → Den0 w O ρ h v u → Imm w O' v' u) {v v' : V} {u : Value} (hw : Wk F f h h' v v') (hd : Den w O ρ h v u) : Den w O' (fun c => ρ (f c)) h' v' u := by
  by_cases hf : ∃ fs,v = .tup fs
  · obtain ⟨fs,rfl⟩ := hf
    obtain ⟨vs,rfl,hl,hd⟩ := hd
    cases v' <;> simp only [Wk,Wk2,Wk1,Wk0,reduceCtorEq] at hw
    case undef => trivial
    case tup fs' =>
      obtain ⟨hl',hw⟩ := hw
      refine ⟨vs,rfl,by omega,fun j v x hv hx => ?_⟩
      have hj : j < fs.length := by rw [← hl']; exact (List.getElem?_eq_some_iff.1 hv).1
      exact (hd j fs[j] x (List.getElem?_eq_getElem hj) hx).wk hH himm hfz (hw j _ _ (List.getElem?_eq_getElem hj) hv)
  · have hw0 : Wk2 F f h h' v v' := by cases v <;> first | exact hw | exact absurd ⟨_,rfl⟩ hf
    have hd0 : Den2 w O ρ h v u := by cases v <;> first | exact hd | exact absurd ⟨_,rfl⟩ hf
    have := hd0.wk hH himm hfz hw0
    by_cases hf' : ∃ fs,v' = .tup fs
    · obtain ⟨fs,rfl⟩ := hf'
      exfalso
      cases this
    · cases v' <;> first | exact this | exact absurd ⟨_,rfl⟩ hf'
theorem WkH.live {a b : Hs} (hw : WkH F f h h' a b) (hl : b.live = true) : a.live = true := by
  cases b <;> first | (cases hl; done) | (cases a <;> first | rfl | exact hw.elim)
theorem cell_in {b off : Nat} {cs : Array Value} {ty : TypeId} {j : Nat} {u : Value} (hb : w.heap[b]? = some (.cells cs ty (0,0))) (hu : cs[off + j]? = some u) : w.cell? ⟨b,off + j,none⟩ = some u := by
  simp only [World.cell?,hb]
  simpa using hu
theorem fz_imm {B : Base} (r : RelH B ρ h w) (hno : ∀ c,(h c).live = true → (ρ c).nil = false → F c → ¬ O' (ρ c).blk)
    (himm : ∀ v u,Imm w (owns B ρ h) v u → Imm w O' v u) : ∀ v v' u,FzV F h v v' → Den0 w (owns B ρ h) ρ h v u → Imm w O' v' u := by
  intro v v' u hf hd
  have arr : ∀ c ty sz (all : List (List V)) (o k : Nat) rows A cap,h c = .arr ty sz all → rows = (all.drop o).take k → rows.length = k → F c → u = .slice A k cap → k ≤ cap →
      (0 < k → o + k ≤ all.length ∧ (ρ c).nil = false ∧ A = some ⟨(ρ c).blk,(ρ c).off + o * sz,none⟩) → Imm w O' (.sl sz rows) u := fun c ty sz all o k rows A cap hc hrows hk hz hu hkc hp => by
    subst hu
    cases k with
    | zero =>
      have : rows = [] := List.eq_nil_of_length_eq_zero hk
      subst this
      exact .esl sz A cap
    | succ k =>
      obtain ⟨h1,hn,rfl⟩ := hp (by omega)
      have hl : (h c).live = true := by rw [hc]; rfl
      have hch := r.chunk c
      rw [hc] at hch
      rcases hch with ⟨hch,_⟩ | ⟨_,cs,k2,k3,k4,k5,k6⟩
      · rw [hn] at hch; cases hch
      have hget : ∀ (i : Nat) rr,rows[i]? = some rr → all[o + i]? = some rr := fun i rr hi => by
        subst hrows
        rw [List.getElem?_take] at hi
        split at hi
        · rwa [List.getElem?_drop] at hi
        · cases hi
      rw [← hk]
      refine .sl sz rows (ρ c).blk ((ρ c).off + o * sz) cap (fun i j => cs.getD ((ρ c).off + ((o + i) * sz + j)) undef) (hno c hl hn hz) (r.blk_lt hl hn) (by omega) (fun x hx => ?_) (by omega) (fun i rr j v hi hj => ?_) (fun i rr j v hi hj => ?_)
      · obtain ⟨i,hi⟩ := List.getElem?_of_mem hx
        exact k5 x (List.mem_of_getElem? (hget i x hi))
      · obtain ⟨u,a1,a2⟩ := k6 _ _ j v (hget i rr hi) hj
        have e : (ρ c).off + o * sz + (i * sz + j) = (ρ c).off + ((o + i) * sz + j) := by rw [Nat.add_mul]; omega
        rw [e,cell_in k2 a1]
        simp [Array.getD_eq_getD_getElem?,a1]
      · obtain ⟨u,a1,a2⟩ := k6 _ _ j v (hget i rr hi) hj
        have : cs.getD ((ρ c).off + ((o + i) * sz + j)) undef = u := by simp [Array.getD_eq_getD_getElem?,a1]
        rw [this]
        exact himm _ _ a2
  cases v <;> cases v' <;> simp only [FzV] at hf
  case own.sl c k sz rows =>
    obtain ⟨⟨ty,hc⟩,hk,hz⟩ := hf
    simp only [Den0,hc] at hd
    have hch := r.chunk c
    rw [hc] at hch
    refine arr c ty sz rows 0 k rows (ρ c).addr (ρ c).cap hc (by simp [← hk]) hk hz hd ?_ (fun h0 => ?_)
    · rcases hch with ⟨_,e,e2⟩ | ⟨_,cs,_,_,k4,_⟩
      · rw [e] at hk; simp at hk; omega
      · omega
    · rcases hch with ⟨_,e,e2⟩ | ⟨hn,cs,_,_,k4,_⟩
      · rw [e] at hk; simp at hk; omega
      · exact ⟨by omega,hn,by simp [Loc.addr,hn]⟩
  case view.sl c o k sz rows =>
    obtain ⟨⟨ty,all,hc,hrows⟩,hk,hz⟩ := hf
    simp only [Den0,hc] at hd
    obtain ⟨A,cap,hu,hkc,hp⟩ := hd
    exact arr c ty sz all o k rows A cap hc hrows hk hz hu hkc hp
  case pv.iptr c o row o' =>
    obtain ⟨rfl,⟨ty,hc⟩,hcl,hz⟩ := hf
    simp only [Den0,hc] at hd
    subst hd
    have hch := r.chunk c
    rw [hc] at hch
    obtain ⟨hn,cs,k2,k3,k4⟩ := hch
    have hl : (h c).live = true := by rw [hc]; rfl
    refine .iptr row _ (ρ c).blk (ρ c).off (fun j => cs.getD ((ρ c).off + j) undef) (hno c hl hn hz) (r.blk_lt hl hn) (fun j v hv => ?_) (fun j v hv => ?_)
    · obtain ⟨u,a1,a2,a3⟩ := k4 j v hv
      rw [cell_in k2 a1]
      simp [Array.getD_eq_getD_getElem?,a1]
    · obtain ⟨u,a1,a2,a3⟩ := k4 j v hv
      have : cs.getD ((ρ c).off + j) undef = u := by simp [Array.getD_eq_getD_getElem?,a1]
      rw [this]
      exact himm _ _ (imm_of_den1 (List.all_eq_true.1 hcl v (List.mem_of_getElem? hv)) a3)
theorem RelH.ren {B : Base} (r : RelH B ρ h w) (hext : ∀ b,B.ext b → b < B.W.heap.size ∧ ¬ B.own b) (hH : ∀ c,WkH (NoN f h') f h h' (h (f c)) (h' c)) (hinj : ∀ x y,(h' x).live = true → (h' y).live = true → f x = f y → x = y)
    (hpin : ∀ i,i < B.pin → f i = i ∧ h' i ≠ .fresh) :
    RelH B (fun c => ρ (f c)) h' w ∧ (∀ v u,Imm w (owns B ρ h) v u → Imm w (owns B (fun c => ρ (f c)) h') v u) ∧ (∀ v v' u,FzV (NoN f h') h v v' → Den0 w (owns B ρ h) ρ h v u → Imm w (owns B (fun c => ρ (f c)) h') v' u) := by
  have himm : ∀ v u,Imm w (owns B ρ h) v u → Imm w (owns B (fun c => ρ (f c)) h') v u := fun v u hi => by
    refine hi.mono (Nat.le_refl _) (fun b _ _ => rfl) (fun b _ ho => ?_)
    rcases ho with ho | ⟨c,h1,h2,h3⟩
    · exact .inl ho
    · exact .inr ⟨f c,(hH c).live h1,h2,h3⟩
  have hfz := fz_imm (F := NoN f h') (O' := owns B (fun c => ρ (f c)) h') r (fun c hl hn hz ho => by
    rcases ho with ho | ⟨c',h1,h2,h3⟩
    · obtain ⟨e1,e2⟩ := hext _ ho
      rcases r.home c hl hn with k | k
      · exact e2 k
      · omega
    · exact hz c' h1 (r.sep _ _ ((hH c').live h1) hl h2 hn h3)) himm
  refine ⟨⟨r.os,r.tape,r.output,r.grow,r.keep,fun c => ?_,fun c hl hn => r.home (f c) ((hH c).live hl) hn,fun x y hx hy nx ny he => hinj x y hx hy (r.sep _ _ ((hH x).live hx) ((hH y).live hy) nx ny he),fun i hi => ?_⟩,himm,hfz⟩
  · have hc := r.chunk (f c)
    have hw := hH c
    cases e1 : h' c with
    | fresh => trivial
    | dead => trivial
    | var ty row =>
      rw [e1] at hw
      cases e2 : h (f c) <;> rw [e2] at hw hc <;> simp only [WkH] at hw
      rename_i ty0 row0
      obtain ⟨rfl,hl,hw⟩ := hw
      obtain ⟨k1,cs,k2,k3,k4⟩ := hc
      refine ⟨k1,cs,k2,by omega,fun j v hv => ?_⟩
      have hj : j < row0.length := by rw [← hl]; exact (List.getElem?_eq_some_iff.1 hv).1
      obtain ⟨u,a1,a2,a3⟩ := k4 j row0[j] (List.getElem?_eq_getElem hj)
      exact ⟨u,a1,a2,a3.wk hH himm hfz (hw j _ _ (List.getElem?_eq_getElem hj) hv)⟩
    | arr ty sz rows =>
      rw [e1] at hw
      cases e2 : h (f c) <;> rw [e2] at hw hc <;> simp only [WkH] at hw
      obtain ⟨rfl,rfl,rfl⟩ := hw
      rcases hc with hc | ⟨k1,cs,k2,k3,k4,k5,k6⟩
      · exact .inl hc
      · exact .inr ⟨k1,cs,k2,k3,k4,k5,fun i rr j v hr hv => let ⟨u,a1,a2⟩ := k6 i rr j v hr hv; ⟨u,a1,himm _ _ a2⟩⟩
  · obtain ⟨hfi,hne⟩ := hpin i hi
    have hw := hH i
    rw [hfi] at hw
    rcases r.pin i hi with hp | ⟨hp,hq⟩
    · rw [hp] at hw
      cases e1 : h' i <;> rw [e1] at hw <;> simp only [WkH] at hw
      · exact absurd e1 hne
      · exact .inl rfl
    · cases e1 : h' i with
      | fresh => exact absurd e1 hne
      | dead => exact .inl rfl
      | var ty row => exact .inr ⟨rfl,by simp only [hfi]; exact hq⟩
      | arr ty sz rows => exact .inr ⟨rfl,by simp only [hfi]; exact hq⟩
end
structure LeR (f : Nat → Nat) (pin : Nat) (s s' : St) : Prop where
  t : ∀ d,Wk (NoN f s'.h) f s.h s'.h (s.t d) (s'.t d)
  h : ∀ c,WkH (NoN f s'.h) f s.h s'.h (s.h (f c)) (s'.h c)
  inj : ∀ x y,(s'.h x).live = true → (s'.h y).live = true → f x = f y → x = y
  pin : ∀ i,i < pin → f i = i ∧ s'.h i ≠ .fresh
def chH (cs : List Hs) (i : Nat) : Hs := (cs[i]?).getD .fresh
def blocks (ρ : Nat → Loc) (h : Nat → Hs) (b : Nat) : Prop := ∃ c,(h c).live = true ∧ (ρ c).nil = false ∧ (ρ c).blk = b
structure FnP (P : Program) (G : Glob) (f : FuncId) (pin : Nat) (cs : List Hs) (args : List V) (post : V → List Hs → Prop) : Prop where
  en : entr P f = true
  ne : ∃ r o,post r o
  run : ∀ W ρ ext us,G.g W → (∀ b,ext b → b < W.heap.size) → (∀ b,ext b → ¬ blocks ρ (chH cs) b) → (∀ b,blocks ρ (chH cs) b → G.ng ≤ b) →
    RelH ⟨W,blocks ρ (chH cs),ext,pin,ρ⟩ ρ (chH cs) W → DenArgs W (owns ⟨W,blocks ρ (chH cs),ext,pin,ρ⟩ ρ (chH cs)) ρ (chH cs) args us →
    Calls P f us.toArray W fun e W' => ∃ u res out ρ',e = .returned u ∧ post res out ∧ RelH ⟨W,blocks ρ (chH cs),ext,pin,ρ⟩ ρ' (chH out) W' ∧
      Den W' (owns ⟨W,blocks ρ (chH cs),ext,pin,ρ⟩ ρ' (chH out)) ρ' (chH out) res u
inductive RV where
  | t (n : Nat)
  | cell (n sz : Nat) (agg : Bool)
  deriving Inhabited
def digRV (P : Program) (n : Nat) : ResultVar → Option RV
  | .tmp k => if k < n then some (.t k) else none
  | .cell k t => do if k < n then some (.cell k (← szOf P t) (← isRowT P t)) else none
def rvV (st : St) : RV → Option V
  | .t n => some (st.t n)
  | .cell n sz agg => (loadF st.h sz agg (st.t n)).map Prod.fst
def V.untup : V → Bool
  | .tup _ => false
  | _ => true
def resL : List V → Option V
  | [v] => some v
  | vs => if vs.all V.untup = true then some (.tup vs) else none
def resV (st : St) (rs : List RV) : Option V := (rs.mapM (rvV st)).bind resL
def retQ (rs : List RV) (pin : Nat) (post : V → List Hs → Prop) : Ex → St → Prop
  | .exit _,_ => False
  | _,st => ∃ v res out f,resV st rs = some v ∧ post res out ∧ Wk (NoN f (chH out)) f st.h (chH out) v res ∧ (∀ c,WkH (NoN f (chH out)) f st.h (chH out) (st.h (f c)) (chH out c)) ∧
      (∀ x y,(chH out x).live = true → (chH out y).live = true → f x = f y → x = y) ∧ ∀ i,i < pin → f i = i ∧ chH out i ≠ .fresh
def argL : Nat → List V → List (Nat × V)
  | _,[] => []
  | k,v :: vs => (k,v) :: argL (k + 1) vs
theorem getL_argL : ∀ (vs : List V) (k d : Nat),getL (argL k vs) (k + d) = (vs[d]?).getD .undef
  | [],k,d => rfl
  | v :: vs,k,0 => by simp [argL,getL]
  | v :: vs,k,d + 1 => by
    have := getL_argL vs (k + 1) d
    rw [show k + (d + 1) = k + 1 + d by omega]
    simp only [argL,getL]
    rw [if_neg (by omega),this]
    simp
section
variable {P : Program} {G : Glob}
theorem LeR.le {f : Nat → Nat} {pin : Nat} {s s' : St} (l : LeR f pin s s') : s.le G pin s' := fun n B ρ a w hp hB r => by
  obtain ⟨hm,himm,hfz⟩ := r.mem.ren (fun b hb => ⟨hB.lt b hb,hB.no b hb⟩) l.h l.inj (by rw [hp]; exact l.pin)
  exact ⟨fun c => ρ (f c),hm,r.size,r.nod,fun d => (r.tmps d).wk l.h himm hfz (l.t d)⟩
theorem load_val {B : Base} {ρ : Nat → Loc} {h : Nat → Hs} {w : World} (r : RelH B ρ h w) {p : V} {u0 : Value} (hd0 : Den w (owns B ρ h) ρ h p u0) {t : TypeId} {sz : Nat} {agg : Bool} (hs : szOf P t = some sz)
    (ha : isRowT P t = some agg) {v : V} {tc : List Nat} (hl : loadF h sz agg p = some (v,tc)) :
    ∃ u,(do loadVar t (← asAddr u0) : Sem Value).run P w = .ok u w ∧ Den w (owns B ρ h) ρ h v u := by
  obtain ⟨A,b,hu,hv⟩ := load_cells r hd0 hl
  obtain ⟨i,hi,hsz⟩ := Option.map_eq_some_iff.1 hs
  obtain ⟨d,hd,hagg⟩ := Option.map_eq_some_iff.1 ha
  subst hu
  cases agg with
  | true =>
    obtain ⟨fs,us,rfl,hfl,hul,hr,hden⟩ := hv
    refine ⟨.agg us.toArray, ?_,⟨us,rfl,by omega,hden⟩⟩
    have := run_loadVar_mid (P := P) w A b t us d hr hd (by cases d <;> first | rfl | (simp at hagg)) (by simp [hi,hsz,hul])
    simp only [asAddr,Sem.run_bind,this,Result.andThen_ok,Sem.run_pure]
  | false =>
    obtain ⟨y',hc,hden⟩ := hv
    refine ⟨y', ?_, ?_⟩
    · have hagg' : (isAgg t).run P w = .ok false w := by
        unfold isAgg
        rw [Sem.run_bind,run_underlying hd w]
        cases d <;> simp_all
      simp [asAddr,loadVar,hagg',hc]
    · have : v.one = true ∨ v = .undef := by
        cases v <;> first | exact .inl rfl | exact .inr rfl | (cases hden; done)
      exact hden.up this
def rvS (tmps : Array Value) (x : ResultVar) : Sem Value := match x with
  | .tmp t => pure (tmps.getD t undef)
  | .cell k t => do loadVar t (← asAddr (tmps.getD k undef))
theorem rv_run {n : Nat} {B : Base} {ρ : Nat → Loc} {st : St} {a : Act} {w : World} (r : RelR n B ρ st a w) {x : ResultVar} {y : RV} (hx : digRV P n x = some y) {v : V} (hv : rvV st y = some v) :
    ∃ u,(rvS a.tmps x).run P w = .ok u w ∧ Den w (owns B ρ st.h) ρ st.h v u := by
  cases x with
  | tmp k =>
    simp only [digRV] at hx
    split at hx
    · cases hx
      simp only [rvV,Option.some.injEq] at hv
      subst hv
      exact ⟨_,rfl,r.tmps k⟩
    · cases hx
  | cell k t =>
    simp only [digRV] at hx
    split at hx
    case isFalse => cases hx
    simp only [Option.bind_eq_bind,Option.bind_eq_some_iff,Option.some.injEq] at hx
    obtain ⟨sz,hs,agg,ha,rfl⟩ := hx
    simp only [rvV,Option.map_eq_some_iff] at hv
    obtain ⟨⟨v0,tc⟩,hl,rfl⟩ := hv
    exact load_val r.mem (r.tmps k) hs ha hl
theorem rvs_run {n : Nat} {B : Base} {ρ : Nat → Loc} {st : St} {a : Act} {w : World} (r : RelR n B ρ st a w) : ∀ (xs : List ResultVar) (ys : List RV) (vs : List V),xs.mapM (digRV P n) = some ys → ys.mapM (rvV st) = some vs →
    ∃ us,(xs.mapM (rvS a.tmps)).run P w = .ok us w ∧ us.length = vs.length ∧ ∀ (j : Nat) v u,vs[j]? = some v → us[j]? = some u → Den w (owns B ρ st.h) ρ st.h v u
  | [],ys,vs,h1,h2 => by
    simp at h1; subst h1; simp at h2; subst h2
    exact ⟨[],rfl,rfl,fun j v u hv => by simp at hv⟩
  | x :: xs,ys,vs,h1,h2 => by
    simp only [List.mapM_cons,Option.bind_eq_bind,Option.bind_eq_some_iff,Option.pure_def,Option.some.injEq] at h1
    obtain ⟨y,hy,ys',hys,rfl⟩ := h1
    simp only [List.mapM_cons,Option.bind_eq_bind,Option.bind_eq_some_iff,Option.pure_def,Option.some.injEq] at h2
    obtain ⟨v,hv,vs',hvs,rfl⟩ := h2
    obtain ⟨u,hu,hd⟩ := rv_run r hy hv
    obtain ⟨us,hus,hl,hds⟩ := rvs_run r xs ys' vs' hys hvs
    refine ⟨u :: us, ?_,by simp [hl],fun j v' u' hv' hu' => ?_⟩
    · simp only [List.mapM_cons,Sem.run_bind,hu,Result.andThen_ok,hus,Sem.run_pure]
    · cases j with
      | zero => simp at hv' hu'; subst hv' hu'; exact hd
      | succ j => exact hds j v' u' (by simpa using hv') (by simpa using hu')
theorem res_run {n : Nat} {B : Base} {ρ : Nat → Loc} {st : St} {a : Act} {w : World} (r : RelR n B ρ st a w) {fn : Func} {rs : List RV} (hrs : fn.results.toList.mapM (digRV P n) = some rs) {v : V} (hv : resV st rs = some v) :
    ∃ u,(results fn a.tmps).run P w = .ok u w ∧ Den w (owns B ρ st.h) ρ st.h v u := by
  obtain ⟨vs,hm,hv⟩ := Option.bind_eq_some_iff.1 hv
  obtain ⟨us,hrun,hl,hd⟩ := rvs_run r _ _ _ hrs hm
  have hres : (results fn a.tmps).run P w = .ok (if h : us.toArray.size = 1 then us.toArray[0] else .tuple us.toArray) w := by
    unfold results
    rw [Array.mapM_eq_mapM_toList,map_eq_pure_bind]
    simp only [Sem.run_bind,Sem.run_pure]
    erw [hrun]
    rfl
  unfold resL at hv
  split at hv
  · rename_i v0
    simp only [Option.some.injEq] at hv
    subst hv
    obtain ⟨u0,rfl⟩ : ∃ u0,us = [u0] := by
      match us,hl with
      | [u0],_ => exact ⟨u0,rfl⟩
    exact ⟨_,hres,hd 0 _ _ rfl rfl⟩
  · rename_i hne
    split at hv
    case isFalse => cases hv
    rename_i hall
    simp only [Option.some.injEq] at hv
    subst hv
    have h1 : ¬ us.toArray.size = 1 := fun h1 => by
      have : vs.length = 1 := by rw [← hl]; simpa using h1
      match vs,this with
      | [v0],_ => exact hne v0 rfl
    rw [dif_neg h1] at hres
    refine ⟨_,hres,us,rfl,hl,fun j v u hv hu => ?_⟩
    have h2 := hd j v u hv hu
    have h3 : v.untup = true := List.all_eq_true.1 hall v (List.mem_of_getElem? hv)
    cases v <;> first | exact h2 | cases h3
end
section
variable {P : Program} {G : Glob}
theorem FnP.intro {f : FuncId} {fn : Func} {c : Code} {ic : IC} {rs : List RV} {pin : Nat} {cs : List Hs} {args : List V} {post : V → List Hs → Prop}
    (hf : P.funcs[f]? = some fn) (hb : fn.body = some c) (hn : entr P f = true) (hd : digC P fn.ntmps c = some ic) (hrs : fn.results.toList.mapM (digRV P fn.ntmps) = some rs)
    (ha : args.length ≤ fn.ntmps) (hne : ∃ r o,post r o) (h : wpI P G pin ic (retQ rs pin post) ⟨getL (argL 0 args),chH cs⟩) : FnP P G f pin cs args post where
  en := hn
  ne := hne
  run := fun W ρ ext us hg hlt hno hng r hargs => by
    let B : Base := ⟨W,blocks ρ (chH cs),ext,pin,ρ⟩
    have hB : BaseOk G B := ⟨hlt,hno,hg,hng⟩
    obtain ⟨hul,hden⟩ := hargs
    refine calls_of_wp hf hb ?_
    have hr0 : RelR fn.ntmps B ρ ⟨getL (argL 0 args),chH cs⟩ { tmps := us.toArray ++ Array.replicate (fn.ntmps - us.toArray.size) undef,defers := [] } W := by
      refine ⟨r,by simp; omega,rfl,fun d => ?_⟩
      have hget : getL (argL 0 args) d = (args[d]?).getD .undef := by simpa using getL_argL args 0 d
      show Den W _ ρ (chH cs) (getL (argL 0 args) d) _
      rw [hget]
      cases hv : args[d]? with
      | none => trivial
      | some v =>
        have hd : d < args.length := (List.getElem?_eq_some_iff.1 hv).1
        have hdu : d < us.length := by omega
        have : (us.toArray ++ Array.replicate (fn.ntmps - us.toArray.size) undef).getD d undef = us[d] := by
          simp [Array.getD,hdu,Array.getElem_append_left]
          omega
        show Den W _ ρ (chH cs) v ((us.toArray ++ Array.replicate (fn.ntmps - us.toArray.size) undef).getD d undef)
        rw [this]
        exact hden d v us[d] hv (List.getElem?_eq_getElem hdu)
    refine wp_mono (wpI_sound (B := B) (pin := pin) rfl hB c ic hd _ ρ _ _ W hr0 h) fun e a w hq => ?_
    obtain ⟨e',he,st,ρ',r',hq⟩ := hq
    have key : (∃ v res out f,resV st rs = some v ∧ post res out ∧ Wk (NoN f (chH out)) f st.h (chH out) v res ∧ (∀ c,WkH (NoN f (chH out)) f st.h (chH out) (st.h (f c)) (chH out c)) ∧
      (∀ x y,(chH out x).live = true → (chH out y).live = true → f x = f y → x = y) ∧ ∀ i,i < pin → f i = i ∧ chH out i ≠ .fresh) → a.defers = [] ∧ ∃ v,(results fn a.tmps).run P w = .ok v w ∧
        ∃ u res out ρ',Ending.returned v = .returned u ∧ post res out ∧ RelH B ρ' (chH out) w ∧ Den w (owns B ρ' (chH out)) ρ' (chH out) res u := fun hq => by
      obtain ⟨v,res,out,g,hv,hp,hw,hH,hinj,hpin⟩ := hq
      obtain ⟨u,hu,hdn⟩ := res_run r' hrs hv
      obtain ⟨hm,himm,hfz⟩ := r'.mem.ren (fun b hb => ⟨hB.lt b hb,hB.no b hb⟩) hH hinj hpin
      exact ⟨r'.nod,u,hu,u,res,out,fun c => ρ' (g c),rfl,hp,hm,hdn.wk hH himm hfz hw⟩
    cases e <;> cases e' <;> simp only [exM] at he
    · exact key hq
    · exact hq.elim
    · exact key hq
end
end Go.Proofs.YtblndjmhjaijjaaGreatDoor.VL
namespace Go.Proofs.YtblndjmhjaijjaaGreatDoor.VL
open Go Go.RowKit
def digF (P : Program) (fn : Func) : Option (IC × List RV) :=
  fn.body.bind fun c => (digC P fn.ntmps c).bind fun ic => (fn.results.toList.mapM (digRV P fn.ntmps)).bind fun rs => some (ic,rs)
section
variable {P : Program} {G : Glob}
theorem FnP.mk' {f : FuncId} {fn : Func} {ic : IC} {rs : List RV} {pin : Nat} {cs : List Hs} {args : List V} {post : V → List Hs → Prop}
    (hf : P.funcs[f]? = some fn) (hn : entr P f = true) (hd : digF P fn = some (ic,rs)) {n : Nat} (hnt : fn.ntmps = n)
    (ha : args.length ≤ n) (hne : ∃ r o,post r o) (h : wpI P G pin ic (retQ rs pin post) ⟨getL (argL 0 args),chH cs⟩) : FnP P G f pin cs args post := by
  obtain ⟨c,hb,hd⟩ := Option.bind_eq_some_iff.1 hd
  obtain ⟨ic',hc,hd⟩ := Option.bind_eq_some_iff.1 hd
  obtain ⟨rs',hr,hd⟩ := Option.bind_eq_some_iff.1 hd
  simp only [Option.some.injEq,Prod.mk.injEq] at hd
  obtain ⟨rfl,rfl⟩ := hd
  exact FnP.intro hf hb hn hc hr (by rw [hnt]; exact ha) hne h
end
end Go.Proofs.YtblndjmhjaijjaaGreatDoor.VL
namespace Go.Proofs.YtblndjmhjaijjaaGreatDoor.VL
open Go Go.RowKit
def V.rn0 (g : Nat → Nat) : V → V
  | .own c n => .own (g c) n
  | .view c o n => .view (g c) o n
  | .pv c o => .pv (g c) o
  | .pa c i o => .pa (g c) i o
  | v => v
def V.rn1 (g : Nat → Nat) : V → V
  | .fn f caps => .fn f (caps.map (V.rn0 g))
  | v => v.rn0 g
def V.rn2 (g : Nat → Nat) : V → V
  | .agg fs => .agg (fs.map (V.rn1 g))
  | v => v.rn1 g
def V.rn (g : Nat → Nat) : V → V
  | .tup fs => .tup (fs.map (V.rn2 g))
  | v => v.rn2 g
def Hs.rn (g : Nat → Nat) : Hs → Hs
  | .var ty row => .var ty (row.map (V.rn1 g))
  | s => s
def V.plain0 : V → Bool
  | .sl _ (_ :: _) | .iptr .. | .fn .. => false
  | _ => true
def V.plain1 : V → Bool
  | .fn _ caps => caps.all V.plain0
  | v => v.plain0
def V.plain2 : V → Bool
  | .agg fs => fs.all V.plain1
  | v => v.plain1
def V.plain : V → Bool
  | .tup fs => fs.all V.plain2
  | v => v.plain2
def Hs.plain : Hs → Bool
  | .var _ row => row.all V.plain1
  | .arr _ _ rows => rows.all fun r => r.all V.plain0
  | _ => true
theorem Imm.plain {w : World} {O O' : Nat → Prop} {v : V} {u : Value} (hp : v.plain0 = true) (h : Imm w O v u) : Imm w O' v u := by
  cases h with
  | int k n => exact .int k n
  | bool b => exact .bool b
  | str s => exact .str s
  | nils => exact .nils
  | nilp => exact .nilp
  | nile => exact .nile
  | erre t v => exact .erre t v
  | raw _ h => exact .raw _ h
  | esl sz A cap => exact .esl sz A cap
  | sl sz rows blk off cap cs h1 h2 h3 =>
    cases rows with
    | nil => simp at h3
    | cons r rs => simp [V.plain0] at hp
  | iptr => simp [V.plain0] at hp
  | fn => simp [V.plain0] at hp
section
variable {w : World} {O1 O2 : Nat → Prop} {ρ1 ρ2 : Nat → Loc} {a h2 : Nat → Hs} {g : Nat → Nat} {k : Bool}
theorem rn_live (s : Hs) : (s.rn g).live = s.live := by cases s <;> rfl
theorem Den0.rn (hN : ∀ c,a c ≠ .fresh → h2 (g c) = (a c).rn g ∧ ((a c).live = true → ρ2 (g c) = ρ1 c)) (himm : ∀ v u,(k = true ∨ v.plain0 = true) → Imm w O1 v u → Imm w O2 v u) {v : V} {u : Value}
    (hp : k = true ∨ v.plain0 = true) (hd : Den0 w O1 ρ1 a v u) : Den0 w O2 ρ2 h2 (v.rn0 g) u := by
  cases v with
  | undef => trivial
  | own c n =>
    have h1 := hd.shape
    simp only [Den0,V.rn0] at hd ⊢
    cases hc : a c <;> rw [hc] at hd <;> simp only at hd
    all_goals obtain ⟨e1,e2⟩ := hN c (by rw [hc]; simp); rw [e1,hc]; simp only [Hs.rn]
    · exact hd
    · exact hd
    · rw [e2 (by rw [hc]; rfl)]; exact hd
  | view c o n =>
    simp only [Den0,V.rn0] at hd ⊢
    cases hc : a c <;> rw [hc] at hd <;> simp only at hd
    all_goals obtain ⟨e1,e2⟩ := hN c (by rw [hc]; simp); rw [e1,hc]; simp only [Hs.rn]
    · exact hd
    · exact hd
    · rw [e2 (by rw [hc]; rfl)]; exact hd
  | pv c o =>
    simp only [Den0,V.rn0] at hd ⊢
    cases hc : a c <;> rw [hc] at hd <;> simp only at hd
    all_goals obtain ⟨e1,e2⟩ := hN c (by rw [hc]; simp); rw [e1,hc]; simp only [Hs.rn]
    · exact hd
    · rw [e2 (by rw [hc]; rfl)]; exact hd
    · exact hd
  | pa c i o =>
    simp only [Den0,V.rn0] at hd ⊢
    cases hc : a c <;> rw [hc] at hd <;> simp only at hd
    all_goals obtain ⟨e1,e2⟩ := hN c (by rw [hc]; simp); rw [e1,hc]; simp only [Hs.rn]
    · exact hd
    · exact hd
    · rw [e2 (by rw [hc]; rfl)]; exact hd
  | _ => exact himm _ _ hp hd
theorem Den1.rn (hN : ∀ c,a c ≠ .fresh → h2 (g c) = (a c).rn g ∧ ((a c).live = true → ρ2 (g c) = ρ1 c)) (himm : ∀ v u,(k = true ∨ v.plain0 = true) → Imm w O1 v u → Imm w O2 v u) {v : V} {u : Value}
    (hp : k = true ∨ v.plain1 = true) (hd : Den1 w O1 ρ1 a v u) : Den1 w O2 ρ2 h2 (v.rn1 g) u := by
  cases v with
  | fn f caps =>
    obtain ⟨vs,h1,h2,h3⟩ := hd
    refine ⟨vs,h1,by simp [h2],fun j v x hv hx => ?_⟩
    rw [List.getElem?_map] at hv
    obtain ⟨v0,hv0,rfl⟩ := Option.map_eq_some_iff.1 hv
    exact (h3 j v0 x hv0 hx).rn hN himm (hp.imp id fun h => List.all_eq_true.1 h v0 (List.mem_of_getElem? hv0))
  | own c n => exact Den0.rn (v := .own c n) hN himm hp hd
  | view c o n => exact Den0.rn (v := .view c o n) hN himm hp hd
  | pv c o => exact Den0.rn (v := .pv c o) hN himm hp hd
  | pa c i o => exact Den0.rn (v := .pa c i o) hN himm hp hd
  | undef => trivial
  | _ => exact himm _ _ hp hd
theorem Den2.rn (hN : ∀ c,a c ≠ .fresh → h2 (g c) = (a c).rn g ∧ ((a c).live = true → ρ2 (g c) = ρ1 c)) (himm : ∀ v u,(k = true ∨ v.plain0 = true) → Imm w O1 v u → Imm w O2 v u) {v : V} {u : Value}
    (hp : k = true ∨ v.plain2 = true) (hd : Den2 w O1 ρ1 a v u) : Den2 w O2 ρ2 h2 (v.rn2 g) u := by
  cases v with
  | agg fs =>
    obtain ⟨vs,h1,h2,h3⟩ := hd
    refine ⟨vs,h1,by simp [h2],fun j v x hv hx => ?_⟩
    rw [List.getElem?_map] at hv
    obtain ⟨v0,hv0,rfl⟩ := Option.map_eq_some_iff.1 hv
    exact (h3 j v0 x hv0 hx).rn hN himm (hp.imp id fun h => List.all_eq_true.1 h v0 (List.mem_of_getElem? hv0))
  | tup fs => exact absurd hd (fun hd => by cases hd)
  | fn f caps => exact Den1.rn (v := .fn f caps) hN himm hp hd
  | own c n => exact Den1.rn (v := .own c n) hN himm hp hd
  | view c o n => exact Den1.rn (v := .view c o n) hN himm hp hd
  | pv c o => exact Den1.rn (v := .pv c o) hN himm hp hd
  | pa c i o => exact Den1.rn (v := .pa c i o) hN himm hp hd
  | undef => trivial
  | _ => exact himm _ _ hp hd
theorem Den.rn (hN : ∀ c,a c ≠ .fresh → h2 (g c) = (a c).rn g ∧ ((a c).live = true → ρ2 (g c) = ρ1 c)) (himm : ∀ v u,(k = true ∨ v.plain0 = true) → Imm w O1 v u → Imm w O2 v u) {v : V} {u : Value}
    (hp : k = true ∨ v.plain = true) (hd : Den w O1 ρ1 a v u) : Den w O2 ρ2 h2 (v.rn g) u := by
  cases v with
  | tup fs =>
    obtain ⟨vs,h1,h2,h3⟩ := hd
    refine ⟨vs,h1,by simp [h2],fun j v x hv hx => ?_⟩
    rw [List.getElem?_map] at hv
    obtain ⟨v0,hv0,rfl⟩ := Option.map_eq_some_iff.1 hv
    exact (h3 j v0 x hv0 hx).rn hN himm (hp.imp id fun h => List.all_eq_true.1 h v0 (List.mem_of_getElem? hv0))
  | agg fs => exact Den2.rn (v := .agg fs) hN himm hp hd
  | fn f caps => exact Den2.rn (v := .fn f caps) hN himm hp hd
  | own c n => exact Den2.rn (v := .own c n) hN himm hp hd
  | view c o n => exact Den2.rn (v := .view c o n) hN himm hp hd
  | pv c o => exact Den2.rn (v := .pv c o) hN himm hp hd
  | pa c i o => exact Den2.rn (v := .pa c i o) hN himm hp hd
  | undef => trivial
  | _ => exact himm _ _ hp hd
theorem OwnC.rn (hN : ∀ c,a c ≠ .fresh → h2 (g c) = (a c).rn g ∧ ((a c).live = true → ρ2 (g c) = ρ1 c)) (himm : ∀ v u,(k = true ∨ v.plain0 = true) → Imm w O1 v u → Imm w O2 v u) {s : Hs} {l : Loc}
    (hp : k = true ∨ s.plain = true) (hd : OwnC w O1 ρ1 a l s) : OwnC w O2 ρ2 h2 l (s.rn g) := by
  cases s with
  | var ty row =>
    obtain ⟨h1,cs,h2',h3,h4⟩ := hd
    refine ⟨h1,cs,h2',by simpa using h3,fun j v hv => ?_⟩
    rw [List.getElem?_map] at hv
    obtain ⟨v0,hv0,rfl⟩ := Option.map_eq_some_iff.1 hv
    obtain ⟨u,b1,b2,b3⟩ := h4 j v0 hv0
    exact ⟨u,b1,b2,b3.rn hN himm (hp.imp id fun h => List.all_eq_true.1 h v0 (List.mem_of_getElem? hv0))⟩
  | arr ty sz rows =>
    rcases hd with hd | ⟨h1,cs,h2',h3,h4,h5,h6⟩
    · exact .inl hd
    · refine .inr ⟨h1,cs,h2',h3,h4,h5,fun i r j v hr hv => ?_⟩
      obtain ⟨u,b1,b3⟩ := h6 i r j v hr hv
      refine ⟨u,b1,himm _ _ (hp.imp id fun h => ?_) b3⟩
      exact List.all_eq_true.1 (List.all_eq_true.1 h r (List.mem_of_getElem? hr)) v (List.mem_of_getElem? hv)
  | _ => trivial
end
end Go.Proofs.YtblndjmhjaijjaaGreatDoor.VL
namespace Go.Proofs.YtblndjmhjaijjaaGreatDoor.VL
open Go Go.RowKit
def nsF (ns : List Nat) (i : Nat) : Nat := (ns[i]?).getD 0
def newN (d i : Nat) : Nat := 100000 + 100 * d + i
def bk (ns : List Nat) (pin d i : Nat) : Nat := if i < pin then nsF ns i else newN d i
def outU (g : Nat → Nat) : Nat → List Hs → List (Nat × Hs)
  | _,[] => []
  | i,s :: out => (g i,s.rn g) :: outU g (i + 1) out
def deads (l : List Nat) : List (Nat × Hs) := l.map fun c => (c,Hs.dead)
def stepOk : Hs → Hs → Bool
  | .fresh,_ => false
  | _,.dead => true
  | .var _ _,.var _ _ => true
  | .arr ty sz r,.arr ty' sz' r' => decide (ty' = ty ∧ sz' = sz ∧ r.length ≤ r'.length)
  | _,_ => false
theorem up_hit {g : Nat → Nat} {h : Nat → Hs} {D : List (Nat × Hs)} : ∀ (out : List Hs) (k : Nat),(∀ i j,i < out.length → j < out.length → g (k + i) = g (k + j) → i = j) →
    ∀ i s,out[i]? = some s → upH h (outU g k out ++ D) (g (k + i)) = s.rn g
  | [],k,_,i,s,hi => by simp at hi
  | s0 :: out,k,hinj,0,s,hi => by
    simp only [List.getElem?_cons_zero,Option.some.injEq] at hi
    subst hi
    simp [outU,upH]
  | s0 :: out,k,hinj,i + 1,s,hi => by
    have hi' : out[i]? = some s := by simpa using hi
    have hl : i < out.length := (List.getElem?_eq_some_iff.1 hi').1
    have hne : g (k + (i + 1)) ≠ g k := fun e => by
      have := hinj (i + 1) 0 (by simp; omega) (by simp) (by simpa using e)
      omega
    simp only [outU,List.cons_append,upH]
    rw [if_neg hne]
    have := up_hit (g := g) (h := h) (D := D) out (k + 1) (fun x y hx hy e => by
      have := hinj (x + 1) (y + 1) (by simp; omega) (by simp; omega) (by rw [show k + (x + 1) = k + 1 + x by omega,show k + (y + 1) = k + 1 + y by omega]; exact e)
      omega) i s hi'
    rw [show k + (i + 1) = k + 1 + i by omega]
    exact this
theorem up_miss {g : Nat → Nat} {h : Nat → Hs} {D : List (Nat × Hs)} {x : Nat} : ∀ (out : List Hs) (k : Nat),(∀ i,i < out.length → g (k + i) ≠ x) → upH h (outU g k out ++ D) x = upH h D x
  | [],k,_ => rfl
  | s0 :: out,k,hne => by
    simp only [outU,List.cons_append,upH]
    rw [if_neg (fun e => hne 0 (by simp) (by simpa using e.symm))]
    exact up_miss out (k + 1) fun i hi e => hne (i + 1) (by simp; omega) (by rw [show k + (i + 1) = k + 1 + i by omega]; exact e)
theorem up_dead {h : Nat → Hs} {x : Nat} : ∀ (l : List Nat),(x ∈ l → upH h (deads l) x = .dead) ∧ (x ∉ l → upH h (deads l) x = h x)
  | [] => ⟨(fun hx => by cases hx),fun _ => rfl⟩
  | c :: l => by
    obtain ⟨h1,h2⟩ := up_dead (h := h) (x := x) l
    simp only [deads,List.map_cons,upH]
    by_cases hc : x = c
    · rw [if_pos hc]; exact ⟨fun _ => rfl,fun hn => absurd (by rw [hc]; simp) hn⟩
    · rw [if_neg hc]
      exact ⟨fun hx => h1 (by simpa [hc] using hx),fun hx => h2 (by simpa [hc] using hx)⟩
theorem OwnC.wk {w : World} {O O' : Nat → Prop} {ρ : Nat → Loc} {h h' : Nat → Hs} {f : Nat → Nat} {F : Nat → Prop} (hH : ∀ c,WkH F f h h' (h (f c)) (h' c)) (himm : ∀ v u,Imm w O v u → Imm w O' v u)
    (hfz : ∀ v v' u,FzV F h v v' → Den0 w O ρ h v u → Imm w O' v' u) {l : Loc} {s s' : Hs} (hw : WkH F f h h' s s') (hd : OwnC w O ρ h l s) : OwnC w O' (fun c => ρ (f c)) h' l s' := by
  cases s' with
  | fresh => trivial
  | dead => trivial
  | var ty row =>
    cases s <;> simp only [WkH] at hw
    rename_i ty0 row0
    obtain ⟨rfl,hl,hw⟩ := hw
    obtain ⟨k1,cs,k2,k3,k4⟩ := hd
    refine ⟨k1,cs,k2,by omega,fun j v hv => ?_⟩
    have hj : j < row0.length := by rw [← hl]; exact (List.getElem?_eq_some_iff.1 hv).1
    obtain ⟨u,a1,a2,a3⟩ := k4 j row0[j] (List.getElem?_eq_getElem hj)
    exact ⟨u,a1,a2,a3.wk hH himm hfz (hw j _ _ (List.getElem?_eq_getElem hj) hv)⟩
  | arr ty sz rows =>
    cases s <;> simp only [WkH] at hw
    obtain ⟨rfl,rfl,rfl⟩ := hw
    rcases hd with hd | ⟨k1,cs,k2,k3,k4,k5,k6⟩
    · exact .inl hd
    · exact .inr ⟨k1,cs,k2,k3,k4,k5,fun i rr j v hr hv => let ⟨u,a1,a2⟩ := k6 i rr j v hr hv; ⟨u,a1,himm _ _ a2⟩⟩
def callTc (ns lent : List Nat) (d m : Nat) : List Nat := ns ++ lent ++ (List.range m).map (newN d)
def callPost (ns lent : List Nat) (kp : Bool) (pin d : Nat) (post : V → List Hs → Prop) (v : V) (up : List (Nat × Hs)) : Prop :=
  ∃ res out,post res out ∧ v = res.rn (bk ns pin d) ∧ up = outU (bk ns pin d) 0 out ++ deads (ns.drop pin ++ bif kp then lent else [])
theorem outU_mem {g : Nat → Nat} : ∀ (out : List Hs) (k : Nat) x,x ∈ outU g k out → ∃ i,i < out.length ∧ x.1 = g (k + i)
  | [],k,x,h => by cases h
  | s :: out,k,x,h => by
    rcases List.mem_cons.1 h with rfl | h
    · exact ⟨0,by simp,rfl⟩
    · obtain ⟨i,hi,e⟩ := outU_mem out (k + 1) x h
      exact ⟨i + 1,by simp; omega,by rw [e]; congr 1; omega⟩
theorem mem_nsF {ns : List Nat} {i : Nat} (h : i < ns.length) : nsF ns i ∈ ns := by
  simp [nsF,List.getElem?_eq_getElem h]
theorem nsF_inj {ns : List Nat} (hn : ns.Nodup) {i j : Nat} (hi : i < ns.length) (hj : j < ns.length) (h : nsF ns i = nsF ns j) : i = j := by
  simp only [nsF,List.getElem?_eq_getElem hi,List.getElem?_eq_getElem hj,Option.getD_some] at h
  exact (List.getElem_inj hn).1 h
theorem chH_some {cs : List Hs} {i : Nat} (h : (chH cs i) ≠ .fresh) : ∃ s,cs[i]? = some s ∧ chH cs i = s := by
  cases hc : cs[i]? with
  | none => exact absurd (by simp [chH,hc]) h
  | some s => exact ⟨s,rfl,by simp [chH,hc]⟩
theorem step_wk {F : Nat → Prop} {f g : Nat → Nat} {h h' : Nat → Hs} {a b s : Hs} {l : Loc} (hw : WkH F f h h' a b) (hb : b.live = true) (hs : stepOk b s = true) : HStep l a l (s.rn g) := by
  cases b <;> simp only [Hs.live,Bool.false_eq_true] at hb
  case var ty row =>
    cases a <;> simp only [WkH] at hw
    cases s <;> simp only [stepOk,Bool.false_eq_true] at hs
    · exact .inr (.inl ⟨by simp,rfl⟩)
    · exact .inr (.inr ⟨rfl,.inr (.inl ⟨_,_,_,_,rfl,rfl⟩)⟩)
  case arr ty sz rows =>
    cases a <;> simp only [WkH] at hw
    obtain ⟨rfl,rfl,rfl⟩ := hw
    cases s <;> simp only [stepOk,Bool.false_eq_true,decide_eq_true_eq] at hs
    · exact .inr (.inl ⟨by simp,rfl⟩)
    · obtain ⟨rfl,rfl,hs⟩ := hs
      exact .inr (.inr ⟨rfl,.inr (.inr ⟨_,_,_,_,rfl,rfl,hs⟩)⟩)
theorem live_fresh {s : Hs} (h : s.live = true) : s ≠ .fresh := by rintro rfl; cases h
section
variable {P : Program} {G : Glob}
theorem callS {f : FuncId} {pin : Nat} {cs : List Hs} {args : List V} {postf : V → List Hs → Prop} (F : FnP P G f pin cs args postf) {vs : List V} {h : Nat → Hs} {ns lent : List Nat} {kp : Bool} {d m : Nat}
    (hpin : pin ≤ ns.length) (hns : ns.length = cs.length) (hnd : ns.Nodup) (hva : vs.length = args.length)
    (hw : ∀ h',(∀ c,c ∈ callTc ns lent d m → h' c = h c) → ∀ (j : Nat) v v',vs[j]? = some v → args[j]? = some v' → Wk (fun c => c ∈ lent) (nsF ns) h' (chH cs) v v')
    (hc : ∀ h',(∀ c,c ∈ callTc ns lent d m → h' c = h c) → ∀ (i : Nat) s,cs[i]? = some s → s.live = true ∧ WkH (fun c => c ∈ lent) (nsF ns) h' (chH cs) (h' (nsF ns i)) s)
    (hl : ∀ c,c ∈ lent → (h c).live = true ∧ c ∉ ns)
    (ho : ∀ res out,postf res out → pin ≤ out.length ∧ out.length ≤ m ∧ (kp = true ∨ (res.plain = true ∧ ∀ s,s ∈ out → s.plain = true)) ∧ ∀ i,i < pin → stepOk (chH cs i) (chH out i) = true)
    (hf : ∀ i,i < m → h (newN d i) = .fresh) :
    CallS P G f vs h (callPost ns lent kp pin d postf) (callTc ns lent d m) (callTc ns (bif kp then lent else []) d m) where
  en := F.en
  ne := let ⟨r,o,hp⟩ := F.ne; ⟨_,_,r,o,hp,rfl,rfl⟩
  wri := fun v up ⟨res,out,hp,_,hu⟩ x hx => by
    subst hu
    obtain ⟨h1,h2,_⟩ := ho res out hp
    simp only [callTc,List.mem_append,List.mem_map,List.mem_range]
    rcases List.mem_append.1 hx with hx | hx
    · obtain ⟨i,hi,e⟩ := outU_mem out 0 x hx
      rw [e]
      simp only [Nat.zero_add,bk]
      split
      · exact .inl (.inl (mem_nsF (by omega)))
      · exact .inr ⟨i,by omega,rfl⟩
    · simp only [deads,List.mem_map,List.mem_append] at hx
      obtain ⟨c,hc,rfl⟩ := hx
      rcases hc with hc | hc
      · exact .inl (.inl (List.mem_of_mem_drop hc))
      · exact .inl (.inr hc)
  sub := fun c hc => by
    simp only [callTc,List.mem_append] at hc ⊢
    rcases hc with (hc | hc) | hc
    · exact .inl (.inl hc)
    · cases kp
      · cases hc
      · exact .inl (.inr hc)
    · exact .inr hc
  run := fun h' hh B ρ w us hB r hargs => by
    have hw := hw h' hh
    have hc := hc h' hh
    have hl : ∀ c,c ∈ lent → (h' c).live = true ∧ c ∉ ns := fun c hc => by
      rw [hh c (by simp [callTc,hc])]; exact hl c hc
    have hf : ∀ i,i < m → h' (newN d i) = .fresh := fun i hi => by
      rw [hh _ (by simp only [callTc,List.mem_append,List.mem_map,List.mem_range]; exact .inr ⟨i,hi,rfl⟩)]; exact hf i hi
    have hH : ∀ c,WkH (fun c => c ∈ lent) (nsF ns) h' (chH cs) (h' (nsF ns c)) (chH cs c) := fun c => by
      cases hcc : cs[c]? with
      | none => simp only [chH,hcc,Option.getD_none]; cases h' (nsF ns c) <;> trivial
      | some s => simpa only [chH,hcc,Option.getD_some] using (hc c s hcc).2
    have hlive : ∀ i,i < ns.length → (h' (nsF ns i)).live = true := fun i hi => by
      have hi' : i < cs.length := by omega
      obtain ⟨h1,h2⟩ := hc i cs[i] (List.getElem?_eq_getElem hi')
      exact WkH.live h2 h1
    have hlc : ∀ i,(chH cs i).live = true → i < ns.length := fun i hi => by
      obtain ⟨s,hs,_⟩ := chH_some (cs := cs) (i := i) (fun e => by rw [e] at hi; cases hi)
      rw [hns]; exact (List.getElem?_eq_some_iff.1 hs).1
    let ρc : Nat → Loc := fun i => ρ (nsF ns i)
    have hA : ∀ b,blocks ρc (chH cs) b → ∃ i,i < ns.length ∧ (ρ (nsF ns i)).nil = false ∧ (ρ (nsF ns i)).blk = b := fun b ⟨i,h1,h2,h3⟩ => ⟨i,hlc i h1,h2,h3⟩
    let ext : Nat → Prop := fun b => (B.ext b ∨ ∃ c,c ∉ lent ∧ (h' c).live = true ∧ (ρ c).nil = false ∧ (ρ c).blk = b) ∧ ¬ blocks ρc (chH cs) b
    let Bc : Base := ⟨w,blocks ρc (chH cs),ext,pin,ρc⟩
    have hext : ∀ b,ext b → b < w.heap.size := fun b hb => by
      rcases hb.1 with hb | ⟨c,_,h2,h3,h4⟩
      · exact r.ext_lt hB b hb
      · rw [← h4]; exact r.blk_lt h2 h3
    have hOc : ∀ b,owns Bc ρc (chH cs) b → owns B ρ h' b := fun b hb => by
      rcases hb with hb | hb
      · rcases hb.1 with hb | ⟨c,_,h2⟩
        · exact .inl hb
        · exact .inr ⟨c,h2⟩
      · obtain ⟨i,h1,h2,h3⟩ := hA b hb
        exact .inr ⟨nsF ns i,hlive i h1,h2,h3⟩
    have himm : ∀ v u,Imm w (owns B ρ h') v u → Imm w (owns Bc ρc (chH cs)) v u := fun v u hi => hi.mono (Nat.le_refl _) (fun b _ _ => rfl) (fun b _ ho => hOc b ho)
    have hno : ∀ c,(h' c).live = true → (ρ c).nil = false → c ∈ lent → ¬ owns Bc ρc (chH cs) (ρ c).blk := fun c h1 h2 h3 ho => by
      rcases ho with ho | ho
      · rcases ho.1 with ho | ⟨c',k1,k2,k3,k4⟩
        · rcases r.home c h1 h2 with k | k
          · exact hB.no _ ho k
          · have := hB.lt _ ho; omega
        · exact k1 ((r.sep c' c k2 h1 k3 h2 k4).symm ▸ h3)
      · obtain ⟨i,k1,k2,k3⟩ := hA _ ho
        have := r.sep _ _ (hlive i k1) h1 k2 h2 k3
        exact (hl c h3).2 (this ▸ mem_nsF k1)
    have hfz := fz_imm (F := fun c => c ∈ lent) (O' := owns Bc ρc (chH cs)) r hno himm
    have hng : ∀ c,(h' c).live = true → (ρ c).nil = false → G.ng ≤ (ρ c).blk := fun c h1 h2 => by
      rcases r.home c h1 h2 with k | k
      · exact hB.ng _ k
      · exact Nat.le_trans (G.there _ hB.g) k
    have rc : RelH Bc ρc (chH cs) w := by
      refine ⟨rfl,rfl,rfl,Nat.le_refl _,fun b _ _ => rfl,fun i => ?_,fun i h1 h2 => .inl ⟨i,h1,h2,rfl⟩,fun i j h1 h2 h3 h4 h5 => ?_,fun i hi => .inr ⟨?_,rfl⟩⟩
      · exact (r.chunk (nsF ns i)).wk hH himm hfz (hH i)
      · exact nsF_inj hnd (hlc i h1) (hlc j h2) (r.sep _ _ (hlive i (hlc i h1)) (hlive j (hlc j h2)) h3 h4 h5)
      · have hi' : i < cs.length := by have : i < pin := hi; omega
        have := (hc i cs[i] (List.getElem?_eq_getElem hi')).1
        simpa [chH,List.getElem?_eq_getElem hi'] using this
    have hda : DenArgs w (owns Bc ρc (chH cs)) ρc (chH cs) args us := by
      obtain ⟨h1,h2⟩ := hargs
      refine ⟨by omega,fun j v' u hv' hu => ?_⟩
      have hj : j < vs.length := by rw [hva]; exact (List.getElem?_eq_some_iff.1 hv').1
      have hv := List.getElem?_eq_getElem hj
      exact (h2 j _ u hv hu).wk hH himm hfz (hw j _ v' hv hv')
    refine (F.run w ρc ext us (hB.now r) hext (fun b hb => hb.2) (fun b hb => ?_) rc hda).mono fun e w' he => ?_
    · obtain ⟨i,h1,h2,h3⟩ := hA b hb
      rw [← h3]; exact hng _ (hlive i h1) h2
    obtain ⟨u,res,out,ρ',rfl,hp,r',hd'⟩ := he
    obtain ⟨o1,o2,o3,o4⟩ := ho res out hp
    have hgp : ∀ i,i < pin → bk ns pin d i = nsF ns i := fun i hi => by simp [bk,hi]
    have hgn : ∀ i,¬ i < pin → bk ns pin d i = newN d i := fun i hi => by simp [bk,hi]
    generalize hgg : bk ns pin d = g at hgp hgn
    have hginj : ∀ i j,i < out.length → j < out.length → g i = g j → i = j := fun i j hi hj e => by
      by_cases h1 : i < pin <;> by_cases h2 : j < pin
      · rw [hgp i h1,hgp j h2] at e; exact nsF_inj hnd (by omega) (by omega) e
      · rw [hgp i h1,hgn j h2] at e
        have := hlive i (by omega); rw [e,hf j (by omega)] at this; cases this
      · rw [hgn i h1,hgp j h2] at e
        have := hlive j (by omega); rw [← e,hf i (by omega)] at this; cases this
      · rw [hgn i h1,hgn j h2] at e; simp only [newN] at e; omega
    generalize hD : (ns.drop pin ++ bif kp then lent else []) = D
    have hDl : ∀ x,x ∈ D → (h' x).live = true := fun x hx => by
      rw [← hD] at hx
      rcases List.mem_append.1 hx with hx | hx
      · obtain ⟨i,hi⟩ := List.getElem?_of_mem (List.mem_of_mem_drop hx)
        have hil := (List.getElem?_eq_some_iff.1 hi).1
        have := hlive i hil
        simpa [nsF,hi] using this
      · cases kp
        · cases hx
        · exact (hl x hx).1
    have hhit : ∀ i s,out[i]? = some s → upH h' (outU g 0 out ++ deads D) (g i) = s.rn g := fun i s hs => by
      have := up_hit (g := g) (h := h') (D := deads D) out 0 (by simpa using hginj) i s hs
      simpa using this
    have hmiss : ∀ x,(∀ i,i < out.length → g i ≠ x) → upH h' (outU g 0 out ++ deads D) x = upH h' (deads D) x := fun x hx => up_miss out 0 (by simpa using hx)
    generalize hup : outU g 0 out ++ deads D = up at hhit hmiss
    classical
    let ρ2 : Nat → Loc := fun x => if hx : ∃ i,i < out.length ∧ g i = x then ρ' hx.choose else ρ x
    have hρ1 : ∀ i,i < out.length → ρ2 (g i) = ρ' i := fun i hi => by
      have hx : ∃ j,j < out.length ∧ g j = g i := ⟨i,hi,rfl⟩
      show (if hx : ∃ j,j < out.length ∧ g j = g i then ρ' hx.choose else ρ (g i)) = ρ' i
      rw [dif_pos hx]
      rw [hginj _ _ hx.choose_spec.1 hi hx.choose_spec.2]
    have hρ2 : ∀ x,(∀ i,i < out.length → g i ≠ x) → ρ2 x = ρ x := fun x hx => by
      show (if hx : ∃ j,j < out.length ∧ g j = x then ρ' hx.choose else ρ x) = ρ x
      rw [dif_neg (fun ⟨i,h1,h2⟩ => hx i h1 h2)]
    have hcase : ∀ x,(∃ i s,i < out.length ∧ g i = x ∧ out[i]? = some s ∧ chH out i = s ∧ upH h' up x = s.rn g ∧ ρ2 x = ρ' i) ∨
        ((∀ i,i < out.length → g i ≠ x) ∧ ρ2 x = ρ x ∧ ((x ∈ D ∧ upH h' up x = .dead) ∨ (x ∉ D ∧ upH h' up x = h' x))) := fun x => by
      by_cases hx : ∃ i,i < out.length ∧ g i = x
      · obtain ⟨i,hi,rfl⟩ := hx
        have hs := List.getElem?_eq_getElem hi
        exact .inl ⟨i,out[i],hi,rfl,hs,by simp [chH,hs],hhit i _ hs,hρ1 i hi⟩
      · have hx' : ∀ i,i < out.length → g i ≠ x := fun i h1 h2 => hx ⟨i,h1,h2⟩
        refine .inr ⟨hx',hρ2 x hx', ?_⟩
        rw [hmiss x hx']
        by_cases hd : x ∈ D
        · exact .inl ⟨hd,(up_dead D).1 hd⟩
        · exact .inr ⟨hd,(up_dead D).2 hd⟩
    have hapart : ∀ x,(∀ i,i < out.length → g i ≠ x) → x ∉ D → (h' x).live = true → (ρ x).nil = false → ¬ blocks ρc (chH cs) (ρ x).blk := fun x hx hxd h1 h2 hb => by
      obtain ⟨i,k1,k2,k3⟩ := hA _ hb
      have he := r.sep _ _ (hlive i k1) h1 k2 h2 k3
      by_cases hi : i < pin
      · exact hx i (by omega) (by rw [hgp i hi]; exact he)
      · refine hxd ?_
        rw [← hD,← he]
        refine List.mem_append_left _ ?_
        rw [List.mem_iff_getElem?]
        refine ⟨i - pin, ?_⟩
        rw [List.getElem?_drop,show pin + (i - pin) = i by omega,List.getElem?_eq_getElem k1]
        simp [nsF,List.getElem?_eq_getElem k1]
    have hst : ∀ x,HStep (ρ x) (h' x) (ρ2 x) (upH h' up x) := fun x => by
      rcases hcase x with ⟨i,s,hi,rfl,hs,hcs,hu,hr⟩ | ⟨hx,hr,⟨hxd,hu⟩ | ⟨hxd,hu⟩⟩
      · by_cases hp : i < pin
        · have hok := o4 i hp
          rw [hcs] at hok
          have hic : i < cs.length := by omega
          obtain ⟨hl1,_⟩ := hc i cs[i] (List.getElem?_eq_getElem hic)
          have hl2 : (chH cs i).live = true := by simpa [chH,List.getElem?_eq_getElem hic] using hl1
          have hst := step_wk (g := g) (l := ρ (g i)) (hH i) hl2 hok
          rw [← hgp i hp] at hst
          rw [hu]
          rcases r'.pin i hp with hd | ⟨_,he⟩
          · rw [hcs] at hd
            subst hd
            exact .inr (.inl ⟨live_fresh (by rw [hgp i hp]; exact hlive i (by omega)),rfl⟩)
          · have he2 : ρ2 (g i) = ρ (g i) := by rw [hr,he,hgp i hp]
            rw [he2]; exact hst
        · exact .inl (by rw [hgn i hp]; exact hf i (by omega))
      · rw [hu]; exact .inr (.inl ⟨live_fresh (hDl x hxd),rfl⟩)
      · rw [hu,hr]; exact HStep.refl _ _
    have hkeep : ∀ b,b < w.heap.size → ¬ blocks ρc (chH cs) b → w'.heap[b]? = w.heap[b]? := fun b hb hn => r'.keep b hb hn
    have hgrow : w.heap.size ≤ w'.heap.size := r'.grow
    have hextc : ∀ b,B.ext b → ext b := fun b hb => ⟨.inl hb,fun hbl => by
      obtain ⟨i,k1,k2,k3⟩ := hA _ hbl
      rcases r.home _ (hlive i k1) k2 with k | k
      · exact hB.no b hb (k3 ▸ k)
      · have := hB.lt b hb; omega⟩
    have hO2 : kp = true → ∀ b,owns B ρ2 (upH h' up) b → owns Bc ρ' (chH out) b := fun hk b hb => by
      rcases hb with hb | ⟨x,h1,h2,h3⟩
      · exact .inl (hextc b hb)
      · rcases hcase x with ⟨i,s,hi,rfl,hs,hcs,hu,hr⟩ | ⟨hx,hr,⟨hxd,hu⟩ | ⟨hxd,hu⟩⟩
        · rw [hu,rn_live] at h1
          rw [hr] at h2 h3
          exact .inr ⟨i,by rw [hcs]; exact h1,h2,h3⟩
        · rw [hu] at h1; cases h1
        · rw [hu] at h1
          rw [hr] at h2 h3
          refine .inl ⟨.inr ⟨x,fun hxl => hxd ?_,h1,h2,h3⟩,h3 ▸ hapart x hx hxd h1 h2⟩
          rw [← hD,hk]
          exact List.mem_append_right _ hxl
    have himm2 : ∀ v u,(kp = true ∨ v.plain0 = true) → Imm w' (owns Bc ρ' (chH out)) v u → Imm w' (owns B ρ2 (upH h' up)) v u := fun v u hk hi => by
      rcases hk with hk | hk
      · exact hi.mono (Nat.le_refl _) (fun b _ _ => rfl) (fun b _ hb => hO2 hk b hb)
      · exact hi.plain hk
    have hN : ∀ c,chH out c ≠ .fresh → upH h' up (g c) = (chH out c).rn g ∧ ((chH out c).live = true → ρ2 (g c) = ρ' c) := fun c hcf => by
      obtain ⟨s,hs,he⟩ := chH_some hcf
      rw [he]
      exact ⟨hhit c s hs,fun _ => hρ1 c (List.getElem?_eq_some_iff.1 hs).1⟩
    have hturn : Turns B ρ h' w ρ2 (upH h' up) w' := by
      refine r.turn r'.os r'.tape r'.output hgrow (fun b hb => ?_) hst (r.ext_lt hB) (fun x h1 h2 => ?_) (fun x y hx hy nx ny e => ?_) (fun hi2 x => ?_)
      · by_cases hbl : blocks ρc (chH cs) b
        · obtain ⟨i,k1,k2,k3⟩ := hA _ hbl
          exact .inr ⟨nsF ns i,hlive i k1,k2,k3⟩
        · exact .inl (hkeep b hb hbl)
      · rcases hcase x with ⟨i,s,hi,rfl,hs,hcs,hu,hr⟩ | ⟨hx,hr,⟨hxd,hu⟩ | ⟨hxd,hu⟩⟩
        · rw [hu,rn_live,← hcs] at h1
          rw [hr] at h2 ⊢
          rcases r'.home i h1 h2 with k | k
          · obtain ⟨j,k1,k2,k3⟩ := hA _ k
            exact .inl ⟨nsF ns j,hlive j k1,k2,k3⟩
          · exact .inr k
        · rw [hu] at h1; cases h1
        · rw [hu] at h1; rw [hr] at h2 ⊢
          exact .inl ⟨x,h1,h2,rfl⟩
      · have mixed : ∀ x i s,(∀ i,i < out.length → g i ≠ x) → x ∉ D → (h' x).live = true → (ρ x).nil = false → out[i]? = some s → s.live = true → chH out i = s → (ρ' i).nil = false → (ρ x).blk = (ρ' i).blk → False := fun x i s h1 h2 h3 h4 h5 h6 h7 h8 h9 => by
          rcases r'.home i (by rw [h7]; exact h6) h8 with k | k
          · rw [← h9] at k
            exact hapart x h1 h2 h3 h4 k
          · have k0 : w.heap.size ≤ (ρ' i).blk := k
            have := r.blk_lt h3 h4
            omega
        rcases hcase x with ⟨i,s,hi,rfl,hs,hcs,hu,hr⟩ | ⟨hx1,hr,⟨hxd,hu⟩ | ⟨hxd,hu⟩⟩
        · rcases hcase y with ⟨j,s2,hj,rfl,hs2,hcs2,hu2,hr2⟩ | ⟨hy1,hr2,⟨hyd,hu2⟩ | ⟨hyd,hu2⟩⟩
          · rw [hu,rn_live,← hcs] at hx
            rw [hu2,rn_live,← hcs2] at hy
            rw [hr] at nx e
            rw [hr2] at ny e
            rw [r'.sep i j hx hy nx ny e]
          · rw [hu2] at hy; cases hy
          · rw [hu,rn_live] at hx
            rw [hu2] at hy
            rw [hr] at nx e
            rw [hr2] at ny e
            exact (mixed y i s hy1 hyd hy ny hs hx hcs nx e.symm).elim
        · rw [hu] at hx; cases hx
        · rw [hu] at hx
          rw [hr] at nx e
          rcases hcase y with ⟨j,s2,hj,rfl,hs2,hcs2,hu2,hr2⟩ | ⟨hy1,hr2,⟨hyd,hu2⟩ | ⟨hyd,hu2⟩⟩
          · rw [hu2,rn_live] at hy
            rw [hr2] at ny e
            exact (mixed x j s2 hx1 hxd hx nx hs2 hy hcs2 ny e).elim
          · rw [hu2] at hy; cases hy
          · rw [hu2] at hy
            rw [hr2] at ny e
            exact r.sep x y hx hy nx ny e
      · rcases hcase x with ⟨i,s,hi,rfl,hs,hcs,hu,hr⟩ | ⟨hx,hr,⟨hxd,hu⟩ | ⟨hxd,hu⟩⟩
        · rw [hu,hr]
          have hch := r'.chunk i
          rw [hcs] at hch
          exact hch.rn hN himm2 (o3.imp id fun h => h.2 s (List.mem_of_getElem? hs))
        · rw [hu]; trivial
        · rw [hu,hr]
          cases hlx : (h' x).live
          · exact OwnC.not_live hlx
          · exact (r.chunk x).mono hi2 hst (fun hn => hkeep _ (r.blk_lt hlx hn) (hapart x hx hxd hlx hn))
    exact ⟨u,res.rn g,up,ρ2,rfl,⟨res,out,hp,by rw [hgg],by rw [hgg,hD,hup]⟩,hturn,hd'.rn hN himm2 (o3.imp id fun h => h.1)⟩
end
end Go.Proofs.YtblndjmhjaijjaaGreatDoor.VL
namespace Go.Proofs.YtblndjmhjaijjaaGreatDoor.VL
open Go Go.RowKit
theorem app_some (l : List (Nat × V)) (m : List (Nat × Hs)) (d : Nat) (v : V) (up : List (Nat × Hs)) : St.app ⟨getL l,getH m⟩ (some d) v up = ⟨getL ((d,v) :: l),getH (up ++ m)⟩ := by
  simp only [St.app,upT,St.mk.injEq]
  constructor
  · funext x; simp [getL]
  · funext x
    induction up with
    | nil => rfl
    | cons a up ih => simp [upH,getH,ih]
theorem app_none (l : List (Nat × V)) (m : List (Nat × Hs)) (v : V) (up : List (Nat × Hs)) : St.app ⟨getL l,getH m⟩ none v up = ⟨getL l,getH (up ++ m)⟩ := by
  simp only [St.app,upT,St.mk.injEq]
  constructor
  · trivial
  · funext x
    induction up with
    | nil => rfl
    | cons a up ih => simp [upH,getH,ih]
def argH : Nat → List Hs → List (Nat × Hs)
  | _,[] => []
  | k,s :: cs => (k,s) :: argH (k + 1) cs
theorem getH_argH : ∀ (cs : List Hs) (k x : Nat),getH (argH k cs) x = if x < k then .fresh else chH cs (x - k)
  | [],k,x => by simp [argH,getH,chH]
  | s :: cs,k,x => by
    simp only [argH,getH]
    rw [getH_argH cs (k + 1) x]
    by_cases h1 : x = k
    · subst h1; simp [chH]
    · rw [if_neg h1]
      by_cases h2 : x < k
      · rw [if_pos h2,if_pos (by omega)]
      · rw [if_neg h2,if_neg (by omega)]
        simp only [chH]
        rw [show x - k = (x - (k + 1)) + 1 by omega]
        simp
theorem chH_getH (cs : List Hs) : chH cs = getH (argH 0 cs) := by
  funext x; rw [getH_argH]; simp
section congrs
variable {P : Program} {G : Glob} {α : Type}
theorem optK_congr {o o' : Option α} {K : α → Prop} (h : o = o') : optK o K = optK o' K := by rw [h]
theorem guardK_congr {g g' : Option Bool} {y n : Prop} (h : g = g') : guardK g y n = guardK g' y n := by rw [h]
theorem condK_congr {g g' : V} {y n : Prop} (h : g = g') : condK g y n = condK g' y n := by rw [h]
theorem runT_congr {l : List IOper} {st st' : St} {K : St → Prop} (h : st = st') : runT P G l st K = runT P G l st' K := by rw [h]
theorem runD_congr {bef : List Nat} {l : List (Nat × IOper)} {st st' : St} {tr tr' : List (Nat × List Nat × List Nat)} {K : St → Prop} (h : st = st') (h2 : tr = tr') : runD P G bef l st tr K = runD P G bef l st' tr' K := by rw [h,h2]
theorem wpI_congr {pin : Nat} {ic : IC} {Q : Ex → St → Prop} {st st' : St} (h : st = st') : wpI P G pin ic Q st = wpI P G pin ic Q st' := by rw [h]
theorem CallV_congr {f : FuncId} {vs vs' : List V} {d : Option Nat} {st : St} {K : St → List Nat → List Nat → Prop} (h : vs = vs') : CallV P G f vs d st K = CallV P G f vs' d st K := by rw [h]
theorem LoopI_congr {pin : Nat} {b : (Ex → St → Prop) → St → Prop} {Q : Ex → St → Prop} {st st' : St} (h : st = st') : LoopI G pin b Q st = LoopI G pin b Q st' := by rw [h]
end congrs
section
variable {P : Program} {G : Glob} {pin : Nat} {Q : Ex → St → Prop} {st : St} {K : St → Prop} {K3 : St → List Nat → List Nat → Prop}
theorem wpI_skip : wpI P G pin .skip Q st = Q .normal st := of_eq_true (eq_self _)
theorem wpI_reg (ops) : wpI P G pin (.reg ops) Q st = runT P G ops st (Q .normal) := of_eq_true (eq_self _)
theorem wpI_drw (bef ops) : wpI P G pin (.drw bef ops) Q st = runD P G bef ops st [] (Q .normal) := of_eq_true (eq_self _)
theorem wpI_seq (a b) : wpI P G pin (.seq a b) Q st = wpI P G pin a (exN (wpI P G pin b Q) Q) st := of_eq_true (eq_self _)
theorem wpI_block (i b) : wpI P G pin (.block i b) Q st = wpI P G pin b (exB i Q) st := of_eq_true (eq_self _)
theorem wpI_loop (b) : wpI P G pin (.loop b) Q st = LoopI G pin (wpI P G pin b) Q st := of_eq_true (eq_self _)
theorem wpI_exit (i) : wpI P G pin (.exit i) Q st = Q (.exit i) st := of_eq_true (eq_self _)
theorem wpI_ret : wpI P G pin .ret Q st = Q .ret st := of_eq_true (eq_self _)
theorem exN_n : exN K Q .normal st = K st := of_eq_true (eq_self _)
theorem exN_e (i) : exN K Q (.exit i) st = Q (.exit i) st := of_eq_true (eq_self _)
theorem exN_r : exN K Q .ret st = Q .ret st := of_eq_true (eq_self _)
theorem exB_n (i) : exB i Q .normal st = Q .normal st := of_eq_true (eq_self _)
theorem exB_r (i) : exB i Q .ret st = Q .ret st := of_eq_true (eq_self _)
theorem runT_nil : runT P G [] st K = K st := of_eq_true (eq_self _)
theorem runD_nil (bef tr) : runD P G bef [] st tr K = K st := of_eq_true (eq_self _)
theorem step_u (d op) : stepV P G ⟨d,none,op⟩ st K3 = doV P G ⟨d,none,op⟩ st K3 := of_eq_true (eq_self _)
theorem step_g (d n b op) : stepV P G ⟨d,some (n,b),op⟩ st K3 = guardK (gd (some (n,b)) st.t) (doV P G ⟨d,none,op⟩ st K3) (K3 (st.app d (.tup []) []) [] []) := of_eq_true (eq_self _)
theorem optK_s {α : Type} (x : α) (K : α → Prop) : optK (some x) K = K x := of_eq_true (eq_self _)
theorem do_call (d g f xs) : doV P G ⟨d,g,.call f xs⟩ st K3 = CallV P G f (xs.map (ev st.t)) d st K3 := of_eq_true (eq_self _)
theorem do_mv (d g x) : doV P G ⟨d,g,.mv x⟩ st K3 = K3 (st.app d (ev st.t x) []) [] [] := of_eq_true (eq_self _)
def pureK (d : Option Nat) (st : St) (K : St → List Nat → List Nat → Prop) (x : Option V) : Prop := optK x fun v => K (st.app d v []) [] []
theorem pureK_s (d v) : pureK d st K3 (some v) = K3 (st.app d v []) [] [] := of_eq_true (eq_self _)
theorem do_pure {o : IOper} (h : effF o.op o.d st.t st.h = (pureF o.op st.t).map fun v => (v,[],[])) (hc : o.isCall = false) : doV P G o st K3 = pureK o.d st K3 (pureF o.op st.t) := by
  unfold doV pureK
  cases ho : o.op <;> simp only [IOper.isCall,ho,Bool.true_eq_false] at hc ⊢
  all_goals (rw [ho] at h; rw [h]; cases pureF _ st.t <;> rfl)
end
end Go.Proofs.YtblndjmhjaijjaaGreatDoor.VL
namespace Go.Proofs.YtblndjmhjaijjaaGreatDoor.VL
open Go Go.RowKit
def effK (d : Option Nat) (st : St) (K : St → List Nat → List Nat → Prop) (x : Option (V × List (Nat × Hs) × List Nat)) : Prop := optK x fun r => K (st.app d r.1 r.2.1) r.2.2 (r.2.1.map Prod.fst)
theorem pureK_congr {d : Option Nat} {st : St} {K : St → List Nat → List Nat → Prop} {x y : Option V} (h : x = y) : pureK d st K x = pureK d st K y := by rw [h]
theorem effK_congr {d : Option Nat} {st : St} {K : St → List Nat → List Nat → Prop} {x y : Option (V × List (Nat × Hs) × List Nat)} (h : x = y) : effK d st K x = effK d st K y := by rw [h]
def pickF (c a b : V) : Option V := match c with
  | .bool b' => some (bif b' then a else b)
  | _ => none
def nilcF : V → Option V
  | .pv c o => some (.pv c o)
  | .pa c i o => some (.pa c i o)
  | .iptr r o => some (.iptr r o)
  | .fn f caps => some (.fn f caps)
  | _ => none
def beqF (ng : Bool) (x y : V) : Option V := match x,y with
  | .bool a,.bool b => some (.bool (ng ^^ (a == b)))
  | _,_ => none
def eqsF (ng : Bool) (ks : List Kd) (x y : V) : Option V := match x,y with
  | .agg a,.agg b => (eqR ks a b).map fun r => .bool (ng ^^ r)
  | _,_ => none
def isnF (ng : Bool) : V → Option V
  | .nile => some (.bool (!ng))
  | .erre => some (.bool ng)
  | _ => none
def notF : V → Option V
  | .bool b => some (.bool (!b))
  | _ => none
def negF : V → Option V
  | .int k n => some (.int k (k.wrap (0 - n)))
  | _ => none
def cviF (k : IntKind) : V → Option V
  | .int _ n => some (.int k (k.wrap n))
  | _ => none
def fadF (off : Nat) : V → Option V
  | .pv c o => some (.pv c (o + off))
  | .pa c i o => some (.pa c i (o + off))
  | .iptr r o => some (.iptr r (o + off))
  | _ => none
def extF (k : Nat) : V → Option V
  | .tup vs => vs[k]?
  | _ => none
section
variable {P : Program} {G : Glob} {st : St} {K : St → List Nat → List Nat → Prop}
theorem do_pick (d g c a b) : doV P G ⟨d,g,.pick c a b⟩ st K = pureK d st K (pickF (ev st.t c) (ev st.t a) (ev st.t b)) := by
  rw [do_pure rfl rfl]; simp only [pureF,pickF]; cases ev st.t c <;> rfl
theorem do_nilc (d g x) : doV P G ⟨d,g,.nilc x⟩ st K = pureK d st K (nilcF (ev st.t x)) := by
  rw [do_pure rfl rfl]; simp only [pureF,nilcF]; cases ev st.t x <;> rfl
theorem do_bin (d g op x y) : doV P G ⟨d,g,.bin op x y⟩ st K = pureK d st K (binF op (ev st.t x) (ev st.t y)) := by
  rw [do_pure rfl rfl]; rfl
theorem do_beq (d g ng x y) : doV P G ⟨d,g,.beq ng x y⟩ st K = pureK d st K (beqF ng (ev st.t x) (ev st.t y)) := by
  rw [do_pure rfl rfl]; simp only [pureF,beqF]; cases ev st.t x <;> cases ev st.t y <;> rfl
theorem do_eqs (d g ng ks x y) : doV P G ⟨d,g,.eqs ng ks x y⟩ st K = pureK d st K (eqsF ng ks (ev st.t x) (ev st.t y)) := by
  rw [do_pure rfl rfl]; simp only [pureF,eqsF]; cases ev st.t x <;> cases ev st.t y <;> rfl
theorem do_isn (d g ng x) : doV P G ⟨d,g,.isn ng x⟩ st K = pureK d st K (isnF ng (ev st.t x)) := by
  rw [do_pure rfl rfl]; simp only [pureF,isnF]; cases ev st.t x <;> rfl
theorem do_not (d g x) : doV P G ⟨d,g,.un .not x⟩ st K = pureK d st K (notF (ev st.t x)) := by
  rw [do_pure rfl rfl]; simp only [pureF,notF]; cases ev st.t x <;> rfl
theorem do_neg (d g x) : doV P G ⟨d,g,.un .neg x⟩ st K = pureK d st K (negF (ev st.t x)) := by
  rw [do_pure rfl rfl]; simp only [pureF,negF]; cases ev st.t x <;> rfl
theorem do_cvi (d g k x) : doV P G ⟨d,g,.cvi k x⟩ st K = pureK d st K (cviF k (ev st.t x)) := by
  rw [do_pure rfl rfl]; simp only [pureF,cviF]; cases ev st.t x <;> rfl
theorem do_fad (d g off x) : doV P G ⟨d,g,.fad off x⟩ st K = pureK d st K (fadF off (ev st.t x)) := by
  rw [do_pure rfl rfl]; simp only [pureF,fadF]; cases ev st.t x <;> rfl
theorem do_ext (d g x k) : doV P G ⟨d,g,.ext x k⟩ st K = pureK d st K (extF k (ev st.t x)) := by
  rw [do_pure rfl rfl]; simp only [pureF,extF]; cases ev st.t x <;> rfl
theorem do_len (d g x) : doV P G ⟨d,g,.len x⟩ st K = pureK d st K (lenF (ev st.t x)) := by
  rw [do_pure rfl rfl]; rfl
theorem do_lens (d g x) : doV P G ⟨d,g,.lens x⟩ st K = pureK d st K (lensF (ev st.t x)) := by
  rw [do_pure rfl rfl]; rfl
theorem do_eff {o : IOper} (hc : o.isCall = false) : doV P G o st K = effK o.d st K (effF o.op o.d st.t st.h) := by
  unfold doV effK
  cases ho : o.op <;> simp only [IOper.isCall,ho,Bool.true_eq_false] at hc ⊢
theorem do_box (d g ty x) : doV P G ⟨some d,g,.box ty x⟩ st K = effK (some d) st K (freshK (st.h (nm d)) (if (cellsV (ev st.t x)).all V.one = true then some (.pv (nm d) 0,[(nm d,.var ty (cellsV (ev st.t x)))],[nm d]) else none)) := do_eff rfl
theorem do_alloc (d g ty z) : doV P G ⟨some d,g,.alloc ty z⟩ st K = effK (some d) st K (freshK (st.h (nm d)) (some (.pv (nm d) 0,[(nm d,.var ty z)],[nm d]))) := do_eff rfl
theorem do_ld (d g sz ag x) : doV P G ⟨d,g,.ld sz ag x⟩ st K = optK (loadF st.h sz ag (ev st.t x)) fun r => K (st.app d r.1 []) r.2 [] := by
  rw [do_eff rfl]; simp only [effK,effF]; cases loadF st.h sz ag (ev st.t x) <;> rfl
theorem do_sto (d g sz x y) : doV P G ⟨d,g,.sto sz x y⟩ st K = optK (storeF st.h sz (ev st.t x) (ev st.t y)) fun r => K (st.app d (.tup []) r.1) r.2 (r.1.map Prod.fst) := by
  rw [do_eff rfl]; simp only [effK,effF]; cases storeF st.h sz (ev st.t x) (ev st.t y) <;> rfl
end
end Go.Proofs.YtblndjmhjaijjaaGreatDoor.VL
namespace Go.Proofs.YtblndjmhjaijjaaGreatDoor.VL
open Go Go.RowKit
def V.nl0 : V → Bool
  | .own .. | .view .. | .pv .. | .pa .. | .agg _ | .tup _ => false
  | _ => true
def V.nl1 : V → Bool
  | .fn _ caps => caps.all V.nl0
  | v => v.nl0
def V.nl2 : V → Bool
  | .agg fs => fs.all V.nl1
  | v => v.nl1
def V.nl : V → Bool
  | .tup vs => vs.all V.nl2
  | v => v.nl2
section
variable {F : Nat → Prop} {f : Nat → Nat} {h h' : Nat → Hs} {g : Nat → Nat}
theorem wk0_refl {v : V} (hv : v.nl0 = true) : Wk0 F f h h' v v := by
  cases v
  case sl sz rows => cases rows <;> rfl
  all_goals first | trivial | (simp [V.nl0] at hv; done) | rfl
theorem wk1_refl {v : V} (hv : v.nl1 = true) : Wk1 F f h h' v v := by
  cases hf : v.isFn
  · have h0 : v.nl0 = true := by cases v <;> first | exact hv | cases hf
    have h1 := wk0_refl (F := F) (f := f) (h := h) (h' := h') h0
    cases v <;> first | exact h1 | cases hf
  · cases v <;> first | cases hf; done | skip
    rename_i fn caps
    refine ⟨rfl,rfl,fun j v v' h1 h2 => ?_⟩
    rw [h1] at h2
    cases h2
    exact wk0_refl (List.all_eq_true.1 hv v (List.mem_of_getElem? h1))
theorem wk2_refl {v : V} (hv : v.nl2 = true) : Wk2 F f h h' v v := by
  cases hf : v.isAgg
  · have h0 : v.nl1 = true := by cases v <;> first | exact hv | cases hf
    have h1 := wk1_refl (F := F) (f := f) (h := h) (h' := h') h0
    cases v <;> first | exact h1 | cases hf
  · cases v <;> first | cases hf; done | skip
    rename_i fs
    refine ⟨rfl,fun j v v' h1 h2 => ?_⟩
    rw [h1] at h2
    cases h2
    exact wk1_refl (List.all_eq_true.1 hv v (List.mem_of_getElem? h1))
theorem wk_refl {v : V} (hv : v.nl = true) : Wk F f h h' v v := by
  cases hf : v.isTup
  · have h0 : v.nl2 = true := by cases v <;> first | exact hv | cases hf
    have h1 := wk2_refl (F := F) (f := f) (h := h) (h' := h') h0
    cases v <;> first | exact h1 | cases hf
  · cases v <;> first | cases hf; done | skip
    rename_i fs
    refine ⟨rfl,fun j v v' h1 h2 => ?_⟩
    rw [h1] at h2
    cases h2
    exact wk2_refl (List.all_eq_true.1 hv v (List.mem_of_getElem? h1))
theorem rn0_nl {v : V} (hv : v.nl0 = true) : v.rn0 g = v := by cases v <;> first | rfl | (simp [V.nl0] at hv; done)
theorem map_id' {l : List V} {k : V → V} (h : ∀ v,v ∈ l → k v = v) : l.map k = l := by
  induction l with
  | nil => rfl
  | cons a l ih => simp only [List.map_cons]; rw [h a (by simp),ih fun v hv => h v (by simp [hv])]
theorem rn1_nl {v : V} (hv : v.nl1 = true) : v.rn1 g = v := by
  cases hf : v.isFn
  · have h0 : v.nl0 = true := by cases v <;> first | exact hv | cases hf
    have h1 := rn0_nl (g := g) h0
    cases v <;> first | exact h1 | cases hf
  · cases v <;> first | cases hf; done | skip
    rename_i fn caps
    simp only [V.rn1]; rw [map_id' fun v h => rn0_nl (List.all_eq_true.1 hv v h)]
theorem rn2_nl {v : V} (hv : v.nl2 = true) : v.rn2 g = v := by
  cases hf : v.isAgg
  · have h0 : v.nl1 = true := by cases v <;> first | exact hv | cases hf
    have h1 := rn1_nl (g := g) h0
    cases v <;> first | exact h1 | cases hf
  · cases v <;> first | cases hf; done | skip
    rename_i fs
    simp only [V.rn2]; rw [map_id' fun v h => rn1_nl (List.all_eq_true.1 hv v h)]
theorem rn_nl {v : V} (hv : v.nl = true) : v.rn g = v := by
  cases hf : v.isTup
  · have h0 : v.nl2 = true := by cases v <;> first | exact hv | cases hf
    have h1 := rn2_nl (g := g) h0
    cases v <;> first | exact h1 | cases hf
  · cases v <;> first | cases hf; done | skip
    rename_i fs
    simp only [V.rn]; rw [map_id' fun v h => rn2_nl (List.all_eq_true.1 hv v h)]
end
theorem retQ_nl {rs : List RV} {post : V → List Hs → Prop} {st : St} (h : optK (resV st rs) fun v => v.nl = true ∧ post v []) : retQ rs 0 post .ret st := by
  obtain ⟨v,hv,hn,hp⟩ := optK_some h
  exact ⟨v,v,[],id,hv,hp,wk_refl hn,fun c => by simp only [chH,List.getElem?_nil,Option.getD_none]; cases st.h (id c) <;> trivial,fun x y hx => by simp [chH,Hs.live] at hx,fun i hi => by omega⟩
section
variable {P : Program} {G : Glob}
theorem callV0 {f : FuncId} {vs : List V} {post : V → List Hs → Prop} (F : FnP P G f 0 [] vs post) {d : Option Nat} {st : St} {K : St → List Nat → List Nat → Prop}
    (hvs : vs.all V.nl = true) (hpost : ∀ v out,post v out → v.nl = true ∧ out = []) (hk : ∀ v,post v [] → K (st.app d v []) [] []) : CallV P G f vs d st K := by
  have hs := callS F (vs := vs) (h := st.h) (ns := []) (lent := []) (kp := true) (d := 0) (m := 0) (by simp) rfl List.nodup_nil rfl
    (fun h' _ j v v' h1 h2 => by rw [h1] at h2; cases h2; exact wk_refl (List.all_eq_true.1 hvs v (List.mem_of_getElem? h1))) (fun h' _ i s hs => by simp at hs) (fun c hc => by cases hc)
    (fun res out hp => by obtain ⟨_,rfl⟩ := hpost res out hp; exact ⟨Nat.le_refl _,Nat.le_refl _,.inl rfl,fun i hi => by omega⟩) (fun i hi => by omega)
  refine ⟨_,_,_,hs,fun v up hp => ?_⟩
  obtain ⟨res,out,hp,rfl,rfl⟩ := hp
  obtain ⟨hn,rfl⟩ := hpost res out hp
  rw [rn_nl hn]
  exact hk res hp
end
end Go.Proofs.YtblndjmhjaijjaaGreatDoor.VL
namespace Go.Proofs.YtblndjmhjaijjaaGreatDoor.VL
open Go Go.RowKit
theorem getL_hit (k : Nat) (v : V) (l : List (Nat × V)) : getL ((k,v) :: l) k = v := by simp [getL]
theorem getL_miss {k x : Nat} (v : V) (l : List (Nat × V)) (h : x ≠ k) : getL ((k,v) :: l) x = getL l x := by simp [getL,h]
theorem getH_nil (x : Nat) : getH [] x = .fresh := of_eq_true (eq_self _)
theorem getH_hit (k : Nat) (v : Hs) (l : List (Nat × Hs)) : getH ((k,v) :: l) k = v := by simp [getH]
theorem getH_miss {k x : Nat} (v : Hs) (l : List (Nat × Hs)) (h : x ≠ k) : getH ((k,v) :: l) x = getH l x := by simp [getH,h]
theorem ev_t (t : Nat → V) (n : Nat) : ev t (.t n) = t n := of_eq_true (eq_self _)
theorem ev_c (t : Nat → V) (v : V) : ev t (.c v) = v := of_eq_true (eq_self _)
def gdV (b : Bool) : V → Option Bool
  | .bool c => some (c == b)
  | .tup [] => some false
  | _ => none
theorem gd_n (n : Nat) (b : Bool) (t : Nat → V) : gd (some (n,b)) t = gdV b (t n) := by
  simp only [gd]
  generalize t n = x
  unfold gdV
  cases x <;> first | rfl | (rename_i l; cases l <;> rfl)
theorem gdV_t (c : Bool) : gdV true (.bool c) = some c := by cases c <;> rfl
theorem gdV_f (c : Bool) : gdV false (.bool c) = some (!c) := by cases c <;> rfl
theorem gdV_s (b : Bool) : gdV b (.tup []) = some false := of_eq_true (eq_self _)
theorem pick_b (c : Bool) (a b : V) : pickF (.bool c) a b = some (bif c then a else b) := of_eq_true (eq_self _)
theorem argL_nil (k : Nat) : argL k [] = [] := of_eq_true (eq_self _)
theorem argL_cons (k : Nat) (v : V) (vs : List V) : argL k (v :: vs) = (k,v) :: argL (k + 1) vs := of_eq_true (eq_self _)
theorem argH_nil (k : Nat) : argH k [] = [] := of_eq_true (eq_self _)
theorem argH_cons (k : Nat) (v : Hs) (vs : List Hs) : argH k (v :: vs) = (k,v) :: argH (k + 1) vs := of_eq_true (eq_self _)
theorem nm_eq (d : Nat) : nm d = 1000 + d := of_eq_true (eq_self _)
end Go.Proofs.YtblndjmhjaijjaaGreatDoor.VL
namespace Go.Proofs.YtblndjmhjaijjaaGreatDoor.VL
open Go Go.RowKit
theorem fresh_k {α : Type} (x : Option α) : freshK .fresh x = x := of_eq_true (eq_self _)
def ldVar (sz : Nat) (agg : Bool) (c o : Nat) : Hs → Option (V × List Nat)
  | .var _ row => bif agg then (subV row o sz).map fun r => (.agg r,[c]) else (row[o]?).map fun v => (v,[c])
  | _ => none
def ldArr (sz : Nat) (agg : Bool) (c i o : Nat) : Hs → Option (V × List Nat)
  | .arr _ _ rows => bif agg then (subV (rows.getD i []) o sz).map fun r => (.agg r,[c]) else ((rows.getD i [])[o]?).map fun v => (v,[c])
  | _ => none
def ldRow (sz : Nat) (agg : Bool) (o : Nat) (row : List V) : Option (V × List Nat) := bif agg then (subV row o sz).map fun r => (.agg r,[]) else (row[o]?).map fun v => (v,[])
theorem ld_pv (h : Nat → Hs) (sz agg c o) : loadF h sz agg (.pv c o) = ldVar sz agg c o (h c) := by
  simp only [loadF,ldVar]; cases h c <;> rfl
theorem ld_pa (h : Nat → Hs) (sz agg c i o) : loadF h sz agg (.pa c i o) = ldArr sz agg c i o (h c) := by
  simp only [loadF,ldArr]; cases h c <;> rfl
theorem ld_ip (h : Nat → Hs) (sz agg row o) : loadF h sz agg (.iptr row o) = ldRow sz agg o row := of_eq_true (eq_self _)
def ldA (c : List Nat) (x : Option (List V)) : Option (V × List Nat) := x.map fun r => (.agg r,c)
def ld1 (c : List Nat) (x : Option V) : Option (V × List Nat) := x.map fun r => (r,c)
theorem ldVar_t (ty row sz c o) : ldVar sz true c o (.var ty row) = ldA [c] (subV row o sz) := of_eq_true (eq_self _)
theorem ldVar_f (ty row sz c o) : ldVar sz false c o (.var ty row) = ld1 [c] row[o]? := of_eq_true (eq_self _)
theorem ldArr_t (ty s rows sz c i o) : ldArr sz true c i o (.arr ty s rows) = ldA [c] (subV (rows.getD i []) o sz) := of_eq_true (eq_self _)
theorem ldArr_f (ty s rows sz c i o) : ldArr sz false c i o (.arr ty s rows) = ld1 [c] (rows.getD i [])[o]? := of_eq_true (eq_self _)
theorem ldRow_t (row sz o) : ldRow sz true o row = ldA [] (subV row o sz) := of_eq_true (eq_self _)
theorem ldRow_f (row sz o) : ldRow sz false o row = ld1 [] row[o]? := of_eq_true (eq_self _)
theorem ldA_s (c x) : ldA c (some x) = some (.agg x,c) := of_eq_true (eq_self _)
theorem ld1_s (c x) : ld1 c (some x) = some (x,c) := of_eq_true (eq_self _)
theorem sub_ok {row : List V} {o sz : Nat} (h : o + sz ≤ row.length) : subV row o sz = some ((row.drop o).take sz) := by simp [subV,h]
def stVar (sz c o : Nat) (cs : List V) : Hs → Option (List (Nat × Hs) × List Nat)
  | .var ty row => if cs.all V.one = true ∧ o + sz ≤ row.length then some ([(c,.var ty (setR row o cs))],[c]) else none
  | _ => none
def stArr (sz c i o : Nat) (cs : List V) : Hs → Option (List (Nat × Hs) × List Nat)
  | .arr ty s rows => if cs.all V.closed = true ∧ o + sz ≤ s then some ([(c,.arr ty s (rows.set i (setR (rows.getD i []) o cs)))],[c]) else none
  | _ => none
theorem st_pv (h : Nat → Hs) (sz c o x) (hl : (cellsV x).length = sz) : storeF h sz (.pv c o) x = stVar sz c o (cellsV x) (h c) := by
  simp only [storeF,stVar,hl,if_true]; cases h c <;> rfl
theorem st_pa (h : Nat → Hs) (sz c i o x) (hl : (cellsV x).length = sz) : storeF h sz (.pa c i o) x = stArr sz c i o (cellsV x) (h c) := by
  simp only [storeF,stArr,hl,if_true]; cases h c <;> rfl
theorem stVar_v (sz c o cs ty row) (h1 : cs.all V.one = true) (h2 : o + sz ≤ row.length) : stVar sz c o cs (.var ty row) = some ([(c,.var ty (setR row o cs))],[c]) := by
  simp only [stVar,h1,h2,and_self,if_true]
theorem stArr_a (sz c i o cs ty s rows) (h1 : cs.all V.closed = true) (h2 : o + sz ≤ s) : stArr sz c i o cs (.arr ty s rows) = some ([(c,.arr ty s (rows.set i (setR (rows.getD i []) o cs)))],[c]) := by
  simp only [stArr,h1,h2,and_self,if_true]
theorem cells_agg (fs : List V) : cellsV (.agg fs) = fs := of_eq_true (eq_self _)
theorem cells_int (k n) : cellsV (.int k n) = [.int k n] := of_eq_true (eq_self _)
theorem cells_bool (b) : cellsV (.bool b) = [.bool b] := of_eq_true (eq_self _)
theorem cells_str (s) : cellsV (.str s) = [.str s] := of_eq_true (eq_self _)
theorem cells_own (c n) : cellsV (.own c n) = [.own c n] := of_eq_true (eq_self _)
theorem cells_sl (c n) : cellsV (.sl c n) = [.sl c n] := of_eq_true (eq_self _)
theorem cells_nils : cellsV .nils = [.nils] := of_eq_true (eq_self _)
theorem effK_s {st : St} {K : St → List Nat → List Nat → Prop} (d v up tc) : effK d st K (some (v,up,tc)) = K (st.app d v up) tc (up.map Prod.fst) := of_eq_true (eq_self _)
theorem fad_pv (off c o) : fadF off (.pv c o) = some (.pv c (o + off)) := of_eq_true (eq_self _)
theorem fad_pa (off c i o) : fadF off (.pa c i o) = some (.pa c i (o + off)) := of_eq_true (eq_self _)
theorem fad_ip (off r o) : fadF off (.iptr r o) = some (.iptr r (o + off)) := of_eq_true (eq_self _)
theorem nilc_pv (c o) : nilcF (.pv c o) = some (.pv c o) := of_eq_true (eq_self _)
theorem nilc_pa (c i o) : nilcF (.pa c i o) = some (.pa c i o) := of_eq_true (eq_self _)
theorem nilc_ip (r o) : nilcF (.iptr r o) = some (.iptr r o) := of_eq_true (eq_self _)
theorem not_b (b) : notF (.bool b) = some (.bool (!b)) := of_eq_true (eq_self _)
theorem ext_t (k vs) : extF k (.tup vs) = vs[k]? := of_eq_true (eq_self _)
end Go.Proofs.YtblndjmhjaijjaaGreatDoor.VL
namespace Go.Proofs.YtblndjmhjaijjaaGreatDoor.VL
open Go Go.RowKit
def FnR (P : Program) (G : Glob) (f : FuncId) (vs : List V) (v : V) : Prop := FnP P G f 0 [] vs (fun r o => r = v ∧ o = [])
def retR (rs : List RV) (v : V) : Ex → St → Prop
  | .exit _,_ => False
  | _,st => resV st rs = some v
section
variable {P : Program} {G : Glob}
theorem wpI_mono (pin : Nat) : ∀ (ic : IC) (Q Q' : Ex → St → Prop),(∀ e s,Q e s → Q' e s) → ∀ st,wpI P G pin ic Q st → wpI P G pin ic Q' st := by
  have hrunT : ∀ (os : List IOper) (K K' : St → Prop),(∀ s,K s → K' s) → ∀ st,runT P G os st K → runT P G os st K' := by
    intro os K K' hk
    induction os with
    | nil => exact fun st h => hk st h
    | cons o os ih => exact fun st h => stepV_mono (fun s _ _ h => ih s h) h
  have hrunD : ∀ (bef : List Nat) (os : List (Nat × IOper)) (K K' : St → Prop),(∀ s,K s → K' s) → ∀ st tr,runD P G bef os st tr K → runD P G bef os st tr K' := by
    intro bef os K K' hk
    induction os with
    | nil => exact fun st tr h => hk st h
    | cons o os ih => exact fun st tr h => stepV_mono (fun s _ _ h => ⟨h.1,ih s _ h.2⟩) h
  have hexN : ∀ (K K' : St → Prop) (Q Q' : Ex → St → Prop),(∀ s,K s → K' s) → (∀ e s,Q e s → Q' e s) → ∀ e s,exN K Q e s → exN K' Q' e s := by
    intro K K' Q Q' hk hq e s h
    cases e
    · exact hk s h
    · exact hq _ s h
    · exact hq _ s h
  intro ic
  induction ic with
  | skip => exact fun Q Q' hq st h => hq _ st h
  | reg ops => exact fun Q Q' hq st h => hrunT ops _ _ (hq _) st h
  | drw bef ops => exact fun Q Q' hq st h => hrunD bef ops _ _ (hq _) st _ h
  | seq a b iha ihb => exact fun Q Q' hq st h => iha _ _ (hexN _ _ _ _ (ihb _ _ hq) hq) st h
  | cond x a b iha ihb =>
    intro Q Q' hq st h
    simp only [wpI] at h ⊢
    unfold condK at h ⊢
    split at h
    · exact iha _ _ hq st h
    · exact ihb _ _ hq st h
    · exact h
  | block i b ih =>
    intro Q Q' hq st h
    refine ih _ _ (fun e s hs => ?_) st h
    cases e
    · exact hq _ s hs
    · simp only [exB] at hs ⊢
      split
      · rename_i hi; rw [if_pos hi] at hs; exact hq _ s hs
      · rename_i hi; rw [if_neg hi] at hs; exact hq _ s hs
    · exact hq _ s hs
  | loop b ih =>
    intro Q Q' hq st ⟨I,k,s0,hl,hI,hr⟩
    exact ⟨I,k,s0,hl,hI,fun k s hs => ih _ _ (hexN _ _ _ _ (fun _ h => h) hq) s (hr k s hs)⟩
  | exit i => exact fun Q Q' hq st h => hq _ st h
  | ret => exact fun Q Q' hq st h => hq _ st h
theorem FnR.mk' {f : FuncId} {fn : Func} {ic : IC} {rs : List RV} {args : List V} {v : V} (hf : P.funcs[f]? = some fn) (hn : entr P f = true) (hd : digF P fn = some (ic,rs)) {n : Nat} (hnt : fn.ntmps = n)
    (ha : args.length ≤ n) (hv : v.nl = true) (h : wpI P G 0 ic (retR rs v) ⟨getL (argL 0 args),getH []⟩) : FnR P G f args v := by
  refine FnP.mk' hf hn hd hnt ha ⟨_,_,rfl,rfl⟩ ?_
  have : chH [] = getH [] := chH_getH []
  rw [this]
  refine wpI_mono 0 ic _ _ (fun e s hs => ?_) _ h
  cases e
  · have hs : resV s rs = some v := hs
    have := retQ_nl (rs := rs) (post := fun r o => r = v ∧ o = []) (st := s) (by rw [hs]; exact ⟨hv,rfl,rfl⟩)
    exact this
  · exact hs.elim
  · have hs : resV s rs = some v := hs
    exact retQ_nl (rs := rs) (post := fun r o => r = v ∧ o = []) (st := s) (by rw [hs]; exact ⟨hv,rfl,rfl⟩)
theorem callR {f : FuncId} {vs : List V} {v : V} (F : FnR P G f vs v) {d : Option Nat} {st : St} {K : St → List Nat → List Nat → Prop} (hvs : vs.all V.nl = true) (hv : v.nl = true) (hk : K (st.app d v []) [] []) :
    CallV P G f vs d st K :=
  callV0 F hvs (fun r o ⟨h1,h2⟩ => ⟨by rw [h1]; exact hv,h2⟩) (fun r ⟨h1,_⟩ => by rw [h1]; exact hk)
end
end Go.Proofs.YtblndjmhjaijjaaGreatDoor.VL
namespace Go.Proofs.YtblndjmhjaijjaaGreatDoor.VL
open Go Go.RowKit
def getN : List (Nat × Nat) → Nat → Nat
  | [],x => x
  | (k,v) :: l,x => if x = k then v else getN l x
section
variable {F F' : Nat → Prop} {f : Nat → Nat} {h h1 h' : Nat → Hs}
theorem FzV.congr {v v' : V} (hF : ∀ c,F c → F' c ∧ h1 c = h c) (hw : FzV F h v v') : FzV F' h1 v v' := by
  cases v <;> cases v' <;> simp only [FzV] at hw ⊢
  · obtain ⟨a,b,c⟩ := hw; exact ⟨by rw [(hF _ c).2]; exact a,b,(hF _ c).1⟩
  · obtain ⟨a,b,c⟩ := hw; exact ⟨by rw [(hF _ c).2]; exact a,b,(hF _ c).1⟩
  · obtain ⟨a,b,c,d⟩ := hw; exact ⟨a,by rw [(hF _ d).2]; exact b,c,(hF _ d).1⟩
theorem Wk0.congr {v v' : V} (hF : ∀ c,F c → F' c ∧ h1 c = h c) (hw : Wk0 F f h h' v v') : Wk0 F' f h1 h' v v' := by
  have fz : FzV F h v v' → FzV F' h1 v v' := FzV.congr hF
  cases v <;> cases v' <;> first | exact hw | exact fz hw | (rename_i a b; cases b <;> first | exact hw | exact fz hw) | (rename_i a; cases a <;> first | exact hw | exact fz hw)
theorem Wk1.congr {v v' : V} (hF : ∀ c,F c → F' c ∧ h1 c = h c) (hw : Wk1 F f h h' v v') : Wk1 F' f h1 h' v v' := by
  have w0 : Wk0 F f h h' v v' → Wk0 F' f h1 h' v v' := Wk0.congr hF
  cases v <;> first | exact w0 hw | skip
  cases v' <;> first | exact w0 hw | skip
  exact ⟨hw.1,hw.2.1,fun j v v' a b => (hw.2.2 j v v' a b).congr hF⟩
theorem Wk2.congr {v v' : V} (hF : ∀ c,F c → F' c ∧ h1 c = h c) (hw : Wk2 F f h h' v v') : Wk2 F' f h1 h' v v' := by
  have w0 : Wk1 F f h h' v v' → Wk1 F' f h1 h' v v' := Wk1.congr hF
  cases v <;> first | exact w0 hw | skip
  cases v' <;> first | exact w0 hw | skip
  exact ⟨hw.1,fun j v v' a b => (hw.2 j v v' a b).congr hF⟩
theorem Wk.congr {v v' : V} (hF : ∀ c,F c → F' c ∧ h1 c = h c) (hw : Wk F f h h' v v') : Wk F' f h1 h' v v' := by
  have w0 : Wk2 F f h h' v v' → Wk2 F' f h1 h' v v' := Wk2.congr hF
  cases v <;> first | exact w0 hw | skip
  cases v' <;> first | exact w0 hw | skip
  exact ⟨hw.1,fun j v v' a b => (hw.2 j v v' a b).congr hF⟩
theorem WkH.congr {a b : Hs} (hF : ∀ c,F c → F' c ∧ h1 c = h c) (hw : WkH F f h h' a b) : WkH F' f h1 h' a b := by
  cases b <;> cases a <;> simp only [WkH] at hw ⊢ <;> first | exact hw | skip
  exact ⟨hw.1,hw.2.1,fun j v v' x y => (hw.2.2 j v v' x y).congr hF⟩
def WkL (R : V → V → Prop) : List V → List V → Prop
  | [],[] => True
  | v :: vs,v' :: vs' => R v v' ∧ WkL R vs vs'
  | _,_ => False
theorem WkL.spec {R : V → V → Prop} : ∀ {vs vs' : List V},WkL R vs vs' → vs'.length = vs.length ∧ ∀ (j : Nat) v v',vs[j]? = some v → vs'[j]? = some v' → R v v'
  | [],[],_ => ⟨rfl,fun j v v' h => by simp at h⟩
  | v :: vs,v' :: vs',⟨h1,h2⟩ => by
    obtain ⟨a,b⟩ := h2.spec
    refine ⟨by simp [a],fun j x x' hx hx' => ?_⟩
    cases j with
    | zero => simp at hx hx'; subst hx hx'; exact h1
    | succ j => exact b j x x' (by simpa using hx) (by simpa using hx')
theorem wk1_fn {g : Nat} {a b : List V} (h : WkL (Wk0 F f h1 h') a b) : Wk1 F f h1 h' (.fn g a) (.fn g b) := ⟨rfl,h.spec⟩
theorem wkh_var {ty : Nat} {a b : List V} (h : WkL (Wk1 F f h1 h') a b) : WkH F f h1 h' (.var ty a) (.var ty b) := ⟨rfl,h.spec⟩
theorem wkh_fresh {a : Hs} : WkH F f h1 h' a .fresh := by cases a <;> trivial
theorem wkh_dead {a : Hs} (ha : a ≠ .fresh) : WkH F f h1 h' a .dead := by cases a <;> exact ha
def V.bot : V → Bool
  | .tup _ | .agg _ | .fn .. => false
  | _ => true
theorem wk_bot {v v' : V} (hv : v.bot = true) : Wk F f h1 h' v v' = Wk0 F f h1 h' v v' := by cases v <;> first | rfl | cases hv
theorem wk2_bot {v v' : V} (hv : v.bot = true) : Wk2 F f h1 h' v v' = Wk0 F f h1 h' v v' := by cases v <;> first | rfl | cases hv
theorem wk1_bot {v v' : V} (hv : v.bot = true) : Wk1 F f h1 h' v v' = Wk0 F f h1 h' v v' := by cases v <;> first | rfl | cases hv
theorem wk_undef {v : V} : Wk F f h1 h' v .undef = True := by cases v <;> rfl
theorem wk_tup_e {a b : List V} : Wk F f h1 h' (.tup a) (.tup b) = WkL (Wk2 F f h1 h') a b := by
  refine propext ⟨fun hw => ?_,fun hw => hw.spec⟩
  obtain ⟨hl,hw⟩ := hw
  induction a generalizing b with
  | nil => cases b <;> first | trivial | cases hl
  | cons x a ih =>
    cases b with
    | nil => cases hl
    | cons y b => exact ⟨hw 0 x y rfl rfl,ih (by simpa using hl) fun j v v' h1 h2 => hw (j + 1) v v' (by simpa using h1) (by simpa using h2)⟩
theorem wk2_agg_e {a b : List V} : Wk2 F f h1 h' (.agg a) (.agg b) = WkL (Wk1 F f h1 h') a b := by
  refine propext ⟨fun hw => ?_,fun hw => hw.spec⟩
  obtain ⟨hl,hw⟩ := hw
  induction a generalizing b with
  | nil => cases b <;> first | trivial | cases hl
  | cons x a ih =>
    cases b with
    | nil => cases hl
    | cons y b => exact ⟨hw 0 x y rfl rfl,ih (by simpa using hl) fun j v v' h1 h2 => hw (j + 1) v v' (by simpa using h1) (by simpa using h2)⟩
theorem wk_agg_e {a b : List V} : Wk F f h1 h' (.agg a) (.agg b) = WkL (Wk1 F f h1 h') a b := wk2_agg_e
theorem wk1_fn_e {g : Nat} {a b : List V} (h : WkL (Wk0 F f h1 h') a b) : Wk1 F f h1 h' (.fn g a) (.fn g b) = True := eq_true (wk1_fn h)
theorem wk2_fn_e {g : Nat} {a b : List V} (h : WkL (Wk0 F f h1 h') a b) : Wk2 F f h1 h' (.fn g a) (.fn g b) = True := eq_true (wk1_fn h)
theorem wk_fn_e {g : Nat} {a b : List V} (h : WkL (Wk0 F f h1 h') a b) : Wk F f h1 h' (.fn g a) (.fn g b) = True := eq_true (wk1_fn h)
theorem wkl_nil {R : V → V → Prop} : WkL R [] [] = True := of_eq_true (eq_self _)
theorem wkl_cons {R : V → V → Prop} {v v' : V} {vs vs' : List V} : WkL R (v :: vs) (v' :: vs') = (R v v' ∧ WkL R vs vs') := of_eq_true (eq_self _)
theorem wkh_var_e {ty : Nat} {a b : List V} : WkH F f h1 h' (.var ty a) (.var ty b) = WkL (Wk1 F f h1 h') a b := by
  refine propext ⟨fun hw => ?_,fun hw => wkh_var hw⟩
  have := wk2_agg_e (F := F) (f := f) (h1 := h1) (h' := h') (a := a) (b := b)
  rw [← this]
  exact hw.2
theorem wkh_arr_e {ty sz : Nat} {a b : List (List V)} : WkH F f h1 h' (.arr ty sz a) (.arr ty sz b) = (b = a) := by
  simp [WkH]
theorem wkh_fresh_e {a : Hs} : WkH F f h1 h' a .fresh = True := eq_true wkh_fresh
theorem wkh_dead_v {ty : Nat} {row : List V} : WkH F f h1 h' (.var ty row) .dead = True := eq_true (wkh_dead (by simp))
theorem wkh_dead_a {ty sz : Nat} {row : List (List V)} : WkH F f h1 h' (.arr ty sz row) .dead = True := eq_true (wkh_dead (by simp))
theorem wkh_dead_d : WkH F f h1 h' .dead .dead = True := eq_true (wkh_dead (by simp))
theorem wk0_undef {v : V} : Wk0 F f h1 h' v .undef = True := by cases v <;> rfl
theorem wk0_int {k k' : IntKind} {a b : Int} : Wk0 F f h1 h' (.int k a) (.int k' b) = (k' = k ∧ b = a) := by simp [Wk0]
theorem wk0_bool {a b : Bool} : Wk0 F f h1 h' (.bool a) (.bool b) = (b = a) := by simp [Wk0]
theorem wk0_str {a b : List UInt8} : Wk0 F f h1 h' (.str a) (.str b) = (b = a) := by simp [Wk0]
theorem wk0_nils : Wk0 F f h1 h' .nils .nils = True := by simp [Wk0]
theorem wk0_nils_sl {sz : Nat} {r : List (List V)} : Wk0 F f h1 h' .nils (.sl sz r) = (r = []) := by cases r <;> simp [Wk0]
theorem wk0_nilp : Wk0 F f h1 h' .nilp .nilp = True := by simp [Wk0]
theorem wk0_nile : Wk0 F f h1 h' .nile .nile = True := by simp [Wk0]
theorem wk0_erre : Wk0 F f h1 h' .erre .erre = True := by simp [Wk0]
theorem wk0_sl {s s' : Nat} {a b : List (List V)} : Wk0 F f h1 h' (.sl s a) (.sl s' b) = (s' = s ∧ b = a) := by cases b <;> simp [Wk0]
theorem wk0_iptr {o o' : Nat} {a b : List V} : Wk0 F f h1 h' (.iptr a o) (.iptr b o') = (b = a ∧ o' = o) := by simp [Wk0]
theorem wk0_own {c k c' k' : Nat} : Wk0 F f h1 h' (.own c k) (.own c' k') = (f c' = c ∧ k' = k ∧ h' c' ≠ .fresh) := of_eq_true (eq_self _)
theorem wk0_view {c o k c' o' k' : Nat} : Wk0 F f h1 h' (.view c o k) (.view c' o' k') = (f c' = c ∧ o' = o ∧ k' = k ∧ h' c' ≠ .fresh) := of_eq_true (eq_self _)
theorem wk0_pv {c k c' k' : Nat} : Wk0 F f h1 h' (.pv c k) (.pv c' k') = (f c' = c ∧ k' = k ∧ h' c' ≠ .fresh) := of_eq_true (eq_self _)
theorem wk0_pa {c o k c' o' k' : Nat} : Wk0 F f h1 h' (.pa c o k) (.pa c' o' k') = (f c' = c ∧ o' = o ∧ k' = k ∧ h' c' ≠ .fresh) := of_eq_true (eq_self _)
def fzA : Hs → Nat → List (List V) → Prop
  | .arr _ sz rows,sz',rows' => sz' = sz ∧ rows' = rows
  | _,_,_ => False
theorem fzA_a {ty sz sz' : Nat} {rows rows' : List (List V)} : fzA (.arr ty sz rows) sz' rows' = (sz' = sz ∧ rows' = rows) := of_eq_true (eq_self _)
def fzW : Hs → Nat → Nat → Nat → List (List V) → Prop
  | .arr _ sz rows,o,k,sz',rows' => sz' = sz ∧ rows' = (rows.drop o).take k
  | _,_,_,_,_ => False
theorem fzW_a {ty sz sz' o k : Nat} {rows rows' : List (List V)} : fzW (.arr ty sz rows) o k sz' rows' = (sz' = sz ∧ rows' = (rows.drop o).take k) := of_eq_true (eq_self _)
def fzP : Hs → List V → Prop
  | .var _ row,row' => row' = row
  | _,_ => False
theorem fzP_v {ty : Nat} {row row' : List V} : fzP (.var ty row) row' = (row' = row) := of_eq_true (eq_self _)
theorem wk0_own_sl {c k sz : Nat} {rows : List (List V)} : Wk0 F f h1 h' (.own c k) (.sl sz rows) = (fzA (h1 c) sz rows ∧ rows.length = k ∧ F c) := by
  refine propext ⟨fun hw => ?_,fun ⟨a,b,d⟩ => ?_⟩
  · have hw : FzV F h1 (.own c k) (.sl sz rows) := by cases rows <;> exact hw
    obtain ⟨⟨ty,a⟩,b,d⟩ := hw
    exact ⟨by rw [a]; exact ⟨rfl,rfl⟩,b,d⟩
  · have : FzV F h1 (.own c k) (.sl sz rows) := by
      cases hc : h1 c <;> rw [hc] at a <;> simp only [fzA] at a
      obtain ⟨rfl,rfl⟩ := a
      exact ⟨⟨_,hc⟩,b,d⟩
    cases rows <;> exact this
theorem wk0_view_sl {c o k sz : Nat} {rows : List (List V)} : Wk0 F f h1 h' (.view c o k) (.sl sz rows) = (fzW (h1 c) o k sz rows ∧ rows.length = k ∧ F c) := by
  refine propext ⟨fun hw => ?_,fun ⟨a,b,d⟩ => ?_⟩
  · have hw : FzV F h1 (.view c o k) (.sl sz rows) := by cases rows <;> exact hw
    obtain ⟨⟨ty,all,a,a2⟩,b,d⟩ := hw
    exact ⟨by rw [a]; exact ⟨rfl,a2⟩,b,d⟩
  · have : FzV F h1 (.view c o k) (.sl sz rows) := by
      cases hc : h1 c <;> rw [hc] at a <;> simp only [fzW] at a
      obtain ⟨rfl,a2⟩ := a
      exact ⟨⟨_,_,hc,a2⟩,b,d⟩
    cases rows <;> exact this
theorem wk0_pv_iptr {c o o' : Nat} {row : List V} : Wk0 F f h1 h' (.pv c o) (.iptr row o') = (o' = o ∧ fzP (h1 c) row ∧ row.all V.closed = true ∧ F c) := by
  refine propext ⟨fun hw => ?_,fun ⟨a,b,d,e⟩ => ?_⟩
  · obtain ⟨a,⟨ty,b⟩,d,e⟩ := hw
    exact ⟨a,by rw [b]; rfl,d,e⟩
  · have : FzV F h1 (.pv c o) (.iptr row o') := by
      cases hc : h1 c <;> rw [hc] at b <;> simp only [fzP] at b
      subst b
      exact ⟨a,⟨_,hc⟩,d,e⟩
    exact this
end
def NsL (R : Nat → Hs → Prop) : List Nat → List Hs → Prop
  | [],[] => True
  | n :: ns,s :: cs => R n s ∧ NsL R ns cs
  | _,_ => False
theorem nsl_nil {R : Nat → Hs → Prop} : NsL R [] [] = True := of_eq_true (eq_self _)
theorem nsl_cons {R : Nat → Hs → Prop} {n s ns cs} : NsL R (n :: ns) (s :: cs) = (R n s ∧ NsL R ns cs) := of_eq_true (eq_self _)
theorem NsL.spec {R : Nat → Hs → Prop} : ∀ {ns : List Nat} {cs : List Hs},NsL R ns cs → ns.length = cs.length ∧ ∀ (i : Nat) s,cs[i]? = some s → R (nsF ns i) s
  | [],[],_ => ⟨rfl,fun i s h => by simp at h⟩
  | n :: ns,s :: cs,⟨h1,h2⟩ => by
    obtain ⟨a,b⟩ := h2.spec
    refine ⟨by simp [a],fun i s' hs => ?_⟩
    cases i with
    | zero => simp at hs; subst hs; simpa [nsF] using h1
    | succ i => have := b i s' (by simpa using hs); simpa [nsF] using this
def WkS (R : V → V → Prop) (t : Nat → V) : List (Nat × V) → Prop
  | [] => True
  | (k,v) :: l => R (t k) v ∧ WkS R t l
def WkN (R : Hs → Hs → Prop) (g : Nat → Hs) : List (Nat × Hs) → Prop
  | [] => True
  | (k,v) :: l => R (g k) v ∧ WkN R g l
def nonB (fs : List (Nat × Nat)) : List (Nat × Hs) → Nat → Bool
  | [],_ => true
  | (k,_) :: m,c => (getN fs k != c) && nonB fs m c
def pinOk (fs : List (Nat × Nat)) (h : Nat → Hs) : Nat → Prop
  | 0 => True
  | n + 1 => pinOk fs h n ∧ getN fs n = n ∧ h n ≠ .fresh
theorem WkS_nil {R : V → V → Prop} {t : Nat → V} : WkS R t [] = True := of_eq_true (eq_self _)
theorem WkS_cons {R : V → V → Prop} {t : Nat → V} {k : Nat} {v : V} {l : List (Nat × V)} : WkS R t ((k,v) :: l) = (R (t k) v ∧ WkS R t l) := of_eq_true (eq_self _)
theorem WkN_nil {R : Hs → Hs → Prop} {t : Nat → Hs} : WkN R t [] = True := of_eq_true (eq_self _)
theorem WkN_cons {R : Hs → Hs → Prop} {t : Nat → Hs} {k : Nat} {v : Hs} {l : List (Nat × Hs)} : WkN R t ((k,v) :: l) = (R (t k) v ∧ WkN R t l) := of_eq_true (eq_self _)
theorem nonB_nil {fs : List (Nat × Nat)} {c : Nat} : nonB fs [] c = true := of_eq_true (eq_self _)
theorem nonB_cons {fs : List (Nat × Nat)} {c k : Nat} {s : Hs} {m : List (Nat × Hs)} : nonB fs ((k,s) :: m) c = ((getN fs k != c) && nonB fs m c) := of_eq_true (eq_self _)
theorem getN_nil (x : Nat) : getN [] x = x := of_eq_true (eq_self _)
theorem getN_hit (k : Nat) (v : Nat) (l : List (Nat × Nat)) : getN ((k,v) :: l) k = v := by simp [getN]
theorem getN_miss {k x : Nat} (v : Nat) (l : List (Nat × Nat)) (h : x ≠ k) : getN ((k,v) :: l) x = getN l x := by simp [getN,h]
theorem pinOk_0 {fs : List (Nat × Nat)} {h : Nat → Hs} : pinOk fs h 0 = True := of_eq_true (eq_self _)
theorem pinOk_s {fs : List (Nat × Nat)} {h : Nat → Hs} {n : Nat} : pinOk fs h (n + 1) = (pinOk fs h n ∧ getN fs n = n ∧ h n ≠ .fresh) := of_eq_true (eq_self _)
theorem WkS.all {R : V → V → Prop} (hu : ∀ v,R v .undef) {t : Nat → V} : ∀ {l : List (Nat × V)},WkS R t l → ∀ d,R (t d) (getL l d)
  | [],_,d => hu _
  | (k,v) :: l,h,d => by
    simp only [getL]
    split
    · rename_i e; subst e; exact h.1
    · exact h.2.all hu d
theorem WkN.all {R : Hs → Hs → Prop} (hu : ∀ v,R v .fresh) {fs : List (Nat × Nat)} {g : Nat → Hs} : ∀ {l : List (Nat × Hs)},WkN R (fun c => g (getN fs c)) l → ∀ d,R (g (getN fs d)) (getH l d)
  | [],_,d => hu _
  | (k,v) :: l,h,d => by
    simp only [getH]
    split
    · rename_i e; subst e; exact h.1
    · exact h.2.all hu d
theorem getH_mem : ∀ {m : List (Nat × Hs)} {c : Nat},getH m c ≠ .fresh → ∃ s,(c,s) ∈ m
  | [],c,h => absurd rfl h
  | (k,s) :: m,c,h => by
    simp only [getH] at h
    split at h
    · rename_i e; subst e; exact ⟨s,by simp⟩
    · obtain ⟨s',hs⟩ := getH_mem h; exact ⟨s',by simp [hs]⟩
theorem nonB_spec {fs : List (Nat × Nat)} {c : Nat} : ∀ {m : List (Nat × Hs)},nonB fs m c = true → ∀ k s,(k,s) ∈ m → getN fs k ≠ c
  | [],_,k,s,h => by cases h
  | (k0,s0) :: m,hb,k,s,h => by
    simp only [nonB,Bool.and_eq_true,bne_iff_ne,ne_eq] at hb
    rcases List.mem_cons.1 h with h | h
    · cases h; exact hb.1
    · exact nonB_spec hb.2 k s h
theorem nonB_noN {fs : List (Nat × Nat)} {c : Nat} {m : List (Nat × Hs)} (h : nonB fs m c = true) : NoN (getN fs) (getH m) c := fun c' hl => by
  obtain ⟨s,hs⟩ := getH_mem (live_fresh hl)
  exact nonB_spec h _ _ hs
theorem inj_of_nodup {fs : List (Nat × Nat)} {m : List (Nat × Hs)} (h : (m.map fun p => getN fs p.1).Nodup) : ∀ x y,(getH m x).live = true → (getH m y).live = true → getN fs x = getN fs y → x = y := by
  have key : ∀ (m : List (Nat × Hs)),(m.map fun p => getN fs p.1).Nodup → ∀ x y s s',(x,s) ∈ m → (y,s') ∈ m → getN fs x = getN fs y → x = y := by
    intro m
    induction m with
    | nil => intro _ x y s s' hx; cases hx
    | cons a m ih =>
      intro hn x y s s' hx hy he
      simp only [List.map_cons,List.nodup_cons,List.mem_map,not_exists,not_and] at hn
      rcases List.mem_cons.1 hx with hx1 | hx1 <;> rcases List.mem_cons.1 hy with hy1 | hy1
      · rw [← hx1] at hy1; cases hy1; rfl
      · subst hx1; exact absurd he.symm (hn.1 (y,s') hy1)
      · subst hy1; exact absurd he (hn.1 (x,s) hx1)
      · exact ih hn.2 x y s s' hx1 hy1 he
  intro x y hx hy he
  obtain ⟨s,hs⟩ := getH_mem (live_fresh hx)
  obtain ⟨s',hs'⟩ := getH_mem (live_fresh hy)
  exact key m h x y s s' hs hs' he
theorem pinOk.spec {fs : List (Nat × Nat)} {h : Nat → Hs} : ∀ {n : Nat},pinOk fs h n → ∀ i,i < n → getN fs i = i ∧ h i ≠ .fresh
  | 0,_,i,hi => by omega
  | n + 1,hp,i,hi => by
    by_cases e : i = n
    · subst e; exact hp.2
    · exact hp.1.spec i (by omega)
theorem leN {G : Glob} {pin : Nat} {l1 l2 : List (Nat × V)} {m1 m2 : List (Nat × Hs)} (fs : List (Nat × Nat))
    (ht : WkS (Wk (fun c => nonB fs m2 c = true) (getN fs) (getH m1) (getH m2)) (getL l1) l2)
    (hh : WkN (WkH (fun c => nonB fs m2 c = true) (getN fs) (getH m1) (getH m2)) (fun c => getH m1 (getN fs c)) m2)
    (hi : (m2.map fun p => getN fs p.1).Nodup) (hp : pinOk fs (getH m2) pin) : St.le G pin ⟨getL l1,getH m1⟩ ⟨getL l2,getH m2⟩ := by
  have hF : ∀ c,nonB fs m2 c = true → NoN (getN fs) (getH m2) c ∧ getH m1 c = getH m1 c := fun c hc => ⟨nonB_noN hc,rfl⟩
  refine LeR.le (f := getN fs) ⟨fun d => ?_,fun c => ?_,inj_of_nodup hi,hp.spec⟩
  · exact (WkS.all (fun v => by rw [wk_undef]; trivial) ht d).congr hF
  · exact (WkN.all (fun v => wkh_fresh) hh c).congr hF
section
variable {P : Program} {G : Glob}
theorem loopN {α : Type} {pin : Nat} {ic : IC} {Q : Ex → St → Prop} {st : St} (S : α → St) (M : α → Nat) (Inv : α → Prop) (a0 : α) (h0 : st.le G pin (S a0)) (hi : Inv a0)
    (hr : ∀ a,Inv a → wpI P G pin ic (exN (fun s' => ∃ a',M a' < M a ∧ Inv a' ∧ s'.le G pin (S a')) Q) (S a)) : LoopI G pin (wpI P G pin ic) Q st := by
  refine ⟨fun k s => ∃ a,M a = k ∧ Inv a ∧ s = S a,M a0,S a0,h0,⟨a0,rfl,hi,rfl⟩, ?_⟩
  rintro k s ⟨a,rfl,ha,rfl⟩
  refine wpI_mono pin ic _ _ (fun e s hs => ?_) _ (hr a ha)
  cases e
  · obtain ⟨a',h1,h2,h3⟩ := hs
    exact ⟨M a',S a',h1,h3,a',rfl,h2,rfl⟩
  · exact hs
  · exact hs
theorem retN {rs : List RV} {pin : Nat} {post : V → List Hs → Prop} {l : List (Nat × V)} {m : List (Nat × Hs)} (res : V) (out : List Hs) (fs : List (Nat × Nat))
    (hv : optK (resV ⟨getL l,getH m⟩ rs) fun v => Wk (fun c => nonB fs (argH 0 out) c = true) (getN fs) (getH m) (getH (argH 0 out)) v res) (hp : post res out)
    (hh : WkN (WkH (fun c => nonB fs (argH 0 out) c = true) (getN fs) (getH m) (getH (argH 0 out))) (fun c => getH m (getN fs c)) (argH 0 out))
    (hi : ((argH 0 out).map fun p => getN fs p.1).Nodup) (hpi : pinOk fs (getH (argH 0 out)) pin) : retQ rs pin post .ret ⟨getL l,getH m⟩ := by
  have hF : ∀ c,nonB fs (argH 0 out) c = true → NoN (getN fs) (getH (argH 0 out)) c ∧ getH m c = getH m c := fun c hc => ⟨nonB_noN hc,rfl⟩
  obtain ⟨v,hv,hw⟩ := optK_some hv
  refine ⟨v,res,out,getN fs,hv,hp, ?_,fun c => ?_, ?_, ?_⟩
  · rw [chH_getH]; exact hw.congr hF
  · rw [chH_getH]; exact (WkN.all (fun v => wkh_fresh) hh c).congr hF
  · rw [chH_getH]; exact inj_of_nodup hi
  · rw [chH_getH]; exact hpi.spec
def retF (rs : List RV) (v : V) : Ex → St → Prop
  | .exit _,_ => False
  | _,st => optK (resV st rs) fun r => Wk (fun _ => True) id st.h (fun _ => .fresh) r v
theorem retF_n (rs v) (st : St) : retF rs v .normal st = optK (resV st rs) fun r => Wk (fun _ => True) id st.h (fun _ => .fresh) r v := of_eq_true (eq_self _)
theorem retF_r (rs v) (st : St) : retF rs v .ret st = optK (resV st rs) fun r => Wk (fun _ => True) id st.h (fun _ => .fresh) r v := of_eq_true (eq_self _)
theorem FnR.mkF {f : FuncId} {fn : Func} {ic : IC} {rs : List RV} {args : List V} {v : V} (hf : P.funcs[f]? = some fn) (hn : entr P f = true) (hd : digF P fn = some (ic,rs)) {n : Nat} (hnt : fn.ntmps = n)
    (ha : args.length ≤ n) (h : wpI P G 0 ic (retF rs v) ⟨getL (argL 0 args),getH []⟩) : FnR P G f args v := by
  refine FnP.mk' hf hn hd hnt ha ⟨_,_,rfl,rfl⟩ ?_
  have : chH [] = getH [] := chH_getH []
  rw [this]
  refine wpI_mono 0 ic _ _ (fun e s hs => ?_) _ h
  have key : (optK (resV s rs) fun r => Wk (fun _ => True) id s.h (fun _ => .fresh) r v) → retQ rs 0 (fun r o => r = v ∧ o = []) .ret s := fun hs => by
    obtain ⟨r,hr,hw⟩ := optK_some hs
    have hc : chH [] = fun _ => .fresh := by funext x; simp [chH]
    refine ⟨r,v,[],id,hr,⟨rfl,rfl⟩, ?_,fun c => ?_,fun x y hx => ?_,fun i hi => by omega⟩
    · rw [hc]; exact hw.congr fun c _ => ⟨fun c' hl => (by cases hl),rfl⟩
    · rw [hc]; exact wkh_fresh
    · rw [hc] at hx; cases hx
  cases e
  · exact key hs
  · exact hs.elim
  · exact key hs
theorem callN {f : FuncId} {pin : Nat} {cs : List Hs} {args : List V} {postf : V → List Hs → Prop} (F : FnP P G f pin cs args postf) {vs : List V} {d : Option Nat} {st : St} {K : St → List Nat → List Nat → Prop}
    (ns lent : List Nat) (kp : Bool) (dd m : Nat)
    (hw : WkL (Wk (fun c => c ∈ lent) (nsF ns) st.h (chH cs)) vs args)
    (hc : NsL (fun n s => s.live = true ∧ WkH (fun c => c ∈ lent) (nsF ns) st.h (chH cs) (st.h n) s) ns cs)
    (hpin : pin ≤ ns.length) (hnd : ns.Nodup) (hl : ∀ c,c ∈ lent → (st.h c).live = true ∧ c ∉ ns)
    (ho : ∀ res out,postf res out → pin ≤ out.length ∧ out.length ≤ m ∧ (kp = true ∨ (res.plain = true ∧ ∀ s,s ∈ out → s.plain = true)) ∧ ∀ i,i < pin → stepOk (chH cs i) (chH out i) = true)
    (hf : ∀ i,i < m → st.h (newN dd i) = .fresh)
    (hk : ∀ res out,postf res out → K (st.app d (res.rn (bk ns pin dd)) (outU (bk ns pin dd) 0 out ++ deads (ns.drop pin ++ bif kp then lent else []))) (callTc ns lent dd m) (callTc ns (bif kp then lent else []) dd m)) :
    CallV P G f vs d st K := by
  obtain ⟨hlen,hw⟩ := hw.spec
  have hF : ∀ h' : Nat → Hs,(∀ c,c ∈ callTc ns lent dd m → h' c = st.h c) → ∀ c,c ∈ lent → c ∈ lent ∧ h' c = st.h c := fun h' hh c hc => ⟨hc,hh c (by simp [callTc,hc])⟩
  obtain ⟨h20,h21⟩ := hc.spec
  have h2 : ns.length = cs.length ∧ ∀ (i : Nat) s,cs[i]? = some s → s.live = true ∧ WkH (fun c => c ∈ lent) (nsF ns) st.h (chH cs) (st.h (nsF ns i)) s ∧ nsF ns i ∈ ns :=
    ⟨h20,fun i s hs => ⟨(h21 i s hs).1,(h21 i s hs).2,mem_nsF (by rw [h20]; exact (List.getElem?_eq_some_iff.1 hs).1)⟩⟩
  have hs := callS F (vs := vs) (h := st.h) (ns := ns) (lent := lent) (kp := kp) (d := dd) (m := m) hpin h2.1 hnd hlen.symm
    (fun h' hh j v v' h1 h2 => (hw j v v' h1 h2).congr (hF h' hh))
    (fun h' hh i s hs => by
      obtain ⟨a,b,e⟩ := h2.2 i s hs
      refine ⟨a, ?_⟩
      rw [hh (nsF ns i) (by simp [callTc,e])]
      exact b.congr (hF h' hh)) hl ho hf
  refine ⟨_,_,_,hs,fun v up hp => ?_⟩
  obtain ⟨res,out,hp,rfl,rfl⟩ := hp
  exact hk res out hp
theorem callF {f : FuncId} {args : List V} {v : V} (F : FnR P G f args v) {vs : List V} {d : Option Nat} {st : St} {K : St → List Nat → List Nat → Prop} (lent : List Nat) (kp : Bool)
    (hw : WkL (Wk (fun c => c ∈ lent) (nsF []) st.h (chH [])) vs args) (hl : ∀ c,c ∈ lent → (st.h c).live = true) (hv : v.nl = true) (hk : kp = true ∨ v.plain = true)
    (hK : K (st.app d v (deads (bif kp then lent else []))) lent (bif kp then lent else [])) : CallV P G f vs d st K := by
  refine callN F [] lent kp 0 0 hw trivial (Nat.zero_le _) List.nodup_nil (fun c hc => ⟨hl c hc,by simp⟩) ?_ (fun i hi => by omega) ?_
  · rintro res out ⟨rfl,rfl⟩
    exact ⟨Nat.le_refl _,Nat.le_refl _,hk.imp id fun h => ⟨h,fun s hs => by cases hs⟩,fun i hi => by omega⟩
  · rintro res out ⟨rfl,rfl⟩
    have h1 : ∀ l : List Nat,callTc [] l 0 0 = l := fun l => by simp [callTc]
    rw [rn_nl hv,h1,h1]
    simpa [outU] using hK
end
end Go.Proofs.YtblndjmhjaijjaaGreatDoor.VL
namespace Go.Proofs.YtblndjmhjaijjaaGreatDoor.VL
open Go Go.RowKit
section
variable {Q : Ex → St → Prop} {st : St}
theorem exB_h (i) : exB i Q (.exit i) st = Q .normal st := by simp [exB]
theorem exB_m {i j : Nat} (h : j ≠ i) : exB i Q (.exit j) st = Q (.exit j) st := by simp [exB,h]
end
theorem stepV_congr {P : Program} {G : Glob} {o : IOper} {st st' : St} {K : St → List Nat → List Nat → Prop} (h : st = st') : stepV P G o st K = stepV P G o st' K := by rw [h]
theorem doV_congr {P : Program} {G : Glob} {o : IOper} {st st' : St} {K : St → List Nat → List Nat → Prop} (h : st = st') : doV P G o st K = doV P G o st' K := by rw [h]
theorem exN_congr {K : St → Prop} {Q : Ex → St → Prop} {e : Ex} {st st' : St} (h : st = st') : exN K Q e st = exN K Q e st' := by rw [h]
theorem exB_congr {i : Nat} {Q : Ex → St → Prop} {e : Ex} {st st' : St} (h : st = st') : exB i Q e st = exB i Q e st' := by rw [h]
theorem retF_congr {rs : List RV} {v : V} {e : Ex} {st st' : St} (h : st = st') : retF rs v e st = retF rs v e st' := by rw [h]
theorem retQ_congr {rs : List RV} {n : Nat} {post : V → List Hs → Prop} {e : Ex} {st st' : St} (h : st = st') : retQ rs n post e st = retQ rs n post e st' := by rw [h]
def fstO (o : Option (V × List Nat)) : Option V := o.map Prod.fst
def consO : Option V → Option (List V) → Option (List V)
  | some v,some l => some (v :: l)
  | _,_ => none
theorem consO_s (v : V) (l : List V) : consO (some v) (some l) = some (v :: l) := of_eq_true (eq_self _)
def resK (o : Option (List V)) : Option V := o.bind resL
theorem resK_s (l : List V) : resK (some l) = resL l := of_eq_true (eq_self _)
theorem resV_k (st : St) (rs : List RV) : resV st rs = resK (rs.mapM (rvV st)) := of_eq_true (eq_self _)
theorem rvs_nil (st : St) : ([] : List RV).mapM (rvV st) = some [] := by simp
theorem rvs_t (st : St) (n : Nat) (rs : List RV) : (RV.t n :: rs).mapM (rvV st) = consO (some (st.t n)) (rs.mapM (rvV st)) := by
  simp only [List.mapM_cons,rvV]
  cases rs.mapM (rvV st) <;> rfl
theorem rvs_c (st : St) (n sz : Nat) (ag : Bool) (rs : List RV) : (RV.cell n sz ag :: rs).mapM (rvV st) = consO (fstO (loadF st.h sz ag (st.t n))) (rs.mapM (rvV st)) := by
  simp only [List.mapM_cons,rvV,fstO]
  cases loadF st.h sz ag (st.t n) <;> cases rs.mapM (rvV st) <;> rfl
theorem fstO_s (v : V) (l : List Nat) : fstO (some (v,l)) = some v := of_eq_true (eq_self _)
theorem resL_1 (v : V) : resL [v] = some v := of_eq_true (eq_self _)
theorem resL_2 {a b : V} (h : (a.untup && b.untup) = true) : resL [a,b] = some (.tup [a,b]) := by
  simp only [resL,List.all_cons,List.all_nil,Bool.and_true,h,if_true]
theorem resL_3 {a b c : V} (h : (a.untup && (b.untup && c.untup)) = true) : resL [a,b,c] = some (.tup [a,b,c]) := by
  simp only [resL,List.all_cons,List.all_nil,Bool.and_true,h,if_true]
theorem resL_4 {a b c d : V} (h : (a.untup && (b.untup && (c.untup && d.untup))) = true) : resL [a,b,c,d] = some (.tup [a,b,c,d]) := by
  simp only [resL,List.all_cons,List.all_nil,Bool.and_true,h,if_true]
theorem isn_nile (ng : Bool) : isnF ng .nile = some (.bool (!ng)) := of_eq_true (eq_self _)
theorem isn_erre (ng : Bool) : isnF ng .erre = some (.bool ng) := of_eq_true (eq_self _)
theorem neg_i (k : IntKind) (n : Int) : negF (.int k n) = some (.int k (k.wrap (0 - n))) := of_eq_true (eq_self _)
theorem cvi_i (k k' : IntKind) (n : Int) : cviF k (.int k' n) = some (.int k (k.wrap n)) := of_eq_true (eq_self _)
theorem i64w {n : Int} (h : -9223372036854775808 ≤ n ∧ n ≤ 9223372036854775807) : IntKind.i64.wrap n = n := IntWalk.i64_in n h
theorem u8w {n : Int} (h : 0 ≤ n ∧ n ≤ 255) : IntKind.u8.wrap n = n := IntWalk.u8_in n h
def slsG (s : List UInt8) (l u : Option Int) : Option V := match l,u with
  | some l,some u => guardP (0 ≤ l ∧ l ≤ u ∧ u ≤ s.length) (some (.str ((s.take u.toNat).drop l.toNat)))
  | _,_ => none
def slsF (x : V) (lo hi : Option V) : Option V := match x with
  | .str s => slsG s (loV lo) (hiV s.length hi)
  | _ => none
def idxF (x i : V) : Option V := match x,i with
  | .str s,.int _ n => guardP (0 ≤ n ∧ n < s.length) (some (.int .u8 ((s.getD n.toNat 0).toNat : Int)))
  | _,_ => none
def mnF (x y : V) : Option V := match x,y with
  | .int k a,.int k' b => if k = k' then some (.int k (min a b)) else none
  | _,_ => none
def mxF (x y : V) : Option V := match x,y with
  | .int k a,.int k' b => if k = k' then some (.int k (max a b)) else none
  | _,_ => none
def s2bF : V → Option (V × List (Nat × Hs) × List Nat)
  | .str s => guardP (s.length ≤ 2000000) (some (.sl 1 (s.map fun b => [.int .u8 (b.toNat : Int)]),[],[]))
  | _ => none
def bytO (tc : List Nat) (x : Option (List UInt8)) : Option (V × List (Nat × Hs) × List Nat) := x.map fun s => (.str s,[],tc)
def b2sF (x : Option (List (List V) × List Nat)) : Option (V × List (Nat × Hs) × List Nat) := match x with
  | some (rows,tc) => bytO tc (bytesR rows)
  | none => none
def slvG (sz : Nat) (rows : List (List V)) (l u : Option Int) : Option (V × List (Nat × Hs) × List Nat) := match l,u with
  | some l,some u => guardP (0 ≤ l ∧ l ≤ u ∧ u ≤ rows.length) (some (.sl sz ((rows.take u.toNat).drop l.toNat),[],[]))
  | _,_ => none
def slvN (sz : Nat) (l u : Option Int) : Option (V × List (Nat × Hs) × List Nat) := match l,u with
  | some l,some u => guardP (l = 0 ∧ u = 0) (some (.sl sz [],[],[]))
  | _,_ => none
def slvO (sz c k : Nat) (a : Hs) (l u : Option Int) : Option (V × List (Nat × Hs) × List Nat) := match a with
  | .arr _ s rows => match l,u with
    | some l,some u => if s = sz then guardP (0 ≤ l ∧ l ≤ u ∧ u ≤ k ∧ k ≤ rows.length) (some (.view c l.toNat (u.toNat - l.toNat),[],[c])) else none
    | _,_ => none
  | _ => none
def slvF (h : Nat → Hs) (sz : Nat) (x : V) (lo hi : Option V) : Option (V × List (Nat × Hs) × List Nat) := match x with
  | .sl s rows => if s = sz then slvG sz rows (loV lo) (hiV rows.length hi) else none
  | .own c k => slvO sz c k (h c) (loV lo) (hiV k hi)
  | .nils => slvN sz (loV lo) (hiV 0 hi)
  | _ => none
def iadG (rows : List (List V)) (n : Int) : Option (V × List (Nat × Hs) × List Nat) := guardP (0 ≤ n ∧ n < rows.length) (some (.iptr (rows.getD n.toNat []) 0,[],[]))
def iadO (sz c k : Nat) (a : Hs) (n : Int) : Option (V × List (Nat × Hs) × List Nat) := match a with
  | .arr _ s rows => if s = sz then guardP (0 ≤ n ∧ n < k ∧ k ≤ rows.length) (some (.pa c n.toNat 0,[],[c])) else none
  | _ => none
def iadW (sz c o k : Nat) (a : Hs) (n : Int) : Option (V × List (Nat × Hs) × List Nat) := match a with
  | .arr _ s rows => if s = sz then guardP (0 ≤ n ∧ n < k ∧ o + k ≤ rows.length) (some (.pa c (o + n.toNat) 0,[],[c])) else none
  | _ => none
def iadF (h : Nat → Hs) (sz : Nat) (x i : V) : Option (V × List (Nat × Hs) × List Nat) := match x,i with
  | .sl s rows,.int _ n => if s = sz then iadG rows n else none
  | .own c k,.int _ n => iadO sz c k (h c) n
  | .view c o k,.int _ n => iadW sz c o k (h c) n
  | _,_ => none
def bldF (zero : List V) (parts : List (Nat × Nat × V)) : Option V := if parts.all (fun p => (cellsV p.2.2).all V.one) = true then (fillV zero parts).map .agg else none
def mkfF (f : Nat) (caps : List V) : Option V := if caps.all (fun v => v.one && !v.isFn) = true then some (.fn f caps) else none
def rowO (h : Nat → Hs) (sz : Nat) (v : V) : Option (List (List V) × List Nat) := rowsF h sz v
def appO (ty sz n : Nat) (ys : List (List V)) (tc : List Nat) (c m : Nat) (a : Hs) : Option (V × List (Nat × Hs) × List Nat) := match a with
  | .arr ty' s rows => if s = sz ∧ ty' = ty then guardP (rows.length = n ∧ n + ys.length ≤ 2000000) (some (.own m (n + ys.length),[(c,.dead),(m,.arr ty sz (rows ++ ys))],c :: m :: tc)) else none
  | _ => none
def appG (h : Nat → Hs) (ty sz m : Nat) (x : V) (r : Option (List (List V) × List Nat)) : Option (V × List (Nat × Hs) × List Nat) := match r with
  | none => none
  | some (ys,tc) => freshK (h m) <| match x with
    | .nils => guardP (ys.length ≤ 2000000) (some (.own m ys.length,[(m,.arr ty sz ys)],m :: tc))
    | .own c n => appO ty sz n ys tc c m (h c)
    | _ => none
section
variable {P : Program} {G : Glob} {st : St} {K : St → List Nat → List Nat → Prop}
theorem do_sls (d g x lo hi) : doV P G ⟨d,g,.sls x lo hi⟩ st K = pureK d st K (slsF (ev st.t x) (lo.map (ev st.t)) (hi.map (ev st.t))) := by
  rw [do_pure rfl rfl]; simp only [pureF,slsF,slsG]
  cases ev st.t x <;> rfl
theorem do_idx (d g x i) : doV P G ⟨d,g,.idx x i⟩ st K = pureK d st K (idxF (ev st.t x) (ev st.t i)) := by
  rw [do_pure rfl rfl]; simp only [pureF,idxF]; cases ev st.t x <;> cases ev st.t i <;> rfl
theorem do_mn (d g x y) : doV P G ⟨d,g,.mn x y⟩ st K = pureK d st K (mnF (ev st.t x) (ev st.t y)) := by
  rw [do_pure rfl rfl]; simp only [pureF,mnF]; cases ev st.t x <;> cases ev st.t y <;> rfl
theorem do_mx (d g x y) : doV P G ⟨d,g,.mx x y⟩ st K = pureK d st K (mxF (ev st.t x) (ev st.t y)) := by
  rw [do_pure rfl rfl]; simp only [pureF,mxF]; cases ev st.t x <;> cases ev st.t y <;> rfl
theorem do_build (d g zero parts) : doV P G ⟨d,g,.build zero parts⟩ st K = pureK d st K (bldF zero (parts.map fun p => (p.1,p.2.1,ev st.t p.2.2))) := by
  rw [do_pure rfl rfl]; simp only [pureF,bldF,List.all_map]; rfl
theorem do_mkf (d g f caps) : doV P G ⟨d,g,.mkf f caps⟩ st K = pureK d st K (mkfF f (caps.map (ev st.t))) := by
  rw [do_pure rfl rfl]; simp only [pureF,mkfF,List.all_map]; rfl
theorem do_s2b (d g x) : doV P G ⟨d,g,.s2b x⟩ st K = effK d st K (s2bF (ev st.t x)) := by
  rw [do_eff rfl]; simp only [effF,s2bF]; cases ev st.t x <;> rfl
theorem do_b2s (d g x) : doV P G ⟨d,g,.b2s x⟩ st K = effK d st K (b2sF (rowO st.h 1 (ev st.t x))) := by
  rw [do_eff rfl]; simp only [effF,b2sF,rowO,bytO]; cases rowsF st.h 1 (ev st.t x) <;> rfl
theorem do_slv (d g sz x lo hi) : doV P G ⟨d,g,.slv sz x lo hi⟩ st K = effK d st K (slvF st.h sz (ev st.t x) (lo.map (ev st.t)) (hi.map (ev st.t))) := by
  rw [do_eff rfl]; simp only [effF,slvF]
  cases hx : ev st.t x
  case nils => simp only [slvN]; cases loV (lo.map (ev st.t)) <;> cases hiV 0 (hi.map (ev st.t)) <;> rfl
  case sl s rows =>
    simp only [slvG]
    cases loV (lo.map (ev st.t)) <;> cases hiV rows.length (hi.map (ev st.t)) <;> by_cases h : s = sz <;> simp [h]
  case own c k =>
    simp only [slvO]
    cases st.h c <;> cases loV (lo.map (ev st.t)) <;> cases hiV k (hi.map (ev st.t)) <;> rfl
  all_goals rfl
theorem do_iad (d g sz x i) : doV P G ⟨d,g,.iad sz x i⟩ st K = effK d st K (iadF st.h sz (ev st.t x) (ev st.t i)) := by
  rw [do_eff rfl]; simp only [effF,iadF]
  cases ev st.t x <;> cases ev st.t i <;> first | rfl | (rename_i c k _ _; simp only [iadO]; cases st.h c <;> rfl) | (rename_i c o k _ _; simp only [iadW]; cases st.h c <;> rfl)
theorem do_bsl (d g ty sz xs) : doV P G ⟨some d,g,.bsl ty sz xs⟩ st K = effK (some d) st K (freshK (st.h (nm d)) (if xs.all (fun x => decide ((cellsV (ev st.t x)).length = sz) && (cellsV (ev st.t x)).all V.closed) = true then
        some (.own (nm d) xs.length,[(nm d,.arr ty sz (xs.map fun x => cellsV (ev st.t x)))],[nm d])
      else if xs.all (fun x => decide ((cellsV (ev st.t x)).length = sz) && ((cellsV (ev st.t x)).map (z0V st.h)).all V.closed) = true then
        some (.own (nm d) xs.length,[(nm d,.arr ty sz (xs.map fun x => (cellsV (ev st.t x)).map (z0V st.h)))],nm d :: xs.flatMap fun x => (cellsV (ev st.t x)).flatMap z0N) else none)) := do_eff rfl
def mksF (h : Nat → Hs) (ty sz m : Nat) : V → Option (V × List (Nat × Hs) × List Nat)
  | .int _ n => freshK (h m) (guardP (0 ≤ n ∧ n ≤ 2000000) (some (.own m 0,[(m,.arr ty sz [])],[m])))
  | _ => none
theorem do_mks (d g ty sz x) : doV P G ⟨some d,g,.mks ty sz x⟩ st K = effK (some d) st K (mksF st.h ty sz (nm d) (ev st.t x)) := by
  rw [do_eff rfl]; simp only [effF,mksF]; cases ev st.t x <;> rfl
theorem do_app (d g ty sz x y) : doV P G ⟨some d,g,.app ty sz x y⟩ st K = effK (some d) st K (appG st.h ty sz (nm d) (ev st.t x) (rowO st.h sz (ev st.t y))) := by
  rw [do_eff rfl]; simp only [effF,appF,appG,rowO]
  cases rowsF st.h sz (ev st.t y) with
  | none => rfl
  | some r =>
    obtain ⟨ys,tc⟩ := r
    cases ev st.t x <;> first | rfl | (rename_i c n; simp only [appO]; cases st.h c <;> rfl)
def calK (P : Program) (G : Glob) (xs : List V) (d : Option Nat) (st : St) (K : St → List Nat → List Nat → Prop) : V → Prop
  | .fn f caps => CallV P G f (xs ++ caps) d st K
  | _ => False
theorem do_cal (d g x xs) : doV P G ⟨d,g,.cal x xs⟩ st K = calK P G (xs.map (ev st.t)) d st K (ev st.t x) := by
  simp only [doV,calK]; cases ev st.t x <;> rfl
theorem calK_f (xs d f caps) : calK P G xs d st K (.fn f caps) = CallV P G f (xs ++ caps) d st K := of_eq_true (eq_self _)
theorem calK_congr {xs : List V} {d : Option Nat} {v v' : V} (h : v = v') : calK P G xs d st K v = calK P G xs d st K v' := by rw [h]
theorem pureG {d : Option Nat} {c : Prop} {inst : Decidable c} {x : Option V} (h1 : c) (h2 : pureK d st K x) : pureK d st K (guardP c x) := by rw [guardP_pos _ h1]; exact h2
theorem effG {d : Option Nat} {c : Prop} {inst : Decidable c} {x : Option (V × List (Nat × Hs) × List Nat)} (h1 : c) (h2 : effK d st K x) : effK d st K (guardP c x) := by rw [guardP_pos _ h1]; exact h2
end
theorem guardP_T {α : Type} {inst : Decidable True} (x : Option α) : @guardP α True inst x = x := guardP_pos x trivial
theorem sls_s (s lo hi) : slsF (.str s) lo hi = slsG s (loV lo) (hiV s.length hi) := of_eq_true (eq_self _)
theorem slsG_s (s l u) : slsG s (some l) (some u) = guardP (0 ≤ l ∧ l ≤ u ∧ u ≤ s.length) (some (.str ((s.take u.toNat).drop l.toNat))) := of_eq_true (eq_self _)
theorem loV_n : loV none = some 0 := of_eq_true (eq_self _)
theorem loV_i (k n) : loV (some (.int k n)) = some n := of_eq_true (eq_self _)
theorem hiV_n (k) : hiV k none = some (k : Int) := of_eq_true (eq_self _)
theorem hiV_i (m k n) : hiV m (some (.int k n)) = some n := of_eq_true (eq_self _)
theorem idx_s (s k n) : idxF (.str s) (.int k n) = guardP (0 ≤ n ∧ n < s.length) (some (.int .u8 ((s.getD n.toNat 0).toNat : Int))) := of_eq_true (eq_self _)
theorem mn_i (k a b) : mnF (.int k a) (.int k b) = some (.int k (min a b)) := by simp [mnF]
theorem mx_i (k a b) : mxF (.int k a) (.int k b) = some (.int k (max a b)) := by simp [mxF]
theorem s2b_s (s) : s2bF (.str s) = guardP (s.length ≤ 2000000) (some (.sl 1 (s.map fun b => [.int .u8 (b.toNat : Int)]),[],[])) := of_eq_true (eq_self _)
theorem b2s_s (rows tc) : b2sF (some (rows,tc)) = bytO tc (bytesR rows) := of_eq_true (eq_self _)
theorem bytO_s (tc s) : bytO tc (some s) = some (.str s,[],tc) := of_eq_true (eq_self _)
theorem bytes_nil : bytesR [] = some [] := of_eq_true (eq_self _)
def conB (b : UInt8) : Option (List UInt8) → Option (List UInt8)
  | some l => some (b :: l)
  | none => none
theorem conB_s (b l) : conB b (some l) = some (b :: l) := of_eq_true (eq_self _)
theorem bytes_cons (n : Int) (r) : bytesR ([.int .u8 n] :: r) = conB (UInt8.ofNat n.toNat) (bytesR r) := by simp only [bytesR,conB]; cases bytesR r <;> rfl
theorem slv_sl (h sz rows lo hi) : slvF h sz (.sl sz rows) lo hi = slvG sz rows (loV lo) (hiV rows.length hi) := by simp [slvF]
theorem slv_own (h sz c k lo hi) : slvF h sz (.own c k) lo hi = slvO sz c k (h c) (loV lo) (hiV k hi) := of_eq_true (eq_self _)
theorem slv_nils (h sz lo hi) : slvF h sz .nils lo hi = slvN sz (loV lo) (hiV 0 hi) := of_eq_true (eq_self _)
theorem slvG_s (sz rows l u) : slvG sz rows (some l) (some u) = guardP (0 ≤ l ∧ l ≤ u ∧ u ≤ rows.length) (some (.sl sz ((rows.take u.toNat).drop l.toNat),[],[])) := of_eq_true (eq_self _)
theorem slvN_s (sz l u) : slvN sz (some l) (some u) = guardP (l = 0 ∧ u = 0) (some (.sl sz [],[],[])) := of_eq_true (eq_self _)
theorem slvO_s (sz c k ty rows l u) : slvO sz c k (.arr ty sz rows) (some l) (some u) = guardP (0 ≤ l ∧ l ≤ u ∧ u ≤ k ∧ k ≤ rows.length) (some (.view c l.toNat (u.toNat - l.toNat),[],[c])) := by simp [slvO]
theorem iad_sl (h sz rows k n) : iadF h sz (.sl sz rows) (.int k n) = iadG rows n := by simp [iadF]
theorem iadG_map {α : Type} [Inhabited α] (l : List α) (f : α → List V) (n) : iadG (l.map f) n = guardP (0 ≤ n ∧ n < l.length) (some (.iptr (f (l.getD n.toNat default)) 0,[],[])) := by
  simp only [iadG,List.length_map]
  by_cases h : 0 ≤ n ∧ n < (l.length : Int)
  · rw [guardP_pos _ h,guardP_pos _ h]
    have : n.toNat < l.length := by omega
    simp [List.getD,this]
  · simp [guardP,h]
theorem take_map {α β : Type} (f : α → β) (l : List α) (n : Nat) : (l.map f).take n = (l.take n).map f := List.map_take.symm
theorem drop_map {α β : Type} (f : α → β) (l : List α) (n : Nat) : (l.map f).drop n = (l.drop n).map f := List.map_drop.symm
theorem iad_own (h sz c k k' n) : iadF h sz (.own c k) (.int k' n) = iadO sz c k (h c) n := of_eq_true (eq_self _)
theorem iad_view (h sz c o k k' n) : iadF h sz (.view c o k) (.int k' n) = iadW sz c o k (h c) n := of_eq_true (eq_self _)
theorem iadO_a (sz c k ty rows n) : iadO sz c k (.arr ty sz rows) n = guardP (0 ≤ n ∧ n < k ∧ k ≤ rows.length) (some (.pa c n.toNat 0,[],[c])) := by simp [iadO]
theorem iadW_a (sz c o k ty rows n) : iadW sz c o k (.arr ty sz rows) n = guardP (0 ≤ n ∧ n < k ∧ o + k ≤ rows.length) (some (.pa c (o + n.toNat) 0,[],[c])) := by simp [iadW]
theorem mks_i (h : Nat → Hs) (ty sz m k n) : mksF h ty sz m (.int k n) = freshK (h m) (guardP (0 ≤ n ∧ n ≤ 2000000) (some (.own m 0,[(m,.arr ty sz [])],[m]))) := of_eq_true (eq_self _)
theorem rowO_nils (h sz) : rowO h sz .nils = some ([],[]) := of_eq_true (eq_self _)
theorem rowO_sl (h sz rows) : rowO h sz (.sl sz rows) = some (rows,[]) := by simp [rowO,rowsF]
def rowA (sz c n : Nat) : Hs → Option (List (List V) × List Nat)
  | .arr _ s rows => if s = sz then guardP (n ≤ rows.length) (some (rows.take n,[c])) else none
  | _ => none
theorem rowO_own (h : Nat → Hs) (sz c n) : rowO h sz (.own c n) = rowA sz c n (h c) := by simp only [rowO,rowsF,rowA]; cases h c <;> rfl
theorem rowA_a {sz c n ty rows} (hl : rows.length = n) : rowA sz c n (.arr ty sz rows) = some (rows,[c]) := by
  subst hl; simp [rowA,guardP]
theorem appG_nils (h : Nat → Hs) (ty sz m ys tc) : appG h ty sz m .nils (some (ys,tc)) = freshK (h m) (guardP (ys.length ≤ 2000000) (some (.own m ys.length,[(m,.arr ty sz ys)],m :: tc))) := of_eq_true (eq_self _)
theorem appG_own (h : Nat → Hs) (ty sz m c n ys tc) : appG h ty sz m (.own c n) (some (ys,tc)) = freshK (h m) (appO ty sz n ys tc c m (h c)) := of_eq_true (eq_self _)
theorem appO_a (ty sz n ys tc c m rows) : appO ty sz n ys tc c m (.arr ty sz rows) = guardP (rows.length = n ∧ n + ys.length ≤ 2000000) (some (.own m (n + ys.length),[(c,.dead),(m,.arr ty sz (rows ++ ys))],c :: m :: tc)) := by simp [appO]
def mapA (o : Option (List V)) : Option V := o.map .agg
theorem mapA_s (r) : mapA (some r) = some (.agg r) := of_eq_true (eq_self _)
theorem bldF_e {zero parts} (h1 : parts.all (fun p => (cellsV p.2.2).all V.one) = true) : bldF zero parts = mapA (fillV zero parts) := by simp [bldF,h1,mapA]
theorem bld_nil (zero) : bldF zero [] = some (.agg zero) := by simp [bldF,fillV]
theorem mkf_nil (f) : mkfF f [] = some (.fn f []) := by simp [mkfF]
theorem fill_nil (row) : fillV row [] = some row := of_eq_true (eq_self _)
theorem fill_cons {row off sz v r} (h1 : (cellsV v).length = sz) (h2 : off + sz ≤ row.length) : fillV row ((off,sz,v) :: r) = fillV (setR row off (cellsV v)) r := by simp [fillV,h1,h2]
theorem mkf_e {f caps} (h : caps.all (fun v => v.one && !v.isFn) = true) : mkfF f caps = some (.fn f caps) := by simp [mkfF,h]
section
variable {P : Program} {G : Glob} {pin : Nat} {Q : Ex → St → Prop} {st : St} {K : St → Prop} {K3 : St → List Nat → List Nat → Prop}
def kT (P : Program) (G : Glob) (os : List IOper) (K : St → Prop) : St → List Nat → List Nat → Prop := fun st' _ _ => runT P G os st' K
def kD (P : Program) (G : Glob) (bef : List Nat) (os : List (Nat × IOper)) (i : Nat) (tr : List (Nat × List Nat × List Nat)) (K : St → Prop) : St → List Nat → List Nat → Prop :=
  fun st' tc wr => chk bef i tc wr tr = true ∧ runD P G bef os st' ((i,tc,wr) :: tr) K
def gK (P : Program) (G : Glob) (d : Option Nat) (op : IOp) (st : St) (K : St → List Nat → List Nat → Prop) (g : Option Bool) : Prop := guardK g (doV P G ⟨d,none,op⟩ st K) (K (st.app d (.tup []) []) [] [])
def condW (P : Program) (G : Glob) (pin : Nat) (a b : IC) (Q : Ex → St → Prop) (st : St) (v : V) : Prop := condK v (wpI P G pin a Q st) (wpI P G pin b Q st)
def ldK (d : Option Nat) (st : St) (K : St → List Nat → List Nat → Prop) (x : Option (V × List Nat)) : Prop := optK x fun r => K (st.app d r.1 []) r.2 []
def stoK (d : Option Nat) (st : St) (K : St → List Nat → List Nat → Prop) (x : Option (List (Nat × Hs) × List Nat)) : Prop := optK x fun r => K (st.app d (.tup []) r.1) r.2 (r.1.map Prod.fst)
theorem kT_e (os st tc wr) : kT P G os K st tc wr = runT P G os st K := of_eq_true (eq_self _)
theorem kD_e (bef os i tr st tc wr) : kD P G bef os i tr K st tc wr = (chk bef i tc wr tr = true ∧ runD P G bef os st ((i,tc,wr) :: tr) K) := of_eq_true (eq_self _)
theorem runT_k (o os) : runT P G (o :: os) st K = stepV P G o st (kT P G os K) := of_eq_true (eq_self _)
theorem runD_k (bef i o os tr) : runD P G bef ((i,o) :: os) st tr K = stepV P G o st (kD P G bef os i tr K) := of_eq_true (eq_self _)
theorem step_k (d n b op) : stepV P G ⟨d,some (n,b),op⟩ st K3 = gK P G d op st K3 (gdV b (st.t n)) := by rw [step_g,gd_n]; rfl
theorem gK_t (d op) : gK P G d op st K3 (some true) = doV P G ⟨d,none,op⟩ st K3 := of_eq_true (eq_self _)
theorem gK_f (d op) : gK P G d op st K3 (some false) = K3 (st.app d (.tup []) []) [] [] := of_eq_true (eq_self _)
theorem cond_k (x a b) : wpI P G pin (.cond x a b) Q st = condW P G pin a b Q st (ev st.t x) := of_eq_true (eq_self _)
theorem condW_t (a b) : condW P G pin a b Q st (.bool true) = wpI P G pin a Q st := of_eq_true (eq_self _)
theorem condW_f (a b) : condW P G pin a b Q st (.bool false) = wpI P G pin b Q st := of_eq_true (eq_self _)
theorem do_ldk (d g sz ag x) : doV P G ⟨d,g,.ld sz ag x⟩ st K3 = ldK d st K3 (loadF st.h sz ag (ev st.t x)) := do_ld d g sz ag x
theorem do_stok (d g sz x y) : doV P G ⟨d,g,.sto sz x y⟩ st K3 = stoK d st K3 (storeF st.h sz (ev st.t x) (ev st.t y)) := do_sto d g sz x y
theorem ldK_s (d v tc) : ldK d st K3 (some (v,tc)) = K3 (st.app d v []) tc [] := of_eq_true (eq_self _)
theorem stoK_s (d up tc) : stoK d st K3 (some (up,tc)) = K3 (st.app d (.tup []) up) tc (up.map Prod.fst) := of_eq_true (eq_self _)
theorem gB {d op} {b : Bool} (h1 : b = true → doV P G ⟨d,none,op⟩ st K3) (h2 : b = false → K3 (st.app d (.tup []) []) [] []) : gK P G d op st K3 (some b) := by cases b; exact h2 rfl; exact h1 rfl
theorem gBn {d op} {b : Bool} (h1 : b = true → K3 (st.app d (.tup []) []) [] []) (h2 : b = false → doV P G ⟨d,none,op⟩ st K3) : gK P G d op st K3 (some (!b)) := by cases b; exact h2 rfl; exact h1 rfl
theorem cB {a b' : IC} {b : Bool} (h1 : b = true → wpI P G pin a Q st) (h2 : b = false → wpI P G pin b' Q st) : condW P G pin a b' Q st (.bool b) := by cases b; exact h2 rfl; exact h1 rfl
theorem cBn {a b' : IC} {b : Bool} (h1 : b = true → wpI P G pin b' Q st) (h2 : b = false → wpI P G pin a Q st) : condW P G pin a b' Q st (.bool (!b)) := by cases b; exact h2 rfl; exact h1 rfl
theorem chkI {bef i tc wr tr} {p : Prop} (h1 : chk bef i tc wr tr = true) (h2 : p) : chk bef i tc wr tr = true ∧ p := ⟨h1,h2⟩
theorem gBd {d op} {p : Prop} {inst : Decidable p} (h1 : p → p = True → doV P G ⟨d,none,op⟩ st K3) (h2 : ¬ p → p = False → K3 (st.app d (.tup []) []) [] []) : gK P G d op st K3 (some (decide p)) := gB (fun h => h1 (of_decide_eq_true h) (eq_true (of_decide_eq_true h))) (fun h => h2 (of_decide_eq_false h) (eq_false (of_decide_eq_false h)))
theorem gBnd {d op} {p : Prop} {inst : Decidable p} (h1 : p → p = True → K3 (st.app d (.tup []) []) [] []) (h2 : ¬ p → p = False → doV P G ⟨d,none,op⟩ st K3) : gK P G d op st K3 (some (!decide p)) := gBn (fun h => h1 (of_decide_eq_true h) (eq_true (of_decide_eq_true h))) (fun h => h2 (of_decide_eq_false h) (eq_false (of_decide_eq_false h)))
theorem cBd {a b' : IC} {p : Prop} {inst : Decidable p} (h1 : p → p = True → wpI P G pin a Q st) (h2 : ¬ p → p = False → wpI P G pin b' Q st) : condW P G pin a b' Q st (.bool (decide p)) := cB (fun h => h1 (of_decide_eq_true h) (eq_true (of_decide_eq_true h))) (fun h => h2 (of_decide_eq_false h) (eq_false (of_decide_eq_false h)))
theorem cBnd {a b' : IC} {p : Prop} {inst : Decidable p} (h1 : p → p = True → wpI P G pin b' Q st) (h2 : ¬ p → p = False → wpI P G pin a Q st) : condW P G pin a b' Q st (.bool (!decide p)) := cBn (fun h => h1 (of_decide_eq_true h) (eq_true (of_decide_eq_true h))) (fun h => h2 (of_decide_eq_false h) (eq_false (of_decide_eq_false h)))
theorem gK_congr {d op} {g g' : Option Bool} (h : g = g') : gK P G d op st K3 g = gK P G d op st K3 g' := by rw [h]
theorem condW_congr {a b} {g g' : V} (h : g = g') : condW P G pin a b Q st g = condW P G pin a b Q st g' := by rw [h]
theorem ldK_congr {d} {g g' : Option (V × List Nat)} (h : g = g') : ldK d st K3 g = ldK d st K3 g' := by rw [h]
theorem stoK_congr {d} {g g' : Option (List (Nat × Hs) × List Nat)} (h : g = g') : stoK d st K3 g = stoK d st K3 g' := by rw [h]
def binO (op : BinOp) (x y : V) : Option V := binF op x y
theorem do_bino (d g op x y) : doV P G ⟨d,g,.bin op x y⟩ st K3 = pureK d st K3 (binO op (ev st.t x) (ev st.t y)) := do_bin d g op x y
end
theorem lens_s (s) : lensF (.str s) = some (.int .i64 s.length) := of_eq_true (eq_self _)
theorem len_nils : lenF .nils = some (.int .i64 0) := of_eq_true (eq_self _)
theorem len_sl (z r) : lenF (.sl z r) = some (.int .i64 r.length) := of_eq_true (eq_self _)
theorem len_own (c n) : lenF (.own c n) = some (.int .i64 n) := of_eq_true (eq_self _)
theorem len_view (c o n) : lenF (.view c o n) = some (.int .i64 n) := of_eq_true (eq_self _)
theorem bo_add (a b) : binO .add (.int .i64 a) (.int .i64 b) = some (.int .i64 (IntKind.i64.wrap (a + b))) := by simp [binO,binF]
theorem bo_sub (a b) : binO .sub (.int .i64 a) (.int .i64 b) = some (.int .i64 (IntKind.i64.wrap (a - b))) := by simp [binO,binF]
theorem bo_mul (a b) : binO .mul (.int .i64 a) (.int .i64 b) = some (.int .i64 (IntKind.i64.wrap (a * b))) := by simp [binO,binF]
theorem bo_subu (a b) : binO .sub (.int .u8 a) (.int .u8 b) = some (.int .u8 (IntKind.u8.wrap (a - b))) := by simp [binO,binF]
theorem bo_quo (a b) : binO .quo (.int .i64 a) (.int .i64 b) = guardP (b ≠ 0) (some (.int .i64 (IntKind.i64.wrap (a.tdiv b)))) := by simp [binO,binF]
theorem bo_rem (a b) : binO .rem (.int .i64 a) (.int .i64 b) = guardP (b ≠ 0) (some (.int .i64 (a.tmod b))) := by simp [binO,binF]
theorem bo_xor (a b) : binO .xor (.int .i64 a) (.int .i64 b) = some (.int .i64 (bits .xor .i64 a b)) := by simp [binO,binF]
theorem bo_eql (k a b) : binO .eql (.int k a) (.int k b) = some (.bool (decide (a = b))) := by simp [binO,binF]
theorem bo_neq (k a b) : binO .neq (.int k a) (.int k b) = some (.bool (!decide (a = b))) := by simp [binO,binF]
theorem bo_lss (k a b) : binO .lss (.int k a) (.int k b) = some (.bool (decide (a < b))) := by simp [binO,binF]
theorem bo_leq (k a b) : binO .leq (.int k a) (.int k b) = some (.bool (decide (a ≤ b))) := by simp [binO,binF]
theorem bo_gtr (k a b) : binO .gtr (.int k a) (.int k b) = some (.bool (decide (b < a))) := by simp [binO,binF]
theorem bo_geq (k a b) : binO .geq (.int k a) (.int k b) = some (.bool (decide (b ≤ a))) := by simp [binO,binF]
theorem bo_cat (a b : List UInt8) : binO .add (.str a) (.str b) = guardP (((a.length + b.length : Nat) : Int) ≤ 9223372036854775807) (some (.str (a ++ b))) := by simp [binO,binF]
theorem bo_eqs (a b : List UInt8) : binO .eql (.str a) (.str b) = some (.bool (decide (a = b))) := by simp [binO,binF]
theorem bo_nes (a b : List UInt8) : binO .neq (.str a) (.str b) = some (.bool (!decide (a = b))) := by simp [binO,binF]
theorem bot_int (k n) : V.bot (.int k n) = true := of_eq_true (eq_self _)
theorem one_int (k n) : V.one (.int k n) = true := of_eq_true (eq_self _)
theorem unt_int (k n) : V.untup (.int k n) = true := of_eq_true (eq_self _)
theorem bot_bool (b) : V.bot (.bool b) = true := of_eq_true (eq_self _)
theorem one_bool (b) : V.one (.bool b) = true := of_eq_true (eq_self _)
theorem unt_bool (b) : V.untup (.bool b) = true := of_eq_true (eq_self _)
theorem bot_str (s) : V.bot (.str s) = true := of_eq_true (eq_self _)
theorem one_str (s) : V.one (.str s) = true := of_eq_true (eq_self _)
theorem unt_str (s) : V.untup (.str s) = true := of_eq_true (eq_self _)
theorem bot_nils  : V.bot (.nils) = true := of_eq_true (eq_self _)
theorem one_nils  : V.one (.nils) = true := of_eq_true (eq_self _)
theorem unt_nils  : V.untup (.nils) = true := of_eq_true (eq_self _)
theorem bot_nilp  : V.bot (.nilp) = true := of_eq_true (eq_self _)
theorem one_nilp  : V.one (.nilp) = true := of_eq_true (eq_self _)
theorem unt_nilp  : V.untup (.nilp) = true := of_eq_true (eq_self _)
theorem bot_nile  : V.bot (.nile) = true := of_eq_true (eq_self _)
theorem one_nile  : V.one (.nile) = true := of_eq_true (eq_self _)
theorem unt_nile  : V.untup (.nile) = true := of_eq_true (eq_self _)
theorem bot_erre  : V.bot (.erre) = true := of_eq_true (eq_self _)
theorem one_erre  : V.one (.erre) = true := of_eq_true (eq_self _)
theorem unt_erre  : V.untup (.erre) = true := of_eq_true (eq_self _)
theorem bot_raw (v) : V.bot (.raw v) = true := of_eq_true (eq_self _)
theorem one_raw (v) : V.one (.raw v) = true := of_eq_true (eq_self _)
theorem unt_raw (v) : V.untup (.raw v) = true := of_eq_true (eq_self _)
theorem bot_sl (z r) : V.bot (.sl z r) = true := of_eq_true (eq_self _)
theorem one_sl (z r) : V.one (.sl z r) = true := of_eq_true (eq_self _)
theorem unt_sl (z r) : V.untup (.sl z r) = true := of_eq_true (eq_self _)
theorem bot_own (c n) : V.bot (.own c n) = true := of_eq_true (eq_self _)
theorem one_own (c n) : V.one (.own c n) = true := of_eq_true (eq_self _)
theorem unt_own (c n) : V.untup (.own c n) = true := of_eq_true (eq_self _)
theorem bot_view (c o n) : V.bot (.view c o n) = true := of_eq_true (eq_self _)
theorem one_view (c o n) : V.one (.view c o n) = true := of_eq_true (eq_self _)
theorem unt_view (c o n) : V.untup (.view c o n) = true := of_eq_true (eq_self _)
theorem bot_pv (c o) : V.bot (.pv c o) = true := of_eq_true (eq_self _)
theorem one_pv (c o) : V.one (.pv c o) = true := of_eq_true (eq_self _)
theorem unt_pv (c o) : V.untup (.pv c o) = true := of_eq_true (eq_self _)
theorem bot_pa (c i o) : V.bot (.pa c i o) = true := of_eq_true (eq_self _)
theorem one_pa (c i o) : V.one (.pa c i o) = true := of_eq_true (eq_self _)
theorem unt_pa (c i o) : V.untup (.pa c i o) = true := of_eq_true (eq_self _)
theorem bot_iptr (r o) : V.bot (.iptr r o) = true := of_eq_true (eq_self _)
theorem one_iptr (r o) : V.one (.iptr r o) = true := of_eq_true (eq_self _)
theorem unt_iptr (r o) : V.untup (.iptr r o) = true := of_eq_true (eq_self _)
theorem clo_int (k n) : V.closed (.int k n) = true := of_eq_true (eq_self _)
theorem clo_bool (b) : V.closed (.bool b) = true := of_eq_true (eq_self _)
theorem clo_str (s) : V.closed (.str s) = true := of_eq_true (eq_self _)
theorem clo_nils  : V.closed (.nils) = true := of_eq_true (eq_self _)
theorem clo_nilp  : V.closed (.nilp) = true := of_eq_true (eq_self _)
theorem clo_nile  : V.closed (.nile) = true := of_eq_true (eq_self _)
theorem clo_erre  : V.closed (.erre) = true := of_eq_true (eq_self _)
theorem clo_raw (v) : V.closed (.raw v) = true := of_eq_true (eq_self _)
theorem clo_sl (z r) : V.closed (.sl z r) = true := of_eq_true (eq_self _)
theorem clo_own (c n) : V.closed (.own c n) = false := of_eq_true (eq_self _)
theorem clo_view (c o n) : V.closed (.view c o n) = false := of_eq_true (eq_self _)
theorem clo_pv (c o) : V.closed (.pv c o) = false := of_eq_true (eq_self _)
theorem clo_pa (c i o) : V.closed (.pa c i o) = false := of_eq_true (eq_self _)
theorem clo_iptr (r o) : V.closed (.iptr r o) = true := of_eq_true (eq_self _)
theorem unt_agg (f) : V.untup (.agg f) = true := of_eq_true (eq_self _)
theorem unt_fn (f c) : V.untup (.fn f c) = true := of_eq_true (eq_self _)
theorem one_fn (f c) : V.one (.fn f c) = true := of_eq_true (eq_self _)
end Go.Proofs.YtblndjmhjaijjaaGreatDoor.VL
namespace Go.Proofs.YtblndjmhjaijjaaGreatDoor.VL
open Go Go.RowKit
section
variable {P : Program} {G : Glob} {f : FuncId}
def ClipM (P : Program) (f : FuncId) : Prop := ∀ A n c W,n ≤ c → Calls P f #[.slice A n c] W fun e w' => e = .returned (.slice A n n) ∧ w' = W
theorem chH_nil : chH [] = fun _ => .fresh := by funext x; simp [chH]
theorem us_one {w : World} {O : Nat → Prop} {ρ : Nat → Loc} {h : Nat → Hs} {v : V} {us : List Value} (hargs : DenArgs w O ρ h [v] us) : ∃ u,us = [u] ∧ Den w O ρ h v u := by
  obtain ⟨h1,h2⟩ := hargs
  match us,h1 with
  | [u],_ => exact ⟨u,rfl,h2 0 v u rfl rfl⟩
theorem clipR (hn : entr P f = true) (h : ClipM P f) (sz : Nat) (rows : List (List V)) : FnR P G f [.sl sz rows] (.sl sz rows) where
  en := hn
  ne := ⟨_,_,rfl,rfl⟩
  run := fun W ρ ext us hg hlt hno hng r hargs => by
    obtain ⟨u,rfl,hd⟩ := us_one hargs
    have hd : Imm W (owns ⟨W,blocks ρ (chH []),ext,0,ρ⟩ ρ (chH [])) (.sl sz rows) u := hd
    cases hd with
    | esl _ A cap => exact (h A 0 cap W (Nat.zero_le _)).mono fun e w' ⟨he,hw⟩ => ⟨_,_,_,ρ,he,⟨rfl,rfl⟩,hw ▸ r,hw ▸ Imm.esl sz A 0⟩
    | sl _ _ blk off cap cs h1 h2 h3 h4 h5 h6 h7 =>
      exact (h _ _ cap W h5).mono fun e w' ⟨he,hw⟩ => by subst hw; exact ⟨_,_,_,ρ,he,⟨rfl,rfl⟩,r,Imm.sl sz rows blk off rows.length cs h1 h2 h3 h4 (Nat.le_refl _) h6 h7⟩
theorem clipOwn (hn : entr P f = true) (h : ClipM P f) (ty sz : Nat) (rows : List (List V)) (n : Nat) (hrn : rows.length = n) :
    FnP P G f 0 [.arr ty sz rows] [.own 0 n] (fun r o => r = .own 0 n ∧ o = [.arr ty sz rows]) where
  en := hn
  ne := ⟨_,_,rfl,rfl⟩
  run := fun W ρ ext us hg hlt hno hng r hargs => by
    obtain ⟨u,rfl,hd⟩ := us_one hargs
    have h0 : chH [Hs.arr ty sz rows] 0 = .arr ty sz rows := rfl
    have h1 : ∀ c,c ≠ 0 → chH [Hs.arr ty sz rows] c = .fresh := fun c hc => by
      match c,hc with
      | c + 1,_ => simp [chH]
    have hd : u = (ρ 0).sl n := by
      simp only [Den,Den2,Den1,Den0,h0] at hd
      exact hd
    subst hd
    have hch := r.chunk 0
    rw [h0] at hch
    have hcap : n ≤ (ρ 0).cap := by
      rcases hch with ⟨_,e,_⟩ | ⟨_,cs,_,_,e,_⟩
      · rw [e] at hrn; simp at hrn; omega
      · omega
    refine (h (ρ 0).addr n (ρ 0).cap W hcap).mono fun e w' ⟨he,hw⟩ => ?_
    subst hw
    let ρ' := upρ ρ 0 { ρ 0 with cap := n }
    have e1 : ∀ c,(ρ' c).nil = (ρ c).nil ∧ (ρ' c).blk = (ρ c).blk := fun c => by
      by_cases hc : c = 0
      · subst hc; exact ⟨rfl,rfl⟩
      · simp [ρ',upρ,hc]
    have hO : owns ⟨w',blocks ρ (chH [.arr ty sz rows]),ext,0,ρ⟩ ρ' (chH [.arr ty sz rows]) = owns ⟨w',blocks ρ (chH [.arr ty sz rows]),ext,0,ρ⟩ ρ (chH [.arr ty sz rows]) := by
      funext b
      simp only [owns,(e1 _).1,(e1 _).2]
    have hl : ∀ c,(chH [Hs.arr ty sz rows] c).live = true → c = 0 := fun c hc => by
      by_cases h' : c = 0
      · exact h'
      · rw [h1 c h'] at hc; cases hc
    refine ⟨_,_,_,ρ',he,⟨rfl,rfl⟩,⟨r.os,r.tape,r.output,r.grow,r.keep,fun c => ?_,fun c hc hnl => ?_,fun c c' hc hc' _ _ _ => (hl c hc).trans (hl c' hc').symm,fun i hi => absurd hi (Nat.not_lt_zero _)⟩, ?_⟩
    · by_cases hc : c = 0
      · subst hc
        rw [hO,h0]
        rcases hch with ⟨a1,a2,a3⟩ | ⟨a1,cs,a2,a3,a4,a5,a6⟩
        · refine .inl ⟨a1,a2, ?_⟩
          rw [a2] at hrn; simp at hrn
          exact hrn.symm
        · refine .inr ⟨a1,cs,a2, ?_, ?_,a5,a6⟩
          · exact Nat.le_trans (Nat.add_le_add_left (Nat.mul_le_mul_right _ hcap) _) a3
          · exact Nat.le_of_eq hrn
      · rw [h1 c hc]; trivial
    · rw [(e1 c).2]; rw [(e1 c).1] at hnl; exact r.home c hc hnl
    · simp only [Den,Den2,Den1,Den0,h0]
      rfl
def CloneM (P : Program) (f : FuncId) (ty sz : Nat) : Prop := (∀ n c W,Calls P f #[.slice none n c] W fun e w' => e = .returned (.slice none 0 0) ∧ w' = W) ∧
  ∀ (a : Addr) n c us (W : World),us.length = n * sz → (∀ (j : Nat) u,us[j]? = some u → W.cell? (a.add j) = some u) → (∀ u ∈ us,u.oneCell' = true) → n ≤ 2000000 →
    Calls P f #[.slice (some a) n c] W fun e w' => ∃ v',e = .returned v' ∧ w'.ownsRow W.heap.size ty sz v' n us ∧ Below W.heap.size W w'
theorem cloneOwn (hn : entr P f = true) {ty sz : Nat} (h : CloneM P f ty sz) (rows : List (List V)) (hr : rows.length ≤ 2000000) :
    FnP P G f 0 [] [.sl sz rows] (fun r o => r = .own 0 rows.length ∧ o = [.arr ty sz rows]) where
  en := hn
  ne := ⟨_,_,rfl,rfl⟩
  run := fun W ρ ext us hg hlt hno hng r hargs => by
    obtain ⟨u,rfl,hd⟩ := us_one hargs
    have h0 : chH [Hs.arr ty sz rows] 0 = .arr ty sz rows := rfl
    have h1 : ∀ c,c ≠ 0 → chH [Hs.arr ty sz rows] c = .fresh := fun c hc => by
      match c,hc with
      | c + 1,_ => simp [chH]
    have hl : ∀ c,(chH [Hs.arr ty sz rows] c).live = true → c = 0 := fun c hc => by
      by_cases h' : c = 0
      · exact h'
      · rw [h1 c h'] at hc; cases hc
    have hbn : ∀ b,¬ blocks ρ (chH []) b := fun b ⟨c,hc,_⟩ => by rw [chH_nil] at hc; cases hc
    obtain ⟨A,cap,rfl,hcap,hlen,hcells⟩ := rows_den r hd (sz := sz) (rows := rows) (tc := []) (by simp [rowsF])
    have nilCase : ∀ W',W' = W → rows = [] → ∃ u res out ρ',Ending.returned (Value.slice none 0 0) = .returned u ∧ (res = V.own 0 rows.length ∧ out = [Hs.arr ty sz rows]) ∧ RelH ⟨W,blocks ρ (chH []),ext,0,ρ⟩ ρ' (chH out) W' ∧
        Den W' (owns ⟨W,blocks ρ (chH []),ext,0,ρ⟩ ρ' (chH out)) ρ' (chH out) res u := fun W' hW hrn => by
      subst hW
      subst hrn
      refine ⟨_,_,_,fun _ => ⟨true,0,0,0⟩,rfl,⟨rfl,rfl⟩,⟨rfl,rfl,rfl,Nat.le_refl _,fun b _ _ => rfl,fun c => ?_,fun c _ hnl => (by cases hnl),fun c c' _ _ hnl => (by cases hnl),fun i hi => absurd hi (Nat.not_lt_zero _)⟩, ?_⟩
      · by_cases hc : c = 0
        · subst hc; rw [h0]; exact .inl ⟨rfl,rfl,rfl⟩
        · rw [h1 c hc]; trivial
      · simp only [Den,Den2,Den1,Den0,h0]
        rfl
    cases A with
    | none =>
      have hz : rows = [] := by
        by_cases hp : 0 < rows.length
        · obtain ⟨_,_,e,_⟩ := hcells hp; cases e
        · exact List.eq_nil_of_length_eq_zero (by omega)
      refine (h.1 _ _ W).mono fun e w' ⟨he,hw⟩ => ?_
      subst he
      exact nilCase w' hw hz
    | some a =>
      have hflat : ∃ us : List Value,us.length = rows.length * sz ∧ (∀ (j : Nat) u,us[j]? = some u → W.cell? (a.add j) = some u) ∧ (∀ u,u ∈ us → u.oneCell' = true) ∧
          ∀ (i : Nat) x (j : Nat) y,rows[i]? = some x → x[j]? = some y → ∃ z,us[i * sz + j]? = some z ∧ Imm W (owns ⟨W,blocks ρ (chH []),ext,0,ρ⟩ ρ (chH [])) y z := by
        by_cases hp : 0 < rows.length
        · obtain ⟨blk,off,e,hb,hc⟩ := hcells hp
          cases e
          exact rows_flat hlen hc
        · have : rows = [] := List.eq_nil_of_length_eq_zero (by omega)
          subst this
          exact ⟨[],by simp,fun j u hu => by simp at hu,fun u hu => by simp at hu,fun i x j y hx => by simp at hx⟩
      obtain ⟨us,hu1,hu2,hu3,hu4⟩ := hflat
      refine (h.2 a rows.length cap us W hu1 hu2 hu3 hr).mono fun e w' ⟨v',he,⟨hx,hown⟩,hb⟩ => ?_
      subst he
      rcases hown with ⟨rfl,hz⟩ | ⟨g,cap',cur,rfl,hg1,hg2,hg3,hg4,hg5,hg6⟩
      · have : rows = [] := List.eq_nil_of_length_eq_zero hz
        subst this
        refine ⟨_,_,_,fun _ => ⟨true,0,0,0⟩,rfl,⟨rfl,rfl⟩,⟨hb.os,hb.tape,hb.output,hb.size,fun b hb1 _ => hb.block b hb1,fun c => ?_,fun c _ hnl => (by cases hnl),fun c c' _ _ hnl => (by cases hnl),fun i hi => absurd hi (Nat.not_lt_zero _)⟩, ?_⟩
        · by_cases hc : c = 0
          · subst hc; rw [h0]; exact .inl ⟨rfl,rfl,rfl⟩
          · rw [h1 c hc]; trivial
        · simp only [Den,Den2,Den1,Den0,h0]
          rfl
      · refine ⟨_,_,_,fun _ => ⟨false,g,0,cap'⟩,rfl,⟨rfl,rfl⟩,⟨hb.os,hb.tape,hb.output,hb.size,fun b hb1 _ => hb.block b hb1,fun c => ?_,fun c _ _ => .inr hg1,fun c c' hc hc' _ _ _ => (hl c hc).trans (hl c' hc').symm,fun i hi => absurd hi (Nat.not_lt_zero _)⟩, ?_⟩
        · by_cases hc : c = 0
          · subst hc
            rw [h0]
            refine .inr ⟨rfl,cur,hg2,by rw [hg5]; simp,hg3,hlen,fun i x j y hx hy => ?_⟩
            obtain ⟨z,hz1,hz2⟩ := hu4 i x j y hx hy
            have hjl : i * sz + j < rows.length * sz := by rw [← hu1]; exact (List.getElem?_eq_some_iff.1 hz1).1
            refine ⟨z, ?_,hz2.mono hb.size (fun b hb1 _ => hb.block b hb1) (fun b hb1 ho => ?_)⟩
            · rw [← hg6,List.getElem?_take,if_pos hjl] at hz1
              simpa using hz1
            · rcases ho with ho | ⟨c,hc,_,he⟩
              · exact .inl ho
              · simp only at he; omega
          · rw [h1 c hc]; trivial
        · simp only [Den,Den2,Den1,Den0,h0]
          rfl
end
end Go.Proofs.YtblndjmhjaijjaaGreatDoor.VL
namespace Go.Proofs.YtblndjmhjaijjaaGreatDoor.VL
open Go Go.RowKit
section
variable {g : Nat → Nat}
theorem rn_tup (l) : (V.tup l).rn g = .tup (l.map (V.rn2 g)) := of_eq_true (eq_self _)
theorem rn_agg (l) : (V.agg l).rn g = .agg (l.map (V.rn1 g)) := of_eq_true (eq_self _)
theorem rn2_agg (l) : (V.agg l).rn2 g = .agg (l.map (V.rn1 g)) := of_eq_true (eq_self _)
theorem rn_fn (f l) : (V.fn f l).rn g = .fn f (l.map (V.rn0 g)) := of_eq_true (eq_self _)
theorem rn2_fn (f l) : (V.fn f l).rn2 g = .fn f (l.map (V.rn0 g)) := of_eq_true (eq_self _)
theorem rnfn1 (f l) : (V.fn f l).rn1 g = .fn f (l.map (V.rn0 g)) := of_eq_true (eq_self _)
theorem rn_bot {v : V} (h : v.bot = true) : v.rn g = v.rn0 g := by cases v <;> first | rfl | cases h
theorem rn2_bot {v : V} (h : v.bot = true) : v.rn2 g = v.rn0 g := by cases v <;> first | rfl | cases h
theorem rn1_bot {v : V} (h : v.bot = true) : v.rn1 g = v.rn0 g := by cases v <;> first | rfl | cases h
theorem rn0_int (k n) : (V.int k n).rn0 g = .int k n := of_eq_true (eq_self _)
theorem rn0_bool (b) : (V.bool b).rn0 g = .bool b := of_eq_true (eq_self _)
theorem rn0_str (b) : (V.str b).rn0 g = .str b := of_eq_true (eq_self _)
theorem rn0_nils : V.nils.rn0 g = .nils := of_eq_true (eq_self _)
theorem rn0_nilp : V.nilp.rn0 g = .nilp := of_eq_true (eq_self _)
theorem rn0_nile : V.nile.rn0 g = .nile := of_eq_true (eq_self _)
theorem rn0_erre : V.erre.rn0 g = .erre := of_eq_true (eq_self _)
theorem rn0_sl (z r) : (V.sl z r).rn0 g = .sl z r := of_eq_true (eq_self _)
theorem rn0_iptr (r o) : (V.iptr r o).rn0 g = .iptr r o := of_eq_true (eq_self _)
theorem rn0_own (c n) : (V.own c n).rn0 g = .own (g c) n := of_eq_true (eq_self _)
theorem rn0_view (c o n) : (V.view c o n).rn0 g = .view (g c) o n := of_eq_true (eq_self _)
theorem rn0_pv (c n) : (V.pv c n).rn0 g = .pv (g c) n := of_eq_true (eq_self _)
theorem rn0_pa (c i n) : (V.pa c i n).rn0 g = .pa (g c) i n := of_eq_true (eq_self _)
theorem hrn_var (ty r) : (Hs.var ty r).rn g = .var ty (r.map (V.rn1 g)) := of_eq_true (eq_self _)
theorem hrn_arr (ty z r) : (Hs.arr ty z r).rn g = .arr ty z r := of_eq_true (eq_self _)
theorem hrn_dead : (Hs.dead).rn g = .dead := of_eq_true (eq_self _)
theorem outU_nil (k) : outU g k [] = [] := of_eq_true (eq_self _)
theorem outU_cons (k s l) : outU g k (s :: l) = (g k,s.rn g) :: outU g (k + 1) l := of_eq_true (eq_self _)
end
theorem deads_nil : deads [] = [] := of_eq_true (eq_self _)
theorem deads_cons (c l) : deads (c :: l) = (c,.dead) :: deads l := of_eq_true (eq_self _)
theorem bk_ge {ns : List Nat} {pin d i : Nat} (h : pin ≤ i) : bk ns pin d i = 100000 + 100 * d + i := by simp [bk,newN,Nat.not_lt.2 h]
theorem bk_lt {ns : List Nat} {pin d i : Nat} (h : i < pin) : bk ns pin d i = nsF ns i := by simp [bk,h]
theorem nsF_0 (n ns) : nsF (n :: ns) 0 = n := by simp [nsF]
theorem nsF_s (n ns i) : nsF (n :: ns) (i + 1) = nsF ns i := by simp [nsF]
theorem chH_0 (s cs) : chH (s :: cs) 0 = s := by simp [chH]
theorem chH_s (s cs i) : chH (s :: cs) (i + 1) = chH cs i := by simp [chH]
theorem chH_n (i) : chH [] i = .fresh := by simp [chH]
theorem newN_e (d i) : newN d i = 100000 + 100 * d + i := of_eq_true (eq_self _)
def andB (b : Bool) (o : Option Bool) : Option Bool := o.map (b && ·)
theorem andB_s (b c) : andB b (some c) = some (b && c) := of_eq_true (eq_self _)
theorem eqR_nil : eqR [] [] [] = some true := of_eq_true (eq_self _)
theorem eqR_i (ks k a r b s) : eqR (.i :: ks) (.int k a :: r) (.int k b :: s) = andB (decide (a = b)) (eqR ks r s) := by simp [eqR,andB]
theorem eqR_b (ks a r b s) : eqR (.b :: ks) (.bool a :: r) (.bool b :: s) = andB (a == b) (eqR ks r s) := by simp [eqR,andB]
theorem eqR_s (ks a r b s) : eqR (.s :: ks) (.str a :: r) (.str b :: s) = andB (decide (a = b)) (eqR ks r s) := by simp [eqR,andB]
def mapX (ng : Bool) (o : Option Bool) : Option V := o.map fun r => .bool (ng ^^ r)
theorem mapX_f (b) : mapX false (some b) = some (.bool b) := by simp [mapX]
theorem mapX_t (b) : mapX true (some b) = some (.bool (!b)) := by simp [mapX]
theorem eqs_a (ng ks a b) : eqsF ng ks (.agg a) (.agg b) = mapX ng (eqR ks a b) := of_eq_true (eq_self _)
theorem beq_f (a b) : beqF false (.bool a) (.bool b) = some (.bool (a == b)) := by simp [beqF]
theorem beq_t (a b) : beqF true (.bool a) (.bool b) = some (.bool (!(a == b))) := by simp [beqF]
section
variable {P : Program} {G : Glob}
theorem callO {f : FuncId} {args : List V} {postf : V → List Hs → Prop} (F : FnP P G f 0 [] args postf) {vs : List V} {d : Option Nat} {st : St} {K : St → List Nat → List Nat → Prop}
    (lent : List Nat) (dd m : Nat) (hw : WkL (Wk (fun c => c ∈ lent) (nsF []) st.h (chH [])) vs args) (hl : ∀ c,c ∈ lent → (st.h c).live = true)
    (ho : ∀ res out,postf res out → out.length ≤ m) (hf : ∀ i,i < m → st.h (newN dd i) = .fresh)
    (hk : ∀ res out,postf res out → K (st.app d (res.rn (bk [] 0 dd)) (outU (bk [] 0 dd) 0 out ++ deads lent)) (callTc [] lent dd m) (callTc [] lent dd m)) : CallV P G f vs d st K :=
  callN F [] lent true dd m hw trivial (Nat.zero_le _) List.nodup_nil (fun c hc => ⟨hl c hc,by simp⟩) (fun res out hp => ⟨Nat.zero_le _,ho res out hp,.inl rfl,fun i hi => absurd hi (Nat.not_lt_zero _)⟩) hf
    (fun res out hp => by simpa using hk res out hp)
theorem callU {f : FuncId} {cs : List Hs} {args : List V} {postf : V → List Hs → Prop} (F : FnP P G f 0 cs args postf) {vs : List V} {d : Option Nat} {st : St} {K : St → List Nat → List Nat → Prop}
    (ns lent : List Nat) (dd m : Nat) (hw : WkL (Wk (fun c => c ∈ lent) (nsF ns) st.h (chH cs)) vs args)
    (hc : NsL (fun n s => s.live = true ∧ WkH (fun c => c ∈ lent) (nsF ns) st.h (chH cs) (st.h n) s) ns cs) (hnd : ns.Nodup)
    (hl : ∀ c,c ∈ lent → (st.h c).live = true ∧ c ∉ ns)
    (ho : ∀ res out,postf res out → out.length ≤ m) (hf : ∀ i,i < m → st.h (newN dd i) = .fresh)
    (hk : ∀ res out,postf res out → K (st.app d (res.rn (bk ns 0 dd)) (outU (bk ns 0 dd) 0 out ++ deads (ns ++ lent))) (callTc ns lent dd m) (callTc ns lent dd m)) : CallV P G f vs d st K :=
  callN F ns lent true dd m hw hc (Nat.zero_le _) hnd hl (fun res out hp => ⟨Nat.zero_le _,ho res out hp,.inl rfl,fun i hi => absurd hi (Nat.not_lt_zero _)⟩) hf
    (fun res out hp => by simpa using hk res out hp)
end
theorem getD_mp {α : Type} [Inhabited α] {l : List α} {i : Nat} (h : i < l.length) (f : α → List V) (d : List V) : (l.map f).getD i d = f (l.getD i default) := by
  simp [List.getD,h]
theorem live_arr (ty z r) : (Hs.arr ty z r).live = true := of_eq_true (eq_self _)
theorem live_var (ty r) : (Hs.var ty r).live = true := of_eq_true (eq_self _)
end Go.Proofs.YtblndjmhjaijjaaGreatDoor.VL
namespace Go.Proofs.YtblndjmhjaijjaaGreatDoor.VL
open Go Go.RowKit
def liveN (fs : List (Nat × Nat)) : List (Nat × Hs) → List Nat
  | [] => []
  | (k,s) :: m => bif s.live then getN fs k :: liveN fs m else liveN fs m
theorem liveN_mem {fs : List (Nat × Nat)} : ∀ {m : List (Nat × Hs)} {k s},(k,s) ∈ m → s.live = true → getN fs k ∈ liveN fs m
  | (k0,s0) :: m,k,s,h,hl => by
    simp only [liveN]
    rcases List.mem_cons.1 h with h | h
    · cases h; simp [hl]
    · cases s0.live <;> simp [liveN_mem h hl]
theorem liveN_inj {fs : List (Nat × Nat)} : ∀ {m : List (Nat × Hs)},(liveN fs m).Nodup → ∀ x y s s',(x,s) ∈ m → (y,s') ∈ m → s.live = true → s'.live = true → getN fs x = getN fs y → x = y
  | [],_,x,y,s,s',hx,_,_,_,_ => by cases hx
  | (k0,s0) :: m,hn,x,y,s,s',hx,hy,h1,h2,he => by
    simp only [liveN] at hn
    rcases List.mem_cons.1 hx with hx1 | hx1 <;> rcases List.mem_cons.1 hy with hy1 | hy1
    · cases hx1; cases hy1; rfl
    · cases hx1
      simp only [h1,cond_true,List.nodup_cons] at hn
      exact absurd (he ▸ liveN_mem hy1 h2) hn.1
    · cases hy1
      simp only [h2,cond_true,List.nodup_cons] at hn
      exact absurd (he ▸ liveN_mem hx1 h1) hn.1
    · have hn' : (liveN fs m).Nodup := by
        cases hs : s0.live <;> simp only [hs,cond_true,cond_false,List.nodup_cons] at hn
        · exact hn
        · exact hn.2
      exact liveN_inj hn' x y s s' hx1 hy1 h1 h2 he
theorem getH_mem' : ∀ {m : List (Nat × Hs)} {c : Nat},getH m c ≠ .fresh → (c,getH m c) ∈ m
  | [],c,h => absurd rfl h
  | (k,s) :: m,c,h => by
    simp only [getH] at h ⊢
    split at h
    · rename_i e; subst e; simp
    · rename_i e; rw [if_neg e]; simp [getH_mem' h]
theorem leN' {G : Glob} {pin : Nat} {l1 l2 : List (Nat × V)} {m1 m2 : List (Nat × Hs)} (fs : List (Nat × Nat))
    (ht : WkS (Wk (fun c => nonB fs m2 c = true) (getN fs) (getH m1) (getH m2)) (getL l1) l2)
    (hh : WkN (WkH (fun c => nonB fs m2 c = true) (getN fs) (getH m1) (getH m2)) (fun c => getH m1 (getN fs c)) m2)
    (hi : (liveN fs m2).Nodup) (hp : pinOk fs (getH m2) pin) : St.le G pin ⟨getL l1,getH m1⟩ ⟨getL l2,getH m2⟩ := by
  have hF : ∀ c,nonB fs m2 c = true → NoN (getN fs) (getH m2) c ∧ getH m1 c = getH m1 c := fun c hc => ⟨nonB_noN hc,rfl⟩
  refine LeR.le (f := getN fs) ⟨fun d => ?_,fun c => ?_,fun x y hx hy he => ?_,hp.spec⟩
  · exact (WkS.all (fun v => by rw [wk_undef]; trivial) ht d).congr hF
  · exact (WkN.all (fun v => wkh_fresh) hh c).congr hF
  · exact liveN_inj hi x y _ _ (getH_mem' (live_fresh hx)) (getH_mem' (live_fresh hy)) hx hy he
end Go.Proofs.YtblndjmhjaijjaaGreatDoor.VL
namespace Go.Proofs.YtblndjmhjaijjaaGreatDoor.VL
open Go Go.RowKit
def RowsW (rows rows' : List (List V)) : Prop := rows'.length = rows.length ∧ ∀ (i : Nat) r r',rows[i]? = some r → rows'[i]? = some r' → r'.length = r.length ∧ ∀ (j : Nat) v v',r[j]? = some v → r'[j]? = some v' → v' = v ∨ (v = .nils ∧ ∃ sz,v' = .sl sz [])
def HsW : Hs → Hs → Prop
  | .arr ty sz rows,.arr ty' sz' rows' => ty' = ty ∧ sz' = sz ∧ RowsW rows rows'
  | a,b => b = a
theorem RowsW.refl (rows : List (List V)) : RowsW rows rows := ⟨rfl,fun i r r' h h' => by rw [h] at h'; cases h'; exact ⟨rfl,fun j v v' a b => by rw [a] at b; cases b; exact .inl rfl⟩⟩
theorem RowsW.app {a b a' b' : List (List V)} (h1 : RowsW a a') (h2 : RowsW b b') : RowsW (a ++ b) (a' ++ b') := by
  refine ⟨by simp [h1.1,h2.1],fun i r r' hr hr' => ?_⟩
  by_cases hi : i < a.length
  · rw [List.getElem?_append_left hi] at hr
    rw [List.getElem?_append_left (by rw [h1.1]; exact hi)] at hr'
    exact h1.2 i r r' hr hr'
  · rw [List.getElem?_append_right (by omega)] at hr
    rw [List.getElem?_append_right (by rw [h1.1]; omega),h1.1] at hr'
    exact h2.2 _ r r' hr hr'
inductive RowW : List V → List V → Prop
  | nil : RowW [] []
  | same (v : V) {r r' : List V} (h : RowW r r') : RowW (v :: r) (v :: r')
  | nils (sz : Nat) {r r' : List V} (h : RowW r r') : RowW (.nils :: r) (.sl sz [] :: r')
theorem RowW.spec {r r' : List V} (h : RowW r r') : r'.length = r.length ∧ ∀ (j : Nat) v v',r[j]? = some v → r'[j]? = some v' → v' = v ∨ (v = .nils ∧ ∃ sz,v' = .sl sz []) := by
  induction h with
  | nil => exact ⟨rfl,fun j v v' h => by simp at h⟩
  | same v h ih =>
    refine ⟨by simp [ih.1],fun j a b ha hb => ?_⟩
    cases j with
    | zero => simp at ha hb; subst ha; subst hb; exact .inl rfl
    | succ j => exact ih.2 j a b (by simpa using ha) (by simpa using hb)
  | nils sz h ih =>
    refine ⟨by simp [ih.1],fun j a b ha hb => ?_⟩
    cases j with
    | zero => simp at ha hb; subst ha; subst hb; exact .inr ⟨rfl,sz,rfl⟩
    | succ j => exact ih.2 j a b (by simpa using ha) (by simpa using hb)
theorem RowsW.one {r r' : List V} (h : RowW r r') : RowsW [r] [r'] := by
  refine ⟨rfl,fun i a b ha hb => ?_⟩
  cases i with
  | zero => simp at ha hb; subst ha; subst hb; exact h.spec
  | succ i => simp at ha
theorem HsW.refl (a : Hs) : HsW a a := by cases a <;> first | rfl | exact ⟨rfl,rfl,.refl _⟩
theorem HsW.live {a b : Hs} (h : HsW a b) : b.live = a.live := by
  cases a <;> cases b <;> first | rfl | (cases h; done) | (simp only [HsW] at h; cases h; done) | (simp only [HsW] at h; rw [h])
theorem HsW.step {a b : Hs} (h : HsW a b) (l : Loc) : HStep l a l b := by
  cases a <;> cases b <;> first
    | exact HStep.refl _ _
    | (obtain ⟨rfl,rfl,h⟩ := h; exact .inr (.inr ⟨rfl,.inr (.inr ⟨_,_,_,_,rfl,rfl,by rw [h.1]; exact Nat.le_refl _⟩)⟩))
    | (simp only [HsW] at h; rw [h]; exact HStep.refl _ _)
    | (simp only [HsW] at h; cases h; done)
theorem RelH.rows {B : Base} {ρ : Nat → Loc} {h h' : Nat → Hs} {w : World} (hw : ∀ c,HsW (h c) (h' c)) (r : RelH B ρ h w) : RelH B ρ h' w ∧ (∀ b,owns B ρ h' b ↔ owns B ρ h b) := by
  have ho : ∀ b,owns B ρ h' b ↔ owns B ρ h b := fun b => by
    simp only [owns,(hw _).live]
  have himm : ∀ v u,Imm w (owns B ρ h) v u → Imm w (owns B ρ h') v u := fun v u hi => hi.mono (Nat.le_refl _) (fun _ _ _ => rfl) fun b _ hb => (ho b).1 hb
  refine ⟨⟨r.os,r.tape,r.output,r.grow,r.keep,fun c => ?_,fun c hl => r.home c (by rw [← (hw c).live]; exact hl),fun c c' hl hl' => r.sep c c' (by rw [← (hw c).live]; exact hl) (by rw [← (hw c').live]; exact hl'),fun i hi => ?_⟩,ho⟩
  · have hc := (r.chunk c).mono himm (fun x => (hw x).step (ρ x)) (fun _ => rfl)
    have hwc := hw c
    revert hc hwc
    cases h c <;> cases h' c <;> intro hc hwc <;> first
      | trivial
      | (simp only [HsW] at hwc; cases hwc; exact hc)
      | (simp only [HsW] at hwc; cases hwc; done)
      | skip
    rename_i ty sz rows ty' sz' rows'
    obtain ⟨rfl,rfl,hl,hr⟩ := hwc
    rcases hc with ⟨a,b,c⟩ | ⟨a,cs,b,c,d,e,f⟩
    · subst b
      exact .inl ⟨a,List.length_eq_zero_iff.1 (by simpa using hl),c⟩
    · refine .inr ⟨a,cs,b,c,by omega,fun x hx => ?_,fun i x j v hx hv => ?_⟩
      · obtain ⟨i,hi⟩ := List.mem_iff_getElem?.1 hx
        have hil : i < rows.length := by rw [← hl]; exact (List.getElem?_eq_some_iff.1 hi).1
        rw [(hr i _ _ (List.getElem?_eq_getElem hil) hi).1]
        exact e _ (List.getElem_mem hil)
      · have hil : i < rows.length := by rw [← hl]; exact (List.getElem?_eq_some_iff.1 hx).1
        obtain ⟨h1,h2⟩ := hr i _ _ (List.getElem?_eq_getElem hil) hx
        have hjl : j < rows[i].length := by rw [← h1]; exact (List.getElem?_eq_some_iff.1 hv).1
        obtain ⟨u,hu,hi⟩ := f i _ j _ (List.getElem?_eq_getElem hil) (List.getElem?_eq_getElem hjl)
        rcases h2 j _ _ (List.getElem?_eq_getElem hjl) hv with hvv | ⟨hv1,sz,rfl⟩
        · rw [hvv]; exact ⟨u,hu,hi⟩
        · rw [hv1] at hi
          cases hi
          exact ⟨_,hu,.esl _ _ _⟩
  · rcases r.pin i hi with hd | ⟨hd,he⟩
    · left
      have := hw i
      rw [hd] at this
      exact this
    · right
      exact ⟨by rw [(hw i).live]; exact hd,he⟩
theorem FnP.rowsIn {P : Program} {G : Glob} {f : FuncId} {pin : Nat} {cs cs' : List Hs} {args : List V} {post : V → List Hs → Prop} (F : FnP P G f pin cs' args post) (hc : ∀ c,HsW (chH cs c) (chH cs' c)) : FnP P G f pin cs args post where
  en := F.en
  ne := F.ne
  run := fun W ρ ext us hg hlt hno hng r hargs => by
    have hb : ∀ b,blocks ρ (chH cs') b ↔ blocks ρ (chH cs) b := fun b => by simp only [blocks,(hc _).live]
    have hbe : blocks ρ (chH cs') = blocks ρ (chH cs) := funext fun b => propext (hb b)
    obtain ⟨r',ho⟩ := r.rows hc
    have hargs' : DenArgs W (owns ⟨W,blocks ρ (chH cs'),ext,pin,ρ⟩ ρ (chH cs')) ρ (chH cs') args us := by
      rw [hbe]
      exact ⟨hargs.1,fun j v u hv hu => (hargs.2 j v u hv hu).mono (fun v u hi => hi.mono (Nat.le_refl _) (fun _ _ _ => rfl) fun b _ hb => (ho b).1 hb) fun c => (hc c).step _⟩
    have := F.run W ρ ext us hg hlt (fun b h => by rw [hbe]; exact hno b h) (fun b h => hng b ((hb b).1 h)) (by rw [hbe]; exact r') hargs'
    rw [hbe] at this
    exact this
theorem FnP.rowsOut {P : Program} {G : Glob} {f : FuncId} {pin : Nat} {cs : List Hs} {args : List V} {post post' : V → List Hs → Prop} (F : FnP P G f pin cs args post)
    (hc : ∀ r o,post r o → ∃ o',post' r o' ∧ ∀ c,HsW (chH o c) (chH o' c)) : FnP P G f pin cs args post' where
  en := F.en
  ne := let ⟨r,o,h⟩ := F.ne; let ⟨o',h',_⟩ := hc r o h; ⟨r,o',h'⟩
  run := fun W ρ ext us hg hlt hno hng r hargs => (F.run W ρ ext us hg hlt hno hng r hargs).mono fun e W' ⟨u,res,out,ρ',he,hp,hr,hd⟩ => by
    obtain ⟨o',hp',hw⟩ := hc res out hp
    obtain ⟨hr',ho⟩ := hr.rows hw
    exact ⟨u,res,o',ρ',he,hp',hr',hd.mono (fun v u hi => hi.mono (Nat.le_refl _) (fun _ _ _ => rfl) fun b _ hb => (ho b).1 hb) fun c => (hw c).step _⟩
end Go.Proofs.YtblndjmhjaijjaaGreatDoor.VL
namespace Go.Proofs.YtblndjmhjaijjaaGreatDoor.VL
open Go Go.RowKit
theorem St.le_trans {G : Glob} {pin : Nat} {a b c : St} (h1 : a.le G pin b) (h2 : b.le G pin c) : a.le G pin c := fun n B ρ x w hp hB r => by
  obtain ⟨ρ',r'⟩ := h1 n B ρ x w hp hB r
  exact h2 n B ρ' x w hp hB r'
def nilLoc : Loc := ⟨true,0,0,0⟩
theorem RelH.nilCell {G : Glob} {B : Base} {ρ : Nat → Loc} {h : Nat → Hs} {w : World} (hB : BaseOk G B) (r : RelH B ρ h w) {c m ty sz tz j : Nat} {row : List V} (hm : h m = .fresh) (hne : c ≠ m) (hc : h c = .var tz row) (hj : row[j]? = some .nils) :
    Turns B ρ h w (upρ ρ m nilLoc) (upH h [(c,.var tz (row.set j (.own m 0))),(m,.arr ty sz [])]) w := by
  have hst : ∀ x,HStep (ρ x) (h x) (upρ ρ m nilLoc x) (upH h [(c,.var tz (row.set j (.own m 0))),(m,.arr ty sz [])] x) := fun x => by
    by_cases hxm : x = m
    · subst hxm; exact .inl hm
    · by_cases hxc : x = c
      · subst hxc
        refine .inr (.inr ⟨by simp [upρ,hxm],.inr (.inl ⟨tz,row,tz,row.set j (.own m 0),hc,by simp [upH]⟩)⟩)
      · simp only [upH,upρ,if_neg hxm,if_neg hxc]; exact HStep.refl _ _
  have hnm : ∀ x,(upρ ρ m nilLoc x).nil = false → x ≠ m := fun x hx he => by
    subst he; simp [upρ,nilLoc] at hx
  have hlv : ∀ x,x ≠ m → (upH h [(c,.var tz (row.set j (.own m 0))),(m,.arr ty sz [])] x).live = true → (h x).live = true := fun x hx hl => by
    by_cases hxc : x = c
    · subst hxc; rw [hc]; rfl
    · simpa only [upH,if_neg hx,if_neg hxc] using hl
  refine r.turn rfl rfl rfl (Nat.le_refl _) (fun b _ => .inl rfl) hst (r.ext_lt hB) ?_ ?_ ?_
  · intro x hl hn
    have hx := hnm x hn
    simp only [upρ,if_neg hx] at hn ⊢
    exact .inl ⟨x,hlv x hx hl,hn,rfl⟩
  · intro x y hl1 hl2 hn1 hn2 he
    have hx := hnm x hn1
    have hy := hnm y hn2
    simp only [upρ,if_neg hx,if_neg hy] at hn1 hn2 he
    exact r.sep x y (hlv x hx hl1) (hlv y hy hl2) hn1 hn2 he
  · intro himm x
    by_cases hxm : x = m
    · subst hxm
      have : upH h [(c,Hs.var tz (row.set j (.own x 0))),(x,.arr ty sz [])] x = .arr ty sz [] := by simp [upH,Ne.symm hne]
      rw [this]
      exact .inl ⟨by simp [upρ,nilLoc],rfl,by simp [upρ,nilLoc]⟩
    · by_cases hxc : x = c
      · subst hxc
        have e1 : upH h [(x,Hs.var tz (row.set j (.own m 0))),(m,.arr ty sz [])] x = .var tz (row.set j (.own m 0)) := by simp [upH]
        have e2 : upρ ρ m nilLoc x = ρ x := by simp [upρ,hxm]
        have hcx := r.chunk x
        rw [hc] at hcx
        obtain ⟨a1,cs,a2,a3,a4⟩ := hcx
        rw [e1,e2]
        refine ⟨a1,cs,a2,by simpa using a3,fun i v hv => ?_⟩
        by_cases hij : i = j
        · subst hij
          obtain ⟨u,b1,b2,b3⟩ := a4 i _ hj
          have hlt := (List.getElem?_eq_some_iff.1 hj).1
          rw [List.getElem?_set_self hlt] at hv
          cases hv
          refine ⟨u,b1,b2, ?_⟩
          have hu : u = .slice none 0 0 := by cases b3; rfl
          have e3 : upH h [(x,Hs.var tz (row.set i (.own m 0))),(m,.arr ty sz [])] m = .arr ty sz [] := by simp [upH,hne,Ne.symm hne]
          refine (Den1.lo rfl).2 ?_
          simp only [Den0,e3]
          rw [hu]
          simp [upρ,nilLoc,Loc.sl,Loc.addr]
        · rw [List.getElem?_set_ne (Ne.symm hij)] at hv
          obtain ⟨u,b1,b2,b3⟩ := a4 i v hv
          exact ⟨u,b1,b2,b3.mono himm hst⟩
      · have e1 : upH h [(c,Hs.var tz (row.set j (.own m 0))),(m,.arr ty sz [])] x = h x := by simp only [upH,if_neg hxm,if_neg hxc]
        have e2 : upρ ρ m nilLoc x = ρ x := by simp [upρ,hxm]
        rw [e1,e2]
        exact (r.chunk x).mono himm hst (fun _ => rfl)
theorem nilOwn {G : Glob} {pin : Nat} {l : List (Nat × V)} {mm : List (Nat × Hs)} (c m ty sz tz j : Nat) {row : List V} (hm : getH mm m = .fresh) (hne : c ≠ m) (hc : getH mm c = .var tz row) (hj : row[j]? = some .nils) :
    St.le G pin ⟨getL l,getH mm⟩ ⟨getL l,getH ((c,.var tz (row.set j (.own m 0))) :: (m,.arr ty sz []) :: mm)⟩ := fun n B ρ a w hp hB r => by
  have T := r.mem.nilCell (c := c) (m := m) (ty := ty) (sz := sz) (tz := tz) (j := j) hB hm hne hc hj
  have e : upH (getH mm) [(c,Hs.var tz (row.set j (.own m 0))),(m,.arr ty sz [])] = getH ((c,.var tz (row.set j (.own m 0))) :: (m,.arr ty sz []) :: mm) := by
    funext x; simp [upH,getH]
  rw [e] at T
  exact ⟨_,T.rel,r.size,r.nod,fun d => T.den _ _ (r.tmps d)⟩
end Go.Proofs.YtblndjmhjaijjaaGreatDoor.VL
namespace Go.Proofs.YtblndjmhjaijjaaGreatDoor.VL
open Go Go.RowKit
theorem upH_same {h : Nat → Hs} : ∀ {up : List (Nat × Hs)},(∀ x,x ∈ up → h x.1 = x.2) → upH h up = h
  | [],_ => by funext x; rfl
  | p :: up,hp => by
    have ih := upH_same (h := h) (up := up) fun x hx => hp x (List.mem_cons_of_mem _ hx)
    have h1 := hp p List.mem_cons_self
    funext x
    simp only [upH]
    split
    · rename_i e; rw [e]; exact h1.symm
    · exact congrFun ih x
section
variable {P : Program} {G : Glob}
theorem callRd {f : FuncId} {pin : Nat} {cs : List Hs} {args : List V} {postf : V → List Hs → Prop} (F : FnP P G f pin cs args postf) {vs : List V} {d : Option Nat} {st : St} {K : St → List Nat → List Nat → Prop}
    (ns : List Nat) (dd m : Nat)
    (hw : WkL (Wk (fun c => c ∈ []) (nsF ns) st.h (chH cs)) vs args)
    (hc : NsL (fun n s => s.live = true ∧ WkH (fun c => c ∈ []) (nsF ns) st.h (chH cs) (st.h n) s) ns cs)
    (hpin : pin ≤ ns.length) (hnd : ns.Nodup)
    (ho : ∀ res out,postf res out → pin ≤ out.length ∧ out.length ≤ m ∧ ∀ i,i < pin → stepOk (chH cs i) (chH out i) = true)
    (hf : ∀ i,i < m → st.h (newN dd i) = .fresh)
    (hsame : ∀ res out,postf res out → ∀ x,x ∈ outU (bk ns pin dd) 0 out ++ deads (ns.drop pin) → st.h x.1 = x.2)
    (hk : ∀ res out,postf res out → K (st.app d (res.rn (bk ns pin dd)) []) (callTc ns [] dd m) []) :
    CallV P G f vs d st K := by
  obtain ⟨hlen,hw⟩ := hw.spec
  have hF : ∀ h' : Nat → Hs,(∀ c,c ∈ callTc ns [] dd m → h' c = st.h c) → ∀ c,c ∈ ([] : List Nat) → c ∈ ([] : List Nat) ∧ h' c = st.h c := fun h' hh c hc => by cases hc
  obtain ⟨h20,h21⟩ := hc.spec
  have h2 : ns.length = cs.length ∧ ∀ (i : Nat) s,cs[i]? = some s → s.live = true ∧ WkH (fun c => c ∈ ([] : List Nat)) (nsF ns) st.h (chH cs) (st.h (nsF ns i)) s ∧ nsF ns i ∈ ns :=
    ⟨h20,fun i s hs => ⟨(h21 i s hs).1,(h21 i s hs).2,mem_nsF (by rw [h20]; exact (List.getElem?_eq_some_iff.1 hs).1)⟩⟩
  have hs := callS F (vs := vs) (h := st.h) (ns := ns) (lent := []) (kp := true) (d := dd) (m := m) hpin h2.1 hnd hlen.symm
    (fun h' hh j v v' h1 h2 => (hw j v v' h1 h2).congr (hF h' hh))
    (fun h' hh i s hs => by
      obtain ⟨a,b,e⟩ := h2.2 i s hs
      refine ⟨a, ?_⟩
      rw [hh (nsF ns i) (by simp [callTc,e])]
      exact b.congr (hF h' hh)) (fun c hc => by cases hc) (fun res out hp => let ⟨a,b,c⟩ := ho res out hp; ⟨a,b,.inl rfl,c⟩) hf
  have hup : ∀ v up,callPost ns [] true pin dd postf v up → ∃ res out,postf res out ∧ v = res.rn (bk ns pin dd) ∧ ∀ x,x ∈ up → st.h x.1 = x.2 := by
    rintro v up ⟨res,out,hp,rfl,rfl⟩
    refine ⟨res,out,hp,rfl, ?_⟩
    simpa using hsame res out hp
  refine ⟨fun v up => ∃ up',callPost ns [] true pin dd postf v up' ∧ up = [],callTc ns [] dd m,[],⟨hs.en, ?_, ?_,(fun c hc => by cases hc), ?_⟩, ?_⟩
  · obtain ⟨v,up,hp⟩ := hs.ne
    exact ⟨v,[],up,hp,rfl⟩
  · rintro v up ⟨_,_,rfl⟩ x hx; cases hx
  · intro h' hh B ρ w us hB r ha
    refine (hs.run h' hh B ρ w us hB r ha).mono fun e w' hp => ?_
    obtain ⟨u,v,up,ρ',he,hp,hT,hd⟩ := hp
    have hw2 := hs.wri v up hp
    obtain ⟨_,_,_,_,hx⟩ := hup v up hp
    have e1 : upH h' up = h' := upH_same fun x hxu => by
      rw [hh x.1 (hs.sub _ (hw2 x hxu))]; exact hx x hxu
    rw [e1] at hT hd
    exact ⟨u,v,[],ρ',he,⟨up,hp,rfl⟩,hT,hd⟩
  · rintro v up ⟨up',hp,rfl⟩
    obtain ⟨res,out,hq,rfl,_⟩ := hup v up' hp
    exact hk res out hq
end
end Go.Proofs.YtblndjmhjaijjaaGreatDoor.VL
namespace Go.Proofs.YtblndjmhjaijjaaGreatDoor.VL
open Go Go.RowKit
abbrev mV (d a : Nat) : IOper := ⟨some d,none,.mv (.t a)⟩
abbrev lD (d k a : Nat) : IOper := ⟨some d,none,.ld k false (.t a)⟩
abbrev lA (d k a : Nat) : IOper := ⟨some d,none,.ld k true (.t a)⟩
abbrev fD (d k a : Nat) : IOper := ⟨some d,none,.fad k (.t a)⟩
abbrev bN (d : Nat) (o : BinOp) (a b : Nat) : IOper := ⟨some d,none,.bin o (.t a) (.t b)⟩
abbrev eX (d a i : Nat) : IOper := ⟨some d,none,.ext (.t a) i⟩
abbrev oP (d : Nat) (x : IOp) : IOper := ⟨some d,none,x⟩
abbrev nP (x : IOp) : IOper := ⟨none,none,x⟩
abbrev sR (l : List IOper) (x : IC) : IC := .seq (.reg l) x
abbrev i0 : V := .int .i64 0
abbrev s0 : V := .str []
class Br (g : Prop) (p e A q f C : outParam Prop) : Prop where
  out : (p → e → A) → (q → f → C) → g
theorem br {g p e A q f C : Prop} [i : Br g p e A q f C] (h1 : p → e → A) (h2 : q → f → C) : g := i.out h1 h2
class Sd (g : Prop) (p A : outParam Prop) : Prop where
  out : p → A → g
theorem sd {g p A : Prop} [i : Sd g p A] (h2 : A) (h1 : p := by omega) : g := i.out h1 h2
class Sk (g : Prop) (p A : outParam Prop) : Prop where
  out : p → A → g
theorem sk {g p A : Prop} [i : Sk g p A] (h2 : A) (h1 : p := by kernel_rfl) : g := i.out h1 h2
section
variable {P : Program} {G : Glob} {pin : Nat} {st : St} {K3 : St → List Nat → List Nat → Prop} {Q : Ex → St → Prop}
instance {d op} {b : Bool} : Br (gK P G d op st K3 (some b)) (b = true) (b = true) (doV P G ⟨d,none,op⟩ st K3) (b = false) (b = false) (K3 (st.app d (.tup []) []) [] []) := ⟨fun h1 h2 => gB (fun h => h1 h h) fun h => h2 h h⟩
instance {a b' : IC} {b : Bool} : Br (condW P G pin a b' Q st (.bool b)) (b = true) (b = true) (wpI P G pin a Q st) (b = false) (b = false) (wpI P G pin b' Q st) := ⟨fun h1 h2 => cB (fun h => h1 h h) fun h => h2 h h⟩
instance {d op} {b : Bool} : Br (gK P G d op st K3 (some (!b))) (b = true) (b = true) (K3 (st.app d (.tup []) []) [] []) (b = false) (b = false) (doV P G ⟨d,none,op⟩ st K3) := ⟨fun h1 h2 => gBn (fun h => h1 h h) fun h => h2 h h⟩
instance {a b' : IC} {b : Bool} : Br (condW P G pin a b' Q st (.bool (!b))) (b = true) (b = true) (wpI P G pin b' Q st) (b = false) (b = false) (wpI P G pin a Q st) := ⟨fun h1 h2 => cBn (fun h => h1 h h) fun h => h2 h h⟩
instance {d op} {p : Prop} {inst : Decidable p} : Br (gK P G d op st K3 (some (decide p))) p (p = True) (doV P G ⟨d,none,op⟩ st K3) (¬ p) (p = False) (K3 (st.app d (.tup []) []) [] []) := ⟨gBd⟩
instance {a b' : IC} {p : Prop} {inst : Decidable p} : Br (condW P G pin a b' Q st (.bool (decide p))) p (p = True) (wpI P G pin a Q st) (¬ p) (p = False) (wpI P G pin b' Q st) := ⟨cBd⟩
instance {d op} {p : Prop} {inst : Decidable p} : Br (gK P G d op st K3 (some (!decide p))) p (p = True) (K3 (st.app d (.tup []) []) [] []) (¬ p) (p = False) (doV P G ⟨d,none,op⟩ st K3) := ⟨gBnd⟩
instance {a b' : IC} {p : Prop} {inst : Decidable p} : Br (condW P G pin a b' Q st (.bool (!decide p))) p (p = True) (wpI P G pin b' Q st) (¬ p) (p = False) (wpI P G pin a Q st) := ⟨cBnd⟩
instance {d : Option Nat} {c : Prop} {inst : Decidable c} {x : Option V} : Sd (pureK d st K3 (guardP c x)) c (pureK d st K3 x) := ⟨pureG⟩
instance {d : Option Nat} {c : Prop} {inst : Decidable c} {x : Option (V × List (Nat × Hs) × List Nat)} : Sd (effK d st K3 (guardP c x)) c (effK d st K3 x) := ⟨effG⟩
instance {bef i tc wr tr} {p : Prop} : Sk (chk bef i tc wr tr = true ∧ p) (chk bef i tc wr tr = true) p := ⟨fun a b => ⟨a,b⟩⟩
instance {bef i tc wr tr} : Sk (chk bef i tc wr tr = true) (chk bef i tc wr tr = true) True := ⟨fun a _ => a⟩
theorem cr {f : FuncId} {vs : List V} {v : V} (F : FnR P G f vs v) {d : Option Nat} {K : St → List Nat → List Nat → Prop} (hk : K (st.app d v []) [] []) (hvs : vs.all V.nl = true := by kernel_rfl) (hv : v.nl = true := by kernel_rfl) :
    CallV P G f vs d st K := callR F hvs hv hk
theorem leQ {l1 l2 : List (Nat × V)} {m1 m2 : List (Nat × Hs)} (fs : List (Nat × Nat))
    (ht : WkS (Wk (fun c => nonB fs m2 c = true) (getN fs) (getH m1) (getH m2)) (getL l1) l2 := by simp only [go_sem]; first | done | omega | rfl)
    (hh : WkN (WkH (fun c => nonB fs m2 c = true) (getN fs) (getH m1) (getH m2)) (fun c => getH m1 (getN fs c)) m2 := by simp only [go_sem]; first | done | omega | rfl)
    (hi : (m2.map fun p => getN fs p.1).Nodup := by simp [getN]) (hp : pinOk fs (getH m2) pin := by simp only [go_sem]) : St.le G pin ⟨getL l1,getH m1⟩ ⟨getL l2,getH m2⟩ := leN fs ht hh hi hp
theorem cf {f : FuncId} {args : List V} {v : V} (F : FnR P G f args v) {vs : List V} {d : Option Nat} {K : St → List Nat → List Nat → Prop} (lent : List Nat)
    (hK : K (st.app d v []) lent [])
    (hw : WkL (Wk (fun c => c ∈ lent) (nsF []) st.h (chH [])) vs args := by simp only [go_sem]; first | done | simp [E.row,Pc.row,Pair.row,Part.row,Flw.row,Pk.row,Conv.row])
    (hl : ∀ c,c ∈ lent → (st.h c).live = true := by simp only [List.mem_cons,List.not_mem_nil,or_false]; rintro c (rfl | rfl | rfl | rfl) <;> simp only [go_sem]) (hv : v.nl = true := by kernel_rfl) (hk : v.plain = true := by kernel_rfl) : CallV P G f vs d st K :=
  callF F lent false hw hl hv (.inr hk) hK
end
end Go.Proofs.YtblndjmhjaijjaaGreatDoor.VL
namespace Go.Proofs.YtblndjmhjaijjaaGreatDoor.M
abbrev B := List UInt8
structure E where
  a : Int
  p : Int
  deriving DecidableEq,Inhabited
structure Pc where
  size : Nat
  named : Bool
  e : E
  deriving DecidableEq,Inhabited
structure Pair where
  port : Int
  ins : E
  deriving DecidableEq,Inhabited
structure Part where
  size : Int
  text : B
  deriving DecidableEq,Inhabited
structure Strm where
  inn : B
  parts : List Part
  deriving DecidableEq,Inhabited
structure Pk where
  kind : Int
  frm : E
  to : E
  at_ : Int
  text : B
  deriving DecidableEq,Inhabited
structure Flw where
  ins : E
  out : E
  up : Strm
  down : Strm
  deriving DecidableEq,Inhabited
structure Door where
  map : List Pair
  flows : List Flw
  deriving DecidableEq,Inhabited
structure Conv where
  ins : E
  out : E
  up : B
  down : B
  upAck : Int
  downAck : Int
  upGot : B
  downGot : B
  deriving DecidableEq,Inhabited
structure World where
  convs : List Conv
  door : Door
  nets : List Pk
  deriving DecidableEq,Inhabited
structure Ev where
  kind : Int
  a : Int
  b : Int
  c : Int
  pkt : Pk
  deriving DecidableEq,Inhabited
def E.zero : E := ⟨0,0⟩
def Pk.zero : Pk := ⟨0,.zero,.zero,0,[]⟩
def Strm.zero : Strm := ⟨[],[]⟩
def Flw.zero : Flw := ⟨.zero,.zero,.zero,.zero⟩
def Door.zero : Door := ⟨[],[]⟩
def Conv.zero : Conv := ⟨.zero,.zero,[],[],0,0,[],[]⟩
def World.zero : World := ⟨[],.zero,[]⟩
def within (n lo hi : Int) : Bool := decide (lo ≤ n) && decide (n ≤ hi)
def E.inside (e : E) : Bool := within e.a 1 3 && within e.p 1 9
def E.outside (e : E) : Bool := within e.a 4 6 && within e.p 1 9
def E.door (e : E) : Bool := decide (e.a = 9) && within e.p 10 17
def E.any (e : E) : Bool := e.inside || e.outside || e.door
def decN (n : Nat) : B := if n < 10 then [UInt8.ofNat (48 + n)] else [UInt8.ofNat (48 + n / 10),UInt8.ofNat (48 + n % 10)]
def dec (i : Int) : B := decN i.toNat
def E.text (e : E) : B := if e.any then dec e.a ++ (58 :: dec e.p) else []
def ends : List E :=
  ([1,2,3,4,5,6] : List Int).flatMap (fun a => ([1,2,3,4,5,6,7,8,9] : List Int).map fun p => ⟨a,p⟩) ++ ([10,11,12,13,14,15,16,17] : List Int).map fun p => ⟨9,p⟩
def endRead (t : B) : Option E := ends.find? fun e => decide (e.text = t)
def figB (b lo : UInt8) : Bool := decide (lo ≤ b) && decide (b ≤ 57)
def okB (b : UInt8) : Bool := (decide (97 ≤ b) && decide (b ≤ 122)) || figB b 48 || decide (b = 64) || decide (b = 58) || decide (b = 59)
def txOk (t : B) : Bool := t.all okB && decide (t.length ≤ 40)
def begs : B → Bool
  | [a] => decide (a = 64)
  | [a,b] => decide (a = 64) && figB b 49
  | [a,b,c] => decide (a = 64) && figB b 49 && decide (c = 58)
  | [a,b,c,d] => decide (a = 64) && figB b 49 && decide (c = 58) && figB d 49
  | [a,b,c,d,e] => decide (a = 64) && figB b 49 && decide (c = 58) && figB d 49 && figB e 48
  | _ => false
def heldK (t : B) : Nat → Nat
  | 0 => 0
  | n + 1 => if decide (n + 1 ≤ t.length) && begs (t.drop (t.length - (n + 1))) then n + 1 else heldK t n
def held (t : B) : Nat := heldK t 5
def cutB (s : B) (c : UInt8) : B × B × Bool := if c ∈ s then (s.takeWhile fun b => decide (b ≠ c),(s.dropWhile fun b => decide (b ≠ c)).tail,true) else (s,[],false)
def name (e : E) : B := 64 :: (e.text ++ [59])
def nameAt : B → Option E
  | [] => none
  | c :: r => if c = 64 ∧ 59 ∈ r then endRead (r.takeWhile fun b => decide (b ≠ 59)) else none
def pcK : Nat → B → List Pc
  | 0,_ => []
  | _,[] => []
  | n + 1,c :: r => match nameAt (c :: r) with
    | some e => ⟨(name e).length,true,e⟩ :: pcK n ((c :: r).drop (name e).length)
    | none => ⟨1,false,.zero⟩ :: pcK n r
def body (t : B) : B := t.take (t.length - held t)
def pieces (t : B) : List Pc := pcK t.length (body t)
def textPieces (t : B) : List Pc := if txOk t then pieces t else []
def namesOf (l : List Pc) : List E := (l.filter (·.named)).map (·.e)
def textNames (t : B) : List E := namesOf (textPieces t)
def okPair (m : List Pair) (i : Nat) : Bool := match m[i]? with
  | some p => decide (p.port = 10 + (i : Int)) && p.ins.inside && !(m.take i).any fun q => decide (q.ins = p.ins)
  | none => true
def mapOk (m : List Pair) : Bool := (List.range m.length).all (okPair m) && decide (m.length ≤ 8)
def portOf (m : List Pair) (e : E) : Int := match m.find? fun p => decide (p.ins = e) with
  | some p => p.port
  | none => 0
def insideOf (m : List Pair) (port : Int) : Option E := (m.find? fun p => decide (p.port = port)).map (·.ins)
def mOut (m : List Pair) (e : E) : List Pair × Int × Bool := match m.find? fun p => decide (p.ins = e) with
  | some p => (m,p.port,true)
  | none => if 8 ≤ m.length then (m,0,false) else (m ++ [⟨10 + (m.length : Int),e⟩],10 + (m.length : Int),true)
def pieceOut (m : List Pair) (p : Pc) (s : B) : List Pair × B :=
  if p.named && p.e.inside then (match mOut m p.e with
    | (x,port,true) => (x,name ⟨9,port⟩)
    | (_,_,false) => (m,s))
  else (m,s)
def pieceIn (m : List Pair) (p : Pc) (s : B) : B :=
  if p.named && p.e.door then (match insideOf m p.e.p with
    | some e => name e
    | none => s)
  else s
def turn (m : List Pair) (p : Pc) (s : B) (out : Bool) : List Pair × B := bif out then pieceOut m p s else (m,pieceIn m p s)
def turned (m : List Pair) : List Pc → B → Bool → List Pair × List B
  | [],_,_ => (m,[])
  | p :: ps,s,out => ((turned (turn m p (s.take p.size) out).1 ps (s.drop p.size) out).1,(turn m p (s.take p.size) out).2 :: (turned (turn m p (s.take p.size) out).1 ps (s.drop p.size) out).2)
def okPart (p : Part) (q : Pc) : Bool := decide (p.size = (q.size : Int)) && within p.text.length 1 6 && txOk p.text
def okParts : List Part → List Pc → Bool
  | [],[] => true
  | p :: ps,q :: qs => okPart p q && okParts ps qs
  | _,_ => false
def strmOk (s : Strm) : Bool := txOk s.inn && okParts s.parts (pieces s.inn)
def sOut (s : Strm) : B := s.parts.flatMap (·.text)
def forP : List Part → Int → Int
  | [],_ => 0
  | p :: ps,i => if p.size ≤ i then p.text.length + forP ps (i - p.size) else 0
def backP : List Part → Int → Int
  | [],_ => 0
  | p :: ps,i => if (p.text.length : Int) ≤ i then p.size + backP ps (i - p.text.length) else 0
def behind (came : B) (at_ : Int) (text : B) : B × Bool :=
  if at_ > came.length || at_ + text.length > 40 then (came,false)
  else if at_ + text.length ≤ came.length then (came,true)
  else (came ++ text.drop (came.length - at_).toNat,true)
def doneP (l : List Part) : Nat := (l.map fun p => p.size.toNat).sum
def mkParts : List Pc → List B → List Part
  | p :: ps,b :: bs => ⟨p.size,b⟩ :: mkParts ps bs
  | _,_ => []
def put (m : List Pair) (s : Strm) (at_ : Int) (text : B) (out : Bool) : List Pair × Strm × Bool :=
  if (behind s.inn at_ text).2 then
    let inn := (behind s.inn at_ text).1
    let list := (pieces inn).drop s.parts.length
    let r := turned m list (inn.drop (doneP s.parts)) out
    (r.1,⟨inn,s.parts ++ mkParts list r.2⟩,true)
  else (m,s,false)
def pkOk (p : Pk) : Bool := p.frm.any && p.to.any && within p.at_ 0 99 &&
  ((decide (p.kind = 1) && txOk p.text && !p.text.isEmpty) || (decide (p.kind = 2) && p.text.isEmpty))
def flowIx (fs : List Flw) (i o : E) : Option Nat := fs.findIdx? fun f => decide (f.ins = i) && decide (f.out = o)
def okFlow (d : Door) (k : Nat) : Bool := match d.flows[k]? with
  | some f => d.map.any (fun p => decide (p.ins = f.ins)) && f.out.outside && strmOk f.up && strmOk f.down && !(d.flows.take k).any fun g => decide (g.ins = f.ins) && decide (g.out = f.out)
  | none => true
def doorOk (d : Door) : Bool := mapOk d.map && decide (d.flows.length ≤ 4) && (List.range d.flows.length).all (okFlow d)
def sendOn (was is : Strm) (p : Pk) : Option Pk :=
  let fr := forP is.parts p.at_
  let to := if was.inn.length < is.inn.length then ((sOut is).length : Int) else forP is.parts (min (p.at_ + p.text.length) is.inn.length)
  if fr ≥ to then none
  else if to - fr ≤ 40 then some { p with at_ := fr,text := ((sOut is).take to.toNat).drop fr.toNat } else none
def openF (d : Door) (i o : E) : Option (Door × Nat) := match flowIx d.flows i o with
  | some k => some (d,k)
  | none => match mOut d.map i with
    | (m,_,true) => if d.flows.length < 4 then some (⟨m,d.flows ++ [⟨i,o,.zero,.zero⟩]⟩,d.flows.length) else none
    | _ => none
def dOut (d : Door) (p : Pk) : Door × Option Pk := match openF d p.frm p.to with
  | none => (d,none)
  | some (d,k) => match d.flows[k]? with
    | none => (d,none)
    | some f =>
      let dr : E := ⟨9,portOf d.map p.frm⟩
      if p.kind = 2 then
        if p.at_ > (sOut f.down).length then (d,none) else (d,some ⟨2,dr,p.to,backP f.down.parts p.at_,[]⟩)
      else match put d.map f.up p.at_ p.text true with
        | (_,_,false) => (d,none)
        | (m,s,true) => (⟨m,d.flows.set k { f with up := s }⟩,(sendOn f.up s p).map fun q => { q with frm := dr })
def dIn (d : Door) (p : Pk) : Door × Option Pk := match insideOf d.map p.to.p with
  | none => (d,none)
  | some i => match flowIx d.flows i p.frm with
    | none => (d,none)
    | some k => match d.flows[k]? with
      | none => (d,none)
      | some f =>
        if p.kind = 2 then
          if p.at_ > (sOut f.up).length then (d,none) else (d,some ⟨2,p.frm,i,backP f.up.parts p.at_,[]⟩)
        else match put d.map f.down p.at_ p.text false with
          | (_,_,false) => (d,none)
          | (_,s,true) => (⟨d.map,d.flows.set k { f with down := s }⟩,(sendOn f.down s p).map fun q => { q with to := i })
def Pk.outward (p : Pk) : Bool := p.frm.inside && p.to.outside
def Pk.inward (p : Pk) : Bool := p.frm.outside && p.to.door
def dPass (d : Door) (p : Pk) : Door × Option Pk := if p.outward then dOut d p else if p.inward then dIn d p else (d,none)
def doorOut (d : Door) (p : Pk) : Door × Option Pk := if doorOk d && pkOk p && p.outward then dOut d p else (.zero,none)
def saying (t : B) : Bool := decide (t.length ≤ 24) && txOk t && decide (held t = 0)
def ownT (t : B) : Bool := !(textNames t).any E.door
def convNew (i o : E) (up down : B) : Option Conv :=
  if i.inside && o.outside && saying up && saying down && ownT up then some ⟨i,o,up,down,0,0,[],[]⟩ else none
def convOk (c : Conv) : Bool := (convNew c.ins c.out c.up c.down).isSome && within c.upAck 0 c.up.length && within c.downAck 0 c.down.length && txOk c.upGot && txOk c.downGot
def say (c : Conv) (outward : Bool) (port at_ many : Int) : Option Pk :=
  let p : Pk := if outward then ⟨1,c.ins,c.out,at_,[]⟩ else ⟨1,c.out,⟨9,port⟩,at_,[]⟩
  let text := if outward then c.up else c.down
  if within at_ 0 ((text.length : Int) - 1) && decide (1 ≤ many) && (outward || p.to.door) then
    some { p with text := (text.drop at_.toNat).take (min many (text.length - at_)).toNat }
  else none
def hear (c : Conv) (inward : Bool) (p : Pk) : Conv × Option Pk :=
  if bif inward then decide (p.frm = c.out) && decide (p.to = c.ins) else decide (p.to = c.out) && p.frm.door then
    if p.kind = 2 then
      (bif inward then { c with upAck := max c.upAck (min p.at_ c.up.length) } else { c with downAck := max c.downAck (min p.at_ c.down.length) },none)
    else
      bif inward then ({ c with downGot := (behind c.downGot p.at_ p.text).1 },some ⟨2,p.to,p.frm,(behind c.downGot p.at_ p.text).1.length,[]⟩)
      else ({ c with upGot := (behind c.upGot p.at_ p.text).1 },some ⟨2,p.to,p.frm,(behind c.upGot p.at_ p.text).1.length,[]⟩)
  else (c,none)
def okConv (cs : List Conv) (i : Nat) : Bool := match cs[i]? with
  | some c => convOk c && !(cs.take i).any fun o => decide (o.ins = c.ins) || decide (o.out = c.out)
  | none => true
def together (cs : List Conv) : Bool := (List.range cs.length).all (okConv cs) && decide (cs.length ≤ 2)
def newConvs : List Conv → Option (List Conv)
  | [] => some []
  | c :: cs => match convNew c.ins c.out c.up c.down,newConvs cs with
    | some n,some ns => some (n :: ns)
    | _,_ => none
def worldNew (cs : List Conv) : Option World := match newConvs cs with
  | some ns => if together ns then some ⟨ns,.zero,[]⟩ else none
  | none => none
def send (w : World) : Option Pk → World
  | some p => if w.nets.length < 10 then { w with nets := w.nets ++ [p] } else w
  | none => w
def hostIx (w : World) (p : Pk) : Option (Nat × Bool) :=
  match w.convs.findIdx? fun c => (decide (p.to = c.ins) && decide (p.frm = c.out)) || (decide (p.to = c.out) && p.frm.door && decide (p.frm.p = portOf w.door.map c.ins)) with
  | some i => match w.convs[i]? with
    | some c => some (i,decide (p.to = c.ins) && decide (p.frm = c.out))
    | none => none
  | none => none
def carry (w : World) (p : Pk) : World × Option Pk :=
  if p.to.door || p.frm.inside then ({ w with door := (dPass w.door p).1 },(dPass w.door p).2)
  else match hostIx w p with
    | none => (w,none)
    | some (i,inward) => match w.convs[i]? with
      | none => (w,none)
      | some c => ({ w with convs := w.convs.set i (hear c inward p).1 },(hear c inward p).2)
def sayW (w : World) (up : Bool) (a b c : Int) : Option Pk :=
  if within a 0 ((w.convs.length : Int) - 1) then (match w.convs[a.toNat]? with
    | some cv => say cv up (bif up then 0 else portOf w.door.map cv.ins) b c
    | none => none)
  else none
def stranger (w : World) (p : Pk) : Bool := pkOk p && p.inward && !w.convs.any fun c => decide (c.out = p.frm)
def wDo (w : World) (e : Ev) : World :=
  let packet := within e.a 0 ((w.nets.length : Int) - 1)
  if e.kind = 1 then send w (sayW w true e.a e.b e.c)
  else if e.kind = 2 then send w (sayW w false e.a e.b e.c)
  else if e.kind = 3 then
    if packet then (match w.nets[e.a.toNat]? with
      | some p => let r := carry { w with nets := w.nets.eraseIdx e.a.toNat } p; send r.1 r.2
      | none => w) else w
  else if e.kind = 4 then
    if packet then { w with nets := w.nets.eraseIdx e.a.toNat } else w
  else if e.kind = 5 then
    if packet then send w w.nets[e.a.toNat]? else w
  else if e.kind = 6 then (if stranger w e.pkt then send w (some e.pkt) else w)
  else w
def worldPlay (cs : List Conv) (es : List Ev) : Option World := match worldNew cs with
  | some w => if es.length ≤ 60 then some (es.foldl wDo w) else none
  | none => none
def through : Nat → World → Option Pk → World
  | 0,w,_ => w
  | _,w,none => w
  | n + 1,w,some p => through n (carry w p).1 (carry w p).2
def sayRound (w : World) (i : Nat) : World := match w.convs[i]? with
  | none => w
  | some c =>
    let w1 := through 4 w (say c true 0 c.upAck 24)
    match w1.convs[i]? with
    | none => w1
    | some c1 => through 4 w1 (say c1 false (portOf w1.door.map c1.ins) c1.downAck 24)
def round (w : World) : World :=
  let w1 := w.nets.foldl (fun w p => through 4 w (some p)) { w with nets := [] }
  (List.range w1.convs.length).foldl sayRound w1
end Go.Proofs.YtblndjmhjaijjaaGreatDoor.M
namespace Go.Proofs.YtblndjmhjaijjaaGreatDoor.M
theorem within_iff {n lo hi : Int} : within n lo hi = true ↔ lo ≤ n ∧ n ≤ hi := by simp [within]
theorem E.inside_iff {e : E} : e.inside = true ↔ (1 ≤ e.a ∧ e.a ≤ 3) ∧ 1 ≤ e.p ∧ e.p ≤ 9 := by simp [E.inside,within_iff]
theorem E.outside_iff {e : E} : e.outside = true ↔ (4 ≤ e.a ∧ e.a ≤ 6) ∧ 1 ≤ e.p ∧ e.p ≤ 9 := by simp [E.outside,within_iff]
theorem E.door_iff {e : E} : e.door = true ↔ e.a = 9 ∧ 10 ≤ e.p ∧ e.p ≤ 17 := by simp [E.door,within_iff]
theorem E.any_iff {e : E} : e.any = true ↔ e ∈ ends := by
  constructor
  · intro h
    obtain ⟨a,p⟩ := e
    simp only [E.any,Bool.or_eq_true,E.inside_iff,E.outside_iff,E.door_iff] at h
    have h9 : ∀ x : Int,1 ≤ x ∧ x ≤ 9 → x = 1 ∨ x = 2 ∨ x = 3 ∨ x = 4 ∨ x = 5 ∨ x = 6 ∨ x = 7 ∨ x = 8 ∨ x = 9 := by omega
    have h17 : ∀ x : Int,10 ≤ x ∧ x ≤ 17 → x = 10 ∨ x = 11 ∨ x = 12 ∨ x = 13 ∨ x = 14 ∨ x = 15 ∨ x = 16 ∨ x = 17 := by omega
    have h6 : ∀ x : Int,1 ≤ x ∧ x ≤ 6 → x = 1 ∨ x = 2 ∨ x = 3 ∨ x = 4 ∨ x = 5 ∨ x = 6 := by omega
    have : (a = 9 ∧ 10 ≤ p ∧ p ≤ 17) ∨ ((1 ≤ a ∧ a ≤ 6) ∧ 1 ≤ p ∧ p ≤ 9) := by omega
    simp only [ends,List.mem_append,List.mem_flatMap,List.mem_map,List.mem_cons,List.not_mem_nil,or_false,E.mk.injEq]
    rcases this with ⟨rfl,hp⟩ | ⟨ha,hp⟩
    · exact .inr ⟨p,h17 p hp,rfl,rfl⟩
    · exact .inl ⟨a,h6 a ha,p,h9 p hp,rfl,rfl⟩
  · intro h
    have key : ends.all E.any = true := by decide
    exact List.all_eq_true.1 key e h
theorem ends_read : ∀ e ∈ ends,endRead e.text = some e := by decide
theorem endRead_some {t : B} {e : E} (h : endRead t = some e) : e.any = true ∧ e.text = t := by
  have h1 := List.mem_of_find?_eq_some h
  have h2 := List.find?_some h
  exact ⟨E.any_iff.2 h1,of_decide_eq_true h2⟩
theorem endRead_text {e : E} (h : e.any = true) : endRead e.text = some e := ends_read e (E.any_iff.1 h)
theorem text_inj {e e' : E} (h : e.any = true) (he : e.text = e'.text) : e = e' := by
  have h1 := endRead_text h
  rw [he] at h1
  have h2 := endRead_some h1
  by_cases h' : e'.any = true
  · rw [endRead_text h'] at h1; exact (Option.some.inj h1).symm
  · have : e'.text = [] := by simp [E.text,h']
    rw [this] at he
    have key : ∀ e ∈ ends,e.text ≠ [] := by decide
    exact absurd he (key e (E.any_iff.1 h))
theorem text_no59 {e : E} : 59 ∉ e.text := by
  by_cases h : e.any = true
  · have key : ∀ e ∈ ends,59 ∉ e.text := by decide
    exact key e (E.any_iff.1 h)
  · simp [E.text,h]
theorem text_no64 {e : E} : 64 ∉ e.text := by
  by_cases h : e.any = true
  · have key : ∀ e ∈ ends,64 ∉ e.text := by decide
    exact key e (E.any_iff.1 h)
  · simp [E.text,h]
theorem text_len {e : E} (h : e.any = true) : e.text.length = (if e.door then 4 else 3) := by
  have key : ∀ e ∈ ends,e.text.length = (if e.door then 4 else 3) := by decide
  exact key e (E.any_iff.1 h)
theorem text_ok {e : E} : e.text.all okB = true := by
  by_cases h : e.any = true
  · have key : ∀ e ∈ ends,e.text.all okB = true := by decide
    exact key e (E.any_iff.1 h)
  · simp [E.text,h]
theorem name_len {e : E} (h : e.any = true) : (name e).length = (if e.door then 6 else 5) := by
  simp only [name,List.length_cons,List.length_append,List.length_nil,text_len h]
  split <;> rfl
theorem takeWhile_name {e : E} {r : B} : (e.text ++ [59] ++ r).takeWhile (fun b => decide (b ≠ 59)) = e.text := by
  rw [List.append_assoc,List.takeWhile_append_of_pos]
  · simp
  · intro b hb
    simp only [ne_eq,decide_eq_true_eq]
    rintro rfl
    exact text_no59 hb
theorem nameAt_name {e : E} (h : e.any = true) (r : B) : nameAt (name e ++ r) = some e := by
  simp only [name,List.cons_append,nameAt]
  rw [if_pos (by simp),takeWhile_name,endRead_text h]
theorem split_59 {r : B} (h : 59 ∈ r) : ∃ s,r = r.takeWhile (fun b => decide (b ≠ 59)) ++ [59] ++ s := by
  induction r with
  | nil => cases h
  | cons c r ih =>
    by_cases hc : c = 59
    · subst hc; exact ⟨r,by simp⟩
    · have h' : 59 ∈ r := by
        rcases List.mem_cons.1 h with h | h
        · exact absurd h.symm hc
        · exact h
      obtain ⟨s,hs⟩ := ih h'
      refine ⟨s, ?_⟩
      rw [List.takeWhile_cons_of_pos (by simpa using hc)]
      simp only [List.cons_append]
      rw [← hs]
theorem nameAt_some {s : B} {e : E} (h : nameAt s = some e) : e.any = true ∧ ∃ r,s = name e ++ r := by
  cases s with
  | nil => simp [nameAt] at h
  | cons c r =>
    simp only [nameAt] at h
    split at h
    · rename_i hc
      obtain ⟨rfl,h59⟩ := hc
      obtain ⟨ha,ht⟩ := endRead_some h
      obtain ⟨s,hs⟩ := split_59 h59
      refine ⟨ha,s, ?_⟩
      rw [hs,← ht]
      simp [name]
    · cases h
theorem ends_ok : ∀ e ∈ ends,(0 ≤ e.a ∧ e.a < 100) ∧ (0 ≤ e.p ∧ e.p < 100) ∧ 58 ∉ dec e.a := by decide
theorem cut_mid {a r : B} {c : UInt8} (h : c ∉ a) : cutB (a ++ c :: r) c = (a,r,true) := by
  have h1 : c ∈ a ++ c :: r := by simp
  simp only [cutB,if_pos h1]
  have ha : ∀ b ∈ a,decide (b ≠ c) = true := fun b hb => by simp only [ne_eq,decide_eq_true_eq]; rintro rfl; exact h hb
  rw [List.takeWhile_append_of_pos ha,List.dropWhile_append_of_pos ha]
  simp
theorem endRead_cut {t : B} {e : E} (h : endRead t = some e) : cutB t 58 = (dec e.a,dec e.p,true) ∧ (0 ≤ e.a ∧ e.a < 100) ∧ (0 ≤ e.p ∧ e.p < 100) := by
  obtain ⟨h1,h2⟩ := endRead_some h
  obtain ⟨a1,a2,a3⟩ := ends_ok e (E.any_iff.1 h1)
  refine ⟨?_,a1,a2⟩
  rw [← h2]
  simp only [E.text,h1,if_true]
  exact cut_mid a3
theorem cutB_len (t : B) (c : UInt8) : (cutB t c).1.length ≤ t.length ∧ (cutB t c).2.1.length ≤ t.length := by
  unfold cutB
  split
  · have h := List.takeWhile_append_dropWhile (p := fun b : UInt8 => decide (b ≠ c)) (l := t)
    have h2 := congrArg List.length h
    simp only [List.length_append] at h2
    simp only [List.length_tail]
    omega
  · simp
def pc1 (s : B) : Pc := match nameAt s with
  | some e => ⟨(name e).length,true,e⟩
  | none => ⟨1,false,.zero⟩
def pcs (s : B) : List Pc := pcK s.length s
theorem pc1_size {s : B} (h : s ≠ []) : 1 ≤ (pc1 s).size ∧ (pc1 s).size ≤ s.length ∧ (pc1 s).size ≤ 6 := by
  unfold pc1
  cases hn : nameAt s with
  | none =>
    have := List.length_pos_iff.2 h
    exact ⟨Nat.le_refl _,this,by simp⟩
  | some e =>
    obtain ⟨h1,r,h2⟩ := nameAt_some hn
    have := name_len h1
    have h3 := congrArg List.length h2
    simp only [List.length_append] at h3
    simp only
    split at this <;> omega
theorem pcK_step (n : Nat) {s : B} (h : s ≠ []) : pcK (n + 1) s = pc1 s :: pcK n (s.drop (pc1 s).size) := by
  cases s with
  | nil => exact absurd rfl h
  | cons c r =>
    simp only [pcK,pc1]
    cases nameAt (c :: r) <;> rfl
theorem pcK_len : ∀ (n : Nat) (s : B),s.length ≤ n → pcK n s = pcs s := by
  intro n
  induction n using Nat.strongRecOn with
  | _ n ih =>
    intro s hs
    by_cases h : s = []
    · subst h; cases n <;> rfl
    · have hp := List.length_pos_iff.2 h
      obtain ⟨p1,p2,_⟩ := pc1_size h
      obtain ⟨m,rfl⟩ : ∃ m,n = m + 1 := ⟨n - 1,by omega⟩
      obtain ⟨k,hk⟩ : ∃ k,s.length = k + 1 := ⟨s.length - 1,by omega⟩
      unfold pcs
      rw [hk,pcK_step m h,pcK_step k h]
      congr 1
      rw [ih m (by omega) _ (by simp; omega)]
      by_cases hkm : k = m
      · subst hkm; rw [ih k (by omega) _ (by simp; omega)]
      · rw [ih k (by omega) _ (by simp; omega)]
theorem pcs_nil : pcs [] = [] := rfl
theorem pcs_cons {s : B} (h : s ≠ []) : pcs s = pc1 s :: pcs (s.drop (pc1 s).size) := by
  obtain ⟨k,hk⟩ : ∃ k,s.length = k + 1 := ⟨s.length - 1,by have := List.length_pos_iff.2 h; omega⟩
  obtain ⟨p1,p2,_⟩ := pc1_size h
  conv => lhs; unfold pcs
  rw [hk,pcK_step k h,pcK_len k _ (by simp; omega)]
theorem body_len (t : B) : (body t).length = t.length - held t := by simp [body]
theorem pieces_eq (t : B) : pieces t = pcs (body t) := by
  unfold pieces
  exact pcK_len _ _ (by rw [body_len]; omega)
theorem pcs_len : ∀ (n : Nat) (s : B),s.length ≤ n → (pcs s).length ≤ s.length := by
  intro n
  induction n with
  | zero =>
    intro s hs
    have : s = [] := List.eq_nil_of_length_eq_zero (by omega)
    subst this; exact Nat.le_refl _
  | succ n ih =>
    intro s hs
    by_cases h : s = []
    · subst h; exact Nat.le_refl _
    · obtain ⟨p1,p2,_⟩ := pc1_size h
      rw [pcs_cons h]
      have := ih (s.drop (pc1 s).size) (by simp; omega)
      simp only [List.length_cons,List.length_drop] at this ⊢
      omega
theorem pieces_len (t : B) : (pieces t).length ≤ t.length := by
  rw [pieces_eq]
  have := pcs_len _ (body t) (Nat.le_refl _)
  rw [body_len] at this; omega
theorem textPieces_len (t : B) : (textPieces t).length ≤ t.length := by
  unfold textPieces
  split
  · exact pieces_len t
  · simp
theorem E.ext_iff' {a p c d : Int} : (decide (a = c) && decide (p = d)) = decide ((⟨a,p⟩ : E) = ⟨c,d⟩) := by
  by_cases h1 : a = c <;> by_cases h2 : p = d <;> simp [h1,h2]
def PortsOk (m : List Pair) : Prop := ∀ p ∈ m,p.port ≠ 0 ∧ p.port < 1000
theorem portOf_nil (e : E) : portOf [] e = 0 := rfl
theorem portOf_cons (p : Pair) (m : List Pair) (e : E) : portOf (p :: m) e = if p.ins = e then p.port else portOf m e := by
  by_cases h : p.ins = e <;> simp [portOf,h]
theorem insideOf_cons (p : Pair) (m : List Pair) (n : Int) : insideOf (p :: m) n = if p.port = n then some p.ins else insideOf m n := by
  by_cases h : p.port = n <;> simp [insideOf,h]
theorem portOf_ne {m : List Pair} {e : E} (h : ∀ p ∈ m,p.port ≠ 0) : (portOf m e ≠ 0 ↔ m.any (fun q => decide (q.ins = e)) = true) := by
  induction m with
  | nil => simp [portOf_nil]
  | cons p m ih =>
    rw [portOf_cons,List.any_cons]
    by_cases hp : p.ins = e
    · simp [hp,h p (by simp)]
    · rw [if_neg hp,ih fun q hq => h q (by simp [hq])]; simp [hp]
theorem mOut_found {m : List Pair} {e : E} (h : ∀ p ∈ m,p.port ≠ 0) (hp : portOf m e ≠ 0) : mOut m e = (m,portOf m e,true) := by
  unfold portOf at hp ⊢
  unfold mOut
  cases hf : m.find? fun p => decide (p.ins = e) with
  | none => rw [hf] at hp; exact absurd rfl hp
  | some p => rfl
theorem mOut_none {m : List Pair} {e : E} (h : ∀ p ∈ m,p.port ≠ 0) (hp : portOf m e = 0) : mOut m e = if 8 ≤ m.length then (m,0,false) else (m ++ [⟨10 + (m.length : Int),e⟩],10 + (m.length : Int),true) := by
  unfold mOut
  cases hf : m.find? fun p => decide (p.ins = e) with
  | none => rfl
  | some p =>
    unfold portOf at hp
    rw [hf] at hp
    exact absurd hp (h p (List.mem_of_find?_eq_some hf))
theorem PortsOk.mOut {m : List Pair} {e : E} (h : PortsOk m) : PortsOk (mOut m e).1 := by
  unfold M.mOut
  split
  · exact h
  · split
    · exact h
    · rename_i hl
      intro p hp
      rcases List.mem_append.1 hp with hp | hp
      · exact h p hp
      · simp only [List.mem_singleton] at hp
        subst hp
        simp only
        omega
theorem okPair_port {m : List Pair} {i : Nat} {p : Pair} (h : okPair m i = true) (hp : m[i]? = some p) : p.port = 10 + (i : Int) ∧ p.ins.inside = true := by
  simp only [okPair,hp,Bool.and_eq_true,decide_eq_true_eq] at h
  exact h.1
theorem mapOk_ports {m : List Pair} (h : mapOk m = true) : PortsOk m ∧ m.length ≤ 8 := by
  simp only [mapOk,Bool.and_eq_true,decide_eq_true_eq,List.all_eq_true,List.mem_range] at h
  refine ⟨fun p hp => ?_,h.2⟩
  obtain ⟨i,hi⟩ := List.getElem?_of_mem hp
  have hl := (List.getElem?_eq_some_iff.1 hi).1
  have := (okPair_port (h.1 i hl) hi).1
  omega
theorem mapOk_at {m : List Pair} (h : mapOk m = true) {i : Nat} (hi : i < m.length) : m[i].port = 10 + (i : Int) ∧ m[i].ins.inside = true := by
  simp only [mapOk,Bool.and_eq_true,List.all_eq_true,List.mem_range] at h
  exact okPair_port (h.1 i hi) (List.getElem?_eq_getElem hi)
theorem insideOf_at {m : List Pair} (h : mapOk m = true) (n : Int) : insideOf m n = if hn : 0 ≤ n - 10 ∧ n - 10 < m.length then some (m[(n - 10).toNat]'(by omega)).ins else none := by
  split
  · rename_i hn
    have hi : (n - 10).toNat < m.length := by omega
    have : m.find? (fun p => decide (p.port = n)) = some m[(n - 10).toNat] := by
      rw [List.find?_eq_some_iff_getElem]
      refine ⟨by rw [(mapOk_at h hi).1]; simp; omega,_,hi,rfl,fun j hj => ?_⟩
      have := (mapOk_at h (Nat.lt_trans hj hi)).1
      rw [this]; simp; omega
    simp [insideOf,this]
  · rename_i hn
    have : m.find? (fun p => decide (p.port = n)) = none := by
      rw [List.find?_eq_none]
      intro p hp
      obtain ⟨i,hi⟩ := List.getElem?_of_mem hp
      have hil := (List.getElem?_eq_some_iff.1 hi).1
      have hpi : p = m[i] := by rw [List.getElem?_eq_getElem hil] at hi; exact (Option.some.inj hi).symm
      rw [hpi,(mapOk_at h hil).1]
      simp; omega
    simp [insideOf,this]
theorem mOut_len (m : List Pair) (e : E) : (mOut m e).1.length ≤ m.length + 1 := by
  unfold mOut
  split
  · simp
  · split <;> simp
theorem name_le (e : E) : (name e).length ≤ 6 := by
  by_cases h : e.any = true
  · rw [name_len h]; split <;> omega
  · simp [name,E.text,h]
end Go.Proofs.YtblndjmhjaijjaaGreatDoor.M
namespace Go.Proofs.YtblndjmhjaijjaaGreatDoor.W
open Go Go.RowKit Go.Proofs Go.Proofs.YtblndjmhjaijjaaGreatDoor.VL Go.Proofs.YtblndjmhjaijjaaGreatDoor.M
def isErr (v : Value) : Prop := v = .nilIface ∨ ∃ t p,v = .iface t p
def G : Glob where
  g W := (∃ m,W.cell? ⟨0,0,none⟩ = some (.int .i64 m)) ∧ (∃ v,W.cell? ⟨2,0,none⟩ = some v ∧ isErr v) ∧ ∃ v,W.cell? ⟨3,0,none⟩ = some v ∧ isErr v
  ng := 4
  stays := fun W W' h hs ho ht hu hb => by
    have e : ∀ b,b < 4 → W'.cell? ⟨b,0,none⟩ = W.cell? ⟨b,0,none⟩ := fun b hb4 => cell_of_block (hb b hb4)
    rw [e 0 (by omega),e 2 (by omega),e 3 (by omega)]
    exact h
  there := fun W h => by
    obtain ⟨_,_,v,h,_⟩ := h
    have : ∃ o,W.heap[3]? = some o := by
      cases hh : W.heap[3]? with
      | none => simp [World.cell?,hh] at h
      | some o => exact ⟨o,rfl⟩
    obtain ⟨o,ho⟩ := this
    have := lt_of_get ho
    omega
def plainU : V → Option Value
  | .int k n => some (.int k n)
  | .bool b => some (.bool b)
  | .str s => some (.string (mkStr s))
  | .nile => some .nilIface
  | _ => none
theorem plainU_spec {w : World} {O : Nat → Prop} {ρ : Nat → VL.Loc} {h : Nat → Hs} {v : V} {u x : Value} (hp : plainU v = some x) (hd : Den w O ρ h v u) : u = x := by
  cases v <;> simp only [plainU,Option.some.injEq,reduceCtorEq] at hp
  all_goals subst hp
  · exact inv_int hd
  · exact inv_bool hd
  · exact inv_str hd
  · exact inv_nile hd
theorem plainU_den2 {w : World} {O : Nat → Prop} {ρ : Nat → VL.Loc} {h : Nat → Hs} {v : V} {x : Value} (hp : plainU v = some x) : Den2 w O ρ h v x := by
  cases v <;> simp only [plainU,Option.some.injEq,reduceCtorEq] at hp
  all_goals subst hp
  · exact Imm.int _ _
  · exact Imm.bool _
  · exact Imm.str _
  · exact Imm.nile
def plainR : V → Option Value
  | .tup vs => (vs.mapM plainU).map fun us => .tuple us.toArray
  | v => plainU v
theorem plainR_den {w : World} {O : Nat → Prop} {ρ : Nat → VL.Loc} {h : Nat → Hs} {v : V} {x : Value} (hp : plainR v = some x) : Den w O ρ h v x := by
  by_cases ht : ∃ vs,v = .tup vs
  · obtain ⟨vs,rfl⟩ := ht
    simp only [plainR,Option.map_eq_some_iff] at hp
    obtain ⟨us,hm,rfl⟩ := hp
    obtain ⟨h1,h2⟩ := mapM_get hm
    refine ⟨us,rfl,h1,fun j v u hv hu => plainU_den2 (h2 j v u hv hu)⟩
  · have hp : plainU v = some x := by cases v <;> first | exact hp | exact absurd ⟨_,rfl⟩ ht
    have := plainU_den2 (w := w) (O := O) (ρ := ρ) (h := h) hp
    cases v <;> first | exact this | exact absurd ⟨_,rfl⟩ ht
section
variable {P : Program}
theorem FnP.lib {f : FuncId} {vs : List V} {us : List Value} {post : V → Prop} (hn : entr P f = true) (h1 : vs.mapM plainU = some us) (hne : ∃ r,post r)
    (h : ∀ W,G.g W → Calls P f us.toArray W fun e W' => Below W.heap.size W W' ∧ ∃ u v,e = .returned u ∧ post v ∧ ∀ O,(∀ b,O b → b < W.heap.size) → Den W' O (fun _ => default) (fun _ => .fresh) v u) :
    FnP P G f 0 [] vs (fun r o => o = [] ∧ post r) where
  en := hn
  ne := let ⟨r,h⟩ := hne; ⟨r,[],rfl,h⟩
  run := fun W ρ ext us' hg hlt hno hng r hargs => by
    obtain ⟨h2,h3⟩ := mapM_get h1
    have e : us' = us := by
      obtain ⟨h4,h5⟩ := hargs
      apply List.ext_getElem?
      intro j
      cases hj : us'[j]? with
      | none =>
        have := List.getElem?_eq_none_iff.1 hj
        exact (List.getElem?_eq_none_iff.2 (by omega)).symm
      | some u =>
        have hjl : j < us'.length := (List.getElem?_eq_some_iff.1 hj).1
        have hv := List.getElem?_eq_getElem (l := vs) (show j < vs.length by omega)
        have hu := List.getElem?_eq_getElem (l := us) (show j < us.length by omega)
        rw [hu,plainU_spec (h3 j (vs[j]'(by omega)) (us[j]'(by omega)) hv hu) (h5 j _ u hv hj)]
    subst e
    refine (h W hg).mono fun e W' ⟨hb,u,v,he,hp,hd⟩ => ?_
    have hc : chH [] = fun _ => .fresh := by funext x; simp [chH]
    have hnb : ∀ b,¬ blocks ρ (chH []) b := fun b ⟨c,hl,_⟩ => by rw [hc] at hl; cases hl
    refine ⟨u,v,[],fun _ => default,he,⟨rfl,hp⟩,⟨hb.os,hb.tape,hb.output,hb.size,fun b hb1 _ => hb.block b hb1,fun c => (by rw [hc]; trivial),fun c hl => (by rw [hc] at hl; cases hl),fun c c' hl => (by rw [hc] at hl; cases hl),fun i hi => absurd hi (Nat.not_lt_zero _)⟩, ?_⟩
    rw [hc]
    refine hd _ fun b hb => ?_
    rcases hb with hb | ⟨c,hl,_⟩
    · exact hlt b hb
    · cases hl
theorem FnR.lib {f : FuncId} {vs : List V} {us : List Value} {v : V} {u : Value} (hn : entr P f = true) (h1 : vs.mapM plainU = some us) (h2 : plainR v = some u)
    (h : ∀ W,G.g W → Calls P f us.toArray W fun e W' => e = .returned u ∧ Below W.heap.size W W') : FnR P G f vs v := by
  have := FnP.lib (P := P) (f := f) (vs := vs) (post := fun r => r = v) hn h1 ⟨v,rfl⟩ fun W hg => (h W hg).mono fun e W' ⟨he,hb⟩ => ⟨hb,u,v,he,rfl,fun O _ => plainR_den h2⟩
  exact ⟨this.en,this.ne.imp fun r ⟨o,h⟩ => ⟨o,h.2,h.1⟩,fun W ρ ext us a b c d e f => (this.run W ρ ext us a b c d e f).mono fun e W' ⟨u,r,o,ρ',he,⟨h1,h2⟩,h3⟩ => ⟨u,r,o,ρ',he,⟨h2,h1⟩,h3⟩⟩
end
end Go.Proofs.YtblndjmhjaijjaaGreatDoor.W
namespace Go.Proofs.YtblndjmhjaijjaaGreatDoor.M
open Go Go.Proofs.YtblndjmhjaijjaaGreatDoor.VL
def E.row (e : E) : List V := [.int .i64 e.a,.int .i64 e.p]
def Pc.row (p : Pc) : List V := [.int .i64 p.size,.bool p.named,.int .i64 p.e.a,.int .i64 p.e.p]
def Pair.row (p : Pair) : List V := [.int .i64 p.port,.int .i64 p.ins.a,.int .i64 p.ins.p]
def Part.row (p : Part) : List V := [.int .i64 p.size,.str p.text]
def Strm.row (s : Strm) : List V := [.str s.inn,.sl 2 (s.parts.map Part.row)]
def Flw.row (f : Flw) : List V := [.int .i64 f.ins.a,.int .i64 f.ins.p,.int .i64 f.out.a,.int .i64 f.out.p,.str f.up.inn,.sl 2 (f.up.parts.map Part.row),.str f.down.inn,.sl 2 (f.down.parts.map Part.row)]
def Pk.row (p : Pk) : List V := [.int .i64 p.kind,.int .i64 p.frm.a,.int .i64 p.frm.p,.int .i64 p.to.a,.int .i64 p.to.p,.int .i64 p.at_,.str p.text]
def Door.row (d : Door) : List V := [.sl 3 (d.map.map Pair.row),.sl 8 (d.flows.map Flw.row)]
def Conv.row (c : Conv) : List V := [.int .i64 c.ins.a,.int .i64 c.ins.p,.int .i64 c.out.a,.int .i64 c.out.p,.str c.up,.str c.down,.int .i64 c.upAck,.int .i64 c.downAck,.str c.upGot,.str c.downGot]
def World.row (w : World) : List V := [.sl 10 (w.convs.map Conv.row),.sl 3 (w.door.map.map Pair.row),.sl 8 (w.door.flows.map Flw.row),.sl 7 (w.nets.map Pk.row)]
def Ev.row (e : Ev) : List V := [.int .i64 e.kind,.int .i64 e.a,.int .i64 e.b,.int .i64 e.c,.int .i64 e.pkt.kind,.int .i64 e.pkt.frm.a,.int .i64 e.pkt.frm.p,.int .i64 e.pkt.to.a,.int .i64 e.pkt.to.p,.int .i64 e.pkt.at_,.str e.pkt.text]
def rdV (o : Option E) : V := .tup [.agg [.int .i64 (o.getD .zero).a,.int .i64 (o.getD .zero).p],.bool o.isSome]
def byR (b : UInt8) : List V := [.int .u8 (b.toNat : Int)]
theorem E.eta (e : E) : E.mk e.a e.p = e := by cases e; rfl
theorem Pc.eta (q : Pc) : Pc.mk q.size q.named q.e = q := by cases q; rfl
theorem Pair.eta (q : Pair) : Pair.mk q.port q.ins = q := by cases q; rfl
theorem Part.eta (q : Part) : Part.mk q.size q.text = q := by cases q; rfl
theorem Strm.eta (q : Strm) : Strm.mk q.inn q.parts = q := by cases q; rfl
theorem Pk.eta (q : Pk) : Pk.mk q.kind q.frm q.to q.at_ q.text = q := by cases q; rfl
theorem Flw.eta (q : Flw) : Flw.mk q.ins q.out q.up q.down = q := by cases q; rfl
theorem Conv.eta (q : Conv) : Conv.mk q.ins q.out q.up q.down q.upAck q.downAck q.upGot q.downGot = q := by cases q; rfl
theorem Door.eta (q : Door) : Door.mk q.map q.flows = q := by cases q; rfl
theorem World.eta (q : World) : World.mk q.convs q.door q.nets = q := by cases q; rfl
theorem Ev.eta (q : Ev) : Ev.mk q.kind q.a q.b q.c q.pkt = q := by cases q; rfl
end Go.Proofs.YtblndjmhjaijjaaGreatDoor.M
namespace Go.Proofs.YtblndjmhjaijjaaGreatDoor.W
open Go Go.RowKit Go.Proofs Go.Proofs.YtblndjmhjaijjaaGreatDoor.VL Go.Proofs.YtblndjmhjaijjaaGreatDoor.M
attribute [local congr] optK_congr guardK_congr condK_congr runT_congr runD_congr wpI_congr CallV_congr LoopI_congr pureK_congr effK_congr calK_congr stepV_congr doV_congr exN_congr exB_congr retF_congr retQ_congr gK_congr condW_congr ldK_congr stoK_congr
attribute [local go_sem] argL_cons argL_nil argH_nil argH_cons chH_getH wpI_seq wpI_reg wpI_drw wpI_ret cond_k condW_t condW_f wpI_skip wpI_block wpI_exit wpI_loop exN_n exN_r exN_e exB_n exB_r exB_h exB_m runT_k kT_e runT_nil runD_k kD_e runD_nil step_u step_k gK_t gK_f do_mv do_bino bo_add bo_sub bo_mul bo_subu bo_quo bo_rem bo_xor bo_eql bo_neq bo_lss bo_leq bo_gtr bo_geq bo_cat bo_eqs bo_nes do_pick do_call do_cal calK_f do_box do_alloc do_ldk ldK_s do_stok stoK_s do_fad do_nilc do_not do_neg do_len do_lens do_ext do_eqs do_beq do_isn do_cvi do_sls do_idx do_mn do_mx do_build do_mkf do_s2b do_b2s do_slv do_iad do_bsl do_mks do_app ev_t ev_c app_some app_none
attribute [local go_sem] List.nil_append List.cons_append List.append_nil getL_hit getL_miss getH_nil getH_hit getH_miss nm_eq ne_eq Nat.reduceEqDiff not_false_eq_true Nat.reduceAdd Nat.add_zero Nat.zero_add if_true if_false ite_true ite_false pureK_s effK_s optK_s gdV_t gdV_f gdV_s pick_b ge_iff_le gt_iff_lt cond_true cond_false fresh_k cells_agg cells_int cells_bool cells_str cells_own cells_sl cells_nils ld_pv ld_pa ld_ip ldVar_t ldVar_f ldArr_t ldArr_f ldRow_t ldRow_f ldA_s ld1_s fad_pv fad_pa fad_ip nilc_pv nilc_pa nilc_ip not_b neg_i cvi_i ext_t retF_n retF_r
attribute [local go_sem] resV_k rvs_nil rvs_t rvs_c fstO_s consO_s resK_s resL_1 resL_2 resL_3 resL_4  Option.some.injEq List.map_cons List.map_nil List.all_cons List.all_nil Bool.and_true Bool.and_self Bool.not_true Bool.not_false Option.map_some Option.map_none sls_s slsG_s loV_n loV_i hiV_n hiV_i idx_s mn_i mx_i s2b_s b2s_s bytO_s bytes_nil bytes_cons conB_s slv_sl slv_own slv_nils slvG_s slvN_s slvO_s iad_sl iadG_map take_map drop_map List.length_map iad_own iad_view iadO_a iadW_a mks_i rowO_nils rowO_sl rowO_own rowA_a eq_self appG_nils appG_own appO_a guardP_T mapA_s bld_nil mkf_nil bldF_e fill_nil fill_cons mkf_e lens_s len_nils len_sl len_own len_view isn_nile isn_erre List.getElem?_cons_zero List.getElem?_cons_succ List.length_cons List.length_nil decide_true decide_false Int.toNat_natCast Int.cast_ofNat_Int Int.reduceLT Int.reduceLE Int.reduceEq Int.reduceAdd Int.reduceSub Int.reduceMul Int.reduceNeg Int.reduceToNat List.getD_cons_zero List.getD_cons_succ not_true_eq_false not_false_eq_true Bool.false_eq_true Bool.true_eq_false reduceCtorEq
attribute [local go_sem] E.row Pc.row Pair.row Part.row Strm.row Flw.row Pk.row Door.row Conv.row World.row Ev.row rdV E.eta Pc.eta Pair.eta Part.eta Strm.eta Pk.eta Flw.eta Conv.eta Door.eta World.eta Ev.eta
attribute [local go_sem] sub_ok st_pv st_pa stVar_v stArr_a Nat.le_refl List.drop_zero List.drop_succ_cons List.take_succ_cons List.take_zero setR Nat.reduceLeDiff
attribute [local go_sem] wk_bot wk2_bot wk1_bot wk_undef wk_tup_e wk2_agg_e wk_agg_e wk1_fn_e wk2_fn_e wk_fn_e wkl_nil wkl_cons wkh_var_e wkh_arr_e wkh_fresh_e wkh_dead_v wkh_dead_a wkh_dead_d wk0_undef wk0_int wk0_bool wk0_str wk0_nils wk0_nils_sl wk0_nilp wk0_nile wk0_erre wk0_sl wk0_iptr wk0_own wk0_view wk0_pv wk0_pa fzA_a fzW_a fzP_v wk0_own_sl wk0_view_sl wk0_pv_iptr WkS_nil WkS_cons WkN_nil WkN_cons nonB_nil nonB_cons getN_nil getN_hit getN_miss pinOk_0 pinOk_s and_true true_and and_self
attribute [local go_sem] bot_int one_int unt_int clo_int bot_bool one_bool unt_bool clo_bool bot_str one_str unt_str clo_str bot_nils one_nils unt_nils clo_nils bot_nilp one_nilp unt_nilp clo_nilp bot_nile one_nile unt_nile clo_nile bot_erre one_erre unt_erre clo_erre bot_raw one_raw unt_raw clo_raw bot_sl one_sl unt_sl clo_sl bot_own one_own unt_own clo_own bot_view one_view unt_view clo_view bot_pv one_pv unt_pv clo_pv bot_pa one_pa unt_pa clo_pa bot_iptr one_iptr unt_iptr clo_iptr unt_agg unt_fn one_fn
attribute [local go_sem] rn_tup rn_agg rn2_agg rn_fn rn2_fn rnfn1 rn_bot rn2_bot rn1_bot rn0_int rn0_bool rn0_str rn0_nils rn0_nilp rn0_nile rn0_erre rn0_sl rn0_iptr rn0_own rn0_view rn0_pv rn0_pa hrn_var hrn_arr hrn_dead outU_nil outU_cons deads_nil deads_cons bk_ge bk_lt nsF_0 nsF_s chH_0 chH_s chH_n newN_e andB_s eqR_nil eqR_i eqR_b eqR_s mapX_f mapX_t eqs_a beq_f beq_t live_arr live_var nsl_nil nsl_cons Nat.reduceMul Nat.reduceLT Nat.zero_le Nat.not_lt_zero
attribute [local go_sem] mV lD lA fD bN eX oP nP sR i0 s0
def ic36 : IC := sR [oP 6 (.mv (.c (.bool false)))] (sR [mV 7 0,mV 8 1,bN 9 .geq 7 8,mV 10 9,⟨some 11,some (10,true),.mv (.t 0)⟩,⟨some 12,some (10,true),.mv (.t 2)⟩,⟨some 13,some (10,true),.bin .leq (.t 11) (.t 12)⟩,oP 14 (.pick (.t 10) (.t 13) (.c (.bool false))),mV 6 14] .ret)
theorem dg36 : digF Tryz.prog Tryz.f36 = some (ic36,[(.t 6)]) := by kernel_rfl
theorem en36 : entr Tryz.prog 36 = true := by kernel_rfl
theorem c36 (a b c : Int) : FnR Tryz.prog G 36 [.int .i64 a,.int .i64 b,.int .i64 c] (.bool (within a b c)) := by
  refine FnR.mkF Tryz.func36 en36 dg36 Tryz.ntmps36 (by simp) ?_
  unfold within
  cases h : decide (b ≤ a) <;> simp only [ic36,go_sem,h,Bool.false_and,Bool.true_and]
def ic101 : IC := sR [oP 6 (.mv (.c (.bool false)))] (sR [mV 7 0,mV 8 1,bN 9 .geq 7 8,mV 10 9,⟨some 11,some (10,true),.mv (.t 0)⟩,⟨some 12,some (10,true),.mv (.t 2)⟩,⟨some 13,some (10,true),.bin .leq (.t 11) (.t 12)⟩,oP 14 (.pick (.t 10) (.t 13) (.c (.bool false))),mV 6 14] .ret)
theorem dg101 : digF Tryz.prog Tryz.f101 = some (ic101,[(.t 6)]) := by kernel_rfl
theorem en101 : entr Tryz.prog 101 = true := by kernel_rfl
theorem c101 (a b c : Int) : FnR Tryz.prog G 101 [.int .i64 a,.int .i64 b,.int .i64 c] (.bool (within a b c)) := by
  refine FnR.mkF Tryz.func101 en101 dg101 Tryz.ntmps101 (by simp) ?_
  unfold within
  cases h : decide (b ≤ a) <;> simp only [ic101,go_sem,h,Bool.false_and,Bool.true_and]
def ic16 : IC := sR [oP 1 (.box 38 (.t 0)),oP 2 (.mv (.c (.bool false)))] (sR [fD 3 0 1,lD 4 1 3,oP 5 (.call 36 [.t 4,.c (.int .i64 1),.c (.int .i64 3)]),mV 6 5,⟨some 7,some (6,true),.fad 1 (.t 1)⟩,⟨some 8,some (6,true),.ld 1 false (.t 7)⟩,⟨some 9,some (6,true),.call 36 [.t 8,.c (.int .i64 1),.c (.int .i64 9)]⟩,oP 10 (.pick (.t 6) (.t 9) (.c (.bool false))),mV 2 10] .ret)
theorem dg16 : digF Tryz.prog Tryz.f16 = some (ic16,[(.t 2)]) := by kernel_rfl
theorem en16 : entr Tryz.prog 16 = true := by kernel_rfl
theorem c16 (a p : Int) : FnR Tryz.prog G 16 [.agg [.int .i64 a,.int .i64 p]] (.bool (E.inside ⟨a,p⟩)) := by
  refine FnR.mkF Tryz.func16 en16 dg16 Tryz.ntmps16 (by simp) ?_
  unfold E.inside
  simp only [ic16,go_sem]
  refine callR (c36 _ _ _) rfl rfl ?_
  cases h : within a 1 3 <;> simp only [go_sem,Bool.false_and,Bool.true_and]
  refine callR (c36 _ _ _) rfl rfl ?_
  simp only [go_sem]
def ic103 : IC := sR [oP 1 (.box 38 (.t 0)),oP 2 (.mv (.c (.bool false)))] (sR [fD 3 1 1,lD 4 1 3,oP 5 (.call 101 [.t 4,.c (.int .i64 1),.c (.int .i64 9)]),mV 2 5] .ret)
theorem dg103 : digF Tryz.prog Tryz.f103 = some (ic103,[(.t 2)]) := by kernel_rfl
theorem en103 : entr Tryz.prog 103 = true := by kernel_rfl
theorem c103 (a p : Int) : FnR Tryz.prog G 103 [.agg [.int .i64 a,.int .i64 p]] (.bool (within p 1 9)) := by
  refine FnR.mkF Tryz.func103 en103 dg103 Tryz.ntmps103 (by simp) ?_
  simp only [ic103,go_sem]
  refine callR (c101 _ _ _) rfl rfl ?_
  simp only [go_sem]
def ic43 : IC := sR [oP 1 (.box 38 (.t 0)),oP 2 (.mv (.c (.bool false)))] (sR [fD 3 0 1,lD 4 1 3,oP 5 (.call 101 [.t 4,.c (.int .i64 1),.c (.int .i64 3)]),mV 6 5,⟨some 7,some (6,true),.ld 2 true (.t 1)⟩,⟨some 8,some (6,true),.call 103 [.t 7]⟩,oP 9 (.pick (.t 6) (.t 8) (.c (.bool false))),mV 2 9] .ret)
theorem dg43 : digF Tryz.prog Tryz.f43 = some (ic43,[(.t 2)]) := by kernel_rfl
theorem en43 : entr Tryz.prog 43 = true := by kernel_rfl
theorem c43 (a p : Int) : FnR Tryz.prog G 43 [.agg [.int .i64 a,.int .i64 p]] (.bool (E.inside ⟨a,p⟩)) := by
  refine FnR.mkF Tryz.func43 en43 dg43 Tryz.ntmps43 (by simp) ?_
  unfold E.inside
  simp only [ic43,go_sem]
  refine callR (c101 _ _ _) rfl rfl ?_
  cases h : within a 1 3 <;> simp only [go_sem,Bool.false_and,Bool.true_and]
  refine callR (c103 _ _) rfl rfl ?_
  simp only [go_sem]
def ic17 : IC := sR [oP 1 (.box 38 (.t 0)),oP 2 (.mv (.c (.bool false)))] (sR [fD 3 0 1,lD 4 1 3,oP 5 (.call 36 [.t 4,.c (.int .i64 4),.c (.int .i64 6)]),mV 6 5,⟨some 7,some (6,true),.fad 1 (.t 1)⟩,⟨some 8,some (6,true),.ld 1 false (.t 7)⟩,⟨some 9,some (6,true),.call 36 [.t 8,.c (.int .i64 1),.c (.int .i64 9)]⟩,oP 10 (.pick (.t 6) (.t 9) (.c (.bool false))),mV 2 10] .ret)
theorem dg17 : digF Tryz.prog Tryz.f17 = some (ic17,[(.t 2)]) := by kernel_rfl
theorem en17 : entr Tryz.prog 17 = true := by kernel_rfl
theorem c17 (a p : Int) : FnR Tryz.prog G 17 [.agg [.int .i64 a,.int .i64 p]] (.bool (E.outside ⟨a,p⟩)) := by
  refine FnR.mkF Tryz.func17 en17 dg17 Tryz.ntmps17 (by simp) ?_
  simp only [ic17,go_sem]
  with_reducible repeat' (first | refine br ?_ ?_ <;> intro h e <;> (try simp only [e,go_sem]) <;> clear e | rw [i64w (by omega)] | (first | refine sk ?_ | refine sd ?_) <;> try simp only [go_sem] | (first | refine cr (c36 ..) ?_) <;> try simp only [go_sem] | fail)
  all_goals simp_all [E.outside]
def ic44 : IC := sR [oP 1 (.box 38 (.t 0)),oP 2 (.mv (.c (.bool false)))] (sR [fD 3 0 1,lD 4 1 3,oP 5 (.call 101 [.t 4,.c (.int .i64 4),.c (.int .i64 6)]),mV 6 5,⟨some 7,some (6,true),.ld 2 true (.t 1)⟩,⟨some 8,some (6,true),.call 103 [.t 7]⟩,oP 9 (.pick (.t 6) (.t 8) (.c (.bool false))),mV 2 9] .ret)
theorem dg44 : digF Tryz.prog Tryz.f44 = some (ic44,[(.t 2)]) := by kernel_rfl
theorem en44 : entr Tryz.prog 44 = true := by kernel_rfl
theorem c44 (a p : Int) : FnR Tryz.prog G 44 [.agg [.int .i64 a,.int .i64 p]] (.bool (E.outside ⟨a,p⟩)) := by
  refine FnR.mkF Tryz.func44 en44 dg44 Tryz.ntmps44 (by simp) ?_
  simp only [ic44,go_sem]
  with_reducible repeat' (first | refine br ?_ ?_ <;> intro h e <;> (try simp only [e,go_sem]) <;> clear e | rw [i64w (by omega)] | (first | refine sk ?_ | refine sd ?_) <;> try simp only [go_sem] | (first | refine cr (c101 ..) ?_ | refine cr (c103 ..) ?_) <;> try simp only [go_sem] | fail)
  all_goals simp_all [E.outside]
def ic13 : IC := sR [oP 1 (.box 38 (.t 0)),oP 2 (.mv (.c (.bool false)))] (sR [fD 3 0 1,lD 4 1 3,oP 5 (.bin .eql (.t 4) (.c (.int .i64 9))),mV 6 5,⟨some 7,some (6,true),.fad 1 (.t 1)⟩,⟨some 8,some (6,true),.ld 1 false (.t 7)⟩,⟨some 9,some (6,true),.call 36 [.t 8,.c (.int .i64 10),.c (.int .i64 17)]⟩,oP 10 (.pick (.t 6) (.t 9) (.c (.bool false))),mV 2 10] .ret)
theorem dg13 : digF Tryz.prog Tryz.f13 = some (ic13,[(.t 2)]) := by kernel_rfl
theorem en13 : entr Tryz.prog 13 = true := by kernel_rfl
theorem c13 (a p : Int) : FnR Tryz.prog G 13 [.agg [.int .i64 a,.int .i64 p]] (.bool (E.door ⟨a,p⟩)) := by
  refine FnR.mkF Tryz.func13 en13 dg13 Tryz.ntmps13 (by simp) ?_
  simp only [ic13,go_sem]
  with_reducible repeat' (first | refine br ?_ ?_ <;> intro h e <;> (try simp only [e,go_sem]) <;> clear e | rw [i64w (by omega)] | (first | refine sk ?_ | refine sd ?_) <;> try simp only [go_sem] | (first | refine cr (c36 ..) ?_) <;> try simp only [go_sem] | fail)
  all_goals simp_all [E.door]
def ic154 : IC := sR [oP 1 (.box 38 (.t 0)),oP 2 (.mv (.c (.bool false)))] (sR [fD 3 0 1,lD 4 1 3,oP 5 (.bin .eql (.t 4) (.c (.int .i64 9))),mV 6 5,⟨some 7,some (6,true),.fad 1 (.t 1)⟩,⟨some 8,some (6,true),.ld 1 false (.t 7)⟩,⟨some 9,some (6,true),.call 101 [.t 8,.c (.int .i64 10),.c (.int .i64 17)]⟩,oP 10 (.pick (.t 6) (.t 9) (.c (.bool false))),mV 2 10] .ret)
theorem dg154 : digF Tryz.prog Tryz.f154 = some (ic154,[(.t 2)]) := by kernel_rfl
theorem en154 : entr Tryz.prog 154 = true := by kernel_rfl
theorem c154 (a p : Int) : FnR Tryz.prog G 154 [.agg [.int .i64 a,.int .i64 p]] (.bool (E.door ⟨a,p⟩)) := by
  refine FnR.mkF Tryz.func154 en154 dg154 Tryz.ntmps154 (by simp) ?_
  simp only [ic154,go_sem]
  with_reducible repeat' (first | refine br ?_ ?_ <;> intro h e <;> (try simp only [e,go_sem]) <;> clear e | rw [i64w (by omega)] | (first | refine sk ?_ | refine sd ?_) <;> try simp only [go_sem] | (first | refine cr (c101 ..) ?_) <;> try simp only [go_sem] | fail)
  all_goals simp_all [E.door]
def ic112 : IC := sR [oP 1 (.box 38 (.t 0)),oP 2 (.mv (.c (.bool false)))] (sR [lA 3 2 1,oP 4 (.call 16 [.t 3]),mV 5 4,⟨some 6,some (5,false),.ld 2 true (.t 1)⟩,⟨some 7,some (5,false),.call 17 [.t 6]⟩,oP 8 (.pick (.t 5) (.c (.bool true)) (.t 7)),mV 9 8,⟨some 10,some (9,false),.ld 2 true (.t 1)⟩,⟨some 11,some (9,false),.call 13 [.t 10]⟩,oP 12 (.pick (.t 9) (.c (.bool true)) (.t 11)),mV 2 12] .ret)
theorem dg112 : digF Tryz.prog Tryz.f112 = some (ic112,[(.t 2)]) := by kernel_rfl
theorem en112 : entr Tryz.prog 112 = true := by kernel_rfl
theorem c112 (a p : Int) : FnR Tryz.prog G 112 [.agg [.int .i64 a,.int .i64 p]] (.bool (E.any ⟨a,p⟩)) := by
  refine FnR.mkF Tryz.func112 en112 dg112 Tryz.ntmps112 (by simp) ?_
  simp only [ic112,go_sem]
  with_reducible repeat' (first | refine br ?_ ?_ <;> intro h e <;> (try simp only [e,go_sem]) <;> clear e | rw [i64w (by omega)] | (first | refine sk ?_ | refine sd ?_) <;> try simp only [go_sem] | (first | refine cr (c16 ..) ?_ | refine cr (c17 ..) ?_ | refine cr (c13 ..) ?_) <;> try simp only [go_sem] | fail)
  all_goals simp_all [E.any]
def ic100 : IC := sR [oP 1 (.box 38 (.t 0)),oP 2 (.mv (.c (.bool false)))] (sR [lA 3 2 1,oP 4 (.call 43 [.t 3]),mV 5 4,⟨some 6,some (5,false),.ld 2 true (.t 1)⟩,⟨some 7,some (5,false),.call 44 [.t 6]⟩,oP 8 (.pick (.t 5) (.c (.bool true)) (.t 7)),mV 9 8,⟨some 10,some (9,false),.ld 2 true (.t 1)⟩,⟨some 11,some (9,false),.call 154 [.t 10]⟩,oP 12 (.pick (.t 9) (.c (.bool true)) (.t 11)),mV 2 12] .ret)
theorem dg100 : digF Tryz.prog Tryz.f100 = some (ic100,[(.t 2)]) := by kernel_rfl
theorem en100 : entr Tryz.prog 100 = true := by kernel_rfl
theorem c100 (a p : Int) : FnR Tryz.prog G 100 [.agg [.int .i64 a,.int .i64 p]] (.bool (E.any ⟨a,p⟩)) := by
  refine FnR.mkF Tryz.func100 en100 dg100 Tryz.ntmps100 (by simp) ?_
  simp only [ic100,go_sem]
  with_reducible repeat' (first | refine br ?_ ?_ <;> intro h e <;> (try simp only [e,go_sem]) <;> clear e | rw [i64w (by omega)] | (first | refine sk ?_ | refine sd ?_) <;> try simp only [go_sem] | (first | refine cr (c43 ..) ?_ | refine cr (c44 ..) ?_ | refine cr (c154 ..) ?_) <;> try simp only [go_sem] | fail)
  all_goals simp_all [E.any]
def dig (b : UInt8) : Int := if figB b 48 then (b.toNat : Int) - 48 else -1
def ic205 : IC := sR [oP 2 (.mv (.c i0))] (.seq (sR [mV 3 0,oP 4 (.bin .lss (.t 3) (.c (.int .u8 48))),mV 5 4,⟨some 6,some (5,false),.mv (.t 0)⟩,⟨some 7,some (5,false),.bin .gtr (.t 6) (.c (.int .u8 57))⟩,oP 8 (.pick (.t 5) (.c (.bool true)) (.t 7))] (.cond (.t 8) (sR [oP 2 (.mv (.c (.int .i64 (-1))))] .ret) .skip)) (sR [mV 9 0,oP 10 (.bin .sub (.t 9) (.c (.int .u8 48))),oP 11 (.cvi .i64 (.t 10)),mV 2 11] .ret))
theorem dg205 : digF Tryz.prog Tryz.f205 = some (ic205,[(.t 2)]) := by kernel_rfl
theorem en205 : entr Tryz.prog 205 = true := by kernel_rfl
theorem c205 (b : UInt8) : FnR Tryz.prog G 205 [.int .u8 (b.toNat : Int)] (.int .i64 (dig b)) := by
  refine FnR.mkF Tryz.func205 en205 dg205 Tryz.ntmps205 (by simp) ?_
  have hb : b.toNat < 256 := b.toNat_lt
  have e : figB b 48 = (decide (48 ≤ (b.toNat : Int)) && decide ((b.toNat : Int) ≤ 57)) := by
    simp only [figB,UInt8.le_iff_toNat_le]
    have : (48 : UInt8).toNat = 48 := rfl
    have : (57 : UInt8).toNat = 57 := rfl
    congr 1 <;> (apply decide_eq_decide.2; omega)
  simp only [ic205,go_sem,dig,e]
  with_reducible repeat' (first | refine br ?_ ?_ <;> intro h e <;> (try simp only [e,go_sem]) <;> clear e | rw [i64w (by omega)] | (first | refine sk ?_ | refine sd ?_) <;> try simp only [go_sem] | fail)
  all_goals first
    | (rw [if_neg (by simp; omega)])
    | (rw [if_pos (by simp; omega),u8w (by omega),i64w (by omega)])
def ic123 : IC := sR [oP 2 (.mv (.c s0))] (.seq (sR [mV 3 0,oP 4 (.bin .lss (.t 3) (.c (.int .i64 (-9223372036854775807))))] (.cond (.t 4) (sR [oP 2 (.mv (.c (.str [45,57,50,50,51,51,55,50,48,51,54,56,53,52,55,55,53,56,48,56])))] .ret) .skip)) (.seq (sR [mV 5 0,oP 6 (.bin .lss (.t 5) (.c i0))] (.cond (.t 6) (sR [mV 7 0,oP 8 (.un .neg (.t 7)),oP 9 (.call 123 [.t 8]),oP 10 (.bin .add (.c (.str [45])) (.t 9)),mV 2 10] .ret) .skip)) (.seq (sR [mV 11 0,oP 12 (.bin .lss (.t 11) (.c (.int .i64 10)))] (.cond (.t 12) (sR [mV 13 0,oP 14 (.bin .add (.c (.int .i64 48)) (.t 13)),oP 15 (.cvi .u8 (.t 14)),oP 16 (.bsl 5 1 [.t 15]),oP 17 (.b2s (.t 16)),mV 2 17] .ret) .skip)) (.seq (.drw [0,1,3,0,8,24,56,120,248,511,1023] [(0,mV 18 0),(1,oP 19 (.bin .quo (.t 18) (.c (.int .i64 10)))),(2,oP 20 (.call 123 [.t 19])),(3,mV 21 0),(4,oP 22 (.bin .rem (.t 21) (.c (.int .i64 10)))),(5,oP 23 (.bin .add (.c (.int .i64 48)) (.t 22))),(6,oP 24 (.cvi .u8 (.t 23))),(7,oP 25 (.bsl 5 1 [.t 24])),(8,oP 26 (.b2s (.t 25))),(9,bN 27 .add 20 26),(10,mV 2 27)]) .ret))))
theorem dg123 : digF Tryz.prog Tryz.f123 = some (ic123,[(.t 2)]) := by kernel_rfl
theorem en123 : entr Tryz.prog 123 = true := by kernel_rfl
theorem c0123 (n : Int) (h : 0 ≤ n ∧ n < 10) : FnR Tryz.prog G 123 [.int .i64 n] (.str (dec n)) := by
  refine FnR.mkF Tryz.func123 en123 dg123 Tryz.ntmps123 (by simp) ?_
  simp only [ic123,go_sem]
  with_reducible repeat' (first | refine br ?_ ?_ <;> intro h e <;> (try simp only [e,go_sem]) <;> clear e | rw [i64w (by omega)] | (first | refine sk ?_ | refine sd ?_) <;> try simp only [go_sem] | fail)
  all_goals first | omega | skip
  rw [u8w (by omega)]
  simp only [dec,decN]
  rw [if_pos (by omega)]
  congr 2
  omega
theorem c123 (n : Int) (h : 0 ≤ n ∧ n < 100) : FnR Tryz.prog G 123 [.int .i64 n] (.str (dec n)) := by
  by_cases h10 : n < 10
  · exact c0123 n ⟨h.1,h10⟩
  refine FnR.mkF Tryz.func123 en123 dg123 Tryz.ntmps123 (by simp) ?_
  have e1 : n.tdiv 10 = n / 10 := Int.tdiv_eq_ediv_of_nonneg h.1
  have e2 : n.tmod 10 = n % 10 := Int.tmod_eq_emod_of_nonneg h.1
  have hl : (dec (n / 10)).length ≤ 2 := by unfold dec decN; split <;> simp
  simp only [ic123,go_sem,e1,e2]
  with_reducible repeat' (first | refine br ?_ ?_ <;> intro h e <;> (try simp only [e,go_sem]) <;> clear e | rw [i64w (by omega)] | (first | refine sk ?_ | refine sd ?_) <;> try simp only [go_sem] | fail)
  all_goals first | omega | skip
  refine callR (c0123 _ (by omega)) rfl rfl ?_
  simp only [go_sem,e1,e2]
  with_reducible repeat' (first | refine br ?_ ?_ <;> intro h e <;> (try simp only [e,go_sem]) <;> clear e | rw [i64w (by omega)] | (first | refine sk ?_ | refine sd ?_) <;> try simp only [go_sem] | fail)
  simp only [dec,decN]
  rw [if_neg (by omega),if_pos (by omega),u8w (by omega)]
  have e3 : n.toNat / 10 = (n / 10).toNat := by omega
  have e4 : 48 + n.toNat % 10 = (48 + n % 10).toNat := by omega
  simp only [List.cons_append,List.nil_append,e3,e4]
theorem dec_len (n : Int) : (dec n).length ≤ 2 := by unfold dec decN; split <;> simp
def ic155 : IC := sR [oP 4 (.mv (.c (.bool false)))] (sR [mV 5 0,mV 6 1,bN 7 .geq 5 6,mV 8 7,⟨some 9,some (8,true),.mv (.t 0)⟩,⟨some 10,some (8,true),.bin .leq (.t 9) (.c (.int .u8 57))⟩,oP 11 (.pick (.t 8) (.t 10) (.c (.bool false))),mV 4 11] .ret)
theorem dg155 : digF Tryz.prog Tryz.f155 = some (ic155,[(.t 4)]) := by kernel_rfl
theorem en155 : entr Tryz.prog 155 = true := by kernel_rfl
theorem c155 (b lo : UInt8) : FnR Tryz.prog G 155 [.int .u8 (b.toNat : Int),.int .u8 (lo.toNat : Int)] (.bool (figB b lo)) := by
  refine FnR.mkF Tryz.func155 en155 dg155 Tryz.ntmps155 (by simp) ?_
  have e : figB b lo = (decide ((lo.toNat : Int) ≤ (b.toNat : Int)) && decide ((b.toNat : Int) ≤ 57)) := by
    simp only [figB,UInt8.le_iff_toNat_le]
    have : (57 : UInt8).toNat = 57 := rfl
    congr 1 <;> (apply decide_eq_decide.2; omega)
  simp only [ic155,go_sem,e]
  with_reducible repeat' (first | refine br ?_ ?_ <;> intro h e <;> (try simp only [e,go_sem]) <;> clear e | rw [i64w (by omega)] | (first | refine sk ?_ | refine sd ?_) <;> try simp only [go_sem] | fail)
  all_goals simp_all
theorem u8cmp (b : UInt8) : (decide ((97 : Int) ≤ (b.toNat : Int)) = decide (97 ≤ b)) ∧ (decide ((b.toNat : Int) ≤ 122) = decide (b ≤ 122)) ∧ (decide ((48 : Int) ≤ (b.toNat : Int)) = decide (48 ≤ b)) ∧ (decide ((b.toNat : Int) ≤ 57) = decide (b ≤ 57)) ∧
    (decide ((b.toNat : Int) = 64) = decide (b = 64)) ∧ (decide ((b.toNat : Int) = 58) = decide (b = 58)) ∧ (decide ((b.toNat : Int) = 59) = decide (b = 59)) ∧ (decide ((b.toNat : Int) < 97) = decide (b < 97)) ∧ (decide (122 < (b.toNat : Int)) = decide (122 < b)) := by
  refine ⟨?_, ?_, ?_, ?_, ?_, ?_, ?_, ?_, ?_⟩ <;> apply decide_eq_decide.2 <;> simp only [UInt8.le_iff_toNat_le,UInt8.lt_iff_toNat_lt,← UInt8.toNat_inj] <;>
    (have e1 : (97 : UInt8).toNat = 97 := rfl; have e2 : (122 : UInt8).toNat = 122 := rfl; have e3 : (48 : UInt8).toNat = 48 := rfl; have e4 : (57 : UInt8).toNat = 57 := rfl
     have e5 : (64 : UInt8).toNat = 64 := rfl; have e6 : (58 : UInt8).toNat = 58 := rfl; have e7 : (59 : UInt8).toNat = 59 := rfl
     omega)
def ic161 : IC := sR [oP 2 (.mv (.c (.bool false)))] (sR [mV 3 0,oP 4 (.bin .geq (.t 3) (.c (.int .u8 97))),mV 5 4,⟨some 6,some (5,true),.mv (.t 0)⟩,⟨some 7,some (5,true),.bin .leq (.t 6) (.c (.int .u8 122))⟩,oP 8 (.pick (.t 5) (.t 7) (.c (.bool false))),mV 9 8,⟨some 10,some (9,false),.mv (.t 0)⟩,⟨some 11,some (9,false),.bin .geq (.t 10) (.c (.int .u8 48))⟩,⟨some 12,some (9,false),.mv (.t 11)⟩,⟨some 13,some (12,true),.mv (.t 0)⟩,⟨some 14,some (12,true),.bin .leq (.t 13) (.c (.int .u8 57))⟩,⟨some 15,some (9,false),.pick (.t 12) (.t 14) (.c (.bool false))⟩,oP 16 (.pick (.t 9) (.c (.bool true)) (.t 15)),mV 17 16,⟨some 18,some (17,false),.mv (.t 0)⟩,⟨some 19,some (17,false),.bin .eql (.t 18) (.c (.int .u8 64))⟩,oP 20 (.pick (.t 17) (.c (.bool true)) (.t 19)),mV 21 20,⟨some 22,some (21,false),.mv (.t 0)⟩,⟨some 23,some (21,false),.bin .eql (.t 22) (.c (.int .u8 58))⟩,oP 24 (.pick (.t 21) (.c (.bool true)) (.t 23)),mV 25 24,⟨some 26,some (25,false),.mv (.t 0)⟩,⟨some 27,some (25,false),.bin .eql (.t 26) (.c (.int .u8 59))⟩,oP 28 (.pick (.t 25) (.c (.bool true)) (.t 27)),mV 2 28] .ret)
theorem dg161 : digF Tryz.prog Tryz.f161 = some (ic161,[(.t 2)]) := by kernel_rfl
theorem en161 : entr Tryz.prog 161 = true := by kernel_rfl
theorem c161 (b : UInt8) : FnR Tryz.prog G 161 [.int .u8 (b.toNat : Int)] (.bool (okB b)) := by
  refine FnR.mkF Tryz.func161 en161 dg161 Tryz.ntmps161 (by simp) ?_
  obtain ⟨e1,e2,e3,e4,e5,e6,e7,e8,e9⟩ := u8cmp b
  simp only [ic161,go_sem,e1,e2,e3,e4,e5,e6,e7]
  repeat' (first
    | (with_reducible refine gBn (fun h => ?_) (fun h => ?_) <;> (try simp only [h,go_sem,e1,e2,e3,e4,e5,e6,e7]))
    | (with_reducible refine gB (fun h => ?_) (fun h => ?_) <;> (try simp only [h,go_sem,e1,e2,e3,e4,e5,e6,e7])))
  all_goals (clear e1 e2 e3 e4 e5 e6 e7 e8 e9; simp only [okB,figB, *,Bool.and_true,Bool.true_and,Bool.false_and,Bool.or_true,Bool.true_or,Bool.false_or,Bool.or_false,Bool.and_self])
theorem all_take_succ {t : B} {i : Nat} (h : i < t.length) {p : UInt8 → Bool} (hi : (t.take i).all p = true) (hp : p (t.getD i 0) = true) : (t.take (i + 1)).all p = true := by
  rw [List.take_add_one,List.all_append,hi]
  simp only [List.getD,List.getElem?_eq_getElem h,Option.getD_some] at hp
  simp [List.getElem?_eq_getElem h,hp]
theorem txOk_false {t : B} {i : Nat} (h : i < t.length) (hp : okB (t.getD i 0) = false) : txOk t = false := by
  have : t.all okB = false := by
    rw [List.all_eq_false]
    exact ⟨t[i],List.getElem_mem h,by simpa [List.getD,List.getElem?_eq_getElem h] using hp⟩
  simp [txOk,this]
def ic102 : IC := sR [oP 2 (.mv (.c (.bool false)))] (.seq (sR [oP 3 (.mv (.c i0))] (.block 0 (.loop (.seq (sR [mV 4 3,mV 5 0,oP 6 (.lens (.t 5)),bN 7 .lss 4 6] (.cond (.t 7) .skip (.exit 0))) (.seq (.block 1 (sR [mV 10 0,mV 11 3,oP 12 (.idx (.t 10) (.t 11)),oP 13 (.call 161 [.t 12]),oP 14 (.un .not (.t 13))] (.cond (.t 14) (sR [oP 2 (.mv (.c (.bool false)))] .ret) .skip))) (.reg [mV 8 3,oP 9 (.bin .add (.t 8) (.c (.int .i64 1))),mV 3 9])))))) (sR [mV 15 0,oP 16 (.lens (.t 15)),oP 17 (.bin .leq (.t 16) (.c (.int .i64 40))),mV 2 17] .ret))
theorem dg102 : digF Tryz.prog Tryz.f102 = some (ic102,[(.t 2)]) := by kernel_rfl
theorem en102 : entr Tryz.prog 102 = true := by kernel_rfl
theorem c102 (t : B) (hl : t.length ≤ 2000000 := by omega) : FnR Tryz.prog G 102 [.str t] (.bool (txOk t)) := by
  refine FnR.mkF Tryz.func102 en102 dg102 Tryz.ntmps102 (by simp) ?_
  simp only [ic102,go_sem]
  refine loopN (fun i : Nat => ⟨getL [(0,.str t),(3,.int .i64 (i : Int))],getH []⟩) (fun i => t.length - i) (fun i => i ≤ t.length ∧ (t.take i).all okB = true) 0 (leQ []) ⟨Nat.zero_le _,by simp⟩ ?_
  intro i ⟨hi,ha⟩
  simp only [go_sem]
  with_reducible repeat' (first | refine br ?_ ?_ <;> intro h e <;> (try simp only [e,go_sem]) <;> clear e | rw [i64w (by omega)] | (first | refine sk ?_ | refine sd ?_) <;> try simp only [go_sem] | (first | refine cr (c161 ..) ?_) <;> try simp only [go_sem] | fail)
  · exact ⟨i + 1,by omega,⟨by omega,all_take_succ (by omega) ha h⟩,(leQ [])⟩
  · exact txOk_false (by omega) h
  · have : i = t.length := by omega
    subst this
    simp only [List.take_length] at ha
    simp only [txOk,ha,Bool.true_and]
    apply decide_eq_decide.2; omega
end Go.Proofs.YtblndjmhjaijjaaGreatDoor.W
namespace Go.Proofs
open Go.Shelf
def Tryz.lays169_ren : Go.Shelf.Ren := ⟨fun | 169 => 64 | n => n,fun | 70 => 102 | 9 => 9 | 0 => 0 | 72 => 104 | 37 => 22 | 127 => 177 | 3 => 3 | 5 => 5 | n => n,fun | n => n⟩
theorem Tryz.lays169 : Go.Proofs.Lays.n169 Tryz.prog Tryz.lays169_ren := {
  mixed := by kernel_rfl
  f169 := Tryz.func64.trans (congrArg some (by kernel_rfl))
  t0 := Tryz.underlying0
  a0 := Tryz.isAgg0
  z0 := Tryz.sizeOf0
  v0 := Tryz.zeroValue0
  t3 := Tryz.underlying3
  a3 := Tryz.isAgg3
  z3 := Tryz.sizeOf3
  v3 := Tryz.zeroValue3
  t9 := Tryz.underlying9
  a9 := Tryz.isAgg9
  z9 := Tryz.sizeOf9
  v9 := Tryz.zeroValue9
  t37 := Tryz.underlying22
  a37 := Tryz.isAgg22
  z37 := Tryz.sizeOf22
  v37 := Tryz.zeroValue22
  t70 := Tryz.underlying102
  a70 := Tryz.isAgg102
  z70 := Tryz.sizeOf102
  v70 := Tryz.zeroValue102
  t72 := Tryz.underlying104
  a72 := Tryz.isAgg104
  z72 := Tryz.sizeOf104
  v72 := Tryz.zeroValue104
  t127 := Tryz.underlying177
  a127 := Tryz.isAgg177
  z127 := Tryz.sizeOf177
  v127 := Tryz.zeroValue177 }
theorem Tryz.Builder_Extra_169 : Builder.Extra Tryz.prog Tryz.lays169_ren := {
  sizeBuilder := by kernel_rfl
  liesBuilder := by kernel_rfl
  t5 := Tryz.underlying5
  a5 := Tryz.isAgg5
  z5 := Tryz.sizeOf5
  v5 := Tryz.zeroValue5
  infoByte := by kernel_rfl
  cellsByte := by kernel_rfl
  sizeByte := by kernel_rfl
  neB5 := by decide }
open Go.RowKit in
theorem Tryz.Builder_String_any (B b : Nat) (l : List UInt8) (w : World) (h : Lib.IsBuilder 104 5 B b (Lib.byteCells l) w) (hBw : B ≤ w.heap.size) :
    Calls Tryz.prog 64 #[.pointer (some ⟨b,0,none⟩)] w fun e w' => e = .returned (.string ⟨l.toArray⟩) ∧ Below B w w' := Any.Builder_String_any Tryz.lays169 Tryz.Builder_Extra_169 B b l w h hBw
def Tryz.lays156_ren : Go.Shelf.Ren := ⟨fun | 156 => 183 | 165 => 217 | 166 => 61 | 169 => 64 | 240 => 129 | 241 => 238 | 276 => 176 | 277 => 248 | n => n,fun | 31 => 114 | 9 => 9 | 3 => 3 | 4 => 4 | 0 => 0 | 20 => 20 | 72 => 104 | 76 => 109 | 70 => 102 | 37 => 22 | 75 => 108 | 127 => 177 | 164 => 201 | 5 => 5 | 80 => 113 | n => n,fun | n => n⟩
theorem Tryz.lays156 : Go.Proofs.Lays.n156 Tryz.prog Tryz.lays156_ren := {
  mixed := by kernel_rfl
  f156 := Tryz.func183.trans (congrArg some (by kernel_rfl))
  f165 := Tryz.func217.trans (congrArg some (by kernel_rfl))
  f166 := Tryz.func61.trans (congrArg some (by kernel_rfl))
  f169 := Tryz.func64.trans (congrArg some (by kernel_rfl))
  f240 := Tryz.func129.trans (congrArg some (by kernel_rfl))
  f241 := Tryz.func238.trans (congrArg some (by kernel_rfl))
  f276 := Tryz.func176.trans (congrArg some (by kernel_rfl))
  f277 := Tryz.func248.trans (congrArg some (by kernel_rfl))
  t0 := Tryz.underlying0
  a0 := Tryz.isAgg0
  z0 := Tryz.sizeOf0
  v0 := Tryz.zeroValue0
  t3 := Tryz.underlying3
  a3 := Tryz.isAgg3
  z3 := Tryz.sizeOf3
  v3 := Tryz.zeroValue3
  t4 := Tryz.underlying4
  a4 := Tryz.isAgg4
  z4 := Tryz.sizeOf4
  v4 := Tryz.zeroValue4
  t9 := Tryz.underlying9
  a9 := Tryz.isAgg9
  z9 := Tryz.sizeOf9
  v9 := Tryz.zeroValue9
  t20 := Tryz.underlying20
  a20 := Tryz.isAgg20
  z20 := Tryz.sizeOf20
  v20 := Tryz.zeroValue20
  t31 := Tryz.underlying114
  a31 := Tryz.isAgg114
  z31 := Tryz.sizeOf114
  v31 := Tryz.zeroValue114
  t37 := Tryz.underlying22
  a37 := Tryz.isAgg22
  z37 := Tryz.sizeOf22
  v37 := Tryz.zeroValue22
  t70 := Tryz.underlying102
  a70 := Tryz.isAgg102
  z70 := Tryz.sizeOf102
  v70 := Tryz.zeroValue102
  t72 := Tryz.underlying104
  a72 := Tryz.isAgg104
  z72 := Tryz.sizeOf104
  v72 := Tryz.zeroValue104
  t75 := Tryz.underlying108
  a75 := Tryz.isAgg108
  z75 := Tryz.sizeOf108
  v75 := Tryz.zeroValue108
  t76 := Tryz.underlying109
  a76 := Tryz.isAgg109
  z76 := Tryz.sizeOf109
  v76 := Tryz.zeroValue109
  t127 := Tryz.underlying177
  a127 := Tryz.isAgg177
  z127 := Tryz.sizeOf177
  v127 := Tryz.zeroValue177
  t164 := Tryz.underlying201
  a164 := Tryz.isAgg201
  z164 := Tryz.sizeOf201
  v164 := Tryz.zeroValue201 }
theorem Tryz.Builder_Extra_156 : Builder.Extra Tryz.prog Tryz.lays156_ren := {
  sizeBuilder := by kernel_rfl
  liesBuilder := by kernel_rfl
  t5 := Tryz.underlying5
  a5 := Tryz.isAgg5
  z5 := Tryz.sizeOf5
  v5 := Tryz.zeroValue5
  infoByte := by kernel_rfl
  cellsByte := by kernel_rfl
  sizeByte := by kernel_rfl
  neB5 := by decide }
def Tryz.lays103_ren : Go.Shelf.Ren := ⟨fun | 103 => 197 | 210 => 226 | 206 => 216 | n => n,fun | 9 => 9 | 4 => 4 | 24 => 212 | 3 => 3 | n => n,fun | n => n⟩
theorem Tryz.lays103 : Go.Proofs.Lays.n103 Tryz.prog Tryz.lays103_ren := {
  mixed := by kernel_rfl
  f103 := Tryz.func197.trans (congrArg some (by kernel_rfl))
  f206 := Tryz.func216.trans (congrArg some (by kernel_rfl))
  f210 := Tryz.func226.trans (congrArg some (by kernel_rfl))
  t3 := Tryz.underlying3
  a3 := Tryz.isAgg3
  z3 := Tryz.sizeOf3
  v3 := Tryz.zeroValue3
  t4 := Tryz.underlying4
  a4 := Tryz.isAgg4
  z4 := Tryz.sizeOf4
  v4 := Tryz.zeroValue4
  t9 := Tryz.underlying9
  a9 := Tryz.isAgg9
  z9 := Tryz.sizeOf9
  v9 := Tryz.zeroValue9
  t24 := Tryz.underlying212
  a24 := Tryz.isAgg212
  z24 := Tryz.sizeOf212
  v24 := Tryz.zeroValue212 }
open Go.RowKit in
theorem Tryz.strings_CutPrefix (s p : ByteArray) (w : World) :
    Calls Tryz.prog 197 #[.string s,.string p] w fun e w' => e = .returned (.tuple #[.string ⟨(Lib.trimPrefix s.data.toList p.data.toList).toArray⟩,.bool (Lib.hasPrefix s.data.toList p.data.toList)]) ∧ w' = w := Any.strings_CutPrefix Tryz.lays103 s p w
def Tryz.lays171_ren : Go.Shelf.Ren := ⟨fun | 171 => 63 | 243 => 138 | 246 => 184 | 283 => 218 | 284 => 219 | 285 => 220 | 286 => 221 | 129 => 240 | 317 => 239 | 318 => 241 | 319 => 242 | 320 => 243 | 337 => 249 | 338 => 250 | n => n,fun | 3 => 3 | 9 => 9 | 2 => 2 | 4 => 4 | 171 => 228 | 0 => 0 | 53 => 229 | 37 => 22 | 5 => 5 | 173 => 232 | 212 => 250 | 51 => 238 | 20 => 20 | 213 => 251 | 46 => 223 | 232 => 269 | 233 => 270 | n => n,fun | 17 => 1 | 18 => 6 | 19 => 7 | n => n⟩
theorem Tryz.lays171 : Go.Proofs.Lays.n171 Tryz.prog Tryz.lays171_ren := {
  mixed := by kernel_rfl
  f129 := Tryz.func240.trans (congrArg some (by kernel_rfl))
  f171 := Tryz.func63.trans (congrArg some (by kernel_rfl))
  f243 := Tryz.func138.trans (congrArg some (by kernel_rfl))
  f246 := Tryz.func184.trans (congrArg some (by kernel_rfl))
  f283 := Tryz.func218.trans (congrArg some (by kernel_rfl))
  f284 := Tryz.func219.trans (congrArg some (by kernel_rfl))
  f285 := Tryz.func220.trans (congrArg some (by kernel_rfl))
  f286 := Tryz.func221.trans (congrArg some (by kernel_rfl))
  f317 := Tryz.func239.trans (congrArg some (by kernel_rfl))
  f318 := Tryz.func241.trans (congrArg some (by kernel_rfl))
  f319 := Tryz.func242.trans (congrArg some (by kernel_rfl))
  f320 := Tryz.func243.trans (congrArg some (by kernel_rfl))
  f337 := Tryz.func249.trans (congrArg some (by kernel_rfl))
  f338 := Tryz.func250.trans (congrArg some (by kernel_rfl))
  t0 := Tryz.underlying0
  a0 := Tryz.isAgg0
  z0 := Tryz.sizeOf0
  v0 := Tryz.zeroValue0
  t2 := Tryz.underlying2
  a2 := Tryz.isAgg2
  z2 := Tryz.sizeOf2
  v2 := Tryz.zeroValue2
  t3 := Tryz.underlying3
  a3 := Tryz.isAgg3
  z3 := Tryz.sizeOf3
  v3 := Tryz.zeroValue3
  t4 := Tryz.underlying4
  a4 := Tryz.isAgg4
  z4 := Tryz.sizeOf4
  v4 := Tryz.zeroValue4
  t5 := Tryz.underlying5
  a5 := Tryz.isAgg5
  z5 := Tryz.sizeOf5
  v5 := Tryz.zeroValue5
  t9 := Tryz.underlying9
  a9 := Tryz.isAgg9
  z9 := Tryz.sizeOf9
  v9 := Tryz.zeroValue9
  t20 := Tryz.underlying20
  a20 := Tryz.isAgg20
  z20 := Tryz.sizeOf20
  v20 := Tryz.zeroValue20
  t37 := Tryz.underlying22
  a37 := Tryz.isAgg22
  z37 := Tryz.sizeOf22
  v37 := Tryz.zeroValue22
  t46 := Tryz.underlying223
  a46 := Tryz.isAgg223
  z46 := Tryz.sizeOf223
  v46 := Tryz.zeroValue223
  t51 := Tryz.underlying238
  a51 := Tryz.isAgg238
  z51 := Tryz.sizeOf238
  v51 := Tryz.zeroValue238
  t53 := Tryz.underlying229
  a53 := Tryz.isAgg229
  z53 := Tryz.sizeOf229
  v53 := Tryz.zeroValue229
  t171 := Tryz.underlying228
  a171 := Tryz.isAgg228
  z171 := Tryz.sizeOf228
  v171 := Tryz.zeroValue228
  t173 := Tryz.underlying232
  a173 := Tryz.isAgg232
  z173 := Tryz.sizeOf232
  v173 := Tryz.zeroValue232
  t212 := Tryz.underlying250
  a212 := Tryz.isAgg250
  z212 := Tryz.sizeOf250
  v212 := Tryz.zeroValue250
  t213 := Tryz.underlying251
  a213 := Tryz.isAgg251
  z213 := Tryz.sizeOf251
  t232 := Tryz.underlying269
  a232 := Tryz.isAgg269
  z232 := Tryz.sizeOf269
  v232 := Tryz.zeroValue269
  t233 := Tryz.underlying270
  a233 := Tryz.isAgg270
  z233 := Tryz.sizeOf270
  v233 := Tryz.zeroValue270
  g17 := by kernel_rfl
  g18 := by kernel_rfl
  g19 := by kernel_rfl }
open Go.RowKit Go.Sort Go.Lib in
theorem Tryz.strconv_Itoa_small (i : Nat) (hi : i < 100) (w : World) :
    Calls Tryz.prog 63 #[.int .i64 i] w fun e w' => e = .returned (.string ⟨(Lib.decDigits i).toArray⟩) ∧ w' = w := Any.strconv_Itoa_small Tryz.lays171 i hi w
def Tryz.laysM316_ren : Go.Shelf.Ren := ⟨fun | 316 => 215 | n => n,fun | 9 => 9 | 3 => 3 | 4 => 4 | 37 => 22 | 0 => 0 | 127 => 177 | 5 => 5 | n => n,fun | n => n⟩
theorem Tryz.laysM316 : Go.Proofs.LaysM.n316 Tryz.prog Tryz.laysM316_ren := {
  mixed := by kernel_rfl
  f316 := Tryz.func215.trans (congrArg some (by kernel_rfl))
  t0 := Tryz.underlying0
  a0 := Tryz.isAgg0
  z0 := Tryz.sizeOf0
  v0 := Tryz.zeroValue0
  t3 := Tryz.underlying3
  a3 := Tryz.isAgg3
  z3 := Tryz.sizeOf3
  v3 := Tryz.zeroValue3
  t4 := Tryz.underlying4
  a4 := Tryz.isAgg4
  z4 := Tryz.sizeOf4
  v4 := Tryz.zeroValue4
  t9 := Tryz.underlying9
  a9 := Tryz.isAgg9
  z9 := Tryz.sizeOf9
  v9 := Tryz.zeroValue9
  t37 := Tryz.underlying22
  a37 := Tryz.isAgg22
  z37 := Tryz.sizeOf22
  v37 := Tryz.zeroValue22
  t127 := Tryz.underlying177
  a127 := Tryz.isAgg177
  z127 := Tryz.sizeOf177
  v127 := Tryz.zeroValue177
  t5 := Tryz.underlying5
  a5 := Tryz.isAgg5
  z5 := Tryz.sizeOf5
  v5 := Tryz.zeroValue5
  i0 := by kernel_rfl
  i3 := by kernel_rfl
  i4 := by kernel_rfl
  i5 := by kernel_rfl
  i9 := by kernel_rfl
  i37 := by kernel_rfl
  i127 := by kernel_rfl }
open Go.RowKit in
theorem Tryz.stringslite_Clone (s : ByteArray) (w : World) (hlim : s.size ≤ 281474976710656) :
    Calls Tryz.prog 215 #[.string s] w fun e w' => e = .returned (.string s) ∧ Below w.heap.size w w' := Any.stringslite_Clone Tryz.laysM316 s w hlim
def Tryz.laysC172_ren : Go.Shelf.Ren := ⟨fun | 172 => 179 | 244 => 213 | 245 => 214 | 247 => 233 | 279 => 234 | 280 => 235 | 281 => 236 | 282 => 237 | 287 => 246 | 316 => 215 | 171 => 63 | 205 => 247 | 321 => 251 | 322 => 252 | 243 => 138 | 246 => 184 | 283 => 218 | 284 => 219 | 285 => 220 | 286 => 221 | 129 => 240 | 317 => 239 | 318 => 241 | 319 => 242 | 320 => 243 | 337 => 249 | 338 => 250 | n => n,fun | 9 => 9 | 3 => 3 | 75 => 108 | 76 => 109 | 4 => 4 | 5 => 5 | 167 => 243 | 37 => 22 | 0 => 0 | 85 => 244 | 2 => 2 | 168 => 246 | 53 => 229 | 175 => 254 | 46 => 223 | 210 => 257 | 127 => 177 | 145 => 268 | 143 => 266 | 21 => 21 | 171 => 228 | 173 => 232 | 212 => 250 | 51 => 238 | 20 => 20 | 213 => 251 | 232 => 269 | 233 => 270 | 80 => 113 | n => n,fun | 15 => 2 | 16 => 3 | 17 => 1 | 18 => 6 | 19 => 7 | n => n⟩
theorem Tryz.laysC172 : Go.Proofs.LaysC.n172 Tryz.prog Tryz.laysC172_ren := {
  mixed := by kernel_rfl
  f129 := Tryz.func240.trans (congrArg some (by kernel_rfl))
  f171 := Tryz.func63.trans (congrArg some (by kernel_rfl))
  f172 := Tryz.func179.trans (congrArg some (by kernel_rfl))
  f205 := Tryz.func247.trans (congrArg some (by kernel_rfl))
  f243 := Tryz.func138.trans (congrArg some (by kernel_rfl))
  f244 := Tryz.func213.trans (congrArg some (by kernel_rfl))
  f245 := Tryz.func214.trans (congrArg some (by kernel_rfl))
  f246 := Tryz.func184.trans (congrArg some (by kernel_rfl))
  f247 := Tryz.func233.trans (congrArg some (by kernel_rfl))
  f279 := Tryz.func234.trans (congrArg some (by kernel_rfl))
  f280 := Tryz.func235.trans (congrArg some (by kernel_rfl))
  f281 := Tryz.func236.trans (congrArg some (by kernel_rfl))
  f282 := Tryz.func237.trans (congrArg some (by kernel_rfl))
  f283 := Tryz.func218.trans (congrArg some (by kernel_rfl))
  f284 := Tryz.func219.trans (congrArg some (by kernel_rfl))
  f285 := Tryz.func220.trans (congrArg some (by kernel_rfl))
  f286 := Tryz.func221.trans (congrArg some (by kernel_rfl))
  f287 := Tryz.func246.trans (congrArg some (by kernel_rfl))
  f316 := Tryz.func215.trans (congrArg some (by kernel_rfl))
  f317 := Tryz.func239.trans (congrArg some (by kernel_rfl))
  f318 := Tryz.func241.trans (congrArg some (by kernel_rfl))
  f319 := Tryz.func242.trans (congrArg some (by kernel_rfl))
  f320 := Tryz.func243.trans (congrArg some (by kernel_rfl))
  f321 := Tryz.func251.trans (congrArg some (by kernel_rfl))
  f322 := Tryz.func252.trans (congrArg some (by kernel_rfl))
  f337 := Tryz.func249.trans (congrArg some (by kernel_rfl))
  f338 := Tryz.func250.trans (congrArg some (by kernel_rfl))
  t0 := Tryz.underlying0
  a0 := Tryz.isAgg0
  z0 := Tryz.sizeOf0
  v0 := Tryz.zeroValue0
  t2 := Tryz.underlying2
  a2 := Tryz.isAgg2
  z2 := Tryz.sizeOf2
  v2 := Tryz.zeroValue2
  t3 := Tryz.underlying3
  a3 := Tryz.isAgg3
  z3 := Tryz.sizeOf3
  v3 := Tryz.zeroValue3
  t4 := Tryz.underlying4
  a4 := Tryz.isAgg4
  z4 := Tryz.sizeOf4
  v4 := Tryz.zeroValue4
  t5 := Tryz.underlying5
  a5 := Tryz.isAgg5
  z5 := Tryz.sizeOf5
  v5 := Tryz.zeroValue5
  t9 := Tryz.underlying9
  a9 := Tryz.isAgg9
  z9 := Tryz.sizeOf9
  v9 := Tryz.zeroValue9
  t20 := Tryz.underlying20
  a20 := Tryz.isAgg20
  z20 := Tryz.sizeOf20
  v20 := Tryz.zeroValue20
  t21 := Tryz.underlying21
  a21 := Tryz.isAgg21
  z21 := Tryz.sizeOf21
  v21 := Tryz.zeroValue21
  t37 := Tryz.underlying22
  a37 := Tryz.isAgg22
  z37 := Tryz.sizeOf22
  v37 := Tryz.zeroValue22
  t46 := Tryz.underlying223
  a46 := Tryz.isAgg223
  z46 := Tryz.sizeOf223
  v46 := Tryz.zeroValue223
  t51 := Tryz.underlying238
  a51 := Tryz.isAgg238
  z51 := Tryz.sizeOf238
  v51 := Tryz.zeroValue238
  t53 := Tryz.underlying229
  a53 := Tryz.isAgg229
  z53 := Tryz.sizeOf229
  v53 := Tryz.zeroValue229
  t75 := Tryz.underlying108
  a75 := Tryz.isAgg108
  z75 := Tryz.sizeOf108
  v75 := Tryz.zeroValue108
  t76 := Tryz.underlying109
  a76 := Tryz.isAgg109
  z76 := Tryz.sizeOf109
  v76 := Tryz.zeroValue109
  t85 := Tryz.underlying244
  a85 := Tryz.isAgg244
  z85 := Tryz.sizeOf244
  v85 := Tryz.zeroValue244
  t127 := Tryz.underlying177
  a127 := Tryz.isAgg177
  z127 := Tryz.sizeOf177
  v127 := Tryz.zeroValue177
  t143 := Tryz.underlying266
  a143 := Tryz.isAgg266
  z143 := Tryz.sizeOf266
  v143 := Tryz.zeroValue266
  t145 := Tryz.underlying268
  a145 := Tryz.isAgg268
  z145 := Tryz.sizeOf268
  v145 := Tryz.zeroValue268
  t167 := Tryz.underlying243
  a167 := Tryz.isAgg243
  z167 := Tryz.sizeOf243
  v167 := Tryz.zeroValue243
  t168 := Tryz.underlying246
  a168 := Tryz.isAgg246
  z168 := Tryz.sizeOf246
  v168 := Tryz.zeroValue246
  t171 := Tryz.underlying228
  a171 := Tryz.isAgg228
  z171 := Tryz.sizeOf228
  v171 := Tryz.zeroValue228
  t173 := Tryz.underlying232
  a173 := Tryz.isAgg232
  z173 := Tryz.sizeOf232
  v173 := Tryz.zeroValue232
  t175 := Tryz.underlying254
  a175 := Tryz.isAgg254
  z175 := Tryz.sizeOf254
  v175 := Tryz.zeroValue254
  t210 := Tryz.underlying257
  a210 := Tryz.isAgg257
  z210 := Tryz.sizeOf257
  v210 := Tryz.zeroValue257
  t212 := Tryz.underlying250
  a212 := Tryz.isAgg250
  z212 := Tryz.sizeOf250
  v212 := Tryz.zeroValue250
  t213 := Tryz.underlying251
  a213 := Tryz.isAgg251
  z213 := Tryz.sizeOf251
  t232 := Tryz.underlying269
  a232 := Tryz.isAgg269
  z232 := Tryz.sizeOf269
  v232 := Tryz.zeroValue269
  t233 := Tryz.underlying270
  a233 := Tryz.isAgg270
  z233 := Tryz.sizeOf270
  v233 := Tryz.zeroValue270
  g15 := by kernel_rfl
  g16 := by kernel_rfl
  g17 := by kernel_rfl
  g18 := by kernel_rfl
  g19 := by kernel_rfl
  t80 := Tryz.underlying113
  a80 := Tryz.isAgg113
  z80 := Tryz.sizeOf113
  v80 := Tryz.zeroValue113
  i0 := by kernel_rfl
  i2 := by kernel_rfl
  i3 := by kernel_rfl
  i4 := by kernel_rfl
  i5 := by kernel_rfl
  i9 := by kernel_rfl
  i20 := by kernel_rfl
  i21 := by kernel_rfl
  i37 := by kernel_rfl
  i46 := by kernel_rfl
  i51 := by kernel_rfl
  i53 := by kernel_rfl
  i75 := by kernel_rfl
  i76 := by kernel_rfl
  i80 := by kernel_rfl
  i85 := by kernel_rfl
  i127 := by kernel_rfl
  i143 := by kernel_rfl
  i145 := by kernel_rfl
  i167 := by kernel_rfl
  i168 := by kernel_rfl
  i171 := by kernel_rfl
  i173 := by kernel_rfl
  i175 := by kernel_rfl
  i210 := by kernel_rfl
  i212 := by kernel_rfl
  i232 := by kernel_rfl
  i233 := by kernel_rfl
  m15 := by kernel_rfl
  m16 := by kernel_rfl
  m17 := by kernel_rfl
  m18 := by kernel_rfl
  m19 := by kernel_rfl
  c0 := by kernel_rfl
  c2 := by kernel_rfl
  c3 := by kernel_rfl
  c4 := by kernel_rfl
  c5 := by kernel_rfl
  c9 := by kernel_rfl
  c20 := by kernel_rfl
  c21 := by kernel_rfl
  c37 := by kernel_rfl
  c46 := by kernel_rfl
  c51 := by kernel_rfl
  c53 := by kernel_rfl
  c75 := by kernel_rfl
  c76 := by kernel_rfl
  c80 := by kernel_rfl
  c85 := by kernel_rfl
  c127 := by kernel_rfl
  c143 := by kernel_rfl
  c145 := by kernel_rfl
  c167 := by kernel_rfl
  c168 := by kernel_rfl
  c171 := by kernel_rfl
  c173 := by kernel_rfl
  c175 := by kernel_rfl
  c210 := by kernel_rfl
  c212 := by kernel_rfl
  c213 := by kernel_rfl
  c232 := by kernel_rfl
  c233 := by kernel_rfl }
def Tryz.lays145_ren : Go.Shelf.Ren := ⟨fun | 145 => 60 | 220 => 128 | 219 => 175 | 217 => 206 | 225 => 207 | 224 => 208 | 267 => 209 | 266 => 228 | 314 => 229 | n => n,fun | 9 => 9 | 4 => 4 | 59 => 105 | 3 => 3 | 5 => 5 | 46 => 223 | 146 => 239 | 51 => 238 | n => n,fun | 1 => 0 | n => n⟩
theorem Tryz.lays145 : Go.Proofs.Lays.n145 Tryz.prog Tryz.lays145_ren := {
  mixed := by kernel_rfl
  f145 := Tryz.func60.trans (congrArg some (by kernel_rfl))
  f217 := Tryz.func206.trans (congrArg some (by kernel_rfl))
  f219 := Tryz.func175.trans (congrArg some (by kernel_rfl))
  f220 := Tryz.func128.trans (congrArg some (by kernel_rfl))
  f224 := Tryz.func208.trans (congrArg some (by kernel_rfl))
  f225 := Tryz.func207.trans (congrArg some (by kernel_rfl))
  f266 := Tryz.func228.trans (congrArg some (by kernel_rfl))
  f267 := Tryz.func209.trans (congrArg some (by kernel_rfl))
  f314 := Tryz.func229.trans (congrArg some (by kernel_rfl))
  t3 := Tryz.underlying3
  a3 := Tryz.isAgg3
  z3 := Tryz.sizeOf3
  v3 := Tryz.zeroValue3
  t4 := Tryz.underlying4
  a4 := Tryz.isAgg4
  z4 := Tryz.sizeOf4
  v4 := Tryz.zeroValue4
  t5 := Tryz.underlying5
  a5 := Tryz.isAgg5
  z5 := Tryz.sizeOf5
  v5 := Tryz.zeroValue5
  t9 := Tryz.underlying9
  a9 := Tryz.isAgg9
  z9 := Tryz.sizeOf9
  v9 := Tryz.zeroValue9
  t46 := Tryz.underlying223
  a46 := Tryz.isAgg223
  z46 := Tryz.sizeOf223
  v46 := Tryz.zeroValue223
  t51 := Tryz.underlying238
  a51 := Tryz.isAgg238
  z51 := Tryz.sizeOf238
  v51 := Tryz.zeroValue238
  t59 := Tryz.underlying105
  a59 := Tryz.isAgg105
  z59 := Tryz.sizeOf105
  v59 := Tryz.zeroValue105
  t146 := Tryz.underlying239
  a146 := Tryz.isAgg239
  z146 := Tryz.sizeOf239
  v146 := Tryz.zeroValue239
  g1 := by kernel_rfl }
open Go.RowKit Go.Lib in
theorem Tryz.strings_Cut (s sep : ByteArray) (m : Int) (w : World) (hs : s.size < 4294967281) (hm : w.cell? ⟨0,0,none⟩ = some (.int .i64 m)) :
    Calls Tryz.prog 60 #[.string s,.string sep] w fun e w' => e = .returned (.tuple #[.string ⟨(Lib.cut s.data.toList sep.data.toList).1.toArray⟩,.string ⟨(Lib.cut s.data.toList sep.data.toList).2.1.toArray⟩,.bool (Lib.cut s.data.toList sep.data.toList).2.2]) ∧ ∃ n,w' = w.drewN n := Any.strings_Cut Tryz.lays145 s sep m w hs hm
end Go.Proofs
namespace Go.Proofs.YtblndjmhjaijjaaGreatDoor.W
open Go Go.RowKit Go.Proofs Go.Proofs.YtblndjmhjaijjaaGreatDoor.VL Go.Proofs.YtblndjmhjaijjaaGreatDoor.M
attribute [local congr] optK_congr guardK_congr condK_congr runT_congr runD_congr wpI_congr CallV_congr LoopI_congr pureK_congr effK_congr calK_congr stepV_congr doV_congr exN_congr exB_congr retF_congr retQ_congr gK_congr condW_congr ldK_congr stoK_congr
attribute [local go_sem] argL_cons argL_nil argH_nil argH_cons chH_getH wpI_seq wpI_reg wpI_drw wpI_ret cond_k condW_t condW_f wpI_skip wpI_block wpI_exit wpI_loop exN_n exN_r exN_e exB_n exB_r exB_h exB_m runT_k kT_e runT_nil runD_k kD_e runD_nil step_u step_k gK_t gK_f do_mv do_bino bo_add bo_sub bo_mul bo_subu bo_quo bo_rem bo_xor bo_eql bo_neq bo_lss bo_leq bo_gtr bo_geq bo_cat bo_eqs bo_nes do_pick do_call do_cal calK_f do_box do_alloc do_ldk ldK_s do_stok stoK_s do_fad do_nilc do_not do_neg do_len do_lens do_ext do_eqs do_beq do_isn do_cvi do_sls do_idx do_mn do_mx do_build do_mkf do_s2b do_b2s do_slv do_iad do_bsl do_mks do_app ev_t ev_c app_some app_none
attribute [local go_sem] List.nil_append List.cons_append List.append_nil getL_hit getL_miss getH_nil getH_hit getH_miss nm_eq ne_eq Nat.reduceEqDiff not_false_eq_true Nat.reduceAdd Nat.add_zero Nat.zero_add if_true if_false ite_true ite_false pureK_s effK_s optK_s gdV_t gdV_f gdV_s pick_b ge_iff_le gt_iff_lt cond_true cond_false fresh_k cells_agg cells_int cells_bool cells_str cells_own cells_sl cells_nils ld_pv ld_pa ld_ip ldVar_t ldVar_f ldArr_t ldArr_f ldRow_t ldRow_f ldA_s ld1_s fad_pv fad_pa fad_ip nilc_pv nilc_pa nilc_ip not_b neg_i cvi_i ext_t retF_n retF_r
attribute [local go_sem] resV_k rvs_nil rvs_t rvs_c fstO_s consO_s resK_s resL_1 resL_2 resL_3 resL_4  Option.some.injEq List.map_cons List.map_nil List.all_cons List.all_nil Bool.and_true Bool.and_self Bool.not_true Bool.not_false Option.map_some Option.map_none sls_s slsG_s loV_n loV_i hiV_n hiV_i idx_s mn_i mx_i s2b_s b2s_s bytO_s bytes_nil bytes_cons conB_s slv_sl slv_own slv_nils slvG_s slvN_s slvO_s iad_sl iadG_map take_map drop_map List.length_map iad_own iad_view iadO_a iadW_a mks_i rowO_nils rowO_sl rowO_own rowA_a eq_self appG_nils appG_own appO_a guardP_T mapA_s bld_nil mkf_nil bldF_e fill_nil fill_cons mkf_e lens_s len_nils len_sl len_own len_view isn_nile isn_erre List.getElem?_cons_zero List.getElem?_cons_succ List.length_cons List.length_nil decide_true decide_false Int.toNat_natCast Int.cast_ofNat_Int Int.reduceLT Int.reduceLE Int.reduceEq Int.reduceAdd Int.reduceSub Int.reduceMul Int.reduceNeg Int.reduceToNat List.getD_cons_zero List.getD_cons_succ not_true_eq_false not_false_eq_true Bool.false_eq_true Bool.true_eq_false reduceCtorEq
attribute [local go_sem] E.row Pc.row Pair.row Part.row Strm.row Flw.row Pk.row Door.row Conv.row World.row Ev.row rdV E.eta Pc.eta Pair.eta Part.eta Strm.eta Pk.eta Flw.eta Conv.eta Door.eta World.eta Ev.eta
attribute [local go_sem] sub_ok st_pv st_pa stVar_v stArr_a Nat.le_refl List.drop_zero List.drop_succ_cons List.take_succ_cons List.take_zero setR Nat.reduceLeDiff
attribute [local go_sem] wk_bot wk2_bot wk1_bot wk_undef wk_tup_e wk2_agg_e wk_agg_e wk1_fn_e wk2_fn_e wk_fn_e wkl_nil wkl_cons wkh_var_e wkh_arr_e wkh_fresh_e wkh_dead_v wkh_dead_a wkh_dead_d wk0_undef wk0_int wk0_bool wk0_str wk0_nils wk0_nils_sl wk0_nilp wk0_nile wk0_erre wk0_sl wk0_iptr wk0_own wk0_view wk0_pv wk0_pa fzA_a fzW_a fzP_v wk0_own_sl wk0_view_sl wk0_pv_iptr WkS_nil WkS_cons WkN_nil WkN_cons nonB_nil nonB_cons getN_nil getN_hit getN_miss pinOk_0 pinOk_s and_true true_and and_self
attribute [local go_sem] bot_int one_int unt_int clo_int bot_bool one_bool unt_bool clo_bool bot_str one_str unt_str clo_str bot_nils one_nils unt_nils clo_nils bot_nilp one_nilp unt_nilp clo_nilp bot_nile one_nile unt_nile clo_nile bot_erre one_erre unt_erre clo_erre bot_raw one_raw unt_raw clo_raw bot_sl one_sl unt_sl clo_sl bot_own one_own unt_own clo_own bot_view one_view unt_view clo_view bot_pv one_pv unt_pv clo_pv bot_pa one_pa unt_pa clo_pa bot_iptr one_iptr unt_iptr clo_iptr unt_agg unt_fn one_fn
attribute [local go_sem] rn_tup rn_agg rn2_agg rn_fn rn2_fn rnfn1 rn_bot rn2_bot rn1_bot rn0_int rn0_bool rn0_str rn0_nils rn0_nilp rn0_nile rn0_erre rn0_sl rn0_iptr rn0_own rn0_view rn0_pv rn0_pa hrn_var hrn_arr hrn_dead outU_nil outU_cons deads_nil deads_cons bk_ge bk_lt nsF_0 nsF_s chH_0 chH_s chH_n newN_e andB_s eqR_nil eqR_i eqR_b eqR_s mapX_f mapX_t eqs_a beq_f beq_t live_arr live_var nsl_nil nsl_cons Nat.reduceMul Nat.reduceLT Nat.zero_le Nat.not_lt_zero
attribute [local go_sem] mV lD lA fD bN eX oP nP sR i0 s0
theorem index_one (c : UInt8) (s : B) : Lib.index s [c] = if c ∈ s then ((s.takeWhile fun b => decide (b ≠ c)).length : Int) else -1 := by
  induction s with
  | nil => rfl
  | cons b l ih =>
    unfold Lib.index
    by_cases h : b = c
    · subst h; simp [List.isPrefixOf]
    · have h' : ¬ c = b := fun e => h e.symm
      have hp : ([c] : B).isPrefixOf (b :: l) = false := by simp [List.isPrefixOf,h']
      rw [hp,if_neg (by simp),ih]
      by_cases hm : c ∈ l
      · simp [hm,h,h']
      · simp [hm,h']
theorem take_tw (p : UInt8 → Bool) : ∀ s : B,s.take (s.takeWhile p).length = s.takeWhile p
  | [] => rfl
  | b :: l => by
    by_cases h : p b = true
    · simp [h,take_tw p l]
    · simp [h]
theorem drop_tw (p : UInt8 → Bool) : ∀ s : B,s.drop (s.takeWhile p).length = s.dropWhile p
  | [] => rfl
  | b :: l => by
    by_cases h : p b = true
    · simp [h,drop_tw p l]
    · simp [h]
theorem cut_one (s : B) (c : UInt8) : Lib.cut s [c] = cutB s c := by
  unfold Lib.cut cutB
  rw [index_one]
  by_cases h : c ∈ s
  · rw [if_pos h,if_pos (by omega),if_pos h]
    simp only [Int.toNat_natCast,take_tw,List.length_cons,List.length_nil,← List.drop_drop,drop_tw,List.drop_one,Nat.zero_add]
  · rw [if_neg h,if_neg (by decide),if_neg h]
theorem digits_two (n : Nat) (h : n < 100) : Lib.decDigits n = decN n := by
  unfold decN
  rw [Lib.decDigits]
  split
  · rfl
  · rw [Lib.decDigits,dif_pos (by omega)]
    rfl
theorem atoi_two : ∀ k : Fin 100,Lib.atoiAll (decN k.val) = .ok (k.val : Int) := by decide +kernel
theorem atoi_dec (k : Int) (h0 : 0 ≤ k) (h1 : k < 100) : Lib.atoiAll (dec k) = .ok k := by
  have := atoi_two ⟨k.toNat,by omega⟩
  simp only at this
  unfold dec
  rw [this]
  congr 1
  omega
theorem e63 : entr Tryz.prog 63 = true := by kernel_rfl
theorem c63 (n : Int) (h : 0 ≤ n ∧ n < 100 := by omega) : FnR Tryz.prog G 63 [.int .i64 n] (.str (dec n)) := by
  obtain ⟨k,rfl⟩ : ∃ k : Nat,n = (k : Int) := ⟨n.toNat,by omega⟩
  refine FnR.lib e63 rfl rfl fun W hg => (Tryz.strconv_Itoa_small k (by omega) W).mono fun e W' ⟨he,hw⟩ => ⟨?_,by subst hw; exact Below.refl _ _⟩
  rw [he,digits_two k (by omega)]
  rfl
theorem e60 : entr Tryz.prog 60 = true := by kernel_rfl
theorem c60 (s : B) (c : UInt8) (hs : s.length < 4294967281 := by omega) : FnR Tryz.prog G 60 [.str s,.str [c]] (.tup [.str (cutB s c).1,.str (cutB s c).2.1,.bool (cutB s c).2.2]) := by
  refine FnR.lib e60 rfl rfl fun W hg => ?_
  obtain ⟨⟨m,hm⟩,_⟩ := hg
  refine (Tryz.strings_Cut (mkStr s) (mkStr [c]) m W (by simpa [mkStr,ByteArray.size] using hs) hm).mono fun e W' ⟨he,n,hw⟩ => ⟨?_, ?_⟩
  · rw [he]
    simp only [mkStr,cut_one]
    rfl
  · subst hw
    exact ⟨rfl,rfl,rfl,Nat.le_refl _,fun _ _ => rfl⟩
theorem e197 : entr Tryz.prog 197 = true := by kernel_rfl
theorem c197 (s p : B) : FnR Tryz.prog G 197 [.str s,.str p] (.tup [.str (if p.isPrefixOf s then s.drop p.length else s),.bool (p.isPrefixOf s)]) :=
  FnR.lib e197 rfl rfl fun W hg => (Tryz.strings_CutPrefix (mkStr s) (mkStr p) W).mono fun e W' ⟨he,hw⟩ => ⟨he,by subst hw; exact Below.refl _ _⟩
theorem e215 : entr Tryz.prog 215 = true := by kernel_rfl
theorem c215 (s : B) (hs : s.length ≤ 281474976710656 := by omega) : FnR Tryz.prog G 215 [.str s] (.str s) :=
  FnR.lib e215 rfl rfl fun W hg => (Tryz.stringslite_Clone (mkStr s) W (by simpa [mkStr,ByteArray.size] using hs)).mono fun e W' ⟨he,hw⟩ => ⟨he,hw⟩
def ic180 : IC := sR [oP 2 (.mv (.c s0))] (sR [mV 3 0,oP 4 (.call 215 [.t 3]),mV 2 4] .ret)
theorem dg180 : digF Tryz.prog Tryz.f180 = some (ic180,[(.t 2)]) := by kernel_rfl
theorem en180 : entr Tryz.prog 180 = true := by kernel_rfl
theorem c180 (s : B) (hs : s.length ≤ 281474976710656 := by omega) : FnR Tryz.prog G 180 [.str s] (.str s) := by
  refine FnR.mkF Tryz.func180 en180 dg180 Tryz.ntmps180 (by simp) ?_
  simp only [ic180,go_sem]
  refine callR (c215 _ hs) rfl rfl ?_
  simp only [go_sem]
def AtoiP (s : B) (r : V) (o : List Hs) : Prop := o = [] ∧ ((∃ n : Int,r = .tup [.int .i64 n,.nile] ∧ ∀ k : Int,0 ≤ k → k < 100 → s = dec k → n = k) ∨ (∃ n : Int,r = .tup [.int .i64 n,.erre] ∧ ∀ k : Int,0 ≤ k → k < 100 → s ≠ dec k))
theorem e179 : entr Tryz.prog 179 = true := by kernel_rfl
theorem den_err {w : World} {O : Nat → Prop} {ρ : Nat → VL.Loc} {h : Nat → Hs} (n : Int) (t : TypeId) (N : Nat) : Den w O ρ h (.tup [.int .i64 n,.erre]) (.tuple #[.int .i64 n,.iface t (.pointer (some ⟨N,0,none⟩))]) := by
  refine ⟨[.int .i64 n,.iface t (.pointer (some ⟨N,0,none⟩))],rfl,rfl,fun j v u hv hu => ?_⟩
  match j,hv,hu with
  | 0,hv,hu => cases hv; cases hu; exact Imm.int _ _
  | 1,hv,hu => cases hv; cases hu; exact Imm.erre _ _
theorem c179 (s : B) (hs : s.length ≤ 2000000 := by omega) : FnP Tryz.prog G 179 0 [] [.str s] (AtoiP s) := by
  have key : FnP Tryz.prog G 179 0 [] [.str s] (fun r o => o = [] ∧ ((∃ n : Int,r = .tup [.int .i64 n,.nile] ∧ ∀ k : Int,0 ≤ k → k < 100 → s = dec k → n = k) ∨ (∃ n : Int,r = .tup [.int .i64 n,.erre] ∧ ∀ k : Int,0 ≤ k → k < 100 → s ≠ dec k))) := by
    have hz : (mkStr s).size ≤ 2000000 := by simpa [mkStr,ByteArray.size] using hs
    have hl : (mkStr s).data.toList = s := by simp [mkStr]
    rcases ha : Lib.atoiAll s with v | _ | _
    · refine FnP.lib (us := [.string (mkStr s)]) e179 rfl ⟨_,.inl ⟨v,rfl,fun k h0 h1 h2 => ?_⟩⟩ fun W hg => (Any.strconv_Atoi_ok Tryz.laysC172 (mkStr s) (by omega) v (by rw [hl]; exact ha) W).mono fun e W' ⟨he,hw⟩ => ⟨?_,_,_,he,.inl ⟨v,rfl,fun k h0 h1 h2 => ?_⟩,fun O _ => plainR_den rfl⟩
      · rw [h2,atoi_dec k h0 h1] at ha; cases ha; rfl
      · rcases hw with rfl | ⟨t,rfl⟩
        · exact Below.refl _ _
        · exact Lib.bytesWorld_below W _ t
      · rw [h2,atoi_dec k h0 h1] at ha; cases ha; rfl
    · refine FnP.lib (us := [.string (mkStr s)]) e179 rfl ⟨_,.inr ⟨0,rfl,fun k h0 h1 h2 => ?_⟩⟩ fun W hg => ?_
      · rw [h2,atoi_dec k h0 h1] at ha; cases ha
      obtain ⟨_,⟨ev,hv,hev⟩,_⟩ := hg
      refine (Any.strconv_Atoi_syntax Tryz.laysC172 (mkStr s) (by omega) (by rw [hl]; exact ha) ev W hv hev).mono fun e W' ⟨N,he,hN,_,hb⟩ => ⟨hb,_,_,he,.inr ⟨0,rfl,fun k h0 h1 h2 => ?_⟩,fun O hO => den_err _ _ N⟩
      · rw [h2,atoi_dec k h0 h1] at ha; cases ha
    · refine FnP.lib (us := [.string (mkStr s)]) e179 rfl ⟨_,.inr ⟨0,rfl,fun k h0 h1 h2 => ?_⟩⟩ fun W hg => ?_
      · rw [h2,atoi_dec k h0 h1] at ha; cases ha
      obtain ⟨_,_,ev,hv,hev⟩ := hg
      refine (Any.strconv_Atoi_range Tryz.laysC172 (mkStr s) (by omega) (by rw [hl]; exact ha) ev W hv hev).mono fun e W' ⟨N,he,hN,_,hb⟩ => ⟨hb,_,_,he,.inr ⟨_,rfl,fun k h0 h1 h2 => ?_⟩,fun O hO => den_err _ _ N⟩
      · rw [h2,atoi_dec k h0 h1] at ha; cases ha
  exact key
end Go.Proofs.YtblndjmhjaijjaaGreatDoor.W
