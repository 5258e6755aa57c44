/- Part 2 of the proof: the walk over values, the plain model, contracts of the functions of the program. -/
import Derived.Test.YtiegngjdjheebaaGreatDoorZ01
import Derived.IntWalk
import Derived.Laws.AppendOwn
set_option linter.all false
namespace Go.Proofs.YtiegngjdjheebaaGreatDoor.VL
open Go Go.RowKit
def FzV (F:Nat→Prop) (h:Nat→Hs):V→V→Prop
 | .own c k,.sl sz rows=>(∃ty,h c=.arr ty sz rows)∧rows.length=k∧F c
 | .view c o k,.sl sz rows=>(∃ty all,h c=.arr ty sz all∧rows=(all.drop o).take k)∧rows.length=k∧F c
 | .pv c o,.iptr row o'=>o'=o∧(∃ty,h c=.var ty row)∧row.all V.closed=true∧F c
 | _,_=>False
def NoN (f:Nat→Nat) (h':Nat→Hs) (c:Nat):Prop:=∀c',(h' c').live=true→f c'≠c
def Wk0 (F:Nat→Prop) (f:Nat→Nat) (h h':Nat→Hs):V→V→Prop
 | _,.undef=>True
 | .own c k,.own c' k'=>f c'=c∧k'=k∧h' c'≠.fresh
 | .view c o k,.view c' o' k'=>f c'=c∧o'=o∧k'=k∧h' c'≠.fresh
 | .pv c o,.pv c' o'=>f c'=c∧o'=o∧h' c'≠.fresh
 | .pa c i o,.pa c' i' o'=>f c'=c∧i'=i∧o'=o∧h' c'≠.fresh
 | .nils,.sl _ []=>True
 | .own c k,.sl sz rows=>FzV F h (.own c k) (.sl sz rows)
 | .view c o k,.sl sz rows=>FzV F h (.view c o k) (.sl sz rows)
 | .pv c o,.iptr row o'=>FzV F h (.pv c o) (.iptr row o')
 | .own ..,_|.view ..,_|.pv ..,_|.pa ..,_=>False
 | v,v'=>v'=v
def Wk1 (F:Nat→Prop) (f:Nat→Nat) (h h':Nat→Hs):V→V→Prop
 | .fn g caps,.fn g' caps'=>g'=g∧caps'.length=caps.length∧∀(j:Nat) v v',caps[j]?=some v→caps'[j]?=some v'→Wk0 F f h h' v v'
 | v,v'=>Wk0 F f h h' v v'
def Wk2 (F:Nat→Prop) (f:Nat→Nat) (h h':Nat→Hs):V→V→Prop
 | .agg fs,.agg fs'=>fs'.length=fs.length∧∀(j:Nat) v v',fs[j]?=some v→fs'[j]?=some v'→Wk1 F f h h' v v'
 | v,v'=>Wk1 F f h h' v v'
def Wk (F:Nat→Prop) (f:Nat→Nat) (h h':Nat→Hs):V→V→Prop
 | .tup fs,.tup fs'=>fs'.length=fs.length∧∀(j:Nat) v v',fs[j]?=some v→fs'[j]?=some v'→Wk2 F f h h' v v'
 | v,v'=>Wk2 F f h h' v v'
def WkH (F:Nat→Prop) (f:Nat→Nat) (h h':Nat→Hs):Hs→Hs→Prop
 | _,.fresh=>True
 | a,.dead=>a≠.fresh
 | .var ty row,.var ty' row'=>ty'=ty∧row'.length=row.length∧∀(j:Nat) v v',row[j]?=some v→row'[j]?=some v'→Wk1 F f h h' v v'
 | .arr ty sz rows,.arr ty' sz' rows'=>ty'=ty∧sz'=sz∧rows'=rows
 | _,_=>False
section
variable {w:World} {O O':Nat→Prop} {ρ:Nat→Loc} {h h':Nat→Hs} {f:Nat→Nat} {F:Nat→Prop}
theorem Den0.wk (hH:∀c,WkH F f h h' (h (f c)) (h' c)) (himm:∀v u,Imm w O v u→Imm w O' v u) (hfz:∀v v' u,FzV F h v v'→Den0 w O ρ h v u→Imm w O' v' u) {v v':V} {u:Value} (hw:Wk0 F f h h' v v') (hd:Den0 w O ρ h v u):Den0 w O' (fun c=>ρ (f c)) h' v' u:=by
 have gen:v'=v→v.closed=true∨(∃g caps,v=.fn g caps)→Den0 w O' (fun c=>ρ (f c)) h' v' u:=fun e hc=>by
  subst e
  rcases hc with hc|⟨g,caps,rfl⟩
  ·exact(himm _ _ (imm_of_den1 hc (by cases v'<;>first|exact hd|(simp[V.closed] at hc)))).den0
  ·exact himm _ _ hd
 cases v with
 | own c k =>
   cases v'<;>simp only[Wk0] at hw
   case undef=>trivial
   case sl sz rows=>exact(hfz _ _ _ hw hd).den0
   case own c' k' =>
    obtain⟨rfl,rfl,hne⟩:=hw
    have h1:=hd.shape
    have hc:=hH c'
    simp only[Den0] at hd ⊢
    cases e1:h' c' with
    | fresh=>exact hne e1
    | dead=>exact h1
    | var ty row=>exact h1
    | arr ty sz rows =>
      rw[e1] at hc
      cases e2:h (f c')<;>rw[e2] at hc hd<;>simp only[WkH] at hc
      exact hd
 | view c o k =>
   cases v'<;>simp only[Wk0] at hw
   case undef=>trivial
   case sl sz rows=>exact(hfz _ _ _ hw hd).den0
   case view c' o' k' =>
    obtain⟨rfl,rfl,rfl,hne⟩:=hw
    have h1:=hd.shape
    have hc:=hH c'
    simp only[Den0] at hd ⊢
    cases e1:h' c' with
    | fresh=>exact hne e1
    | dead=>exact h1
    | var ty row=>exact h1
    | arr ty sz rows =>
      rw[e1] at hc
      cases e2:h (f c')<;>rw[e2] at hc hd<;>simp only[WkH] at hc
      obtain⟨rfl,rfl,rfl⟩:=hc
      exact hd
 | pv c o =>
   cases v'<;>simp only[Wk0] at hw
   case undef=>trivial
   case iptr row o'=>exact(hfz _ _ _ hw hd).den0
   case pv c' o' =>
    obtain⟨rfl,rfl,hne⟩:=hw
    have h1:=hd.shape
    have hc:=hH c'
    simp only[Den0] at hd ⊢
    cases e1:h' c' with
    | fresh=>exact hne e1
    | dead=>exact h1
    | arr ty sz row=>exact h1
    | var ty rows =>
      rw[e1] at hc
      cases e2:h (f c')<;>rw[e2] at hc hd<;>simp only[WkH] at hc
      exact hd
 | pa c i o =>
   cases v'<;>simp only[Wk0] at hw
   case undef=>trivial
   case pa c' i' o' =>
    obtain⟨rfl,rfl,rfl,hne⟩:=hw
    have h1:=hd.shape
    have hc:=hH c'
    simp only[Den0] at hd ⊢
    cases e1:h' c' with
    | fresh=>exact hne e1
    | dead=>exact h1
    | var ty row=>exact h1
    | arr ty sz rows =>
      rw[e1] at hc
      cases e2:h (f c')<;>rw[e2] at hc hd<;>simp only[WkH] at hc
      obtain⟨rfl,rfl,rfl⟩:=hc
      exact hd
 | nils =>
   cases v'<;>simp only[Wk0,reduceCtorEq] at hw
   case undef=>trivial
   case nils=>exact gen rfl (.inl rfl)
   case sl sz rows =>
    cases rows with
    | nil =>
      have:=inv_nils hd
      subst this
      exact Imm.esl sz none 0
    | cons r rs=>simp at hw
 | undef =>
   cases v'<;>simp only[Wk0,reduceCtorEq] at hw
   trivial
 | fn g caps =>
   cases v'<;>simp only[Wk0,reduceCtorEq] at hw
   case undef=>trivial
   case fn=>exact gen hw (.inr ⟨g,caps,rfl⟩)
 | agg fs =>
   exact absurd hd (fun hd=>by cases hd)
 | tup fs =>
   exact absurd hd (fun hd=>by cases hd)
 | _ =>
   by_cases hu:v'=.undef
   ·subst hu;trivial
   ·refine gen ?_ (.inl rfl)
    cases v'<;>first|exact absurd rfl hu|exact hw|(rename_i sz rows;cases rows<;>exact hw)
theorem Den1.wk (hH:∀c,WkH F f h h' (h (f c)) (h' c)) (himm:∀v u,Imm w O v u→Imm w O' v u) (hfz:∀v v' u,FzV F h v v'→Den0 w O ρ h v u→Imm w O' v' u) {v v':V} {u:Value} (hw:Wk1 F f h h' v v') (hd:Den1 w O ρ h v u):Den1 w O' (fun c=>ρ (f c)) h' v' u:=by
 by_cases hf:∃g caps,v=.fn g caps
 ·obtain⟨g,caps,rfl⟩:=hf
  obtain⟨vs,rfl,hl,hd⟩:=hd
  cases v'<;>simp only[Wk1,Wk0,reduceCtorEq] at hw
  case undef=>trivial
  case fn g' caps' =>
   obtain⟨rfl,hl',hw⟩:=hw
   refine⟨vs,rfl,by omega,fun j v x hv hx=>?_⟩
   have hj:j<caps.length:=by rw[←hl'];exact(List.getElem?_eq_some_iff.1 hv).1
   exact(hd j caps[j] x (zE hj) hx).wk hH himm hfz (hw j _ _ (zE hj) hv)
 ·have hw0:Wk0 F f h h' v v':=by cases v<;>first|exact hw|exact absurd ⟨_,_,rfl⟩ hf
  have hd0:Den0 w O ρ h v u:=by cases v<;>first|exact hd|exact absurd ⟨_,_,rfl⟩ hf
  have:=hd0.wk hH himm hfz hw0
  by_cases hf':∃g caps,v'=.fn g caps
  ·obtain⟨g,caps,rfl⟩:=hf'
   exfalso
   cases v<;>simp only[Wk0,reduceCtorEq] at hw0
   all_goals exact hf ⟨_,_,hw0.symm⟩
  ·cases v'<;>first|exact this|exact absurd ⟨_,_,rfl⟩ hf'
theorem Den2.wk (hH:∀c,WkH F f h h' (h (f c)) (h' c)) (himm:∀v u,Imm w O v u→Imm w O' v u) (hfz:∀v v' u,FzV F h v v'→Den0 w O ρ h v u→Imm w O' v' u) {v v':V} {u:Value} (hw:Wk2 F f h h' v v') (hd:Den2 w O ρ h v u):Den2 w O' (fun c=>ρ (f c)) h' v' u:=by
 by_cases hf:∃fs,v=.agg fs
 ·obtain⟨fs,rfl⟩:=hf
  obtain⟨vs,rfl,hl,hd⟩:=hd
  cases v'<;>simp only[Wk2,Wk1,Wk0,reduceCtorEq] at hw
  case undef=>trivial
  case agg fs' =>
   obtain⟨hl',hw⟩:=hw
   refine⟨vs,rfl,by omega,fun j v x hv hx=>?_⟩
   have hj:j<fs.length:=by rw[←hl'];exact(List.getElem?_eq_some_iff.1 hv).1
   exact(hd j fs[j] x (zE hj) hx).wk hH himm hfz (hw j _ _ (zE hj) hv)
 ·have hw0:Wk1 F f h h' v v':=by cases v<;>first|exact hw|exact absurd ⟨_,rfl⟩ hf
  have hd0:Den1 w O ρ h v u:=by cases v<;>first|exact hd|exact absurd ⟨_,rfl⟩ hf
  have:=hd0.wk hH himm hfz hw0
  by_cases hf':∃fs,v'=.agg fs
  ·obtain⟨fs,rfl⟩:=hf'
   exfalso
   cases this
  ·cases v'<;>first|exact this|exact absurd ⟨_,rfl⟩ hf'
theorem Den.wk (hH:∀c,WkH F f h h' (h (f c)) (h' c)) (himm:∀v u,Imm w O v u→Imm w O' v u) (hfz:∀v v' u,FzV F h v v'→Den0 w O ρ h v u→Imm w O' v' u) {v v':V} {u:Value} (hw:Wk F f h h' v v') (hd:Den w O ρ h v u):Den w O' (fun c=>ρ (f c)) h' v' u:=by
 by_cases hf:∃fs,v=.tup fs
 ·obtain⟨fs,rfl⟩:=hf
  obtain⟨vs,rfl,hl,hd⟩:=hd
  cases v'<;>simp only[Wk,Wk2,Wk1,Wk0,reduceCtorEq] at hw
  case undef=>trivial
  case tup fs' =>
   obtain⟨hl',hw⟩:=hw
   refine⟨vs,rfl,by omega,fun j v x hv hx=>?_⟩
   have hj:j<fs.length:=by rw[←hl'];exact(List.getElem?_eq_some_iff.1 hv).1
   exact(hd j fs[j] x (zE hj) hx).wk hH himm hfz (hw j _ _ (zE hj) hv)
 ·have hw0:Wk2 F f h h' v v':=by cases v<;>first|exact hw|exact absurd ⟨_,rfl⟩ hf
  have hd0:Den2 w O ρ h v u:=by cases v<;>first|exact hd|exact absurd ⟨_,rfl⟩ hf
  have:=hd0.wk hH himm hfz hw0
  by_cases hf':∃fs,v'=.tup fs
  ·obtain⟨fs,rfl⟩:=hf'
   exfalso
   cases this
  ·cases v'<;>first|exact this|exact absurd ⟨_,rfl⟩ hf'
theorem WkH.live {a b:Hs} (hw:WkH F f h h' a b) (hl:b.live=true):a.live=true:=by
 cases b<;>first|(cases hl;done)|(cases a<;>first|rfl|exact hw.elim)
theorem cell_in {b off:Nat} {cs:Array Value} {ty:TypeId} {j:Nat} {u:Value} (hb:w.heap[b]?=some (.cells cs ty (0,0))) (hu:cs[off+j]?=some u):w.cell? ⟨b,off+j,none⟩=some u:=by
 simp only[World.cell?,hb]
 simpa using hu
theorem fz_imm {B:Base} (r:RelH B ρ h w) (hno:∀c,(h c).live=true→(ρ c).nil=false→F c→¬O' (ρ c).blk)
 (himm:∀v u,Imm w (owns B ρ h) v u→Imm w O' v u):∀v v' u,FzV F h v v'→Den0 w (owns B ρ h) ρ h v u→Imm w O' v' u:=by
 intro v v' u hf hd
 have arr:∀c ty sz (all:List (List V)) (o k:Nat) rows A cap,h c=.arr ty sz all→rows=(all.drop o).take k→rows.length=k→F c→u=.slice A k cap→k≤cap →
  (0<k→o+k≤all.length∧(ρ c).nil=false∧A=some ⟨(ρ c).blk,(ρ c).off+o*sz,none⟩)→Imm w O' (.sl sz rows) u:=fun c ty sz all o k rows A cap hc hrows hk hz hu hkc hp=>by
  subst hu
  cases k with
  | zero =>
    have:rows=[]:=List.eq_nil_of_length_eq_zero hk
    subst this
    exact .esl sz A cap
  | succ k =>
    obtain⟨h1,hn,rfl⟩:=hp (by omega)
    have hl:(h c).live=true:=by rw[hc];rfl
    have hch:=r.chunk c
    rw[hc] at hch
    rcases hch with⟨hch,_⟩|⟨_,cs,k2,k3,k4,k5,k6⟩
    ·rw[hn] at hch;cases hch
    have hget:∀(i:Nat) rr,rows[i]?=some rr→all[o+i]?=some rr:=fun i rr hi=>by
     subst hrows
     rw[List.getElem?_take] at hi
     split at hi
     ·rwa [List.getElem?_drop] at hi
     ·cases hi
    rw[←hk]
    refine .sl sz rows (ρ c).blk ((ρ c).off+o*sz) cap (fun i j=>cs.getD ((ρ c).off+((o+i)*sz+j)) undef) (hno c hl hn hz) (r.blk_lt hl hn) (by omega) (fun x hx=>?_) (by omega) (fun i rr j v hi hj=>?_) (fun i rr j v hi hj=>?_)
    ·obtain⟨i,hi⟩:=List.getElem?_of_mem hx
     exact k5 x (List.mem_of_getElem? (hget i x hi))
    ·obtain⟨u,a1,a2⟩:=k6 _ _ j v (hget i rr hi) hj
     have e:(ρ c).off+o*sz+(i*sz+j)=(ρ c).off+((o+i)*sz+j):=by rw[Nat.add_mul];omega
     rw[e,cell_in k2 a1]
     simp[Array.getD_eq_getD_getElem?,a1]
    ·obtain⟨u,a1,a2⟩:=k6 _ _ j v (hget i rr hi) hj
     have:cs.getD ((ρ c).off+((o+i)*sz+j)) undef=u:=by simp[Array.getD_eq_getD_getElem?,a1]
     rw[this]
     exact himm _ _ a2
 cases v<;>cases v'<;>simp only[FzV] at hf
 case own.sl c k sz rows =>
  obtain⟨⟨ty,hc⟩,hk,hz⟩:=hf
  simp only[Den0,hc] at hd
  have hch:=r.chunk c
  rw[hc] at hch
  refine arr c ty sz rows 0 k rows (ρ c).addr (ρ c).cap hc (by simp[←hk]) hk hz hd ?_ (fun h0=>?_)
  ·rcases hch with⟨_,e,e2⟩|⟨_,cs,_,_,k4,_⟩
   ·rw[e] at hk;simp at hk;omega
   ·omega
  ·rcases hch with⟨_,e,e2⟩|⟨hn,cs,_,_,k4,_⟩
   ·rw[e] at hk;simp at hk;omega
   ·exact⟨by omega,hn,by simp[Loc.addr,hn]⟩
 case view.sl c o k sz rows =>
  obtain⟨⟨ty,all,hc,hrows⟩,hk,hz⟩:=hf
  simp only[Den0,hc] at hd
  obtain⟨A,cap,hu,hkc,hp,_⟩:=hd
  exact arr c ty sz all o k rows A cap hc hrows hk hz hu hkc hp
 case pv.iptr c o row o' =>
  obtain⟨rfl,⟨ty,hc⟩,hcl,hz⟩:=hf
  simp only[Den0,hc] at hd
  subst hd
  have hch:=r.chunk c
  rw[hc] at hch
  obtain⟨hn,cs,k2,k3,k4⟩:=hch
  have hl:(h c).live=true:=by rw[hc];rfl
  refine .iptr row _ (ρ c).blk (ρ c).off (fun j=>cs.getD ((ρ c).off+j) undef) (hno c hl hn hz) (r.blk_lt hl hn) (fun j v hv=>?_) (fun j v hv=>?_)
  ·obtain⟨u,a1,a2,a3⟩:=k4 j v hv
   rw[cell_in k2 a1]
   simp[Array.getD_eq_getD_getElem?,a1]
  ·obtain⟨u,a1,a2,a3⟩:=k4 j v hv
   have:cs.getD ((ρ c).off+j) undef=u:=by simp[Array.getD_eq_getD_getElem?,a1]
   rw[this]
   exact himm _ _ (imm_of_den1 (List.all_eq_true.1 hcl v (List.mem_of_getElem? hv)) a3)
theorem RelH.ren {B:Base} (r:RelH B ρ h w) (hext:∀b,B.ext b→b<B.W.heap.size∧¬B.own b) (hH:∀c,WkH (NoN f h') f h h' (h (f c)) (h' c)) (hinj:∀x y,(h' x).live=true→(h' y).live=true→f x=f y→x=y)
 (hpin:∀i,i<B.pin→f i=i∧h' i≠.fresh) :
 RelH B (fun c=>ρ (f c)) h' w∧(∀v u,Imm w (owns B ρ h) v u→Imm w (owns B (fun c=>ρ (f c)) h') v u)∧(∀v v' u,FzV (NoN f h') h v v'→Den0 w (owns B ρ h) ρ h v u→Imm w (owns B (fun c=>ρ (f c)) h') v' u):=by
 have himm:∀v u,Imm w (owns B ρ h) v u→Imm w (owns B (fun c=>ρ (f c)) h') v u:=fun v u hi=>by
  refine hi.mono (Nat.le_refl _) (fun b _ _=>rfl) (fun b _ ho=>?_)
  rcases ho with ho|⟨c,h1,h2,h3⟩
  ·exact .inl ho
  ·exact .inr ⟨f c,(hH c).live h1,h2,h3⟩
 have hfz:=fz_imm (F:=NoN f h') (O':=owns B (fun c=>ρ (f c)) h') r (fun c hl hn hz ho=>by
  rcases ho with ho|⟨c',h1,h2,h3⟩
  ·obtain⟨e1,e2⟩:=hext _ ho
   rcases r.home c hl hn with k|k
   ·exact e2 k
   ·omega
  ·exact hz c' h1 (r.sep _ _ ((hH c').live h1) hl h2 hn h3)) himm
 refine⟨⟨r.os,r.tape,r.output,r.grow,r.keep,fun c=>?_,fun c hl hn=>r.home (f c) ((hH c).live hl) hn,fun x y hx hy nx ny he=>hinj x y hx hy (r.sep _ _ ((hH x).live hx) ((hH y).live hy) nx ny he),fun i hi=>?_⟩,himm,hfz⟩
 ·have hc:=r.chunk (f c)
  have hw:=hH c
  cases e1:h' c with
  | fresh=>trivial
  | dead=>trivial
  | var ty row =>
    rw[e1] at hw
    cases e2:h (f c)<;>rw[e2] at hw hc<;>simp only[WkH] at hw
    rename_i ty0 row0
    obtain⟨rfl,hl,hw⟩:=hw
    obtain⟨k1,cs,k2,k3,k4⟩:=hc
    refine⟨k1,cs,k2,by omega,fun j v hv=>?_⟩
    have hj:j<row0.length:=by rw[←hl];exact(List.getElem?_eq_some_iff.1 hv).1
    obtain⟨u,a1,a2,a3⟩:=k4 j row0[j] (zE hj)
    exact⟨u,a1,a2,a3.wk hH himm hfz (hw j _ _ (zE hj) hv)⟩
  | arr ty sz rows =>
    rw[e1] at hw
    cases e2:h (f c)<;>rw[e2] at hw hc<;>simp only[WkH] at hw
    obtain⟨rfl,rfl,rfl⟩:=hw
    rcases hc with hc|⟨k1,cs,k2,k3,k4,k5,k6⟩
    ·exact .inl hc
    ·exact .inr ⟨k1,cs,k2,k3,k4,k5,fun i rr j v hr hv=>let ⟨u,a1,a2⟩:=k6 i rr j v hr hv;⟨u,a1,himm _ _ a2⟩⟩
 ·obtain⟨hfi,hne⟩:=hpin i hi
  have hw:=hH i
  rw[hfi] at hw
  rcases r.pin i hi with hp|⟨hp,hq⟩
  ·rw[hp] at hw
   cases e1:h' i<;>rw[e1] at hw<;>simp only[WkH] at hw
   ·exact absurd e1 hne
   ·exact .inl rfl
  ·cases e1:h' i with
   | fresh=>exact absurd e1 hne
   | dead=>exact .inl rfl
   | var ty row=>exact .inr ⟨rfl,by simp only[hfi];exact hq⟩
   | arr ty sz rows=>exact .inr ⟨rfl,by simp only[hfi];exact hq⟩
end
structure LeR (f:Nat→Nat) (pin:Nat) (s s':St):Prop where
 t:∀d,Wk (NoN f s'.h) f s.h s'.h (s.t d) (s'.t d)
 h:∀c,WkH (NoN f s'.h) f s.h s'.h (s.h (f c)) (s'.h c)
 inj:∀x y,(s'.h x).live=true→(s'.h y).live=true→f x=f y→x=y
 pin:∀i,i<pin→f i=i∧s'.h i≠.fresh
def chH (cs:List Hs) (i:Nat):Hs:=(cs[i]?).getD .fresh
def blocks (ρ:Nat→Loc) (h:Nat→Hs) (b:Nat):Prop:=∃c,(h c).live=true∧(ρ c).nil=false∧(ρ c).blk=b
structure FnP (P:Program) (G:Glob) (f:FuncId) (pin:Nat) (cs:List Hs) (args:List V) (post:V→List Hs→Prop):Prop where
 en:entr P f=true
 ne:∃r o,post r o
 run:∀W ρ ext us,G.g W→(∀b,ext b→b<W.heap.size)→(∀b,ext b→¬blocks ρ (chH cs) b)→(∀b,blocks ρ (chH cs) b→G.ng≤b) →
  RelH ⟨W,blocks ρ (chH cs),ext,pin,ρ⟩ ρ (chH cs) W→DenArgs W (owns ⟨W,blocks ρ (chH cs),ext,pin,ρ⟩ ρ (chH cs)) ρ (chH cs) args us →
  Calls P f us.toArray W fun e W'=>∃u res out ρ',e=.returned u∧post res out∧RelH ⟨W,blocks ρ (chH cs),ext,pin,ρ⟩ ρ' (chH out) W' ∧
   Den W' (owns ⟨W,blocks ρ (chH cs),ext,pin,ρ⟩ ρ' (chH out)) ρ' (chH out) res u
inductive RV where
 | t (n:Nat)
 | cell (n sz:Nat) (agg:Bool)
 deriving Inhabited
def digRV (P:Program) (n:Nat):ResultVar→Option RV
 | .tmp k=>if k<n then some (.t k) else none
 | .cell k t=>do if k<n then some (.cell k (←szOf P t) (←isRowT P t)) else none
def rvV (st:St):RV→Option V
 | .t n=>some (st.t n)
 | .cell n sz agg=>(loadF st.h sz agg (st.t n)).map Prod.fst
def V.untup:V→Bool
 | .tup _=>false
 | _=>true
def resL:List V→Option V
 | [v]=>some v
 | vs=>if vs.all V.untup=true then some (.tup vs) else none
def resV (st:St) (rs:List RV):Option V:=(rs.mapM (rvV st)).bind resL
def retQ (rs:List RV) (pin:Nat) (post:V→List Hs→Prop):Ex→St→Prop
 | .exit _,_=>False
 | _,st=>∃v res out f,resV st rs=some v∧post res out∧Wk (NoN f (chH out)) f st.h (chH out) v res∧(∀c,WkH (NoN f (chH out)) f st.h (chH out) (st.h (f c)) (chH out c)) ∧
    (∀x y,(chH out x).live=true→(chH out y).live=true→f x=f y→x=y)∧∀i,i<pin→f i=i∧chH out i≠.fresh
def argL:Nat→List V→List (Nat×V)
 | _,[]=>[]
 | k,v::vs=>(k,v)::argL (k+1) vs
theorem getL_argL:∀(vs:List V) (k d:Nat),getL (argL k vs) (k+d)=(vs[d]?).getD .undef
 | [],k,d=>rfl
 | v::vs,k,0=>by simp[argL,getL]
 | v::vs,k,d+1=>by
   have:=getL_argL vs (k+1) d
   rw[show k+(d+1)=k+1+d by omega]
   simp only[argL,getL]
   rw[if_neg (by omega),this]
   simp
section
variable {P:Program} {G:Glob}
theorem LeR.le {f:Nat→Nat} {pin:Nat} {s s':St} (l:LeR f pin s s'):s.le G pin s':=fun n B ρ a w hp hB r=>by
 obtain⟨hm,himm,hfz⟩:=r.mem.ren (fun b hb=>⟨hB.lt b hb,hB.no b hb⟩) l.h l.inj (by rw[hp];exact l.pin)
 exact⟨fun c=>ρ (f c),hm,r.size,r.nod,fun d=>(r.tmps d).wk l.h himm hfz (l.t d)⟩
theorem load_val {B:Base} {ρ:Nat→Loc} {h:Nat→Hs} {w:World} (r:RelH B ρ h w) {p:V} {u0:Value} (hd0:Den w (owns B ρ h) ρ h p u0) {t:TypeId} {sz:Nat} {agg:Bool} (hs:szOf P t=some sz)
 (ha:isRowT P t=some agg) {v:V} {tc:List Nat} (hl:loadF h sz agg p=some (v,tc)) :
 ∃u,(do loadVar t (←asAddr u0):Sem Value).run P w=.ok u w∧Den w (owns B ρ h) ρ h v u:=by
 obtain⟨A,b,hu,hv⟩:=load_cells r hd0 hl
 obtain⟨i,hi,hsz⟩:=Option.map_eq_some_iff.1 hs
 obtain⟨d,hd,hagg⟩:=Option.map_eq_some_iff.1 ha
 subst hu
 cases agg with
 | true =>
   obtain⟨fs,us,rfl,hfl,hul,hr,hden⟩:=hv
   refine⟨.agg us.toArray, ?_,⟨us,rfl,by omega,hden⟩⟩
   have:=run_loadVar_mid (P:=P) w A b t us d hr hd (by cases d<;>first|rfl|(simp at hagg)) (by simp[hi,hsz,hul])
   simp only[asAddr,Sem.run_bind,this,Result.andThen_ok,Sem.run_pure]
 | false =>
   obtain⟨y',hc,hden⟩:=hv
   refine⟨y', ?_, ?_⟩
   ·have hagg':(isAgg t).run P w=.ok false w:=by
     unfold isAgg
     rw[Sem.run_bind,run_underlying hd w]
     cases d<;>simp_all
    simp[asAddr,loadVar,hagg',hc]
   ·have:v.one=true∨v=.undef:=by
     cases v<;>first|exact .inl rfl|exact .inr rfl|(cases hden;done)
    exact hden.up this
def rvS (tmps:Array Value) (x:ResultVar):Sem Value:=match x with
 | .tmp t=>pure (tmps.getD t undef)
 | .cell k t=>do loadVar t (←asAddr (tmps.getD k undef))
theorem rv_run {n:Nat} {B:Base} {ρ:Nat→Loc} {st:St} {a:Act} {w:World} (r:RelR n B ρ st a w) {x:ResultVar} {y:RV} (hx:digRV P n x=some y) {v:V} (hv:rvV st y=some v) :
 ∃u,(rvS a.tmps x).run P w=.ok u w∧Den w (owns B ρ st.h) ρ st.h v u:=by
 cases x with
 | tmp k =>
   simp only[digRV] at hx
   split at hx
   ·cases hx
    simp only[rvV,zS] at hv
    subst hv
    exact⟨_,rfl,r.tmps k⟩
   ·cases hx
 | cell k t =>
   simp only[digRV] at hx
   split at hx
   case isFalse=>cases hx
   simp only[Option.bind_eq_bind,zB,zS] at hx
   obtain⟨sz,hs,agg,ha,rfl⟩:=hx
   simp only[rvV,zM] at hv
   obtain⟨⟨v0,tc⟩,hl,rfl⟩:=hv
   exact load_val r.mem (r.tmps k) hs ha hl
theorem rvs_run {n:Nat} {B:Base} {ρ:Nat→Loc} {st:St} {a:Act} {w:World} (r:RelR n B ρ st a w):∀(xs:List ResultVar) (ys:List RV) (vs:List V),xs.mapM (digRV P n)=some ys→ys.mapM (rvV st)=some vs →
 ∃us,(xs.mapM (rvS a.tmps)).run P w=.ok us w∧us.length=vs.length∧∀(j:Nat) v u,vs[j]?=some v→us[j]?=some u→Den w (owns B ρ st.h) ρ st.h v u
 | [],ys,vs,h1,h2=>by
   simp at h1;subst h1;simp at h2;subst h2
   exact⟨[],rfl,rfl,fun j v u hv=>by simp at hv⟩
 | x::xs,ys,vs,h1,h2=>by
   simp only[List.mapM_cons,Option.bind_eq_bind,zB,Option.pure_def,zS] at h1
   obtain⟨y,hy,ys',hys,rfl⟩:=h1
   simp only[List.mapM_cons,Option.bind_eq_bind,zB,Option.pure_def,zS] at h2
   obtain⟨v,hv,vs',hvs,rfl⟩:=h2
   obtain⟨u,hu,hd⟩:=rv_run r hy hv
   obtain⟨us,hus,hl,hds⟩:=rvs_run r xs ys' vs' hys hvs
   refine⟨u::us, ?_,by simp[hl],fun j v' u' hv' hu'=>?_⟩
   ·simp only[List.mapM_cons,Sem.run_bind,hu,Result.andThen_ok,hus,Sem.run_pure]
   ·cases j with
    | zero=>simp at hv' hu';subst hv' hu';exact hd
    | succ j=>exact hds j v' u' (by simpa using hv') (by simpa using hu')
theorem res_run {n:Nat} {B:Base} {ρ:Nat→Loc} {st:St} {a:Act} {w:World} (r:RelR n B ρ st a w) {fn:Func} {rs:List RV} (hrs:fn.results.toList.mapM (digRV P n)=some rs) {v:V} (hv:resV st rs=some v) :
 ∃u,(results fn a.tmps).run P w=.ok u w∧Den w (owns B ρ st.h) ρ st.h v u:=by
 obtain⟨vs,hm,hv⟩:=Option.bind_eq_some_iff.1 hv
 obtain⟨us,hrun,hl,hd⟩:=rvs_run r _ _ _ hrs hm
 have hres:(results fn a.tmps).run P w=.ok (if h:us.toArray.size=1 then us.toArray[0] else .tuple us.toArray) w:=by
  unfold results
  rw[Array.mapM_eq_mapM_toList,map_eq_pure_bind]
  simp only[Sem.run_bind,Sem.run_pure]
  erw [hrun]
  rfl
 unfold resL at hv
 split at hv
 ·rename_i v0
  simp only[zS] at hv
  subst hv
  obtain⟨u0,rfl⟩:∃u0,us=[u0]:=by
   match us,hl with
   | [u0],_=>exact⟨u0,rfl⟩
  exact⟨_,hres,hd 0 _ _ rfl rfl⟩
 ·rename_i hne
  split at hv
  case isFalse=>cases hv
  rename_i hall
  simp only[zS] at hv
  subst hv
  have h1:¬us.toArray.size=1:=fun h1=>by
   have:vs.length=1:=by rw[←hl];simpa using h1
   match vs,this with
   | [v0],_=>exact hne v0 rfl
  rw[dif_neg h1] at hres
  refine⟨_,hres,us,rfl,hl,fun j v u hv hu=>?_⟩
  have h2:=hd j v u hv hu
  have h3:v.untup=true:=List.all_eq_true.1 hall v (List.mem_of_getElem? hv)
  cases v<;>first|exact h2|cases h3
end
section
variable {P:Program} {G:Glob}
theorem FnP.intro {f:FuncId} {fn:Func} {c:Code} {ic:IC} {rs:List RV} {pin:Nat} {cs:List Hs} {args:List V} {post:V→List Hs→Prop}
 (hf:P.funcs[f]?=some fn) (hb:fn.body=some c) (hn:entr P f=true) (hd:digC P fn.ntmps c=some ic) (hrs:fn.results.toList.mapM (digRV P fn.ntmps)=some rs)
 (ha:args.length≤fn.ntmps) (hne:∃r o,post r o) (h:wpI P G pin ic (retQ rs pin post) ⟨getL (argL 0 args),chH cs⟩):FnP P G f pin cs args post where
 en:=hn
 ne:=hne
 run:=fun W ρ ext us hg hlt hno hng r hargs=>by
  let B:Base:=⟨W,blocks ρ (chH cs),ext,pin,ρ⟩
  have hB:BaseOk G B:=⟨hlt,hno,hg,hng⟩
  obtain⟨hul,hden⟩:=hargs
  refine calls_of_wp hf hb ?_
  have hr0:RelR fn.ntmps B ρ ⟨getL (argL 0 args),chH cs⟩ { tmps:=us.toArray++Array.replicate (fn.ntmps - us.toArray.size) undef,defers:=[] } W:=by
   refine⟨r,by simp;omega,rfl,fun d=>?_⟩
   have hget:getL (argL 0 args) d=(args[d]?).getD .undef:=by simpa using getL_argL args 0 d
   show Den W _ ρ (chH cs) (getL (argL 0 args) d) _
   rw[hget]
   cases hv:args[d]? with
   | none=>trivial
   | some v =>
     have hd:d<args.length:=(List.getElem?_eq_some_iff.1 hv).1
     have hdu:d<us.length:=by omega
     have:(us.toArray++Array.replicate (fn.ntmps - us.toArray.size) undef).getD d undef=us[d]:=by
      simp[Array.getD,hdu,Array.getElem_append_left]
      omega
     show Den W _ ρ (chH cs) v ((us.toArray++Array.replicate (fn.ntmps - us.toArray.size) undef).getD d undef)
     rw[this]
     exact hden d v us[d] hv (zE hdu)
  refine wp_mono (wpI_sound (B:=B) (pin:=pin) rfl hB c ic hd _ ρ _ _ W hr0 h) fun e a w hq=>?_
  obtain⟨e',he,st,ρ',r',hq⟩:=hq
  have key:(∃v res out f,resV st rs=some v∧post res out∧Wk (NoN f (chH out)) f st.h (chH out) v res∧(∀c,WkH (NoN f (chH out)) f st.h (chH out) (st.h (f c)) (chH out c)) ∧
   (∀x y,(chH out x).live=true→(chH out y).live=true→f x=f y→x=y)∧∀i,i<pin→f i=i∧chH out i≠.fresh)→a.defers=[]∧∃v,(results fn a.tmps).run P w=.ok v w ∧
     ∃u res out ρ',Ending.returned v=.returned u∧post res out∧RelH B ρ' (chH out) w∧Den w (owns B ρ' (chH out)) ρ' (chH out) res u:=fun hq=>by
   obtain⟨v,res,out,g,hv,hp,hw,hH,hinj,hpin⟩:=hq
   obtain⟨u,hu,hdn⟩:=res_run r' hrs hv
   obtain⟨hm,himm,hfz⟩:=r'.mem.ren (fun b hb=>⟨hB.lt b hb,hB.no b hb⟩) hH hinj hpin
   exact⟨r'.nod,u,hu,u,res,out,fun c=>ρ' (g c),rfl,hp,hm,hdn.wk hH himm hfz hw⟩
  cases e<;>cases e'<;>simp only[exM] at he
  ·exact key hq
  ·exact hq.elim
  ·exact key hq
end
def digF (P:Program) (fn:Func):Option (IC×List RV) :=
 fn.body.bind fun c=>(digC P fn.ntmps c).bind fun ic=>(fn.results.toList.mapM (digRV P fn.ntmps)).bind fun rs=>some (ic,rs)
section
variable {P:Program} {G:Glob}
theorem FnP.mk' {f:FuncId} {fn:Func} {ic:IC} {rs:List RV} {pin:Nat} {cs:List Hs} {args:List V} {post:V→List Hs→Prop}
 (hf:P.funcs[f]?=some fn) (hn:entr P f=true) (hd:digF P fn=some (ic,rs)) {n:Nat} (hnt:fn.ntmps=n)
 (ha:args.length≤n) (hne:∃r o,post r o) (h:wpI P G pin ic (retQ rs pin post) ⟨getL (argL 0 args),chH cs⟩):FnP P G f pin cs args post:=by
 obtain⟨c,hb,hd⟩:=Option.bind_eq_some_iff.1 hd
 obtain⟨ic',hc,hd⟩:=Option.bind_eq_some_iff.1 hd
 obtain⟨rs',hr,hd⟩:=Option.bind_eq_some_iff.1 hd
 simp only[zS,Prod.mk.injEq] at hd
 obtain⟨rfl,rfl⟩:=hd
 exact FnP.intro hf hb hn hc hr (by rw[hnt];exact ha) hne h
end
def V.rn0 (g:Nat→Nat):V→V
 | .own c n=>.own (g c) n
 | .view c o n=>.view (g c) o n
 | .pv c o=>.pv (g c) o
 | .pa c i o=>.pa (g c) i o
 | v=>v
def V.rn1 (g:Nat→Nat):V→V
 | .fn f caps=>.fn f (caps.map (V.rn0 g))
 | v=>v.rn0 g
def V.rn2 (g:Nat→Nat):V→V
 | .agg fs=>.agg (fs.map (V.rn1 g))
 | v=>v.rn1 g
def V.rn (g:Nat→Nat):V→V
 | .tup fs=>.tup (fs.map (V.rn2 g))
 | v=>v.rn2 g
def Hs.rn (g:Nat→Nat):Hs→Hs
 | .var ty row=>.var ty (row.map (V.rn1 g))
 | s=>s
def V.plain0:V→Bool
 | .sl _ (_::_)|.iptr ..|.fn ..=>false
 | _=>true
def V.plain1:V→Bool
 | .fn _ caps=>caps.all V.plain0
 | v=>v.plain0
def V.plain2:V→Bool
 | .agg fs=>fs.all V.plain1
 | v=>v.plain1
def V.plain:V→Bool
 | .tup fs=>fs.all V.plain2
 | v=>v.plain2
def Hs.plain:Hs→Bool
 | .var _ row=>row.all V.plain1
 | .arr _ _ rows=>rows.all fun r=>r.all V.plain0
 | _=>true
theorem Imm.plain {w:World} {O O':Nat→Prop} {v:V} {u:Value} (hp:v.plain0=true) (h:Imm w O v u):Imm w O' v u:=by
 cases h with
 | int k n=>exact .int k n
 | bool b=>exact .bool b
 | str s=>exact .str s
 | nils=>exact .nils
 | nilp=>exact .nilp
 | nile=>exact .nile
 | erre t v=>exact .erre t v
 | raw _ h=>exact .raw _ h
 | esl sz A cap=>exact .esl sz A cap
 | sl sz rows blk off cap cs h1 h2 h3 =>
   cases rows with
   | nil=>simp at h3
   | cons r rs=>simp[V.plain0] at hp
 | iptr=>simp[V.plain0] at hp
 | fn=>simp[V.plain0] at hp
section
variable {w:World} {O1 O2:Nat→Prop} {ρ1 ρ2:Nat→Loc} {a h2:Nat→Hs} {g:Nat→Nat} {k:Bool}
theorem rn_live (s:Hs):(s.rn g).live=s.live:=by cases s<;>rfl
theorem Den0.rn (hN:∀c,a c≠.fresh→h2 (g c)=(a c).rn g∧((a c).live=true→ρ2 (g c)=ρ1 c)) (himm:∀v u,(k=true∨v.plain0=true)→Imm w O1 v u→Imm w O2 v u) {v:V} {u:Value}
 (hp:k=true∨v.plain0=true) (hd:Den0 w O1 ρ1 a v u):Den0 w O2 ρ2 h2 (v.rn0 g) u:=by
 cases v with
 | undef=>trivial
 | own c n =>
   have h1:=hd.shape
   simp only[Den0,V.rn0] at hd ⊢
   cases hc:a c<;>rw[hc] at hd<;>simp only at hd
   all_goals obtain⟨e1,e2⟩:=hN c (by rw[hc];simp);rw[e1,hc];simp only[Hs.rn]
   ·exact hd
   ·exact hd
   ·rw[e2 (by rw[hc];rfl)];exact hd
 | view c o n =>
   simp only[Den0,V.rn0] at hd ⊢
   cases hc:a c<;>rw[hc] at hd<;>simp only at hd
   all_goals obtain⟨e1,e2⟩:=hN c (by rw[hc];simp);rw[e1,hc];simp only[Hs.rn]
   ·exact hd
   ·exact hd
   ·rw[e2 (by rw[hc];rfl)];exact hd
 | pv c o =>
   simp only[Den0,V.rn0] at hd ⊢
   cases hc:a c<;>rw[hc] at hd<;>simp only at hd
   all_goals obtain⟨e1,e2⟩:=hN c (by rw[hc];simp);rw[e1,hc];simp only[Hs.rn]
   ·exact hd
   ·rw[e2 (by rw[hc];rfl)];exact hd
   ·exact hd
 | pa c i o =>
   simp only[Den0,V.rn0] at hd ⊢
   cases hc:a c<;>rw[hc] at hd<;>simp only at hd
   all_goals obtain⟨e1,e2⟩:=hN c (by rw[hc];simp);rw[e1,hc];simp only[Hs.rn]
   ·exact hd
   ·exact hd
   ·rw[e2 (by rw[hc];rfl)];exact hd
 | _=>exact himm _ _ hp hd
theorem Den1.rn (hN:∀c,a c≠.fresh→h2 (g c)=(a c).rn g∧((a c).live=true→ρ2 (g c)=ρ1 c)) (himm:∀v u,(k=true∨v.plain0=true)→Imm w O1 v u→Imm w O2 v u) {v:V} {u:Value}
 (hp:k=true∨v.plain1=true) (hd:Den1 w O1 ρ1 a v u):Den1 w O2 ρ2 h2 (v.rn1 g) u:=by
 cases v with
 | fn f caps =>
   obtain⟨vs,h1,h2,h3⟩:=hd
   refine⟨vs,h1,by simp[h2],fun j v x hv hx=>?_⟩
   rw[List.getElem?_map] at hv
   obtain⟨v0,hv0,rfl⟩:=Option.map_eq_some_iff.1 hv
   exact(h3 j v0 x hv0 hx).rn hN himm (hp.imp id fun h=>List.all_eq_true.1 h v0 (List.mem_of_getElem? hv0))
 | own c n=>exact Den0.rn (v:=.own c n) hN himm hp hd
 | view c o n=>exact Den0.rn (v:=.view c o n) hN himm hp hd
 | pv c o=>exact Den0.rn (v:=.pv c o) hN himm hp hd
 | pa c i o=>exact Den0.rn (v:=.pa c i o) hN himm hp hd
 | undef=>trivial
 | _=>exact himm _ _ hp hd
theorem Den2.rn (hN:∀c,a c≠.fresh→h2 (g c)=(a c).rn g∧((a c).live=true→ρ2 (g c)=ρ1 c)) (himm:∀v u,(k=true∨v.plain0=true)→Imm w O1 v u→Imm w O2 v u) {v:V} {u:Value}
 (hp:k=true∨v.plain2=true) (hd:Den2 w O1 ρ1 a v u):Den2 w O2 ρ2 h2 (v.rn2 g) u:=by
 cases v with
 | agg fs =>
   obtain⟨vs,h1,h2,h3⟩:=hd
   refine⟨vs,h1,by simp[h2],fun j v x hv hx=>?_⟩
   rw[List.getElem?_map] at hv
   obtain⟨v0,hv0,rfl⟩:=Option.map_eq_some_iff.1 hv
   exact(h3 j v0 x hv0 hx).rn hN himm (hp.imp id fun h=>List.all_eq_true.1 h v0 (List.mem_of_getElem? hv0))
 | tup fs=>exact absurd hd (fun hd=>by cases hd)
 | fn f caps=>exact Den1.rn (v:=.fn f caps) hN himm hp hd
 | own c n=>exact Den1.rn (v:=.own c n) hN himm hp hd
 | view c o n=>exact Den1.rn (v:=.view c o n) hN himm hp hd
 | pv c o=>exact Den1.rn (v:=.pv c o) hN himm hp hd
 | pa c i o=>exact Den1.rn (v:=.pa c i o) hN himm hp hd
 | undef=>trivial
 | _=>exact himm _ _ hp hd
theorem Den.rn (hN:∀c,a c≠.fresh→h2 (g c)=(a c).rn g∧((a c).live=true→ρ2 (g c)=ρ1 c)) (himm:∀v u,(k=true∨v.plain0=true)→Imm w O1 v u→Imm w O2 v u) {v:V} {u:Value}
 (hp:k=true∨v.plain=true) (hd:Den w O1 ρ1 a v u):Den w O2 ρ2 h2 (v.rn g) u:=by
 cases v with
 | tup fs =>
   obtain⟨vs,h1,h2,h3⟩:=hd
   refine⟨vs,h1,by simp[h2],fun j v x hv hx=>?_⟩
   rw[List.getElem?_map] at hv
   obtain⟨v0,hv0,rfl⟩:=Option.map_eq_some_iff.1 hv
   exact(h3 j v0 x hv0 hx).rn hN himm (hp.imp id fun h=>List.all_eq_true.1 h v0 (List.mem_of_getElem? hv0))
 | agg fs=>exact Den2.rn (v:=.agg fs) hN himm hp hd
 | fn f caps=>exact Den2.rn (v:=.fn f caps) hN himm hp hd
 | own c n=>exact Den2.rn (v:=.own c n) hN himm hp hd
 | view c o n=>exact Den2.rn (v:=.view c o n) hN himm hp hd
 | pv c o=>exact Den2.rn (v:=.pv c o) hN himm hp hd
 | pa c i o=>exact Den2.rn (v:=.pa c i o) hN himm hp hd
 | undef=>trivial
 | _=>exact himm _ _ hp hd
theorem OwnC.rn (hN:∀c,a c≠.fresh→h2 (g c)=(a c).rn g∧((a c).live=true→ρ2 (g c)=ρ1 c)) (himm:∀v u,(k=true∨v.plain0=true)→Imm w O1 v u→Imm w O2 v u) {s:Hs} {l:Loc}
 (hp:k=true∨s.plain=true) (hd:OwnC w O1 ρ1 a l s):OwnC w O2 ρ2 h2 l (s.rn g):=by
 cases s with
 | var ty row =>
   obtain⟨h1,cs,h2',h3,h4⟩:=hd
   refine⟨h1,cs,h2',by simpa using h3,fun j v hv=>?_⟩
   rw[List.getElem?_map] at hv
   obtain⟨v0,hv0,rfl⟩:=Option.map_eq_some_iff.1 hv
   obtain⟨u,b1,b2,b3⟩:=h4 j v0 hv0
   exact⟨u,b1,b2,b3.rn hN himm (hp.imp id fun h=>List.all_eq_true.1 h v0 (List.mem_of_getElem? hv0))⟩
 | arr ty sz rows =>
   rcases hd with hd|⟨h1,cs,h2',h3,h4,h5,h6⟩
   ·exact .inl hd
   ·refine .inr ⟨h1,cs,h2',h3,h4,h5,fun i r j v hr hv=>?_⟩
    obtain⟨u,b1,b3⟩:=h6 i r j v hr hv
    refine⟨u,b1,himm _ _ (hp.imp id fun h=>?_) b3⟩
    exact List.all_eq_true.1 (List.all_eq_true.1 h r (List.mem_of_getElem? hr)) v (List.mem_of_getElem? hv)
 | _=>trivial
end
def nsF (ns:List Nat) (i:Nat):Nat:=(ns[i]?).getD 0
def newN (d i:Nat):Nat:=100000+100*d+i
def bk (ns:List Nat) (pin d i:Nat):Nat:=if i<pin then nsF ns i else newN d i
def outU (g:Nat→Nat):Nat→List Hs→List (Nat×Hs)
 | _,[]=>[]
 | i,s::out=>(g i,s.rn g)::outU g (i+1) out
def deads (l:List Nat):List (Nat×Hs):=l.map fun c=>(c,Hs.dead)
def stepOk:Hs→Hs→Bool
 | .fresh,_=>false
 | _,.dead=>true
 | .var _ _,.var _ _=>true
 | .arr ty sz r,.arr ty' sz' r'=>decide (ty'=ty∧sz'=sz∧r.length≤r'.length)
 | _,_=>false
theorem up_hit {g:Nat→Nat} {h:Nat→Hs} {D:List (Nat×Hs)}:∀(out:List Hs) (k:Nat),(∀i j,i<out.length→j<out.length→g (k+i)=g (k+j)→i=j) →
 ∀i s,out[i]?=some s→upH h (outU g k out++D) (g (k+i))=s.rn g
 | [],k,_,i,s,hi=>by simp at hi
 | s0::out,k,hinj,0,s,hi=>by
   simp only[List.getElem?_cons_zero,zS] at hi
   subst hi
   simp[outU,upH]
 | s0::out,k,hinj,i+1,s,hi=>by
   have hi':out[i]?=some s:=by simpa using hi
   have hl:i<out.length:=(List.getElem?_eq_some_iff.1 hi').1
   have hne:g (k+(i+1))≠g k:=fun e=>by
    have:=hinj (i+1) 0 (by simp;omega) (by simp) (by simpa using e)
    omega
   simp only[outU,List.cons_append,upH]
   rw[if_neg hne]
   have:=up_hit (g:=g) (h:=h) (D:=D) out (k+1) (fun x y hx hy e=>by
    have:=hinj (x+1) (y+1) (by simp;omega) (by simp;omega) (by rw[show k+(x+1)=k+1+x by omega,show k+(y+1)=k+1+y by omega];exact e)
    omega) i s hi'
   rw[show k+(i+1)=k+1+i by omega]
   exact this
theorem up_miss {g:Nat→Nat} {h:Nat→Hs} {D:List (Nat×Hs)} {x:Nat}:∀(out:List Hs) (k:Nat),(∀i,i<out.length→g (k+i)≠x)→upH h (outU g k out++D) x=upH h D x
 | [],k,_=>rfl
 | s0::out,k,hne=>by
   simp only[outU,List.cons_append,upH]
   rw[if_neg (fun e=>hne 0 (by simp) (by simpa using e.symm))]
   exact up_miss out (k+1) fun i hi e=>hne (i+1) (by simp;omega) (by rw[show k+(i+1)=k+1+i by omega];exact e)
theorem up_dead {h:Nat→Hs} {x:Nat}:∀(l:List Nat),(x∈l→upH h (deads l) x=.dead)∧(x∉l→upH h (deads l) x=h x)
 | []=>⟨(fun hx=>by cases hx),fun _=>rfl⟩
 | c::l=>by
   obtain⟨h1,h2⟩:=up_dead (h:=h) (x:=x) l
   simp only[deads,List.map_cons,upH]
   by_cases hc:x=c
   ·rw[if_pos hc];exact⟨fun _=>rfl,fun hn=>absurd (by rw[hc];simp) hn⟩
   ·rw[if_neg hc]
    exact⟨fun hx=>h1 (by simpa[hc] using hx),fun hx=>h2 (by simpa[hc] using hx)⟩
theorem OwnC.wk {w:World} {O O':Nat→Prop} {ρ:Nat→Loc} {h h':Nat→Hs} {f:Nat→Nat} {F:Nat→Prop} (hH:∀c,WkH F f h h' (h (f c)) (h' c)) (himm:∀v u,Imm w O v u→Imm w O' v u)
 (hfz:∀v v' u,FzV F h v v'→Den0 w O ρ h v u→Imm w O' v' u) {l:Loc} {s s':Hs} (hw:WkH F f h h' s s') (hd:OwnC w O ρ h l s):OwnC w O' (fun c=>ρ (f c)) h' l s':=by
 cases s' with
 | fresh=>trivial
 | dead=>trivial
 | var ty row =>
   cases s<;>simp only[WkH] at hw
   rename_i ty0 row0
   obtain⟨rfl,hl,hw⟩:=hw
   obtain⟨k1,cs,k2,k3,k4⟩:=hd
   refine⟨k1,cs,k2,by omega,fun j v hv=>?_⟩
   have hj:j<row0.length:=by rw[←hl];exact(List.getElem?_eq_some_iff.1 hv).1
   obtain⟨u,a1,a2,a3⟩:=k4 j row0[j] (zE hj)
   exact⟨u,a1,a2,a3.wk hH himm hfz (hw j _ _ (zE hj) hv)⟩
 | arr ty sz rows =>
   cases s<;>simp only[WkH] at hw
   obtain⟨rfl,rfl,rfl⟩:=hw
   rcases hd with hd|⟨k1,cs,k2,k3,k4,k5,k6⟩
   ·exact .inl hd
   ·exact .inr ⟨k1,cs,k2,k3,k4,k5,fun i rr j v hr hv=>let ⟨u,a1,a2⟩:=k6 i rr j v hr hv;⟨u,a1,himm _ _ a2⟩⟩
def callTc (ns lent:List Nat) (d m:Nat):List Nat:=ns++lent++(List.range m).map (newN d)
def callPost (ns lent:List Nat) (kp:Bool) (pin d:Nat) (post:V→List Hs→Prop) (v:V) (up:List (Nat×Hs)):Prop :=
 ∃res out,post res out∧v=res.rn (bk ns pin d)∧up=outU (bk ns pin d) 0 out++deads (ns.drop pin++bif kp then lent else [])
theorem outU_mem {g:Nat→Nat}:∀(out:List Hs) (k:Nat) x,x∈outU g k out→∃i,i<out.length∧x.1=g (k+i)
 | [],k,x,h=>by cases h
 | s::out,k,x,h=>by
   rcases List.mem_cons.1 h with rfl|h
   ·exact⟨0,by simp,rfl⟩
   ·obtain⟨i,hi,e⟩:=outU_mem out (k+1) x h
    exact⟨i+1,by simp;omega,by rw[e];congr 1;omega⟩
theorem mem_nsF {ns:List Nat} {i:Nat} (h:i<ns.length):nsF ns i∈ns:=by
 simp[nsF,zE h]
theorem nsF_inj {ns:List Nat} (hn:ns.Nodup) {i j:Nat} (hi:i<ns.length) (hj:j<ns.length) (h:nsF ns i=nsF ns j):i=j:=by
 simp only[nsF,zE hi,zE hj,Option.getD_some] at h
 exact(List.getElem_inj hn).1 h
theorem chH_some {cs:List Hs} {i:Nat} (h:(chH cs i)≠.fresh):∃s,cs[i]?=some s∧chH cs i=s:=by
 cases hc:cs[i]? with
 | none=>exact absurd (by simp[chH,hc]) h
 | some s=>exact⟨s,rfl,by simp[chH,hc]⟩
theorem step_wk {F:Nat→Prop} {f g:Nat→Nat} {h h':Nat→Hs} {a b s:Hs} {l:Loc} (hw:WkH F f h h' a b) (hb:b.live=true) (hs:stepOk b s=true):HStep l a l (s.rn g):=by
 cases b<;>simp only[Hs.live,Bool.false_eq_true] at hb
 case var ty row =>
  cases a<;>simp only[WkH] at hw
  cases s<;>simp only[stepOk,Bool.false_eq_true] at hs
  ·exact .inr (.inl ⟨by simp,rfl⟩)
  ·exact .inr (.inr ⟨rfl,.inr (.inl ⟨_,_,_,_,rfl,rfl⟩)⟩)
 case arr ty sz rows =>
  cases a<;>simp only[WkH] at hw
  obtain⟨rfl,rfl,rfl⟩:=hw
  cases s<;>simp only[stepOk,Bool.false_eq_true,decide_eq_true_eq] at hs
  ·exact .inr (.inl ⟨by simp,rfl⟩)
  ·obtain⟨rfl,rfl,hs⟩:=hs
   exact .inr (.inr ⟨rfl,.inr (.inr ⟨_,_,_,_,rfl,rfl,hs⟩)⟩)
theorem live_fresh {s:Hs} (h:s.live=true):s≠.fresh:=by rintro rfl;cases h
section
variable {P:Program} {G:Glob}
theorem callS {f:FuncId} {pin:Nat} {cs:List Hs} {args:List V} {postf:V→List Hs→Prop} (F:FnP P G f pin cs args postf) {vs:List V} {h:Nat→Hs} {ns lent:List Nat} {kp:Bool} {d m:Nat}
 (hpin:pin≤ns.length) (hns:ns.length=cs.length) (hnd:ns.Nodup) (hva:vs.length=args.length)
 (hw:∀h',(∀c,c∈callTc ns lent d m→h' c=h c)→∀(j:Nat) v v',vs[j]?=some v→args[j]?=some v'→Wk (fun c=>c∈lent) (nsF ns) h' (chH cs) v v')
 (hc:∀h',(∀c,c∈callTc ns lent d m→h' c=h c)→∀(i:Nat) s,cs[i]?=some s→(s.live=true∨(s=.dead∧pin≤i))∧WkH (fun c=>c∈lent) (nsF ns) h' (chH cs) (h' (nsF ns i)) s)
 (hl:∀c,c∈lent→(h c).live=true∧c∉ns)
 (ho:∀res out,postf res out→pin≤out.length∧out.length≤m∧(kp=true∨(res.plain=true∧∀s,s∈out→s.plain=true))∧∀i,i<pin→stepOk (chH cs i) (chH out i)=true)
 (hf:∀i,i<m→h (newN d i)=.fresh) :
 CallS P G f vs h (callPost ns lent kp pin d postf) (callTc ns lent d m) (callTc ns (bif kp then lent else []) d m) where
 en:=F.en
 ne:=let ⟨r,o,hp⟩:=F.ne;⟨_,_,r,o,hp,rfl,rfl⟩
 wri:=fun v up ⟨res,out,hp,_,hu⟩ x hx=>by
  subst hu
  obtain⟨h1,h2,_⟩:=ho res out hp
  simp only[callTc,List.mem_append,List.mem_map,List.mem_range]
  rcases List.mem_append.1 hx with hx|hx
  ·obtain⟨i,hi,e⟩:=outU_mem out 0 x hx
   rw[e]
   simp only[zZ,bk]
   split
   ·exact .inl (.inl (mem_nsF (by omega)))
   ·exact .inr ⟨i,by omega,rfl⟩
  ·simp only[deads,List.mem_map,List.mem_append] at hx
   obtain⟨c,hc,rfl⟩:=hx
   rcases hc with hc|hc
   ·exact .inl (.inl (List.mem_of_mem_drop hc))
   ·exact .inl (.inr hc)
 sub:=fun c hc=>by
  simp only[callTc,List.mem_append] at hc ⊢
  rcases hc with(hc|hc)|hc
  ·exact .inl (.inl hc)
  ·cases kp
   ·cases hc
   ·exact .inl (.inr hc)
  ·exact .inr hc
 run:=fun h' hh B ρ w us hB r hargs=>by
  have hw:=hw h' hh
  have hc:=hc h' hh
  have hl:∀c,c∈lent→(h' c).live=true∧c∉ns:=fun c hc=>by
   rw[hh c (by simp[callTc,hc])];exact hl c hc
  have hf:∀i,i<m→h' (newN d i)=.fresh:=fun i hi=>by
   rw[hh _ (by simp only[callTc,List.mem_append,List.mem_map,List.mem_range];exact .inr ⟨i,hi,rfl⟩)];exact hf i hi
  have hH:∀c,WkH (fun c=>c∈lent) (nsF ns) h' (chH cs) (h' (nsF ns c)) (chH cs c):=fun c=>by
   cases hcc:cs[c]? with
   | none=>simp only[chH,hcc,Option.getD_none];cases h' (nsF ns c)<;>trivial
   | some s=>simpa only[chH,hcc,Option.getD_some] using(hc c s hcc).2
  have hlive:∀i,(chH cs i).live=true→(h' (nsF ns i)).live=true:=fun i hi=>WkH.live (hH i) hi
  have hplive:∀i,i<pin→(chH cs i).live=true:=fun i hi=>by
   have hi':i<cs.length:=by omega
   rcases(hc i cs[i] (zE hi')).1 with h1|⟨_,h1⟩
   ·simpa[chH,zE hi'] using h1
   ·omega
  have hnf:∀i,i<ns.length→h' (nsF ns i)≠.fresh:=fun i hi=>by
   have hi':i<cs.length:=by omega
   obtain⟨h1,h2⟩:=hc i cs[i] (zE hi')
   rcases h1 with h1|⟨h1,_⟩
   ·exact live_fresh (WkH.live h2 h1)
   ·rw[h1] at h2
    intro e
    rw[e] at h2
    exact absurd rfl h2
  have hlc:∀i,(chH cs i).live=true→i<ns.length:=fun i hi=>by
   obtain⟨s,hs,_⟩:=chH_some (cs:=cs) (i:=i) (fun e=>by rw[e] at hi;cases hi)
   rw[hns];exact(List.getElem?_eq_some_iff.1 hs).1
  let ρc:Nat→Loc:=fun i=>ρ (nsF ns i)
  have hA:∀b,blocks ρc (chH cs) b→∃i,(i<ns.length∧(chH cs i).live=true)∧(ρ (nsF ns i)).nil=false∧(ρ (nsF ns i)).blk=b:=fun b ⟨i,h1,h2,h3⟩=>⟨i,⟨hlc i h1,h1⟩,h2,h3⟩
  let ext:Nat→Prop:=fun b=>(B.ext b∨∃c,c∉lent∧(h' c).live=true∧(ρ c).nil=false∧(ρ c).blk=b)∧¬blocks ρc (chH cs) b
  let Bc:Base:=⟨w,blocks ρc (chH cs),ext,pin,ρc⟩
  have hext:∀b,ext b→b<w.heap.size:=fun b hb=>by
   rcases hb.1 with hb|⟨c,_,h2,h3,h4⟩
   ·exact r.ext_lt hB b hb
   ·rw[←h4];exact r.blk_lt h2 h3
  have hOc:∀b,owns Bc ρc (chH cs) b→owns B ρ h' b:=fun b hb=>by
   rcases hb with hb|hb
   ·rcases hb.1 with hb|⟨c,_,h2⟩
    ·exact .inl hb
    ·exact .inr ⟨c,h2⟩
   ·obtain⟨i,h1,h2,h3⟩:=hA b hb
    exact .inr ⟨nsF ns i,hlive i h1.2,h2,h3⟩
  have himm:∀v u,Imm w (owns B ρ h') v u→Imm w (owns Bc ρc (chH cs)) v u:=fun v u hi=>hi.mono (Nat.le_refl _) (fun b _ _=>rfl) (fun b _ ho=>hOc b ho)
  have hno:∀c,(h' c).live=true→(ρ c).nil=false→c∈lent→¬owns Bc ρc (chH cs) (ρ c).blk:=fun c h1 h2 h3 ho=>by
   rcases ho with ho|ho
   ·rcases ho.1 with ho|⟨c',k1,k2,k3,k4⟩
    ·rcases r.home c h1 h2 with k|k
     ·exact hB.no _ ho k
     ·have:=hB.lt _ ho;omega
    ·exact k1 ((r.sep c' c k2 h1 k3 h2 k4).symm▸h3)
   ·obtain⟨i,k1,k2,k3⟩:=hA _ ho
    have:=r.sep _ _ (hlive i k1.2) h1 k2 h2 k3
    exact(hl c h3).2 (this▸mem_nsF k1.1)
  have hfz:=fz_imm (F:=fun c=>c∈lent) (O':=owns Bc ρc (chH cs)) r hno himm
  have hng:∀c,(h' c).live=true→(ρ c).nil=false→G.ng≤(ρ c).blk:=fun c h1 h2=>by
   rcases r.home c h1 h2 with k|k
   ·exact hB.ng _ k
   ·exact Nat.le_trans (G.there _ hB.g) k
  have rc:RelH Bc ρc (chH cs) w:=by
   refine⟨rfl,rfl,rfl,Nat.le_refl _,fun b _ _=>rfl,fun i=>?_,fun i h1 h2=>.inl ⟨i,h1,h2,rfl⟩,fun i j h1 h2 h3 h4 h5=>?_,fun i hi=>.inr ⟨?_,rfl⟩⟩
   ·exact(r.chunk (nsF ns i)).wk hH himm hfz (hH i)
   ·exact nsF_inj hnd (hlc i h1) (hlc j h2) (r.sep _ _ (hlive i h1) (hlive j h2) h3 h4 h5)
   ·exact hplive i hi
  have hda:DenArgs w (owns Bc ρc (chH cs)) ρc (chH cs) args us:=by
   obtain⟨h1,h2⟩:=hargs
   refine⟨by omega,fun j v' u hv' hu=>?_⟩
   have hj:j<vs.length:=by rw[hva];exact(List.getElem?_eq_some_iff.1 hv').1
   have hv:=zE hj
   exact(h2 j _ u hv hu).wk hH himm hfz (hw j _ v' hv hv')
  refine(F.run w ρc ext us (hB.now r) hext (fun b hb=>hb.2) (fun b hb=>?_) rc hda).mono fun e w' he=>?_
  ·obtain⟨i,h1,h2,h3⟩:=hA b hb
   rw[←h3];exact hng _ (hlive i h1.2) h2
  obtain⟨u,res,out,ρ',rfl,hp,r',hd'⟩:=he
  obtain⟨o1,o2,o3,o4⟩:=ho res out hp
  have hgp:∀i,i<pin→bk ns pin d i=nsF ns i:=fun i hi=>by simp[bk,hi]
  have hgn:∀i,¬i<pin→bk ns pin d i=newN d i:=fun i hi=>by simp[bk,hi]
  generalize hgg:bk ns pin d=g at hgp hgn
  have hginj:∀i j,i<out.length→j<out.length→g i=g j→i=j:=fun i j hi hj e=>by
   by_cases h1:i<pin<;>by_cases h2:j<pin
   ·rw[hgp i h1,hgp j h2] at e;exact nsF_inj hnd (by omega) (by omega) e
   ·rw[hgp i h1,hgn j h2] at e
    have:=hlive i (hplive i h1);rw[e,hf j (by omega)] at this;cases this
   ·rw[hgn i h1,hgp j h2] at e
    have:=hlive j (hplive j h2);rw[←e,hf i (by omega)] at this;cases this
   ·rw[hgn i h1,hgn j h2] at e;simp only[newN] at e;omega
  generalize hD:(ns.drop pin++bif kp then lent else [])=D
  have hDl:∀x,x∈D→h' x≠.fresh:=fun x hx=>by
   rw[←hD] at hx
   rcases List.mem_append.1 hx with hx|hx
   ·obtain⟨i,hi⟩:=List.getElem?_of_mem (List.mem_of_mem_drop hx)
    have hil:=(List.getElem?_eq_some_iff.1 hi).1
    have:=hnf i hil
    simpa[nsF,hi] using this
   ·cases kp
    ·cases hx
    ·exact live_fresh (hl x hx).1
  have hhit:∀i s,out[i]?=some s→upH h' (outU g 0 out++deads D) (g i)=s.rn g:=fun i s hs=>by
   have:=up_hit (g:=g) (h:=h') (D:=deads D) out 0 (by simpa using hginj) i s hs
   simpa using this
  have hmiss:∀x,(∀i,i<out.length→g i≠x)→upH h' (outU g 0 out++deads D) x=upH h' (deads D) x:=fun x hx=>up_miss out 0 (by simpa using hx)
  generalize hup:outU g 0 out++deads D=up at hhit hmiss
  classical
  let ρ2:Nat→Loc:=fun x=>if hx:∃i,i<out.length∧g i=x then ρ' hx.choose else ρ x
  have hρ1:∀i,i<out.length→ρ2 (g i)=ρ' i:=fun i hi=>by
   have hx:∃j,j<out.length∧g j=g i:=⟨i,hi,rfl⟩
   show(if hx:∃j,j<out.length∧g j=g i then ρ' hx.choose else ρ (g i))=ρ' i
   rw[dif_pos hx]
   rw[hginj _ _ hx.choose_spec.1 hi hx.choose_spec.2]
  have hρ2:∀x,(∀i,i<out.length→g i≠x)→ρ2 x=ρ x:=fun x hx=>by
   show(if hx:∃j,j<out.length∧g j=x then ρ' hx.choose else ρ x)=ρ x
   rw[dif_neg (fun⟨i,h1,h2⟩=>hx i h1 h2)]
  have hcase:∀x,(∃i s,i<out.length∧g i=x∧out[i]?=some s∧chH out i=s∧upH h' up x=s.rn g∧ρ2 x=ρ' i) ∨
   ((∀i,i<out.length→g i≠x)∧ρ2 x=ρ x∧((x∈D∧upH h' up x=.dead)∨(x∉D∧upH h' up x=h' x))):=fun x=>by
   by_cases hx:∃i,i<out.length∧g i=x
   ·obtain⟨i,hi,rfl⟩:=hx
    have hs:=zE hi
    exact .inl ⟨i,out[i],hi,rfl,hs,by simp[chH,hs],hhit i _ hs,hρ1 i hi⟩
   ·have hx':∀i,i<out.length→g i≠x:=fun i h1 h2=>hx ⟨i,h1,h2⟩
    refine .inr ⟨hx',hρ2 x hx', ?_⟩
    rw[hmiss x hx']
    by_cases hd:x∈D
    ·exact .inl ⟨hd,(up_dead D).1 hd⟩
    ·exact .inr ⟨hd,(up_dead D).2 hd⟩
  have hapart:∀x,(∀i,i<out.length→g i≠x)→x∉D→(h' x).live=true→(ρ x).nil=false→¬blocks ρc (chH cs) (ρ x).blk:=fun x hx hxd h1 h2 hb=>by
   obtain⟨i,k1,k2,k3⟩:=hA _ hb
   have he:=r.sep _ _ (hlive i k1.2) h1 k2 h2 k3
   have k1:=k1.1
   by_cases hi:i<pin
   ·exact hx i (by omega) (by rw[hgp i hi];exact he)
   ·refine hxd ?_
    rw[←hD,←he]
    refine List.mem_append_left _ ?_
    rw[List.mem_iff_getElem?]
    refine⟨i - pin, ?_⟩
    rw[List.getElem?_drop,show pin+(i - pin)=i by omega,zE k1]
    simp[nsF,zE k1]
  have hst:∀x,HStep (ρ x) (h' x) (ρ2 x) (upH h' up x):=fun x=>by
   rcases hcase x with⟨i,s,hi,rfl,hs,hcs,hu,hr⟩|⟨hx,hr,⟨hxd,hu⟩|⟨hxd,hu⟩⟩
   ·by_cases hp:i<pin
    ·have hok:=o4 i hp
     rw[hcs] at hok
     have hic:i<cs.length:=by omega
     have hl2:(chH cs i).live=true:=hplive i hp
     have hst:=step_wk (g:=g) (l:=ρ (g i)) (hH i) hl2 hok
     rw[←hgp i hp] at hst
     rw[hu]
     rcases r'.pin i hp with hd|⟨_,he⟩
     ·rw[hcs] at hd
      subst hd
      exact .inr (.inl ⟨live_fresh (by rw[hgp i hp];exact hlive i (hplive i hp)),rfl⟩)
     ·have he2:ρ2 (g i)=ρ (g i):=by rw[hr,he,hgp i hp]
      rw[he2];exact hst
    ·exact .inl (by rw[hgn i hp];exact hf i (by omega))
   ·rw[hu];exact .inr (.inl ⟨hDl x hxd,rfl⟩)
   ·rw[hu,hr];exact HStep.refl _ _
  have hkeep:∀b,b<w.heap.size→¬blocks ρc (chH cs) b→w'.heap[b]?=w.heap[b]?:=fun b hb hn=>r'.keep b hb hn
  have hgrow:w.heap.size≤w'.heap.size:=r'.grow
  have hextc:∀b,B.ext b→ext b:=fun b hb=>⟨.inl hb,fun hbl=>by
   obtain⟨i,k1,k2,k3⟩:=hA _ hbl
   rcases r.home _ (hlive i k1.2) k2 with k|k
   ·exact hB.no b hb (k3▸k)
   ·have:=hB.lt b hb;omega⟩
  have hO2:kp=true→∀b,owns B ρ2 (upH h' up) b→owns Bc ρ' (chH out) b:=fun hk b hb=>by
   rcases hb with hb|⟨x,h1,h2,h3⟩
   ·exact .inl (hextc b hb)
   ·rcases hcase x with⟨i,s,hi,rfl,hs,hcs,hu,hr⟩|⟨hx,hr,⟨hxd,hu⟩|⟨hxd,hu⟩⟩
    ·rw[hu,rn_live] at h1
     rw[hr] at h2 h3
     exact .inr ⟨i,by rw[hcs];exact h1,h2,h3⟩
    ·rw[hu] at h1;cases h1
    ·rw[hu] at h1
     rw[hr] at h2 h3
     refine .inl ⟨.inr ⟨x,fun hxl=>hxd ?_,h1,h2,h3⟩,h3▸hapart x hx hxd h1 h2⟩
     rw[←hD,hk]
     exact List.mem_append_right _ hxl
  have himm2:∀v u,(kp=true∨v.plain0=true)→Imm w' (owns Bc ρ' (chH out)) v u→Imm w' (owns B ρ2 (upH h' up)) v u:=fun v u hk hi=>by
   rcases hk with hk|hk
   ·exact hi.mono (Nat.le_refl _) (fun b _ _=>rfl) (fun b _ hb=>hO2 hk b hb)
   ·exact hi.plain hk
  have hN:∀c,chH out c≠.fresh→upH h' up (g c)=(chH out c).rn g∧((chH out c).live=true→ρ2 (g c)=ρ' c):=fun c hcf=>by
   obtain⟨s,hs,he⟩:=chH_some hcf
   rw[he]
   exact⟨hhit c s hs,fun _=>hρ1 c (List.getElem?_eq_some_iff.1 hs).1⟩
  have hturn:Turns B ρ h' w ρ2 (upH h' up) w':=by
   refine r.turn r'.os r'.tape r'.output hgrow (fun b hb=>?_) hst (r.ext_lt hB) (fun x h1 h2=>?_) (fun x y hx hy nx ny e=>?_) (fun hi2 x=>?_)
   ·by_cases hbl:blocks ρc (chH cs) b
    ·obtain⟨i,k1,k2,k3⟩:=hA _ hbl
     exact .inr ⟨nsF ns i,hlive i k1.2,k2,k3⟩
    ·exact .inl (hkeep b hb hbl)
   ·rcases hcase x with⟨i,s,hi,rfl,hs,hcs,hu,hr⟩|⟨hx,hr,⟨hxd,hu⟩|⟨hxd,hu⟩⟩
    ·rw[hu,rn_live,←hcs] at h1
     rw[hr] at h2 ⊢
     rcases r'.home i h1 h2 with k|k
     ·obtain⟨j,k1,k2,k3⟩:=hA _ k
      exact .inl ⟨nsF ns j,hlive j k1.2,k2,k3⟩
     ·exact .inr k
    ·rw[hu] at h1;cases h1
    ·rw[hu] at h1;rw[hr] at h2 ⊢
     exact .inl ⟨x,h1,h2,rfl⟩
   ·have mixed:∀x i s,(∀i,i<out.length→g i≠x)→x∉D→(h' x).live=true→(ρ x).nil=false→out[i]?=some s→s.live=true→chH out i=s→(ρ' i).nil=false→(ρ x).blk=(ρ' i).blk→False:=fun x i s h1 h2 h3 h4 h5 h6 h7 h8 h9=>by
     rcases r'.home i (by rw[h7];exact h6) h8 with k|k
     ·rw[←h9] at k
      exact hapart x h1 h2 h3 h4 k
     ·have k0:w.heap.size≤(ρ' i).blk:=k
      have:=r.blk_lt h3 h4
      omega
    rcases hcase x with⟨i,s,hi,rfl,hs,hcs,hu,hr⟩|⟨hx1,hr,⟨hxd,hu⟩|⟨hxd,hu⟩⟩
    ·rcases hcase y with⟨j,s2,hj,rfl,hs2,hcs2,hu2,hr2⟩|⟨hy1,hr2,⟨hyd,hu2⟩|⟨hyd,hu2⟩⟩
     ·rw[hu,rn_live,←hcs] at hx
      rw[hu2,rn_live,←hcs2] at hy
      rw[hr] at nx e
      rw[hr2] at ny e
      rw[r'.sep i j hx hy nx ny e]
     ·rw[hu2] at hy;cases hy
     ·rw[hu,rn_live] at hx
      rw[hu2] at hy
      rw[hr] at nx e
      rw[hr2] at ny e
      exact(mixed y i s hy1 hyd hy ny hs hx hcs nx e.symm).elim
    ·rw[hu] at hx;cases hx
    ·rw[hu] at hx
     rw[hr] at nx e
     rcases hcase y with⟨j,s2,hj,rfl,hs2,hcs2,hu2,hr2⟩|⟨hy1,hr2,⟨hyd,hu2⟩|⟨hyd,hu2⟩⟩
     ·rw[hu2,rn_live] at hy
      rw[hr2] at ny e
      exact(mixed x j s2 hx1 hxd hx nx hs2 hy hcs2 ny e).elim
     ·rw[hu2] at hy;cases hy
     ·rw[hu2] at hy
      rw[hr2] at ny e
      exact r.sep x y hx hy nx ny e
   ·rcases hcase x with⟨i,s,hi,rfl,hs,hcs,hu,hr⟩|⟨hx,hr,⟨hxd,hu⟩|⟨hxd,hu⟩⟩
    ·rw[hu,hr]
     have hch:=r'.chunk i
     rw[hcs] at hch
     exact hch.rn hN himm2 (o3.imp id fun h=>h.2 s (List.mem_of_getElem? hs))
    ·rw[hu];trivial
    ·rw[hu,hr]
     cases hlx:(h' x).live
     ·exact OwnC.not_live hlx
     ·exact(r.chunk x).mono hi2 hst (fun hn=>hkeep _ (r.blk_lt hlx hn) (hapart x hx hxd hlx hn))
  exact⟨u,res.rn g,up,ρ2,rfl,⟨res,out,hp,by rw[hgg],by rw[hgg,hD,hup]⟩,hturn,hd'.rn hN himm2 (o3.imp id fun h=>h.1)⟩
end
theorem app_some (l:List (Nat×V)) (m:List (Nat×Hs)) (d:Nat) (v:V) (up:List (Nat×Hs)):St.app ⟨getL l,getH m⟩ (some d) v up=⟨getL ((d,v)::l),getH (up++m)⟩:=by
 simp only[St.app,upT,St.mk.injEq]
 constructor
 ·funext x;simp[getL]
 ·funext x
  induction up with
  | nil=>rfl
  | cons a up ih=>simp[upH,getH,ih]
theorem app_none (l:List (Nat×V)) (m:List (Nat×Hs)) (v:V) (up:List (Nat×Hs)):St.app ⟨getL l,getH m⟩ none v up=⟨getL l,getH (up++m)⟩:=by
 simp only[St.app,upT,St.mk.injEq]
 constructor
 ·trivial
 ·funext x
  induction up with
  | nil=>rfl
  | cons a up ih=>simp[upH,getH,ih]
def argH:Nat→List Hs→List (Nat×Hs)
 | _,[]=>[]
 | k,s::cs=>(k,s)::argH (k+1) cs
theorem getH_argH:∀(cs:List Hs) (k x:Nat),getH (argH k cs) x=if x<k then .fresh else chH cs (x - k)
 | [],k,x=>by simp[argH,getH,chH]
 | s::cs,k,x=>by
   simp only[argH,getH]
   rw[getH_argH cs (k+1) x]
   by_cases h1:x=k
   ·subst h1;simp[chH]
   ·rw[if_neg h1]
    by_cases h2:x<k
    ·rw[if_pos h2,if_pos (by omega)]
    ·rw[if_neg h2,if_neg (by omega)]
     simp only[chH]
     rw[show x - k=(x - (k+1))+1 by omega]
     simp
theorem chH_getH (cs:List Hs):chH cs=getH (argH 0 cs):=by
 funext x;rw[getH_argH];simp
section congrs
variable {P:Program} {G:Glob} {α:Type}
theorem optK_congr {o o':Option α} {K:α→Prop} (h:o=o'):optK o K=optK o' K:=by rw[h]
theorem guardK_congr {g g':Option Bool} {y n:Prop} (h:g=g'):guardK g y n=guardK g' y n:=by rw[h]
theorem condK_congr {g g':V} {y n:Prop} (h:g=g'):condK g y n=condK g' y n:=by rw[h]
theorem runT_congr {l:List IOper} {st st':St} {K:St→Prop} (h:st=st'):runT P G l st K=runT P G l st' K:=by rw[h]
theorem runD_congr {bef:List Nat} {l:List (Nat×IOper)} {st st':St} {tr tr':List (Nat×List Nat×List Nat)} {K:St→Prop} (h:st=st') (h2:tr=tr'):runD P G bef l st tr K=runD P G bef l st' tr' K:=by rw[h,h2]
theorem wpI_congr {pin:Nat} {ic:IC} {Q:Ex→St→Prop} {st st':St} (h:st=st'):wpI P G pin ic Q st=wpI P G pin ic Q st':=by rw[h]
theorem CallV_congr {f:FuncId} {vs vs':List V} {d:Option Nat} {st:St} {K:St→List Nat→List Nat→Prop} (h:vs=vs'):CallV P G f vs d st K=CallV P G f vs' d st K:=by rw[h]
theorem LoopI_congr {pin:Nat} {b:(Ex→St→Prop)→St→Prop} {Q:Ex→St→Prop} {st st':St} (h:st=st'):LoopI G pin b Q st=LoopI G pin b Q st':=by rw[h]
end congrs
section
variable {P:Program} {G:Glob} {pin:Nat} {Q:Ex→St→Prop} {st:St} {K:St→Prop} {K3:St→List Nat→List Nat→Prop}
theorem wpI_skip:wpI P G pin .skip Q st=Q .normal st:=of_eq_true (eq_self _)
theorem wpI_reg (ops):wpI P G pin (.reg ops) Q st=runT P G ops st (Q .normal):=of_eq_true (eq_self _)
theorem wpI_drw (bef ops):wpI P G pin (.drw bef ops) Q st=runD P G bef ops st [] (Q .normal):=of_eq_true (eq_self _)
theorem wpI_seq (a b):wpI P G pin (.seq a b) Q st=wpI P G pin a (exN (wpI P G pin b Q) Q) st:=of_eq_true (eq_self _)
theorem wpI_block (i b):wpI P G pin (.block i b) Q st=wpI P G pin b (exB i Q) st:=of_eq_true (eq_self _)
theorem wpI_loop (b):wpI P G pin (.loop b) Q st=LoopI G pin (wpI P G pin b) Q st:=of_eq_true (eq_self _)
theorem wpI_exit (i):wpI P G pin (.exit i) Q st=Q (.exit i) st:=of_eq_true (eq_self _)
theorem wpI_ret:wpI P G pin .ret Q st=Q .ret st:=of_eq_true (eq_self _)
theorem exN_n:exN K Q .normal st=K st:=of_eq_true (eq_self _)
theorem exN_e (i):exN K Q (.exit i) st=Q (.exit i) st:=of_eq_true (eq_self _)
theorem exN_r:exN K Q .ret st=Q .ret st:=of_eq_true (eq_self _)
theorem exB_n (i):exB i Q .normal st=Q .normal st:=of_eq_true (eq_self _)
theorem exB_r (i):exB i Q .ret st=Q .ret st:=of_eq_true (eq_self _)
theorem runT_nil:runT P G [] st K=K st:=of_eq_true (eq_self _)
theorem runD_nil (bef tr):runD P G bef [] st tr K=K st:=of_eq_true (eq_self _)
theorem step_u (d op):stepV P G ⟨d,none,op⟩ st K3=doV P G ⟨d,none,op⟩ st K3:=of_eq_true (eq_self _)
theorem step_g (d n b op):stepV P G ⟨d,some (n,b),op⟩ st K3=guardK (gd (some (n,b)) st.t) (doV P G ⟨d,none,op⟩ st K3) (K3 (st.app d (.tup []) []) [] []):=of_eq_true (eq_self _)
theorem optK_s {α:Type} (x:α) (K:α→Prop):optK (some x) K=K x:=of_eq_true (eq_self _)
theorem do_call (d g f xs):doV P G ⟨d,g,.call f xs⟩ st K3=CallV P G f (xs.map (ev st.t)) d st K3:=of_eq_true (eq_self _)
theorem do_mv (d g x):doV P G ⟨d,g,.mv x⟩ st K3=K3 (st.app d (ev st.t x) []) [] []:=of_eq_true (eq_self _)
def pureK (d:Option Nat) (st:St) (K:St→List Nat→List Nat→Prop) (x:Option V):Prop:=optK x fun v=>K (st.app d v []) [] []
theorem pureK_s (d v):pureK d st K3 (some v)=K3 (st.app d v []) [] []:=of_eq_true (eq_self _)
theorem do_pure {o:IOper} (h:effF o.op o.d st.t st.h=(pureF o.op st.t).map fun v=>(v,[],[])) (hc:o.isCall=false):doV P G o st K3=pureK o.d st K3 (pureF o.op st.t):=by
 unfold doV pureK
 cases ho:o.op<;>simp only[IOper.isCall,ho,Bool.true_eq_false] at hc ⊢
 all_goals(rw[ho] at h;rw[h];cases pureF _ st.t<;>rfl)
end
def effK (d:Option Nat) (st:St) (K:St→List Nat→List Nat→Prop) (x:Option (V×List (Nat×Hs)×List Nat)):Prop:=optK x fun r=>K (st.app d r.1 r.2.1) r.2.2 (r.2.1.map Prod.fst)
theorem pureK_congr {d:Option Nat} {st:St} {K:St→List Nat→List Nat→Prop} {x y:Option V} (h:x=y):pureK d st K x=pureK d st K y:=by rw[h]
theorem effK_congr {d:Option Nat} {st:St} {K:St→List Nat→List Nat→Prop} {x y:Option (V×List (Nat×Hs)×List Nat)} (h:x=y):effK d st K x=effK d st K y:=by rw[h]
def pickF (c a b:V):Option V:=match c with
 | .bool b'=>some (bif b' then a else b)
 | _=>none
def nilcF:V→Option V
 | .pv c o=>some (.pv c o)
 | .pa c i o=>some (.pa c i o)
 | .iptr r o=>some (.iptr r o)
 | .fn f caps=>some (.fn f caps)
 | _=>none
def beqF (ng:Bool) (x y:V):Option V:=match x,y with
 | .bool a,.bool b=>some (.bool (ng ^^ (a==b)))
 | _,_=>none
def eqsF (ng:Bool) (ks:List Kd) (x y:V):Option V:=match x,y with
 | .agg a,.agg b=>(eqR ks a b).map fun r=>.bool (ng ^^ r)
 | _,_=>none
def isnF (ng:Bool):V→Option V
 | .nile=>some (.bool (!ng))
 | .erre=>some (.bool ng)
 | _=>none
def notF:V→Option V
 | .bool b=>some (.bool (!b))
 | _=>none
def negF:V→Option V
 | .int k n=>some (.int k (k.wrap (0 - n)))
 | _=>none
def cviF (k:IntKind):V→Option V
 | .int _ n=>some (.int k (k.wrap n))
 | _=>none
def fadF (off:Nat):V→Option V
 | .pv c o=>some (.pv c (o+off))
 | .pa c i o=>some (.pa c i (o+off))
 | .iptr r o=>some (.iptr r (o+off))
 | _=>none
def extF (k:Nat):V→Option V
 | .tup vs=>vs[k]?
 | _=>none
section
variable {P:Program} {G:Glob} {st:St} {K:St→List Nat→List Nat→Prop}
theorem do_pick (d g c a b):doV P G ⟨d,g,.pick c a b⟩ st K=pureK d st K (pickF (ev st.t c) (ev st.t a) (ev st.t b)):=by
 rw[do_pure rfl rfl];simp only[pureF,pickF];cases ev st.t c<;>rfl
theorem do_nilc (d g x):doV P G ⟨d,g,.nilc x⟩ st K=pureK d st K (nilcF (ev st.t x)):=by
 rw[do_pure rfl rfl];simp only[pureF,nilcF];cases ev st.t x<;>rfl
theorem do_bin (d g op x y):doV P G ⟨d,g,.bin op x y⟩ st K=pureK d st K (binF op (ev st.t x) (ev st.t y)):=by
 rw[do_pure rfl rfl];rfl
theorem do_beq (d g ng x y):doV P G ⟨d,g,.beq ng x y⟩ st K=pureK d st K (beqF ng (ev st.t x) (ev st.t y)):=by
 rw[do_pure rfl rfl];simp only[pureF,beqF];cases ev st.t x<;>cases ev st.t y<;>rfl
theorem do_eqs (d g ng ks x y):doV P G ⟨d,g,.eqs ng ks x y⟩ st K=pureK d st K (eqsF ng ks (ev st.t x) (ev st.t y)):=by
 rw[do_pure rfl rfl];simp only[pureF,eqsF];cases ev st.t x<;>cases ev st.t y<;>rfl
theorem do_isn (d g ng x):doV P G ⟨d,g,.isn ng x⟩ st K=pureK d st K (isnF ng (ev st.t x)):=by
 rw[do_pure rfl rfl];simp only[pureF,isnF];cases ev st.t x<;>rfl
theorem do_not (d g x):doV P G ⟨d,g,.un .not x⟩ st K=pureK d st K (notF (ev st.t x)):=by
 rw[do_pure rfl rfl];simp only[pureF,notF];cases ev st.t x<;>rfl
theorem do_neg (d g x):doV P G ⟨d,g,.un .neg x⟩ st K=pureK d st K (negF (ev st.t x)):=by
 rw[do_pure rfl rfl];simp only[pureF,negF];cases ev st.t x<;>rfl
theorem do_cvi (d g k x):doV P G ⟨d,g,.cvi k x⟩ st K=pureK d st K (cviF k (ev st.t x)):=by
 rw[do_pure rfl rfl];simp only[pureF,cviF];cases ev st.t x<;>rfl
theorem do_fad (d g off x):doV P G ⟨d,g,.fad off x⟩ st K=pureK d st K (fadF off (ev st.t x)):=by
 rw[do_pure rfl rfl];simp only[pureF,fadF];cases ev st.t x<;>rfl
theorem do_ext (d g x k):doV P G ⟨d,g,.ext x k⟩ st K=pureK d st K (extF k (ev st.t x)):=by
 rw[do_pure rfl rfl];simp only[pureF,extF];cases ev st.t x<;>rfl
theorem do_len (d g x):doV P G ⟨d,g,.len x⟩ st K=pureK d st K (lenF (ev st.t x)):=by
 rw[do_pure rfl rfl];rfl
theorem do_lens (d g x):doV P G ⟨d,g,.lens x⟩ st K=pureK d st K (lensF (ev st.t x)):=by
 rw[do_pure rfl rfl];rfl
theorem do_eff {o:IOper} (hc:o.isCall=false):doV P G o st K=effK o.d st K (effF o.op o.d st.t st.h):=by
 unfold doV effK
 cases ho:o.op<;>simp only[IOper.isCall,ho,Bool.true_eq_false] at hc ⊢
theorem do_box (d g ty x):doV P G ⟨some d,g,.box ty x⟩ st K=effK (some d) st K (freshK (st.h (nm d)) (if(cellsV (ev st.t x)).all V.one=true then some (.pv (nm d) 0,[(nm d,.var ty (cellsV (ev st.t x)))],[nm d]) else none)):=do_eff rfl
theorem do_alloc (d g ty z):doV P G ⟨some d,g,.alloc ty z⟩ st K=effK (some d) st K (freshK (st.h (nm d)) (some (.pv (nm d) 0,[(nm d,.var ty z)],[nm d]))):=do_eff rfl
theorem do_ld (d g sz ag x):doV P G ⟨d,g,.ld sz ag x⟩ st K=optK (loadF st.h sz ag (ev st.t x)) fun r=>K (st.app d r.1 []) r.2 []:=by
 rw[do_eff rfl];simp only[effK,effF];cases loadF st.h sz ag (ev st.t x)<;>rfl
theorem do_sto (d g sz x y):doV P G ⟨d,g,.sto sz x y⟩ st K=optK (storeF st.h sz (ev st.t x) (ev st.t y)) fun r=>K (st.app d (.tup []) r.1) r.2 (r.1.map Prod.fst):=by
 rw[do_eff rfl];simp only[effK,effF];cases storeF st.h sz (ev st.t x) (ev st.t y)<;>rfl
end
def V.nl0:V→Bool
 | .own ..|.view ..|.pv ..|.pa ..|.agg _|.tup _=>false
 | _=>true
def V.nl1:V→Bool
 | .fn _ caps=>caps.all V.nl0
 | v=>v.nl0
def V.nl2:V→Bool
 | .agg fs=>fs.all V.nl1
 | v=>v.nl1
def V.nl:V→Bool
 | .tup vs=>vs.all V.nl2
 | v=>v.nl2
section
variable {F:Nat→Prop} {f:Nat→Nat} {h h':Nat→Hs} {g:Nat→Nat}
theorem wk0_refl {v:V} (hv:v.nl0=true):Wk0 F f h h' v v:=by
 cases v
 case sl sz rows=>cases rows<;>rfl
 all_goals first|trivial|(simp[V.nl0] at hv;done)|rfl
theorem wk1_refl {v:V} (hv:v.nl1=true):Wk1 F f h h' v v:=by
 cases hf:v.isFn
 ·have h0:v.nl0=true:=by cases v<;>first|exact hv|cases hf
  have h1:=wk0_refl (F:=F) (f:=f) (h:=h) (h':=h') h0
  cases v<;>first|exact h1|cases hf
 ·cases v<;>first|cases hf;done|skip
  rename_i fn caps
  refine⟨rfl,rfl,fun j v v' h1 h2=>?_⟩
  rw[h1] at h2
  cases h2
  exact wk0_refl (List.all_eq_true.1 hv v (List.mem_of_getElem? h1))
theorem wk2_refl {v:V} (hv:v.nl2=true):Wk2 F f h h' v v:=by
 cases hf:v.isAgg
 ·have h0:v.nl1=true:=by cases v<;>first|exact hv|cases hf
  have h1:=wk1_refl (F:=F) (f:=f) (h:=h) (h':=h') h0
  cases v<;>first|exact h1|cases hf
 ·cases v<;>first|cases hf;done|skip
  rename_i fs
  refine⟨rfl,fun j v v' h1 h2=>?_⟩
  rw[h1] at h2
  cases h2
  exact wk1_refl (List.all_eq_true.1 hv v (List.mem_of_getElem? h1))
theorem wk_refl {v:V} (hv:v.nl=true):Wk F f h h' v v:=by
 cases hf:v.isTup
 ·have h0:v.nl2=true:=by cases v<;>first|exact hv|cases hf
  have h1:=wk2_refl (F:=F) (f:=f) (h:=h) (h':=h') h0
  cases v<;>first|exact h1|cases hf
 ·cases v<;>first|cases hf;done|skip
  rename_i fs
  refine⟨rfl,fun j v v' h1 h2=>?_⟩
  rw[h1] at h2
  cases h2
  exact wk2_refl (List.all_eq_true.1 hv v (List.mem_of_getElem? h1))
theorem rn0_nl {v:V} (hv:v.nl0=true):v.rn0 g=v:=by cases v<;>first|rfl|(simp[V.nl0] at hv;done)
theorem map_id' {l:List V} {k:V→V} (h:∀v,v∈l→k v=v):l.map k=l:=by
 induction l with
 | nil=>rfl
 | cons a l ih=>simp only[List.map_cons];rw[h a (by simp),ih fun v hv=>h v (by simp[hv])]
theorem rn1_nl {v:V} (hv:v.nl1=true):v.rn1 g=v:=by
 cases hf:v.isFn
 ·have h0:v.nl0=true:=by cases v<;>first|exact hv|cases hf
  have h1:=rn0_nl (g:=g) h0
  cases v<;>first|exact h1|cases hf
 ·cases v<;>first|cases hf;done|skip
  rename_i fn caps
  simp only[V.rn1];rw[map_id' fun v h=>rn0_nl (List.all_eq_true.1 hv v h)]
theorem rn2_nl {v:V} (hv:v.nl2=true):v.rn2 g=v:=by
 cases hf:v.isAgg
 ·have h0:v.nl1=true:=by cases v<;>first|exact hv|cases hf
  have h1:=rn1_nl (g:=g) h0
  cases v<;>first|exact h1|cases hf
 ·cases v<;>first|cases hf;done|skip
  rename_i fs
  simp only[V.rn2];rw[map_id' fun v h=>rn1_nl (List.all_eq_true.1 hv v h)]
theorem rn_nl {v:V} (hv:v.nl=true):v.rn g=v:=by
 cases hf:v.isTup
 ·have h0:v.nl2=true:=by cases v<;>first|exact hv|cases hf
  have h1:=rn2_nl (g:=g) h0
  cases v<;>first|exact h1|cases hf
 ·cases v<;>first|cases hf;done|skip
  rename_i fs
  simp only[V.rn];rw[map_id' fun v h=>rn2_nl (List.all_eq_true.1 hv v h)]
end
theorem retQ_nl {rs:List RV} {post:V→List Hs→Prop} {st:St} (h:optK (resV st rs) fun v=>v.nl=true∧post v []):retQ rs 0 post .ret st:=by
 obtain⟨v,hv,hn,hp⟩:=optK_some h
 exact⟨v,v,[],id,hv,hp,wk_refl hn,fun c=>by simp only[chH,List.getElem?_nil,Option.getD_none];cases st.h (id c)<;>trivial,fun x y hx=>by simp[chH,Hs.live] at hx,fun i hi=>by omega⟩
section
variable {P:Program} {G:Glob}
theorem callV0 {f:FuncId} {vs:List V} {post:V→List Hs→Prop} (F:FnP P G f 0 [] vs post) {d:Option Nat} {st:St} {K:St→List Nat→List Nat→Prop}
 (hvs:vs.all V.nl=true) (hpost:∀v out,post v out→v.nl=true∧out=[]) (hk:∀v,post v []→K (st.app d v []) [] []):CallV P G f vs d st K:=by
 have hs:=callS F (vs:=vs) (h:=st.h) (ns:=[]) (lent:=[]) (kp:=true) (d:=0) (m:=0) (by simp) rfl List.nodup_nil rfl
  (fun h' _ j v v' h1 h2=>by rw[h1] at h2;cases h2;exact wk_refl (List.all_eq_true.1 hvs v (List.mem_of_getElem? h1))) (fun h' _ i s hs=>by simp at hs) (fun c hc=>by cases hc)
  (fun res out hp=>by obtain⟨_,rfl⟩:=hpost res out hp;exact⟨Nat.le_refl _,Nat.le_refl _,.inl rfl,fun i hi=>by omega⟩) (fun i hi=>by omega)
 refine⟨_,_,_,hs,fun v up hp=>?_⟩
 obtain⟨res,out,hp,rfl,rfl⟩:=hp
 obtain⟨hn,rfl⟩:=hpost res out hp
 rw[rn_nl hn]
 exact hk res hp
end
theorem getL_hit (k:Nat) (v:V) (l:List (Nat×V)):getL ((k,v)::l) k=v:=by simp[getL]
theorem getL_miss {k x:Nat} (v:V) (l:List (Nat×V)) (h:x≠k):getL ((k,v)::l) x=getL l x:=by simp[getL,h]
theorem getH_nil (x:Nat):getH [] x=.fresh:=of_eq_true (eq_self _)
theorem getH_hit (k:Nat) (v:Hs) (l:List (Nat×Hs)):getH ((k,v)::l) k=v:=by simp[getH]
theorem getH_miss {k x:Nat} (v:Hs) (l:List (Nat×Hs)) (h:x≠k):getH ((k,v)::l) x=getH l x:=by simp[getH,h]
theorem ev_t (t:Nat→V) (n:Nat):ev t (.t n)=t n:=of_eq_true (eq_self _)
theorem ev_c (t:Nat→V) (v:V):ev t (.c v)=v:=of_eq_true (eq_self _)
def gdV (b:Bool):V→Option Bool
 | .bool c=>some (c==b)
 | .tup []=>some false
 | _=>none
theorem gd_n (n:Nat) (b:Bool) (t:Nat→V):gd (some (n,b)) t=gdV b (t n):=by
 simp only[gd]
 generalize t n=x
 unfold gdV
 cases x<;>first|rfl|(rename_i l;cases l<;>rfl)
theorem gdV_t (c:Bool):gdV true (.bool c)=some c:=by cases c<;>rfl
theorem gdV_f (c:Bool):gdV false (.bool c)=some (!c):=by cases c<;>rfl
theorem gdV_s (b:Bool):gdV b (.tup [])=some false:=of_eq_true (eq_self _)
theorem pick_b (c:Bool) (a b:V):pickF (.bool c) a b=some (bif c then a else b):=of_eq_true (eq_self _)
theorem argL_nil (k:Nat):argL k []=[]:=of_eq_true (eq_self _)
theorem argL_cons (k:Nat) (v:V) (vs:List V):argL k (v::vs)=(k,v)::argL (k+1) vs:=of_eq_true (eq_self _)
theorem argH_nil (k:Nat):argH k []=[]:=of_eq_true (eq_self _)
theorem argH_cons (k:Nat) (v:Hs) (vs:List Hs):argH k (v::vs)=(k,v)::argH (k+1) vs:=of_eq_true (eq_self _)
theorem nm_eq (d:Nat):nm d=1000+d:=of_eq_true (eq_self _)
theorem fresh_k {α:Type} (x:Option α):freshK .fresh x=x:=of_eq_true (eq_self _)
def ldVar (sz:Nat) (agg:Bool) (c o:Nat):Hs→Option (V×List Nat)
 | .var _ row=>bif agg then(subV row o sz).map fun r=>(.agg r,[c]) else(row[o]?).map fun v=>(v,[c])
 | _=>none
def ldArr (sz:Nat) (agg:Bool) (c i o:Nat):Hs→Option (V×List Nat)
 | .arr _ _ rows=>bif agg then(subV (rows.getD i []) o sz).map fun r=>(.agg r,[c]) else((rows.getD i [])[o]?).map fun v=>(v,[c])
 | _=>none
def ldRow (sz:Nat) (agg:Bool) (o:Nat) (row:List V):Option (V×List Nat):=bif agg then(subV row o sz).map fun r=>(.agg r,[]) else(row[o]?).map fun v=>(v,[])
theorem ld_pv (h:Nat→Hs) (sz agg c o):loadF h sz agg (.pv c o)=ldVar sz agg c o (h c):=by
 simp only[loadF,ldVar];cases h c<;>rfl
theorem ld_pa (h:Nat→Hs) (sz agg c i o):loadF h sz agg (.pa c i o)=ldArr sz agg c i o (h c):=by
 simp only[loadF,ldArr];cases h c<;>rfl
theorem ld_ip (h:Nat→Hs) (sz agg row o):loadF h sz agg (.iptr row o)=ldRow sz agg o row:=of_eq_true (eq_self _)
def ldA (c:List Nat) (x:Option (List V)):Option (V×List Nat):=x.map fun r=>(.agg r,c)
def ld1 (c:List Nat) (x:Option V):Option (V×List Nat):=x.map fun r=>(r,c)
theorem ldVar_t (ty row sz c o):ldVar sz true c o (.var ty row)=ldA [c] (subV row o sz):=of_eq_true (eq_self _)
theorem ldVar_f (ty row sz c o):ldVar sz false c o (.var ty row)=ld1 [c] row[o]?:=of_eq_true (eq_self _)
theorem ldArr_t (ty s rows sz c i o):ldArr sz true c i o (.arr ty s rows)=ldA [c] (subV (rows.getD i []) o sz):=of_eq_true (eq_self _)
theorem ldArr_f (ty s rows sz c i o):ldArr sz false c i o (.arr ty s rows)=ld1 [c] (rows.getD i [])[o]?:=of_eq_true (eq_self _)
theorem ldRow_t (row sz o):ldRow sz true o row=ldA [] (subV row o sz):=of_eq_true (eq_self _)
theorem ldRow_f (row sz o):ldRow sz false o row=ld1 [] row[o]?:=of_eq_true (eq_self _)
theorem ldA_s (c x):ldA c (some x)=some (.agg x,c):=of_eq_true (eq_self _)
theorem ld1_s (c x):ld1 c (some x)=some (x,c):=of_eq_true (eq_self _)
theorem sub_ok {row:List V} {o sz:Nat} (h:o+sz≤row.length):subV row o sz=some ((row.drop o).take sz):=by simp[subV,h]
def stVar (sz c o:Nat) (cs:List V):Hs→Option (List (Nat×Hs)×List Nat)
 | .var ty row=>if cs.all V.one=true∧o+sz≤row.length then some ([(c,.var ty (setR row o cs))],[c]) else none
 | _=>none
def stArr (sz c i o:Nat) (cs:List V):Hs→Option (List (Nat×Hs)×List Nat)
 | .arr ty s rows=>if cs.all V.closed=true∧o+sz≤s then some ([(c,.arr ty s (rows.set i (setR (rows.getD i []) o cs)))],[c]) else none
 | _=>none
theorem st_pv (h:Nat→Hs) (sz c o x) (hl:(cellsV x).length=sz):storeF h sz (.pv c o) x=stVar sz c o (cellsV x) (h c):=by
 simp only[storeF,stVar,hl,if_true];cases h c<;>rfl
theorem st_pa (h:Nat→Hs) (sz c i o x) (hl:(cellsV x).length=sz):storeF h sz (.pa c i o) x=stArr sz c i o (cellsV x) (h c):=by
 simp only[storeF,stArr,hl,if_true];cases h c<;>rfl
theorem stVar_v (sz c o cs ty row) (h1:cs.all V.one=true) (h2:o+sz≤row.length):stVar sz c o cs (.var ty row)=some ([(c,.var ty (setR row o cs))],[c]):=by
 simp only[stVar,h1,h2,and_self,if_true]
theorem stArr_a (sz c i o cs ty s rows) (h1:cs.all V.closed=true) (h2:o+sz≤s):stArr sz c i o cs (.arr ty s rows)=some ([(c,.arr ty s (rows.set i (setR (rows.getD i []) o cs)))],[c]):=by
 simp only[stArr,h1,h2,and_self,if_true]
theorem cells_agg (fs:List V):cellsV (.agg fs)=fs:=of_eq_true (eq_self _)
theorem cells_int (k n):cellsV (.int k n)=[.int k n]:=of_eq_true (eq_self _)
theorem cells_bool (b):cellsV (.bool b)=[.bool b]:=of_eq_true (eq_self _)
theorem cells_str (s):cellsV (.str s)=[.str s]:=of_eq_true (eq_self _)
theorem cells_own (c n):cellsV (.own c n)=[.own c n]:=of_eq_true (eq_self _)
theorem cells_sl (c n):cellsV (.sl c n)=[.sl c n]:=of_eq_true (eq_self _)
theorem cells_nils:cellsV .nils=[.nils]:=of_eq_true (eq_self _)
theorem effK_s {st:St} {K:St→List Nat→List Nat→Prop} (d v up tc):effK d st K (some (v,up,tc))=K (st.app d v up) tc (up.map Prod.fst):=of_eq_true (eq_self _)
theorem fad_pv (off c o):fadF off (.pv c o)=some (.pv c (o+off)):=of_eq_true (eq_self _)
theorem fad_pa (off c i o):fadF off (.pa c i o)=some (.pa c i (o+off)):=of_eq_true (eq_self _)
theorem fad_ip (off r o):fadF off (.iptr r o)=some (.iptr r (o+off)):=of_eq_true (eq_self _)
theorem nilc_pv (c o):nilcF (.pv c o)=some (.pv c o):=of_eq_true (eq_self _)
theorem nilc_pa (c i o):nilcF (.pa c i o)=some (.pa c i o):=of_eq_true (eq_self _)
theorem nilc_ip (r o):nilcF (.iptr r o)=some (.iptr r o):=of_eq_true (eq_self _)
theorem not_b (b):notF (.bool b)=some (.bool (!b)):=of_eq_true (eq_self _)
theorem ext_t (k vs):extF k (.tup vs)=vs[k]?:=of_eq_true (eq_self _)
def FnR (P:Program) (G:Glob) (f:FuncId) (vs:List V) (v:V):Prop:=FnP P G f 0 [] vs (fun r o=>r=v∧o=[])
section
variable {P:Program} {G:Glob}
theorem wpI_mono (pin:Nat):∀(ic:IC) (Q Q':Ex→St→Prop),(∀e s,Q e s→Q' e s)→∀st,wpI P G pin ic Q st→wpI P G pin ic Q' st:=by
 have hrunT:∀(os:List IOper) (K K':St→Prop),(∀s,K s→K' s)→∀st,runT P G os st K→runT P G os st K':=by
  intro os K K' hk
  induction os with
  | nil=>exact fun st h=>hk st h
  | cons o os ih=>exact fun st h=>stepV_mono (fun s _ _ h=>ih s h) h
 have hrunD:∀(bef:List Nat) (os:List (Nat×IOper)) (K K':St→Prop),(∀s,K s→K' s)→∀st tr,runD P G bef os st tr K→runD P G bef os st tr K':=by
  intro bef os K K' hk
  induction os with
  | nil=>exact fun st tr h=>hk st h
  | cons o os ih=>exact fun st tr h=>stepV_mono (fun s _ _ h=>⟨h.1,ih s _ h.2⟩) h
 have hexN:∀(K K':St→Prop) (Q Q':Ex→St→Prop),(∀s,K s→K' s)→(∀e s,Q e s→Q' e s)→∀e s,exN K Q e s→exN K' Q' e s:=by
  intro K K' Q Q' hk hq e s h
  cases e
  ·exact hk s h
  ·exact hq _ s h
  ·exact hq _ s h
 intro ic
 induction ic with
 | skip=>exact fun Q Q' hq st h=>hq _ st h
 | reg ops=>exact fun Q Q' hq st h=>hrunT ops _ _ (hq _) st h
 | drw bef ops=>exact fun Q Q' hq st h=>hrunD bef ops _ _ (hq _) st _ h
 | seq a b iha ihb=>exact fun Q Q' hq st h=>iha _ _ (hexN _ _ _ _ (ihb _ _ hq) hq) st h
 | cond x a b iha ihb =>
   intro Q Q' hq st h
   simp only[wpI] at h ⊢
   unfold condK at h ⊢
   split at h
   ·exact iha _ _ hq st h
   ·exact ihb _ _ hq st h
   ·exact h
 | block i b ih =>
   intro Q Q' hq st h
   refine ih _ _ (fun e s hs=>?_) st h
   cases e
   ·exact hq _ s hs
   ·simp only[exB] at hs ⊢
    split
    ·rename_i hi;rw[if_pos hi] at hs;exact hq _ s hs
    ·rename_i hi;rw[if_neg hi] at hs;exact hq _ s hs
   ·exact hq _ s hs
 | loop b ih =>
   intro Q Q' hq st ⟨I,k,s0,hl,hI,hr⟩
   exact⟨I,k,s0,hl,hI,fun k s hs=>ih _ _ (hexN _ _ _ _ (fun _ h=>h) hq) s (hr k s hs)⟩
 | exit i=>exact fun Q Q' hq st h=>hq _ st h
 | ret=>exact fun Q Q' hq st h=>hq _ st h
theorem callR {f:FuncId} {vs:List V} {v:V} (F:FnR P G f vs v) {d:Option Nat} {st:St} {K:St→List Nat→List Nat→Prop} (hvs:vs.all V.nl=true) (hv:v.nl=true) (hk:K (st.app d v []) [] []) :
 CallV P G f vs d st K :=
 callV0 F hvs (fun r o ⟨h1,h2⟩=>⟨by rw[h1];exact hv,h2⟩) (fun r ⟨h1,_⟩=>by rw[h1];exact hk)
end
def getN:List (Nat×Nat)→Nat→Nat
 | [],x=>x
 | (k,v)::l,x=>if x=k then v else getN l x
section
variable {F F':Nat→Prop} {f:Nat→Nat} {h h1 h':Nat→Hs}
theorem FzV.congr {v v':V} (hF:∀c,F c→F' c∧h1 c=h c) (hw:FzV F h v v'):FzV F' h1 v v':=by
 cases v<;>cases v'<;>simp only[FzV] at hw ⊢
 ·obtain⟨a,b,c⟩:=hw;exact⟨by rw[(hF _ c).2];exact a,b,(hF _ c).1⟩
 ·obtain⟨a,b,c⟩:=hw;exact⟨by rw[(hF _ c).2];exact a,b,(hF _ c).1⟩
 ·obtain⟨a,b,c,d⟩:=hw;exact⟨a,by rw[(hF _ d).2];exact b,c,(hF _ d).1⟩
theorem Wk0.congr {v v':V} (hF:∀c,F c→F' c∧h1 c=h c) (hw:Wk0 F f h h' v v'):Wk0 F' f h1 h' v v':=by
 have fz:FzV F h v v'→FzV F' h1 v v':=FzV.congr hF
 cases v<;>cases v'<;>first|exact hw|exact fz hw|(rename_i a b;cases b<;>first|exact hw|exact fz hw)|(rename_i a;cases a<;>first|exact hw|exact fz hw)
theorem Wk1.congr {v v':V} (hF:∀c,F c→F' c∧h1 c=h c) (hw:Wk1 F f h h' v v'):Wk1 F' f h1 h' v v':=by
 have w0:Wk0 F f h h' v v'→Wk0 F' f h1 h' v v':=Wk0.congr hF
 cases v<;>first|exact w0 hw|skip
 cases v'<;>first|exact w0 hw|skip
 exact⟨hw.1,hw.2.1,fun j v v' a b=>(hw.2.2 j v v' a b).congr hF⟩
theorem Wk2.congr {v v':V} (hF:∀c,F c→F' c∧h1 c=h c) (hw:Wk2 F f h h' v v'):Wk2 F' f h1 h' v v':=by
 have w0:Wk1 F f h h' v v'→Wk1 F' f h1 h' v v':=Wk1.congr hF
 cases v<;>first|exact w0 hw|skip
 cases v'<;>first|exact w0 hw|skip
 exact⟨hw.1,fun j v v' a b=>(hw.2 j v v' a b).congr hF⟩
theorem Wk.congr {v v':V} (hF:∀c,F c→F' c∧h1 c=h c) (hw:Wk F f h h' v v'):Wk F' f h1 h' v v':=by
 have w0:Wk2 F f h h' v v'→Wk2 F' f h1 h' v v':=Wk2.congr hF
 cases v<;>first|exact w0 hw|skip
 cases v'<;>first|exact w0 hw|skip
 exact⟨hw.1,fun j v v' a b=>(hw.2 j v v' a b).congr hF⟩
theorem WkH.congr {a b:Hs} (hF:∀c,F c→F' c∧h1 c=h c) (hw:WkH F f h h' a b):WkH F' f h1 h' a b:=by
 cases b<;>cases a<;>simp only[WkH] at hw ⊢<;>first|exact hw|skip
 exact⟨hw.1,hw.2.1,fun j v v' x y=>(hw.2.2 j v v' x y).congr hF⟩
def WkL (R:V→V→Prop):List V→List V→Prop
 | [],[]=>True
 | v::vs,v'::vs'=>R v v'∧WkL R vs vs'
 | _,_=>False
theorem WkL.spec {R:V→V→Prop}:∀ {vs vs':List V},WkL R vs vs'→vs'.length=vs.length∧∀(j:Nat) v v',vs[j]?=some v→vs'[j]?=some v'→R v v'
 | [],[],_=>⟨rfl,fun j v v' h=>by simp at h⟩
 | v::vs,v'::vs',⟨h1,h2⟩=>by
   obtain⟨a,b⟩:=h2.spec
   refine⟨by simp[a],fun j x x' hx hx'=>?_⟩
   cases j with
   | zero=>simp at hx hx';subst hx hx';exact h1
   | succ j=>exact b j x x' (by simpa using hx) (by simpa using hx')
theorem wk1_fn {g:Nat} {a b:List V} (h:WkL (Wk0 F f h1 h') a b):Wk1 F f h1 h' (.fn g a) (.fn g b):=⟨rfl,h.spec⟩
theorem wkh_var {ty:Nat} {a b:List V} (h:WkL (Wk1 F f h1 h') a b):WkH F f h1 h' (.var ty a) (.var ty b):=⟨rfl,h.spec⟩
theorem wkh_fresh {a:Hs}:WkH F f h1 h' a .fresh:=by cases a<;>trivial
theorem wkh_dead {a:Hs} (ha:a≠.fresh):WkH F f h1 h' a .dead:=by cases a<;>exact ha
def V.bot:V→Bool
 | .tup _|.agg _|.fn ..=>false
 | _=>true
theorem wk_bot {v v':V} (hv:v.bot=true):Wk F f h1 h' v v'=Wk0 F f h1 h' v v':=by cases v<;>first|rfl|cases hv
theorem wk2_bot {v v':V} (hv:v.bot=true):Wk2 F f h1 h' v v'=Wk0 F f h1 h' v v':=by cases v<;>first|rfl|cases hv
theorem wk1_bot {v v':V} (hv:v.bot=true):Wk1 F f h1 h' v v'=Wk0 F f h1 h' v v':=by cases v<;>first|rfl|cases hv
theorem wk_undef {v:V}:Wk F f h1 h' v .undef=True:=by cases v<;>rfl
theorem wk_tup_e {a b:List V}:Wk F f h1 h' (.tup a) (.tup b)=WkL (Wk2 F f h1 h') a b:=by
 refine propext ⟨fun hw=>?_,fun hw=>hw.spec⟩
 obtain⟨hl,hw⟩:=hw
 induction a generalizing b with
 | nil=>cases b<;>first|trivial|cases hl
 | cons x a ih =>
   cases b with
   | nil=>cases hl
   | cons y b=>exact⟨hw 0 x y rfl rfl,ih (by simpa using hl) fun j v v' h1 h2=>hw (j+1) v v' (by simpa using h1) (by simpa using h2)⟩
theorem wk2_agg_e {a b:List V}:Wk2 F f h1 h' (.agg a) (.agg b)=WkL (Wk1 F f h1 h') a b:=by
 refine propext ⟨fun hw=>?_,fun hw=>hw.spec⟩
 obtain⟨hl,hw⟩:=hw
 induction a generalizing b with
 | nil=>cases b<;>first|trivial|cases hl
 | cons x a ih =>
   cases b with
   | nil=>cases hl
   | cons y b=>exact⟨hw 0 x y rfl rfl,ih (by simpa using hl) fun j v v' h1 h2=>hw (j+1) v v' (by simpa using h1) (by simpa using h2)⟩
theorem wk_agg_e {a b:List V}:Wk F f h1 h' (.agg a) (.agg b)=WkL (Wk1 F f h1 h') a b:=wk2_agg_e
theorem wk1_fn_e {g:Nat} {a b:List V} (h:WkL (Wk0 F f h1 h') a b):Wk1 F f h1 h' (.fn g a) (.fn g b)=True:=eq_true (wk1_fn h)
theorem wk2_fn_e {g:Nat} {a b:List V} (h:WkL (Wk0 F f h1 h') a b):Wk2 F f h1 h' (.fn g a) (.fn g b)=True:=eq_true (wk1_fn h)
theorem wk_fn_e {g:Nat} {a b:List V} (h:WkL (Wk0 F f h1 h') a b):Wk F f h1 h' (.fn g a) (.fn g b)=True:=eq_true (wk1_fn h)
theorem wkl_nil {R:V→V→Prop}:WkL R [] []=True:=of_eq_true (eq_self _)
theorem wkl_cons {R:V→V→Prop} {v v':V} {vs vs':List V}:WkL R (v::vs) (v'::vs')=(R v v'∧WkL R vs vs'):=of_eq_true (eq_self _)
theorem wkh_var_e {ty:Nat} {a b:List V}:WkH F f h1 h' (.var ty a) (.var ty b)=WkL (Wk1 F f h1 h') a b:=by
 refine propext ⟨fun hw=>?_,fun hw=>wkh_var hw⟩
 have:=wk2_agg_e (F:=F) (f:=f) (h1:=h1) (h':=h') (a:=a) (b:=b)
 rw[←this]
 exact hw.2
theorem wkh_arr_e {ty sz:Nat} {a b:List (List V)}:WkH F f h1 h' (.arr ty sz a) (.arr ty sz b)=(b=a):=by
 simp[WkH]
theorem wkh_fresh_e {a:Hs}:WkH F f h1 h' a .fresh=True:=eq_true wkh_fresh
theorem wkh_dead_v {ty:Nat} {row:List V}:WkH F f h1 h' (.var ty row) .dead=True:=eq_true (wkh_dead (by simp))
theorem wkh_dead_a {ty sz:Nat} {row:List (List V)}:WkH F f h1 h' (.arr ty sz row) .dead=True:=eq_true (wkh_dead (by simp))
theorem wkh_dead_d:WkH F f h1 h' .dead .dead=True:=eq_true (wkh_dead (by simp))
theorem wk0_undef {v:V}:Wk0 F f h1 h' v .undef=True:=by cases v<;>rfl
theorem wk0_int {k k':IntKind} {a b:Int}:Wk0 F f h1 h' (.int k a) (.int k' b)=(k'=k∧b=a):=by simp[Wk0]
theorem wk0_bool {a b:Bool}:Wk0 F f h1 h' (.bool a) (.bool b)=(b=a):=by simp[Wk0]
theorem wk0_str {a b:List UInt8}:Wk0 F f h1 h' (.str a) (.str b)=(b=a):=by simp[Wk0]
theorem wk0_nils:Wk0 F f h1 h' .nils .nils=True:=by simp[Wk0]
theorem wk0_nils_sl {sz:Nat} {r:List (List V)}:Wk0 F f h1 h' .nils (.sl sz r)=(r=[]):=by cases r<;>simp[Wk0]
theorem wk0_nilp:Wk0 F f h1 h' .nilp .nilp=True:=by simp[Wk0]
theorem wk0_nile:Wk0 F f h1 h' .nile .nile=True:=by simp[Wk0]
theorem wk0_erre:Wk0 F f h1 h' .erre .erre=True:=by simp[Wk0]
theorem wk0_sl {s s':Nat} {a b:List (List V)}:Wk0 F f h1 h' (.sl s a) (.sl s' b)=(s'=s∧b=a):=by cases b<;>simp[Wk0]
theorem wk0_iptr {o o':Nat} {a b:List V}:Wk0 F f h1 h' (.iptr a o) (.iptr b o')=(b=a∧o'=o):=by simp[Wk0]
theorem wk0_own {c k c' k':Nat}:Wk0 F f h1 h' (.own c k) (.own c' k')=(f c'=c∧k'=k∧h' c'≠.fresh):=of_eq_true (eq_self _)
theorem wk0_view {c o k c' o' k':Nat}:Wk0 F f h1 h' (.view c o k) (.view c' o' k')=(f c'=c∧o'=o∧k'=k∧h' c'≠.fresh):=of_eq_true (eq_self _)
theorem wk0_pv {c k c' k':Nat}:Wk0 F f h1 h' (.pv c k) (.pv c' k')=(f c'=c∧k'=k∧h' c'≠.fresh):=of_eq_true (eq_self _)
theorem wk0_pa {c o k c' o' k':Nat}:Wk0 F f h1 h' (.pa c o k) (.pa c' o' k')=(f c'=c∧o'=o∧k'=k∧h' c'≠.fresh):=of_eq_true (eq_self _)
def fzA:Hs→Nat→List (List V)→Prop
 | .arr _ sz rows,sz',rows'=>sz'=sz∧rows'=rows
 | _,_,_=>False
theorem fzA_a {ty sz sz':Nat} {rows rows':List (List V)}:fzA (.arr ty sz rows) sz' rows'=(sz'=sz∧rows'=rows):=of_eq_true (eq_self _)
def fzW:Hs→Nat→Nat→Nat→List (List V)→Prop
 | .arr _ sz rows,o,k,sz',rows'=>sz'=sz∧rows'=(rows.drop o).take k
 | _,_,_,_,_=>False
theorem fzW_a {ty sz sz' o k:Nat} {rows rows':List (List V)}:fzW (.arr ty sz rows) o k sz' rows'=(sz'=sz∧rows'=(rows.drop o).take k):=of_eq_true (eq_self _)
def fzP:Hs→List V→Prop
 | .var _ row,row'=>row'=row
 | _,_=>False
theorem fzP_v {ty:Nat} {row row':List V}:fzP (.var ty row) row'=(row'=row):=of_eq_true (eq_self _)
theorem wk0_own_sl {c k sz:Nat} {rows:List (List V)}:Wk0 F f h1 h' (.own c k) (.sl sz rows)=(fzA (h1 c) sz rows∧rows.length=k∧F c):=by
 refine propext ⟨fun hw=>?_,fun⟨a,b,d⟩=>?_⟩
 ·have hw:FzV F h1 (.own c k) (.sl sz rows):=by cases rows<;>exact hw
  obtain⟨⟨ty,a⟩,b,d⟩:=hw
  exact⟨by rw[a];exact⟨rfl,rfl⟩,b,d⟩
 ·have:FzV F h1 (.own c k) (.sl sz rows):=by
   cases hc:h1 c<;>rw[hc] at a<;>simp only[fzA] at a
   obtain⟨rfl,rfl⟩:=a
   exact⟨⟨_,hc⟩,b,d⟩
  cases rows<;>exact this
theorem wk0_view_sl {c o k sz:Nat} {rows:List (List V)}:Wk0 F f h1 h' (.view c o k) (.sl sz rows)=(fzW (h1 c) o k sz rows∧rows.length=k∧F c):=by
 refine propext ⟨fun hw=>?_,fun⟨a,b,d⟩=>?_⟩
 ·have hw:FzV F h1 (.view c o k) (.sl sz rows):=by cases rows<;>exact hw
  obtain⟨⟨ty,all,a,a2⟩,b,d⟩:=hw
  exact⟨by rw[a];exact⟨rfl,a2⟩,b,d⟩
 ·have:FzV F h1 (.view c o k) (.sl sz rows):=by
   cases hc:h1 c<;>rw[hc] at a<;>simp only[fzW] at a
   obtain⟨rfl,a2⟩:=a
   exact⟨⟨_,_,hc,a2⟩,b,d⟩
  cases rows<;>exact this
theorem wk0_pv_iptr {c o o':Nat} {row:List V}:Wk0 F f h1 h' (.pv c o) (.iptr row o')=(o'=o∧fzP (h1 c) row∧row.all V.closed=true∧F c):=by
 refine propext ⟨fun hw=>?_,fun⟨a,b,d,e⟩=>?_⟩
 ·obtain⟨a,⟨ty,b⟩,d,e⟩:=hw
  exact⟨a,by rw[b];rfl,d,e⟩
 ·have:FzV F h1 (.pv c o) (.iptr row o'):=by
   cases hc:h1 c<;>rw[hc] at b<;>simp only[fzP] at b
   subst b
   exact⟨a,⟨_,hc⟩,d,e⟩
  exact this
end
def NsL (R:Nat→Hs→Prop):List Nat→List Hs→Prop
 | [],[]=>True
 | n::ns,s::cs=>R n s∧NsL R ns cs
 | _,_=>False
theorem nsl_nil {R:Nat→Hs→Prop}:NsL R [] []=True:=of_eq_true (eq_self _)
theorem nsl_cons {R:Nat→Hs→Prop} {n s ns cs}:NsL R (n::ns) (s::cs)=(R n s∧NsL R ns cs):=of_eq_true (eq_self _)
theorem NsL.spec {R:Nat→Hs→Prop}:∀ {ns:List Nat} {cs:List Hs},NsL R ns cs→ns.length=cs.length∧∀(i:Nat) s,cs[i]?=some s→R (nsF ns i) s
 | [],[],_=>⟨rfl,fun i s h=>by simp at h⟩
 | n::ns,s::cs,⟨h1,h2⟩=>by
   obtain⟨a,b⟩:=h2.spec
   refine⟨by simp[a],fun i s' hs=>?_⟩
   cases i with
   | zero=>simp at hs;subst hs;simpa[nsF] using h1
   | succ i=>have:=b i s' (by simpa using hs);simpa[nsF] using this
def WkS (R:V→V→Prop) (t:Nat→V):List (Nat×V)→Prop
 | []=>True
 | (k,v)::l=>R (t k) v∧WkS R t l
def WkN (R:Hs→Hs→Prop) (g:Nat→Hs):List (Nat×Hs)→Prop
 | []=>True
 | (k,v)::l=>R (g k) v∧WkN R g l
def nonB (fs:List (Nat×Nat)):List (Nat×Hs)→Nat→Bool
 | [],_=>true
 | (k,_)::m,c=>(getN fs k != c)&&nonB fs m c
def pinOk (fs:List (Nat×Nat)) (h:Nat→Hs):Nat→Prop
 | 0=>True
 | n+1=>pinOk fs h n∧getN fs n=n∧h n≠.fresh
theorem WkS_nil {R:V→V→Prop} {t:Nat→V}:WkS R t []=True:=of_eq_true (eq_self _)
theorem WkS_cons {R:V→V→Prop} {t:Nat→V} {k:Nat} {v:V} {l:List (Nat×V)}:WkS R t ((k,v)::l)=(R (t k) v∧WkS R t l):=of_eq_true (eq_self _)
theorem WkN_nil {R:Hs→Hs→Prop} {t:Nat→Hs}:WkN R t []=True:=of_eq_true (eq_self _)
theorem WkN_cons {R:Hs→Hs→Prop} {t:Nat→Hs} {k:Nat} {v:Hs} {l:List (Nat×Hs)}:WkN R t ((k,v)::l)=(R (t k) v∧WkN R t l):=of_eq_true (eq_self _)
theorem nonB_nil {fs:List (Nat×Nat)} {c:Nat}:nonB fs [] c=true:=of_eq_true (eq_self _)
theorem nonB_cons {fs:List (Nat×Nat)} {c k:Nat} {s:Hs} {m:List (Nat×Hs)}:nonB fs ((k,s)::m) c=((getN fs k != c)&&nonB fs m c):=of_eq_true (eq_self _)
theorem getN_nil (x:Nat):getN [] x=x:=of_eq_true (eq_self _)
theorem getN_hit (k:Nat) (v:Nat) (l:List (Nat×Nat)):getN ((k,v)::l) k=v:=by simp[getN]
theorem getN_miss {k x:Nat} (v:Nat) (l:List (Nat×Nat)) (h:x≠k):getN ((k,v)::l) x=getN l x:=by simp[getN,h]
theorem pinOk_0 {fs:List (Nat×Nat)} {h:Nat→Hs}:pinOk fs h 0=True:=of_eq_true (eq_self _)
theorem pinOk_s {fs:List (Nat×Nat)} {h:Nat→Hs} {n:Nat}:pinOk fs h (n+1)=(pinOk fs h n∧getN fs n=n∧h n≠.fresh):=of_eq_true (eq_self _)
theorem WkS.all {R:V→V→Prop} (hu:∀v,R v .undef) {t:Nat→V}:∀ {l:List (Nat×V)},WkS R t l→∀d,R (t d) (getL l d)
 | [],_,d=>hu _
 | (k,v)::l,h,d=>by
   simp only[getL]
   split
   ·rename_i e;subst e;exact h.1
   ·exact h.2.all hu d
theorem WkN.all {R:Hs→Hs→Prop} (hu:∀v,R v .fresh) {fs:List (Nat×Nat)} {g:Nat→Hs}:∀ {l:List (Nat×Hs)},WkN R (fun c=>g (getN fs c)) l→∀d,R (g (getN fs d)) (getH l d)
 | [],_,d=>hu _
 | (k,v)::l,h,d=>by
   simp only[getH]
   split
   ·rename_i e;subst e;exact h.1
   ·exact h.2.all hu d
theorem getH_mem:∀ {m:List (Nat×Hs)} {c:Nat},getH m c≠.fresh→∃s,(c,s)∈m
 | [],c,h=>absurd rfl h
 | (k,s)::m,c,h=>by
   simp only[getH] at h
   split at h
   ·rename_i e;subst e;exact⟨s,by simp⟩
   ·obtain⟨s',hs⟩:=getH_mem h;exact⟨s',by simp[hs]⟩
theorem nonB_spec {fs:List (Nat×Nat)} {c:Nat}:∀ {m:List (Nat×Hs)},nonB fs m c=true→∀k s,(k,s)∈m→getN fs k≠c
 | [],_,k,s,h=>by cases h
 | (k0,s0)::m,hb,k,s,h=>by
   simp only[nonB,Bool.and_eq_true,bne_iff_ne,ne_eq] at hb
   rcases List.mem_cons.1 h with h|h
   ·cases h;exact hb.1
   ·exact nonB_spec hb.2 k s h
theorem nonB_noN {fs:List (Nat×Nat)} {c:Nat} {m:List (Nat×Hs)} (h:nonB fs m c=true):NoN (getN fs) (getH m) c:=fun c' hl=>by
 obtain⟨s,hs⟩:=getH_mem (live_fresh hl)
 exact nonB_spec h _ _ hs
theorem inj_of_nodup {fs:List (Nat×Nat)} {m:List (Nat×Hs)} (h:(m.map fun p=>getN fs p.1).Nodup):∀x y,(getH m x).live=true→(getH m y).live=true→getN fs x=getN fs y→x=y:=by
 have key:∀(m:List (Nat×Hs)),(m.map fun p=>getN fs p.1).Nodup→∀x y s s',(x,s)∈m→(y,s')∈m→getN fs x=getN fs y→x=y:=by
  intro m
  induction m with
  | nil=>intro _ x y s s' hx;cases hx
  | cons a m ih =>
    intro hn x y s s' hx hy he
    simp only[List.map_cons,List.nodup_cons,List.mem_map,not_exists,not_and] at hn
    rcases List.mem_cons.1 hx with hx1|hx1<;>rcases List.mem_cons.1 hy with hy1|hy1
    ·rw[←hx1] at hy1;cases hy1;rfl
    ·subst hx1;exact absurd he.symm (hn.1 (y,s') hy1)
    ·subst hy1;exact absurd he (hn.1 (x,s) hx1)
    ·exact ih hn.2 x y s s' hx1 hy1 he
 intro x y hx hy he
 obtain⟨s,hs⟩:=getH_mem (live_fresh hx)
 obtain⟨s',hs'⟩:=getH_mem (live_fresh hy)
 exact key m h x y s s' hs hs' he
theorem pinOk.spec {fs:List (Nat×Nat)} {h:Nat→Hs}:∀ {n:Nat},pinOk fs h n→∀i,i<n→getN fs i=i∧h i≠.fresh
 | 0,_,i,hi=>by omega
 | n+1,hp,i,hi=>by
   by_cases e:i=n
   ·subst e;exact hp.2
   ·exact hp.1.spec i (by omega)
theorem leN {G:Glob} {pin:Nat} {l1 l2:List (Nat×V)} {m1 m2:List (Nat×Hs)} (fs:List (Nat×Nat))
 (ht:WkS (Wk (fun c=>nonB fs m2 c=true) (getN fs) (getH m1) (getH m2)) (getL l1) l2)
 (hh:WkN (WkH (fun c=>nonB fs m2 c=true) (getN fs) (getH m1) (getH m2)) (fun c=>getH m1 (getN fs c)) m2)
 (hi:(m2.map fun p=>getN fs p.1).Nodup) (hp:pinOk fs (getH m2) pin):St.le G pin ⟨getL l1,getH m1⟩ ⟨getL l2,getH m2⟩:=by
 have hF:∀c,nonB fs m2 c=true→NoN (getN fs) (getH m2) c∧getH m1 c=getH m1 c:=fun c hc=>⟨nonB_noN hc,rfl⟩
 refine LeR.le (f:=getN fs) ⟨fun d=>?_,fun c=>?_,inj_of_nodup hi,hp.spec⟩
 ·exact(WkS.all (fun v=>by rw[wk_undef];trivial) ht d).congr hF
 ·exact(WkN.all (fun v=>wkh_fresh) hh c).congr hF
section
variable {P:Program} {G:Glob}
theorem loopN {α:Type} {pin:Nat} {ic:IC} {Q:Ex→St→Prop} {st:St} (S:α→St) (M:α→Nat) (Inv:α→Prop) (a0:α) (h0:st.le G pin (S a0)) (hi:Inv a0)
 (hr:∀a,Inv a→wpI P G pin ic (exN (fun s'=>∃a',M a'<M a∧Inv a'∧s'.le G pin (S a')) Q) (S a)):LoopI G pin (wpI P G pin ic) Q st:=by
 refine⟨fun k s=>∃a,M a=k∧Inv a∧s=S a,M a0,S a0,h0,⟨a0,rfl,hi,rfl⟩, ?_⟩
 rintro k s ⟨a,rfl,ha,rfl⟩
 refine wpI_mono pin ic _ _ (fun e s hs=>?_) _ (hr a ha)
 cases e
 ·obtain⟨a',h1,h2,h3⟩:=hs
  exact⟨M a',S a',h1,h3,a',rfl,h2,rfl⟩
 ·exact hs
 ·exact hs
theorem retN {rs:List RV} {pin:Nat} {post:V→List Hs→Prop} {l:List (Nat×V)} {m:List (Nat×Hs)} (res:V) (out:List Hs) (fs:List (Nat×Nat))
 (hv:optK (resV ⟨getL l,getH m⟩ rs) fun v=>Wk (fun c=>nonB fs (argH 0 out) c=true) (getN fs) (getH m) (getH (argH 0 out)) v res) (hp:post res out)
 (hh:WkN (WkH (fun c=>nonB fs (argH 0 out) c=true) (getN fs) (getH m) (getH (argH 0 out))) (fun c=>getH m (getN fs c)) (argH 0 out))
 (hi:((argH 0 out).map fun p=>getN fs p.1).Nodup) (hpi:pinOk fs (getH (argH 0 out)) pin):retQ rs pin post .ret ⟨getL l,getH m⟩:=by
 have hF:∀c,nonB fs (argH 0 out) c=true→NoN (getN fs) (getH (argH 0 out)) c∧getH m c=getH m c:=fun c hc=>⟨nonB_noN hc,rfl⟩
 obtain⟨v,hv,hw⟩:=optK_some hv
 refine⟨v,res,out,getN fs,hv,hp, ?_,fun c=>?_, ?_, ?_⟩
 ·rw[chH_getH];exact hw.congr hF
 ·rw[chH_getH];exact(WkN.all (fun v=>wkh_fresh) hh c).congr hF
 ·rw[chH_getH];exact inj_of_nodup hi
 ·rw[chH_getH];exact hpi.spec
def retF (rs:List RV) (v:V):Ex→St→Prop
 | .exit _,_=>False
 | _,st=>optK (resV st rs) fun r=>Wk (fun _=>True) id st.h (fun _=>.fresh) r v
theorem retF_n (rs v) (st:St):retF rs v .normal st=optK (resV st rs) fun r=>Wk (fun _=>True) id st.h (fun _=>.fresh) r v:=of_eq_true (eq_self _)
theorem retF_r (rs v) (st:St):retF rs v .ret st=optK (resV st rs) fun r=>Wk (fun _=>True) id st.h (fun _=>.fresh) r v:=of_eq_true (eq_self _)
theorem FnR.mkF {f:FuncId} {fn:Func} {ic:IC} {rs:List RV} {args:List V} {v:V} (hf:P.funcs[f]?=some fn) (hn:entr P f=true) (hd:digF P fn=some (ic,rs)) {n:Nat} (hnt:fn.ntmps=n)
 (ha:args.length≤n) (h:wpI P G 0 ic (retF rs v) ⟨getL (argL 0 args),getH []⟩):FnR P G f args v:=by
 refine FnP.mk' hf hn hd hnt ha ⟨_,_,rfl,rfl⟩ ?_
 have:chH []=getH []:=chH_getH []
 rw[this]
 refine wpI_mono 0 ic _ _ (fun e s hs=>?_) _ h
 have key:(optK (resV s rs) fun r=>Wk (fun _=>True) id s.h (fun _=>.fresh) r v)→retQ rs 0 (fun r o=>r=v∧o=[]) .ret s:=fun hs=>by
  obtain⟨r,hr,hw⟩:=optK_some hs
  have hc:chH []=fun _=>.fresh:=by funext x;simp[chH]
  refine⟨r,v,[],id,hr,⟨rfl,rfl⟩, ?_,fun c=>?_,fun x y hx=>?_,fun i hi=>by omega⟩
  ·rw[hc];exact hw.congr fun c _=>⟨fun c' hl=>(by cases hl),rfl⟩
  ·rw[hc];exact wkh_fresh
  ·rw[hc] at hx;cases hx
 cases e
 ·exact key hs
 ·exact hs.elim
 ·exact key hs
theorem callN {f:FuncId} {pin:Nat} {cs:List Hs} {args:List V} {postf:V→List Hs→Prop} (F:FnP P G f pin cs args postf) {vs:List V} {d:Option Nat} {st:St} {K:St→List Nat→List Nat→Prop}
 (ns lent:List Nat) (kp:Bool) (dd m:Nat)
 (hw:WkL (Wk (fun c=>c∈lent) (nsF ns) st.h (chH cs)) vs args)
 (hc:NsL (fun n s=>s.live=true∧WkH (fun c=>c∈lent) (nsF ns) st.h (chH cs) (st.h n) s) ns cs)
 (hpin:pin≤ns.length) (hnd:ns.Nodup) (hl:∀c,c∈lent→(st.h c).live=true∧c∉ns)
 (ho:∀res out,postf res out→pin≤out.length∧out.length≤m∧(kp=true∨(res.plain=true∧∀s,s∈out→s.plain=true))∧∀i,i<pin→stepOk (chH cs i) (chH out i)=true)
 (hf:∀i,i<m→st.h (newN dd i)=.fresh)
 (hk:∀res out,postf res out→K (st.app d (res.rn (bk ns pin dd)) (outU (bk ns pin dd) 0 out++deads (ns.drop pin++bif kp then lent else []))) (callTc ns lent dd m) (callTc ns (bif kp then lent else []) dd m)) :
 CallV P G f vs d st K:=by
 obtain⟨hlen,hw⟩:=hw.spec
 have hF:∀h':Nat→Hs,(∀c,c∈callTc ns lent dd m→h' c=st.h c)→∀c,c∈lent→c∈lent∧h' c=st.h c:=fun h' hh c hc=>⟨hc,hh c (by simp[callTc,hc])⟩
 obtain⟨h20,h21⟩:=hc.spec
 have h2:ns.length=cs.length∧∀(i:Nat) s,cs[i]?=some s→s.live=true∧WkH (fun c=>c∈lent) (nsF ns) st.h (chH cs) (st.h (nsF ns i)) s∧nsF ns i∈ns :=
  ⟨h20,fun i s hs=>⟨(h21 i s hs).1,(h21 i s hs).2,mem_nsF (by rw[h20];exact(List.getElem?_eq_some_iff.1 hs).1)⟩⟩
 have hs:=callS F (vs:=vs) (h:=st.h) (ns:=ns) (lent:=lent) (kp:=kp) (d:=dd) (m:=m) hpin h2.1 hnd hlen.symm
  (fun h' hh j v v' h1 h2=>(hw j v v' h1 h2).congr (hF h' hh))
  (fun h' hh i s hs=>by
    obtain⟨a,b,e⟩:=h2.2 i s hs
    refine⟨.inl a, ?_⟩
    rw[hh (nsF ns i) (by simp[callTc,e])]
    exact b.congr (hF h' hh)) hl ho hf
 refine⟨_,_,_,hs,fun v up hp=>?_⟩
 obtain⟨res,out,hp,rfl,rfl⟩:=hp
 exact hk res out hp
theorem callF {f:FuncId} {args:List V} {v:V} (F:FnR P G f args v) {vs:List V} {d:Option Nat} {st:St} {K:St→List Nat→List Nat→Prop} (lent:List Nat) (kp:Bool)
 (hw:WkL (Wk (fun c=>c∈lent) (nsF []) st.h (chH [])) vs args) (hl:∀c,c∈lent→(st.h c).live=true) (hv:v.nl=true) (hk:kp=true∨v.plain=true)
 (hK:K (st.app d v (deads (bif kp then lent else []))) lent (bif kp then lent else [])):CallV P G f vs d st K:=by
 refine callN F [] lent kp 0 0 hw trivial (Nat.zero_le _) List.nodup_nil (fun c hc=>⟨hl c hc,by simp⟩) ?_ (fun i hi=>by omega) ?_
 ·rintro res out ⟨rfl,rfl⟩
  exact⟨Nat.le_refl _,Nat.le_refl _,hk.imp id fun h=>⟨h,fun s hs=>by cases hs⟩,fun i hi=>by omega⟩
 ·rintro res out ⟨rfl,rfl⟩
  have h1:∀l:List Nat,callTc [] l 0 0=l:=fun l=>by simp[callTc]
  rw[rn_nl hv,h1,h1]
  simpa[outU] using hK
end
section
variable {Q:Ex→St→Prop} {st:St}
theorem exB_h (i):exB i Q (.exit i) st=Q .normal st:=by simp[exB]
theorem exB_m {i j:Nat} (h:j≠i):exB i Q (.exit j) st=Q (.exit j) st:=by simp[exB,h]
end
theorem stepV_congr {P:Program} {G:Glob} {o:IOper} {st st':St} {K:St→List Nat→List Nat→Prop} (h:st=st'):stepV P G o st K=stepV P G o st' K:=by rw[h]
theorem doV_congr {P:Program} {G:Glob} {o:IOper} {st st':St} {K:St→List Nat→List Nat→Prop} (h:st=st'):doV P G o st K=doV P G o st' K:=by rw[h]
theorem exN_congr {K:St→Prop} {Q:Ex→St→Prop} {e:Ex} {st st':St} (h:st=st'):exN K Q e st=exN K Q e st':=by rw[h]
theorem exB_congr {i:Nat} {Q:Ex→St→Prop} {e:Ex} {st st':St} (h:st=st'):exB i Q e st=exB i Q e st':=by rw[h]
theorem retF_congr {rs:List RV} {v:V} {e:Ex} {st st':St} (h:st=st'):retF rs v e st=retF rs v e st':=by rw[h]
theorem retQ_congr {rs:List RV} {n:Nat} {post:V→List Hs→Prop} {e:Ex} {st st':St} (h:st=st'):retQ rs n post e st=retQ rs n post e st':=by rw[h]
def fstO (o:Option (V×List Nat)):Option V:=o.map Prod.fst
def consO:Option V→Option (List V)→Option (List V)
 | some v,some l=>some (v::l)
 | _,_=>none
theorem consO_s (v:V) (l:List V):consO (some v) (some l)=some (v::l):=of_eq_true (eq_self _)
def resK (o:Option (List V)):Option V:=o.bind resL
theorem resK_s (l:List V):resK (some l)=resL l:=of_eq_true (eq_self _)
theorem resV_k (st:St) (rs:List RV):resV st rs=resK (rs.mapM (rvV st)):=of_eq_true (eq_self _)
theorem rvs_nil (st:St):([]:List RV).mapM (rvV st)=some []:=by simp
theorem rvs_t (st:St) (n:Nat) (rs:List RV):(RV.t n::rs).mapM (rvV st)=consO (some (st.t n)) (rs.mapM (rvV st)):=by
 simp only[List.mapM_cons,rvV]
 cases rs.mapM (rvV st)<;>rfl
theorem rvs_c (st:St) (n sz:Nat) (ag:Bool) (rs:List RV):(RV.cell n sz ag::rs).mapM (rvV st)=consO (fstO (loadF st.h sz ag (st.t n))) (rs.mapM (rvV st)):=by
 simp only[List.mapM_cons,rvV,fstO]
 cases loadF st.h sz ag (st.t n)<;>cases rs.mapM (rvV st)<;>rfl
theorem fstO_s (v:V) (l:List Nat):fstO (some (v,l))=some v:=of_eq_true (eq_self _)
theorem resL_1 (v:V):resL [v]=some v:=of_eq_true (eq_self _)
theorem resL_2 {a b:V} (h:(a.untup&&b.untup)=true):resL [a,b]=some (.tup [a,b]):=by
 simp only[resL,List.all_cons,List.all_nil,Bool.and_true,h,if_true]
theorem resL_3 {a b c:V} (h:(a.untup&&(b.untup&&c.untup))=true):resL [a,b,c]=some (.tup [a,b,c]):=by
 simp only[resL,List.all_cons,List.all_nil,Bool.and_true,h,if_true]
theorem resL_4 {a b c d:V} (h:(a.untup&&(b.untup&&(c.untup&&d.untup)))=true):resL [a,b,c,d]=some (.tup [a,b,c,d]):=by
 simp only[resL,List.all_cons,List.all_nil,Bool.and_true,h,if_true]
theorem isn_nile (ng:Bool):isnF ng .nile=some (.bool (!ng)):=of_eq_true (eq_self _)
theorem isn_erre (ng:Bool):isnF ng .erre=some (.bool ng):=of_eq_true (eq_self _)
theorem neg_i (k:IntKind) (n:Int):negF (.int k n)=some (.int k (k.wrap (0 - n))):=of_eq_true (eq_self _)
theorem cvi_i (k k':IntKind) (n:Int):cviF k (.int k' n)=some (.int k (k.wrap n)):=of_eq_true (eq_self _)
theorem i64w {n:Int} (h : -9223372036854775808≤n∧n≤9223372036854775807):IntKind.i64.wrap n=n:=IntWalk.i64_in n h
theorem u8w {n:Int} (h:0≤n∧n≤255):IntKind.u8.wrap n=n:=IntWalk.u8_in n h
def slsG (s:List UInt8) (l u:Option Int):Option V:=match l,u with
 | some l,some u=>guardP (0≤l∧l≤u∧u≤s.length) (some (.str ((s.take u.toNat).drop l.toNat)))
 | _,_=>none
def slsF (x:V) (lo hi:Option V):Option V:=match x with
 | .str s=>slsG s (loV lo) (hiV s.length hi)
 | _=>none
def idxF (x i:V):Option V:=match x,i with
 | .str s,.int _ n=>guardP (0≤n∧n<s.length) (some (.int .u8 ((s.getD n.toNat 0).toNat:Int)))
 | _,_=>none
def mnF (x y:V):Option V:=match x,y with
 | .int k a,.int k' b=>if k=k' then some (.int k (min a b)) else none
 | _,_=>none
def mxF (x y:V):Option V:=match x,y with
 | .int k a,.int k' b=>if k=k' then some (.int k (max a b)) else none
 | _,_=>none
def s2bF:V→Option (V×List (Nat×Hs)×List Nat)
 | .str s=>guardP (s.length≤2000000) (some (.sl 1 (s.map fun b=>[.int .u8 (b.toNat:Int)]),[],[]))
 | _=>none
def bytO (tc:List Nat) (x:Option (List UInt8)):Option (V×List (Nat×Hs)×List Nat):=x.map fun s=>(.str s,[],tc)
def b2sF (x:Option (List (List V)×List Nat)):Option (V×List (Nat×Hs)×List Nat):=match x with
 | some (rows,tc)=>bytO tc (bytesR rows)
 | none=>none
def slvG (sz:Nat) (rows:List (List V)) (l u:Option Int):Option (V×List (Nat×Hs)×List Nat):=match l,u with
 | some l,some u=>guardP (0≤l∧l≤u∧u≤rows.length) (some (.sl sz ((rows.take u.toNat).drop l.toNat),[],[]))
 | _,_=>none
def slvN (sz:Nat) (l u:Option Int):Option (V×List (Nat×Hs)×List Nat):=match l,u with
 | some l,some u=>guardP (l=0∧u=0) (some (.sl sz [],[],[]))
 | _,_=>none
def slvO (sz c k:Nat) (a:Hs) (l u:Option Int):Option (V×List (Nat×Hs)×List Nat):=match a with
 | .arr _ s rows=>match l,u with
   | some l,some u=>if s=sz then guardP (0≤l∧l≤u∧u≤k∧k≤rows.length) (some (.view c l.toNat (u.toNat - l.toNat),[],[c])) else none
   | _,_=>none
 | _=>none
def slvF (h:Nat→Hs) (sz:Nat) (x:V) (lo hi:Option V):Option (V×List (Nat×Hs)×List Nat):=match x with
 | .sl s rows=>if s=sz then slvG sz rows (loV lo) (hiV rows.length hi) else none
 | .own c k=>slvO sz c k (h c) (loV lo) (hiV k hi)
 | .nils=>slvN sz (loV lo) (hiV 0 hi)
 | _=>none
def iadG (rows:List (List V)) (n:Int):Option (V×List (Nat×Hs)×List Nat):=guardP (0≤n∧n<rows.length) (some (.iptr (rows.getD n.toNat []) 0,[],[]))
def iadO (sz c k:Nat) (a:Hs) (n:Int):Option (V×List (Nat×Hs)×List Nat):=match a with
 | .arr _ s rows=>if s=sz then guardP (0≤n∧n<k∧k≤rows.length) (some (.pa c n.toNat 0,[],[c])) else none
 | _=>none
def iadW (sz c o k:Nat) (a:Hs) (n:Int):Option (V×List (Nat×Hs)×List Nat):=match a with
 | .arr _ s rows=>if s=sz then guardP (0≤n∧n<k∧o+k≤rows.length) (some (.pa c (o+n.toNat) 0,[],[c])) else none
 | _=>none
def iadF (h:Nat→Hs) (sz:Nat) (x i:V):Option (V×List (Nat×Hs)×List Nat):=match x,i with
 | .sl s rows,.int _ n=>if s=sz then iadG rows n else none
 | .own c k,.int _ n=>iadO sz c k (h c) n
 | .view c o k,.int _ n=>iadW sz c o k (h c) n
 | _,_=>none
def bldF (zero:List V) (parts:List (Nat×Nat×V)):Option V:=if parts.all (fun p=>(cellsV p.2.2).all V.one)=true then(fillV zero parts).map .agg else none
def mkfF (f:Nat) (caps:List V):Option V:=if caps.all (fun v=>v.one&&!v.isFn)=true then some (.fn f caps) else none
def rowO (h:Nat→Hs) (sz:Nat) (v:V):Option (List (List V)×List Nat):=rowsF h sz v
def appO (ty sz n:Nat) (ys:List (List V)) (tc:List Nat) (c m:Nat) (a:Hs):Option (V×List (Nat×Hs)×List Nat):=match a with
 | .arr ty' s rows=>if s=sz∧ty'=ty then guardP (rows.length=n∧n+ys.length≤2000000) (some (.own m (n+ys.length),[(c,.dead),(m,.arr ty sz (rows++ys))],c::m::tc)) else none
 | _=>none
def appG (h:Nat→Hs) (ty sz m:Nat) (x:V) (r:Option (List (List V)×List Nat)):Option (V×List (Nat×Hs)×List Nat):=match r with
 | none=>none
 | some (ys,tc)=>freshK (h m)<|match x with
   | .nils=>guardP (ys.length≤2000000) (some (.own m ys.length,[(m,.arr ty sz ys)],m::tc))
   | .own c n=>appO ty sz n ys tc c m (h c)
   | _=>none
section
variable {P:Program} {G:Glob} {st:St} {K:St→List Nat→List Nat→Prop}
theorem do_sls (d g x lo hi):doV P G ⟨d,g,.sls x lo hi⟩ st K=pureK d st K (slsF (ev st.t x) (lo.map (ev st.t)) (hi.map (ev st.t))):=by
 rw[do_pure rfl rfl];simp only[pureF,slsF,slsG]
 cases ev st.t x<;>rfl
theorem do_idx (d g x i):doV P G ⟨d,g,.idx x i⟩ st K=pureK d st K (idxF (ev st.t x) (ev st.t i)):=by
 rw[do_pure rfl rfl];simp only[pureF,idxF];cases ev st.t x<;>cases ev st.t i<;>rfl
theorem do_mn (d g x y):doV P G ⟨d,g,.mn x y⟩ st K=pureK d st K (mnF (ev st.t x) (ev st.t y)):=by
 rw[do_pure rfl rfl];simp only[pureF,mnF];cases ev st.t x<;>cases ev st.t y<;>rfl
theorem do_mx (d g x y):doV P G ⟨d,g,.mx x y⟩ st K=pureK d st K (mxF (ev st.t x) (ev st.t y)):=by
 rw[do_pure rfl rfl];simp only[pureF,mxF];cases ev st.t x<;>cases ev st.t y<;>rfl
theorem do_build (d g zero parts):doV P G ⟨d,g,.build zero parts⟩ st K=pureK d st K (bldF zero (parts.map fun p=>(p.1,p.2.1,ev st.t p.2.2))):=by
 rw[do_pure rfl rfl];simp only[pureF,bldF,List.all_map];rfl
theorem do_mkf (d g f caps):doV P G ⟨d,g,.mkf f caps⟩ st K=pureK d st K (mkfF f (caps.map (ev st.t))):=by
 rw[do_pure rfl rfl];simp only[pureF,mkfF,List.all_map];rfl
theorem do_s2b (d g x):doV P G ⟨d,g,.s2b x⟩ st K=effK d st K (s2bF (ev st.t x)):=by
 rw[do_eff rfl];simp only[effF,s2bF];cases ev st.t x<;>rfl
theorem do_b2s (d g x):doV P G ⟨d,g,.b2s x⟩ st K=effK d st K (b2sF (rowO st.h 1 (ev st.t x))):=by
 rw[do_eff rfl];simp only[effF,b2sF,rowO,bytO];cases rowsF st.h 1 (ev st.t x)<;>rfl
theorem do_slv (d g sz x lo hi):doV P G ⟨d,g,.slv sz x lo hi⟩ st K=effK d st K (slvF st.h sz (ev st.t x) (lo.map (ev st.t)) (hi.map (ev st.t))):=by
 rw[do_eff rfl];simp only[effF,slvF]
 cases hx:ev st.t x
 case nils=>simp only[slvN];cases loV (lo.map (ev st.t))<;>cases hiV 0 (hi.map (ev st.t))<;>rfl
 case sl s rows =>
  simp only[slvG]
  cases loV (lo.map (ev st.t))<;>cases hiV rows.length (hi.map (ev st.t))<;>by_cases h:s=sz<;>simp[h]
 case own c k =>
  simp only[slvO]
  cases st.h c<;>cases loV (lo.map (ev st.t))<;>cases hiV k (hi.map (ev st.t))<;>rfl
 all_goals rfl
theorem do_iad (d g sz x i):doV P G ⟨d,g,.iad sz x i⟩ st K=effK d st K (iadF st.h sz (ev st.t x) (ev st.t i)):=by
 rw[do_eff rfl];simp only[effF,iadF]
 cases ev st.t x<;>cases ev st.t i<;>first|rfl|(rename_i c k _ _;simp only[iadO];cases st.h c<;>rfl)|(rename_i c o k _ _;simp only[iadW];cases st.h c<;>rfl)
theorem do_bsl (d g ty sz xs):doV P G ⟨some d,g,.bsl ty sz xs⟩ st K=effK (some d) st K (freshK (st.h (nm d)) (if xs.all (fun x=>decide ((cellsV (ev st.t x)).length=sz)&&(cellsV (ev st.t x)).all V.closed)=true then
        some (.own (nm d) xs.length,[(nm d,.arr ty sz (xs.map fun x=>cellsV (ev st.t x)))],[nm d])
 else if xs.all (fun x=>decide ((cellsV (ev st.t x)).length=sz)&&((cellsV (ev st.t x)).map (z0V st.h)).all V.closed)=true then
  some (.own (nm d) xs.length,[(nm d,.arr ty sz (xs.map fun x=>(cellsV (ev st.t x)).map (z0V st.h)))],nm d::xs.flatMap fun x=>(cellsV (ev st.t x)).flatMap z0N) else none)):=do_eff rfl
def mksF (h:Nat→Hs) (ty sz m:Nat):V→Option (V×List (Nat×Hs)×List Nat)
 | .int _ n=>freshK (h m) (guardP (0≤n∧n≤2000000) (some (.own m 0,[(m,.arr ty sz [])],[m])))
 | _=>none
theorem do_mks (d g ty sz x):doV P G ⟨some d,g,.mks ty sz x⟩ st K=effK (some d) st K (mksF st.h ty sz (nm d) (ev st.t x)):=by
 rw[do_eff rfl];simp only[effF,mksF];cases ev st.t x<;>rfl
def apsG (h:Nat→Hs) (ty m:Nat) (x:V):V→Option (V×List (Nat×Hs)×List Nat)
 | .str s=>appG h ty 1 m x (some (s.map fun b=>[.int .u8 (b.toNat:Int)],[]))
 | _=>none
theorem do_aps (d g ty x y):doV P G ⟨some d,g,.aps ty x y⟩ st K=effK (some d) st K (apsG st.h ty (nm d) (ev st.t x) (ev st.t y)):=by
 rw[do_eff rfl];simp only[effF,apsF]
 cases ev st.t y<;>first|rfl|skip
 all_goals(simp only[apsG,appF,appG,rowsF,if_true];cases ev st.t x<;>first|rfl|(rename_i c n;simp only[appO];cases st.h c<;>rfl))
theorem do_app (d g ty sz x y):doV P G ⟨some d,g,.app ty sz x y⟩ st K=effK (some d) st K (appG st.h ty sz (nm d) (ev st.t x) (rowO st.h sz (ev st.t y))):=by
 rw[do_eff rfl];simp only[effF,appF,appG,rowO]
 cases rowsF st.h sz (ev st.t y) with
 | none=>rfl
 | some r =>
   obtain⟨ys,tc⟩:=r
   cases ev st.t x<;>first|rfl|(rename_i c n;simp only[appO];cases st.h c<;>rfl)
def calK (P:Program) (G:Glob) (xs:List V) (d:Option Nat) (st:St) (K:St→List Nat→List Nat→Prop):V→Prop
 | .fn f caps=>CallV P G f (xs++caps) d st K
 | _=>False
theorem do_cal (d g x xs):doV P G ⟨d,g,.cal x xs⟩ st K=calK P G (xs.map (ev st.t)) d st K (ev st.t x):=by
 simp only[doV,calK];cases ev st.t x<;>rfl
theorem calK_f (xs d f caps):calK P G xs d st K (.fn f caps)=CallV P G f (xs++caps) d st K:=of_eq_true (eq_self _)
theorem calK_congr {xs:List V} {d:Option Nat} {v v':V} (h:v=v'):calK P G xs d st K v=calK P G xs d st K v':=by rw[h]
theorem pureG {d:Option Nat} {c:Prop} {inst:Decidable c} {x:Option V} (h1:c) (h2:pureK d st K x):pureK d st K (guardP c x):=by rw[guardP_pos _ h1];exact h2
theorem effG {d:Option Nat} {c:Prop} {inst:Decidable c} {x:Option (V×List (Nat×Hs)×List Nat)} (h1:c) (h2:effK d st K x):effK d st K (guardP c x):=by rw[guardP_pos _ h1];exact h2
end
theorem guardP_T {α:Type} {inst:Decidable True} (x:Option α):@guardP α True inst x=x:=guardP_pos x trivial
theorem sls_s (s lo hi):slsF (.str s) lo hi=slsG s (loV lo) (hiV s.length hi):=of_eq_true (eq_self _)
theorem slsG_s (s l u):slsG s (some l) (some u)=guardP (0≤l∧l≤u∧u≤s.length) (some (.str ((s.take u.toNat).drop l.toNat))):=of_eq_true (eq_self _)
theorem loV_n:loV none=some 0:=of_eq_true (eq_self _)
theorem loV_i (k n):loV (some (.int k n))=some n:=of_eq_true (eq_self _)
theorem hiV_n (k):hiV k none=some (k:Int):=of_eq_true (eq_self _)
theorem hiV_i (m k n):hiV m (some (.int k n))=some n:=of_eq_true (eq_self _)
theorem idx_s (s k n):idxF (.str s) (.int k n)=guardP (0≤n∧n<s.length) (some (.int .u8 ((s.getD n.toNat 0).toNat:Int))):=of_eq_true (eq_self _)
theorem mn_i (k a b):mnF (.int k a) (.int k b)=some (.int k (min a b)):=by simp[mnF]
theorem mx_i (k a b):mxF (.int k a) (.int k b)=some (.int k (max a b)):=by simp[mxF]
theorem s2b_s (s):s2bF (.str s)=guardP (s.length≤2000000) (some (.sl 1 (s.map fun b=>[.int .u8 (b.toNat:Int)]),[],[])):=of_eq_true (eq_self _)
theorem b2s_s (rows tc):b2sF (some (rows,tc))=bytO tc (bytesR rows):=of_eq_true (eq_self _)
theorem bytO_s (tc s):bytO tc (some s)=some (.str s,[],tc):=of_eq_true (eq_self _)
theorem bytes_nil:bytesR []=some []:=of_eq_true (eq_self _)
def conB (b:UInt8):Option (List UInt8)→Option (List UInt8)
 | some l=>some (b::l)
 | none=>none
theorem conB_s (b l):conB b (some l)=some (b::l):=of_eq_true (eq_self _)
theorem bytes_cons (n:Int) (r):bytesR ([.int .u8 n]::r)=conB (UInt8.ofNat n.toNat) (bytesR r):=by simp only[bytesR,conB];cases bytesR r<;>rfl
theorem slv_sl (h sz rows lo hi):slvF h sz (.sl sz rows) lo hi=slvG sz rows (loV lo) (hiV rows.length hi):=by simp[slvF]
theorem slv_own (h sz c k lo hi):slvF h sz (.own c k) lo hi=slvO sz c k (h c) (loV lo) (hiV k hi):=of_eq_true (eq_self _)
theorem slv_nils (h sz lo hi):slvF h sz .nils lo hi=slvN sz (loV lo) (hiV 0 hi):=of_eq_true (eq_self _)
theorem slvG_s (sz rows l u):slvG sz rows (some l) (some u)=guardP (0≤l∧l≤u∧u≤rows.length) (some (.sl sz ((rows.take u.toNat).drop l.toNat),[],[])):=of_eq_true (eq_self _)
theorem slvN_s (sz l u):slvN sz (some l) (some u)=guardP (l=0∧u=0) (some (.sl sz [],[],[])):=of_eq_true (eq_self _)
theorem slvO_s (sz c k ty rows l u):slvO sz c k (.arr ty sz rows) (some l) (some u)=guardP (0≤l∧l≤u∧u≤k∧k≤rows.length) (some (.view c l.toNat (u.toNat - l.toNat),[],[c])):=by simp[slvO]
theorem iad_sl (h sz rows k n):iadF h sz (.sl sz rows) (.int k n)=iadG rows n:=by simp[iadF]
theorem iadG_e (rows n):iadG rows n=guardP (0≤n∧n<rows.length) (some (.iptr (rows.getD n.toNat []) 0,[],[])):=of_eq_true (eq_self _)
theorem iadG_map {α:Type} [Inhabited α] (l:List α) (f:α→List V) (n):iadG (l.map f) n=guardP (0≤n∧n<l.length) (some (.iptr (f (l.getD n.toNat default)) 0,[],[])):=by
 simp only[iadG,List.length_map]
 by_cases h:0≤n∧n<(l.length:Int)
 ·rw[guardP_pos _ h,guardP_pos _ h]
  have:n.toNat<l.length:=by omega
  simp[List.getD,this]
 ·simp[guardP,h]
theorem take_map {α β:Type} (f:α→β) (l:List α) (n:Nat):(l.map f).take n=(l.take n).map f:=List.map_take.symm
theorem drop_map {α β:Type} (f:α→β) (l:List α) (n:Nat):(l.map f).drop n=(l.drop n).map f:=List.map_drop.symm
theorem iad_own (h sz c k k' n):iadF h sz (.own c k) (.int k' n)=iadO sz c k (h c) n:=of_eq_true (eq_self _)
theorem iad_view (h sz c o k k' n):iadF h sz (.view c o k) (.int k' n)=iadW sz c o k (h c) n:=of_eq_true (eq_self _)
theorem iadO_a (sz c k ty rows n):iadO sz c k (.arr ty sz rows) n=guardP (0≤n∧n<k∧k≤rows.length) (some (.pa c n.toNat 0,[],[c])):=by simp[iadO]
theorem iadW_a (sz c o k ty rows n):iadW sz c o k (.arr ty sz rows) n=guardP (0≤n∧n<k∧o+k≤rows.length) (some (.pa c (o+n.toNat) 0,[],[c])):=by simp[iadW]
theorem mks_i (h:Nat→Hs) (ty sz m k n):mksF h ty sz m (.int k n)=freshK (h m) (guardP (0≤n∧n≤2000000) (some (.own m 0,[(m,.arr ty sz [])],[m]))):=of_eq_true (eq_self _)
theorem rowO_nils (h sz):rowO h sz .nils=some ([],[]):=of_eq_true (eq_self _)
theorem rowO_sl (h sz rows):rowO h sz (.sl sz rows)=some (rows,[]):=by simp[rowO,rowsF]
def rowA (sz c n:Nat):Hs→Option (List (List V)×List Nat)
 | .arr _ s rows=>if s=sz then guardP (n≤rows.length) (some (rows.take n,[c])) else none
 | _=>none
theorem rowO_own (h:Nat→Hs) (sz c n):rowO h sz (.own c n)=rowA sz c n (h c):=by simp only[rowO,rowsF,rowA];cases h c<;>rfl
theorem rowA_a {sz c n ty rows} (hl:rows.length=n):rowA sz c n (.arr ty sz rows)=some (rows,[c]):=by
 subst hl;simp[rowA,guardP]
theorem appG_nils (h:Nat→Hs) (ty sz m ys tc):appG h ty sz m .nils (some (ys,tc))=freshK (h m) (guardP (ys.length≤2000000) (some (.own m ys.length,[(m,.arr ty sz ys)],m::tc))):=of_eq_true (eq_self _)
theorem apsG_s (h:Nat→Hs) (ty m x s):apsG h ty m x (.str s)=appG h ty 1 m x (some (s.map fun b=>[.int .u8 (b.toNat:Int)],[])):=of_eq_true (eq_self _)
theorem appG_own (h:Nat→Hs) (ty sz m c n ys tc):appG h ty sz m (.own c n) (some (ys,tc))=freshK (h m) (appO ty sz n ys tc c m (h c)):=of_eq_true (eq_self _)
theorem appO_a (ty sz n ys tc c m rows):appO ty sz n ys tc c m (.arr ty sz rows)=guardP (rows.length=n∧n+ys.length≤2000000) (some (.own m (n+ys.length),[(c,.dead),(m,.arr ty sz (rows++ys))],c::m::tc)):=by simp[appO]
def mapA (o:Option (List V)):Option V:=o.map .agg
theorem mapA_s (r):mapA (some r)=some (.agg r):=of_eq_true (eq_self _)
theorem bldF_e {zero parts} (h1:parts.all (fun p=>(cellsV p.2.2).all V.one)=true):bldF zero parts=mapA (fillV zero parts):=by simp[bldF,h1,mapA]
theorem bld_nil (zero):bldF zero []=some (.agg zero):=by simp[bldF,fillV]
theorem mkf_nil (f):mkfF f []=some (.fn f []):=by simp[mkfF]
theorem fill_nil (row):fillV row []=some row:=of_eq_true (eq_self _)
theorem fill_cons {row off sz v r} (h1:(cellsV v).length=sz) (h2:off+sz≤row.length):fillV row ((off,sz,v)::r)=fillV (setR row off (cellsV v)) r:=by simp[fillV,h1,h2]
theorem mkf_e {f caps} (h:caps.all (fun v=>v.one&&!v.isFn)=true):mkfF f caps=some (.fn f caps):=by simp[mkfF,h]
section
variable {P:Program} {G:Glob} {pin:Nat} {Q:Ex→St→Prop} {st:St} {K:St→Prop} {K3:St→List Nat→List Nat→Prop}
def kT (P:Program) (G:Glob) (os:List IOper) (K:St→Prop):St→List Nat→List Nat→Prop:=fun st' _ _=>runT P G os st' K
def kD (P:Program) (G:Glob) (bef:List Nat) (os:List (Nat×IOper)) (i:Nat) (tr:List (Nat×List Nat×List Nat)) (K:St→Prop):St→List Nat→List Nat→Prop :=
 fun st' tc wr=>chk bef i tc wr tr=true∧runD P G bef os st' ((i,tc,wr)::tr) K
def gK (P:Program) (G:Glob) (d:Option Nat) (op:IOp) (st:St) (K:St→List Nat→List Nat→Prop) (g:Option Bool):Prop:=guardK g (doV P G ⟨d,none,op⟩ st K) (K (st.app d (.tup []) []) [] [])
def condW (P:Program) (G:Glob) (pin:Nat) (a b:IC) (Q:Ex→St→Prop) (st:St) (v:V):Prop:=condK v (wpI P G pin a Q st) (wpI P G pin b Q st)
def ldK (d:Option Nat) (st:St) (K:St→List Nat→List Nat→Prop) (x:Option (V×List Nat)):Prop:=optK x fun r=>K (st.app d r.1 []) r.2 []
def stoK (d:Option Nat) (st:St) (K:St→List Nat→List Nat→Prop) (x:Option (List (Nat×Hs)×List Nat)):Prop:=optK x fun r=>K (st.app d (.tup []) r.1) r.2 (r.1.map Prod.fst)
theorem kT_e (os st tc wr):kT P G os K st tc wr=runT P G os st K:=of_eq_true (eq_self _)
theorem kD_e (bef os i tr st tc wr):kD P G bef os i tr K st tc wr=(chk bef i tc wr tr=true∧runD P G bef os st ((i,tc,wr)::tr) K):=of_eq_true (eq_self _)
theorem runT_k (o os):runT P G (o::os) st K=stepV P G o st (kT P G os K):=of_eq_true (eq_self _)
theorem runD_k (bef i o os tr):runD P G bef ((i,o)::os) st tr K=stepV P G o st (kD P G bef os i tr K):=of_eq_true (eq_self _)
theorem step_k (d n b op):stepV P G ⟨d,some (n,b),op⟩ st K3=gK P G d op st K3 (gdV b (st.t n)):=by rw[step_g,gd_n];rfl
theorem gK_t (d op):gK P G d op st K3 (some true)=doV P G ⟨d,none,op⟩ st K3:=of_eq_true (eq_self _)
theorem gK_f (d op):gK P G d op st K3 (some false)=K3 (st.app d (.tup []) []) [] []:=of_eq_true (eq_self _)
theorem cond_k (x a b):wpI P G pin (.cond x a b) Q st=condW P G pin a b Q st (ev st.t x):=of_eq_true (eq_self _)
theorem condW_t (a b):condW P G pin a b Q st (.bool true)=wpI P G pin a Q st:=of_eq_true (eq_self _)
theorem condW_f (a b):condW P G pin a b Q st (.bool false)=wpI P G pin b Q st:=of_eq_true (eq_self _)
theorem do_ldk (d g sz ag x):doV P G ⟨d,g,.ld sz ag x⟩ st K3=ldK d st K3 (loadF st.h sz ag (ev st.t x)):=do_ld d g sz ag x
theorem do_stok (d g sz x y):doV P G ⟨d,g,.sto sz x y⟩ st K3=stoK d st K3 (storeF st.h sz (ev st.t x) (ev st.t y)):=do_sto d g sz x y
theorem ldK_s (d v tc):ldK d st K3 (some (v,tc))=K3 (st.app d v []) tc []:=of_eq_true (eq_self _)
theorem stoK_s (d up tc):stoK d st K3 (some (up,tc))=K3 (st.app d (.tup []) up) tc (up.map Prod.fst):=of_eq_true (eq_self _)
theorem gB {d op} {b:Bool} (h1:b=true→doV P G ⟨d,none,op⟩ st K3) (h2:b=false→K3 (st.app d (.tup []) []) [] []):gK P G d op st K3 (some b):=by cases b;exact h2 rfl;exact h1 rfl
theorem gBn {d op} {b:Bool} (h1:b=true→K3 (st.app d (.tup []) []) [] []) (h2:b=false→doV P G ⟨d,none,op⟩ st K3):gK P G d op st K3 (some (!b)):=by cases b;exact h2 rfl;exact h1 rfl
theorem cB {a b':IC} {b:Bool} (h1:b=true→wpI P G pin a Q st) (h2:b=false→wpI P G pin b' Q st):condW P G pin a b' Q st (.bool b):=by cases b;exact h2 rfl;exact h1 rfl
theorem cBn {a b':IC} {b:Bool} (h1:b=true→wpI P G pin b' Q st) (h2:b=false→wpI P G pin a Q st):condW P G pin a b' Q st (.bool (!b)):=by cases b;exact h2 rfl;exact h1 rfl
theorem chkI {bef i tc wr tr} {p:Prop} (h1:chk bef i tc wr tr=true) (h2:p):chk bef i tc wr tr=true∧p:=⟨h1,h2⟩
theorem gBd {d op} {p:Prop} {inst:Decidable p} (h1:p→p=True→doV P G ⟨d,none,op⟩ st K3) (h2:¬p→p=False→K3 (st.app d (.tup []) []) [] []):gK P G d op st K3 (some (decide p)):=gB (fun h=>h1 (of_decide_eq_true h) (eq_true (of_decide_eq_true h))) (fun h=>h2 (of_decide_eq_false h) (eq_false (of_decide_eq_false h)))
theorem gBnd {d op} {p:Prop} {inst:Decidable p} (h1:p→p=True→K3 (st.app d (.tup []) []) [] []) (h2:¬p→p=False→doV P G ⟨d,none,op⟩ st K3):gK P G d op st K3 (some (!decide p)):=gBn (fun h=>h1 (of_decide_eq_true h) (eq_true (of_decide_eq_true h))) (fun h=>h2 (of_decide_eq_false h) (eq_false (of_decide_eq_false h)))
theorem cBd {a b':IC} {p:Prop} {inst:Decidable p} (h1:p→p=True→wpI P G pin a Q st) (h2:¬p→p=False→wpI P G pin b' Q st):condW P G pin a b' Q st (.bool (decide p)):=cB (fun h=>h1 (of_decide_eq_true h) (eq_true (of_decide_eq_true h))) (fun h=>h2 (of_decide_eq_false h) (eq_false (of_decide_eq_false h)))
theorem cBnd {a b':IC} {p:Prop} {inst:Decidable p} (h1:p→p=True→wpI P G pin b' Q st) (h2:¬p→p=False→wpI P G pin a Q st):condW P G pin a b' Q st (.bool (!decide p)):=cBn (fun h=>h1 (of_decide_eq_true h) (eq_true (of_decide_eq_true h))) (fun h=>h2 (of_decide_eq_false h) (eq_false (of_decide_eq_false h)))
theorem gK_congr {d op} {g g':Option Bool} (h:g=g'):gK P G d op st K3 g=gK P G d op st K3 g':=by rw[h]
theorem condW_congr {a b} {g g':V} (h:g=g'):condW P G pin a b Q st g=condW P G pin a b Q st g':=by rw[h]
theorem ldK_congr {d} {g g':Option (V×List Nat)} (h:g=g'):ldK d st K3 g=ldK d st K3 g':=by rw[h]
theorem stoK_congr {d} {g g':Option (List (Nat×Hs)×List Nat)} (h:g=g'):stoK d st K3 g=stoK d st K3 g':=by rw[h]
def binO (op:BinOp) (x y:V):Option V:=binF op x y
theorem do_bino (d g op x y):doV P G ⟨d,g,.bin op x y⟩ st K3=pureK d st K3 (binO op (ev st.t x) (ev st.t y)):=do_bin d g op x y
end
theorem lens_s (s):lensF (.str s)=some (.int .i64 s.length):=of_eq_true (eq_self _)
theorem len_nils:lenF .nils=some (.int .i64 0):=of_eq_true (eq_self _)
theorem len_sl (z r):lenF (.sl z r)=some (.int .i64 r.length):=of_eq_true (eq_self _)
theorem len_own (c n):lenF (.own c n)=some (.int .i64 n):=of_eq_true (eq_self _)
theorem len_view (c o n):lenF (.view c o n)=some (.int .i64 n):=of_eq_true (eq_self _)
theorem bo_add (a b):binO .add (.int .i64 a) (.int .i64 b)=some (.int .i64 (IntKind.i64.wrap (a+b))):=by simp[binO,binF]
theorem bo_sub (a b):binO .sub (.int .i64 a) (.int .i64 b)=some (.int .i64 (IntKind.i64.wrap (a - b))):=by simp[binO,binF]
theorem bo_mul (a b):binO .mul (.int .i64 a) (.int .i64 b)=some (.int .i64 (IntKind.i64.wrap (a*b))):=by simp[binO,binF]
theorem bo_subu (a b):binO .sub (.int .u8 a) (.int .u8 b)=some (.int .u8 (IntKind.u8.wrap (a - b))):=by simp[binO,binF]
theorem bo_quo (a b):binO .quo (.int .i64 a) (.int .i64 b)=guardP (b≠0) (some (.int .i64 (IntKind.i64.wrap (a.tdiv b)))):=by simp[binO,binF]
theorem bo_rem (a b):binO .rem (.int .i64 a) (.int .i64 b)=guardP (b≠0) (some (.int .i64 (a.tmod b))):=by simp[binO,binF]
theorem bo_xor (a b):binO .xor (.int .i64 a) (.int .i64 b)=some (.int .i64 (bits .xor .i64 a b)):=by simp[binO,binF]
theorem bo_eql (k a b):binO .eql (.int k a) (.int k b)=some (.bool (decide (a=b))):=by simp[binO,binF]
theorem bo_neq (k a b):binO .neq (.int k a) (.int k b)=some (.bool (!decide (a=b))):=by simp[binO,binF]
theorem bo_lss (k a b):binO .lss (.int k a) (.int k b)=some (.bool (decide (a<b))):=by simp[binO,binF]
theorem bo_leq (k a b):binO .leq (.int k a) (.int k b)=some (.bool (decide (a≤b))):=by simp[binO,binF]
theorem bo_gtr (k a b):binO .gtr (.int k a) (.int k b)=some (.bool (decide (b<a))):=by simp[binO,binF]
theorem bo_geq (k a b):binO .geq (.int k a) (.int k b)=some (.bool (decide (b≤a))):=by simp[binO,binF]
theorem bo_cat (a b:List UInt8):binO .add (.str a) (.str b)=guardP (((a.length+b.length:Nat):Int)≤9223372036854775807) (some (.str (a++b))):=by simp[binO,binF]
theorem bo_eqs (a b:List UInt8):binO .eql (.str a) (.str b)=some (.bool (decide (a=b))):=by simp[binO,binF]
theorem bo_nes (a b:List UInt8):binO .neq (.str a) (.str b)=some (.bool (!decide (a=b))):=by simp[binO,binF]
theorem bot_int (k n):V.bot (.int k n)=true:=of_eq_true (eq_self _)
theorem one_int (k n):V.one (.int k n)=true:=of_eq_true (eq_self _)
theorem unt_int (k n):V.untup (.int k n)=true:=of_eq_true (eq_self _)
theorem bot_bool (b):V.bot (.bool b)=true:=of_eq_true (eq_self _)
theorem one_bool (b):V.one (.bool b)=true:=of_eq_true (eq_self _)
theorem unt_bool (b):V.untup (.bool b)=true:=of_eq_true (eq_self _)
theorem bot_str (s):V.bot (.str s)=true:=of_eq_true (eq_self _)
theorem one_str (s):V.one (.str s)=true:=of_eq_true (eq_self _)
theorem unt_str (s):V.untup (.str s)=true:=of_eq_true (eq_self _)
theorem bot_nils :V.bot (.nils)=true:=of_eq_true (eq_self _)
theorem one_nils :V.one (.nils)=true:=of_eq_true (eq_self _)
theorem unt_nils :V.untup (.nils)=true:=of_eq_true (eq_self _)
theorem bot_nilp :V.bot (.nilp)=true:=of_eq_true (eq_self _)
theorem one_nilp :V.one (.nilp)=true:=of_eq_true (eq_self _)
theorem unt_nilp :V.untup (.nilp)=true:=of_eq_true (eq_self _)
theorem bot_nile :V.bot (.nile)=true:=of_eq_true (eq_self _)
theorem one_nile :V.one (.nile)=true:=of_eq_true (eq_self _)
theorem unt_nile :V.untup (.nile)=true:=of_eq_true (eq_self _)
theorem bot_erre :V.bot (.erre)=true:=of_eq_true (eq_self _)
theorem one_erre :V.one (.erre)=true:=of_eq_true (eq_self _)
theorem unt_erre :V.untup (.erre)=true:=of_eq_true (eq_self _)
theorem bot_raw (v):V.bot (.raw v)=true:=of_eq_true (eq_self _)
theorem one_raw (v):V.one (.raw v)=true:=of_eq_true (eq_self _)
theorem unt_raw (v):V.untup (.raw v)=true:=of_eq_true (eq_self _)
theorem bot_sl (z r):V.bot (.sl z r)=true:=of_eq_true (eq_self _)
theorem one_sl (z r):V.one (.sl z r)=true:=of_eq_true (eq_self _)
theorem unt_sl (z r):V.untup (.sl z r)=true:=of_eq_true (eq_self _)
theorem bot_own (c n):V.bot (.own c n)=true:=of_eq_true (eq_self _)
theorem one_own (c n):V.one (.own c n)=true:=of_eq_true (eq_self _)
theorem unt_own (c n):V.untup (.own c n)=true:=of_eq_true (eq_self _)
theorem bot_view (c o n):V.bot (.view c o n)=true:=of_eq_true (eq_self _)
theorem one_view (c o n):V.one (.view c o n)=true:=of_eq_true (eq_self _)
theorem unt_view (c o n):V.untup (.view c o n)=true:=of_eq_true (eq_self _)
theorem bot_pv (c o):V.bot (.pv c o)=true:=of_eq_true (eq_self _)
theorem one_pv (c o):V.one (.pv c o)=true:=of_eq_true (eq_self _)
theorem unt_pv (c o):V.untup (.pv c o)=true:=of_eq_true (eq_self _)
theorem bot_pa (c i o):V.bot (.pa c i o)=true:=of_eq_true (eq_self _)
theorem one_pa (c i o):V.one (.pa c i o)=true:=of_eq_true (eq_self _)
theorem unt_pa (c i o):V.untup (.pa c i o)=true:=of_eq_true (eq_self _)
theorem bot_iptr (r o):V.bot (.iptr r o)=true:=of_eq_true (eq_self _)
theorem one_iptr (r o):V.one (.iptr r o)=true:=of_eq_true (eq_self _)
theorem unt_iptr (r o):V.untup (.iptr r o)=true:=of_eq_true (eq_self _)
theorem clo_int (k n):V.closed (.int k n)=true:=of_eq_true (eq_self _)
theorem clo_bool (b):V.closed (.bool b)=true:=of_eq_true (eq_self _)
theorem clo_str (s):V.closed (.str s)=true:=of_eq_true (eq_self _)
theorem clo_nils :V.closed (.nils)=true:=of_eq_true (eq_self _)
theorem clo_nilp :V.closed (.nilp)=true:=of_eq_true (eq_self _)
theorem clo_nile :V.closed (.nile)=true:=of_eq_true (eq_self _)
theorem clo_erre :V.closed (.erre)=true:=of_eq_true (eq_self _)
theorem clo_raw (v):V.closed (.raw v)=true:=of_eq_true (eq_self _)
theorem clo_sl (z r):V.closed (.sl z r)=true:=of_eq_true (eq_self _)
theorem clo_own (c n):V.closed (.own c n)=false:=of_eq_true (eq_self _)
theorem clo_view (c o n):V.closed (.view c o n)=false:=of_eq_true (eq_self _)
theorem clo_pv (c o):V.closed (.pv c o)=false:=of_eq_true (eq_self _)
theorem clo_pa (c i o):V.closed (.pa c i o)=false:=of_eq_true (eq_self _)
theorem clo_iptr (r o):V.closed (.iptr r o)=true:=of_eq_true (eq_self _)
theorem unt_agg (f):V.untup (.agg f)=true:=of_eq_true (eq_self _)
theorem unt_fn (f c):V.untup (.fn f c)=true:=of_eq_true (eq_self _)
theorem one_fn (f c):V.one (.fn f c)=true:=of_eq_true (eq_self _)
section
variable {P:Program} {G:Glob} {f:FuncId}
def ClipM (P:Program) (f:FuncId):Prop:=∀A n c W,n≤c→Calls P f #[.slice A n c] W fun e w'=>e=.returned (.slice A n n)∧w'=W
theorem chH_nil:chH []=fun _=>.fresh:=by funext x;simp[chH]
theorem us_one {w:World} {O:Nat→Prop} {ρ:Nat→Loc} {h:Nat→Hs} {v:V} {us:List Value} (hargs:DenArgs w O ρ h [v] us):∃u,us=[u]∧Den w O ρ h v u:=by
 obtain⟨h1,h2⟩:=hargs
 match us,h1 with
 | [u],_=>exact⟨u,rfl,h2 0 v u rfl rfl⟩
theorem clipR (hn:entr P f=true) (h:ClipM P f) (sz:Nat) (rows:List (List V)):FnR P G f [.sl sz rows] (.sl sz rows) where
 en:=hn
 ne:=⟨_,_,rfl,rfl⟩
 run:=fun W ρ ext us hg hlt hno hng r hargs=>by
  obtain⟨u,rfl,hd⟩:=us_one hargs
  have hd:Imm W (owns ⟨W,blocks ρ (chH []),ext,0,ρ⟩ ρ (chH [])) (.sl sz rows) u:=hd
  cases hd with
  | esl _ A cap=>exact(h A 0 cap W (Nat.zero_le _)).mono fun e w' ⟨he,hw⟩=>⟨_,_,_,ρ,he,⟨rfl,rfl⟩,hw▸r,hw▸Imm.esl sz A 0⟩
  | sl _ _ blk off cap cs h1 h2 h3 h4 h5 h6 h7 =>
    exact(h _ _ cap W h5).mono fun e w' ⟨he,hw⟩=>by subst hw;exact⟨_,_,_,ρ,he,⟨rfl,rfl⟩,r,Imm.sl sz rows blk off rows.length cs h1 h2 h3 h4 (Nat.le_refl _) h6 h7⟩
theorem clipOwn (hn:entr P f=true) (h:ClipM P f) (ty sz:Nat) (rows:List (List V)) (n:Nat) (hrn:rows.length=n) (hz1:sz≠1:=by decide) :
 FnP P G f 0 [.arr ty sz rows] [.own 0 n] (fun r o=>r=.own 0 n∧o=[.arr ty sz rows]) where
 en:=hn
 ne:=⟨_,_,rfl,rfl⟩
 run:=fun W ρ ext us hg hlt hno hng r hargs=>by
  obtain⟨u,rfl,hd⟩:=us_one hargs
  have h0:chH [Hs.arr ty sz rows] 0=.arr ty sz rows:=rfl
  have h1:∀c,c≠0→chH [Hs.arr ty sz rows] c=.fresh:=fun c hc=>by
   match c,hc with
   | c+1,_=>simp[chH]
  have hd:u=(ρ 0).sl n:=by
   simp only[Den,Den2,Den1,Den0,h0] at hd
   exact hd
  subst hd
  have hch:=r.chunk 0
  rw[h0] at hch
  have hcap:n≤(ρ 0).cap:=by
   rcases hch with⟨_,e,_⟩|⟨_,cs,_,_,e,_⟩
   ·rw[e] at hrn;simp at hrn;omega
   ·omega
  refine(h (ρ 0).addr n (ρ 0).cap W hcap).mono fun e w' ⟨he,hw⟩=>?_
  subst hw
  let ρ':=upρ ρ 0 { ρ 0 with cap:=n }
  have e1:∀c,(ρ' c).nil=(ρ c).nil∧(ρ' c).blk=(ρ c).blk:=fun c=>by
   by_cases hc:c=0
   ·subst hc;exact⟨rfl,rfl⟩
   ·simp[ρ',upρ,hc]
  have hO:owns ⟨w',blocks ρ (chH [.arr ty sz rows]),ext,0,ρ⟩ ρ' (chH [.arr ty sz rows])=owns ⟨w',blocks ρ (chH [.arr ty sz rows]),ext,0,ρ⟩ ρ (chH [.arr ty sz rows]):=by
   funext b
   simp only[owns,(e1 _).1,(e1 _).2]
  have hl:∀c,(chH [Hs.arr ty sz rows] c).live=true→c=0:=fun c hc=>by
   by_cases h':c=0
   ·exact h'
   ·rw[h1 c h'] at hc;cases hc
  refine⟨_,_,_,ρ',he,⟨rfl,rfl⟩,⟨r.os,r.tape,r.output,r.grow,r.keep,fun c=>?_,fun c hc hnl=>?_,fun c c' hc hc' _ _ _=>(hl c hc).trans (hl c' hc').symm,fun i hi=>absurd hi (Nat.not_lt_zero _)⟩, ?_⟩
  ·by_cases hc:c=0
   ·subst hc
    rw[hO,h0]
    rcases hch with⟨a1,a2,a3⟩|⟨a1,cs,a2,a3,a4,a5,a6⟩
    ·refine .inl ⟨a1,a2, ?_⟩
     rw[a2] at hrn;simp at hrn
     exact hrn.symm
    ·refine .inr ⟨a1,cs,a2, ?_, ?_,a5,a6⟩
     ·exact⟨Nat.le_trans (Nat.add_le_add_left (Nat.mul_le_mul_right _ hcap) _) a3.1,fun h=>absurd h hz1⟩
     ·exact Nat.le_of_eq hrn
   ·rw[h1 c hc];trivial
  ·rw[(e1 c).2];rw[(e1 c).1] at hnl;exact r.home c hc hnl
  ·simp only[Den,Den2,Den1,Den0,h0]
   rfl
def CloneM (P:Program) (f:FuncId) (ty sz:Nat):Prop:=(∀n c W,Calls P f #[.slice none n c] W fun e w'=>e=.returned (.slice none 0 0)∧w'=W) ∧
 ∀(a:Addr) n c us (W:World),us.length=n*sz→(∀(j:Nat) u,us[j]?=some u→W.cell? (a.add j)=some u)→(∀u∈us,u.oneCell'=true)→n≤2000000 →
  Calls P f #[.slice (some a) n c] W fun e w'=>∃v',e=.returned v'∧w'.ownsRow W.heap.size ty sz v' n us∧Below W.heap.size W w'
theorem cloneOwn (hn:entr P f=true) {ty sz:Nat} (h:CloneM P f ty sz) (rows:List (List V)) (hr:rows.length≤2000000) :
 FnP P G f 0 [] [.sl sz rows] (fun r o=>r=.own 0 rows.length∧o=[.arr ty sz rows]) where
 en:=hn
 ne:=⟨_,_,rfl,rfl⟩
 run:=fun W ρ ext us hg hlt hno hng r hargs=>by
  obtain⟨u,rfl,hd⟩:=us_one hargs
  have h0:chH [Hs.arr ty sz rows] 0=.arr ty sz rows:=rfl
  have h1:∀c,c≠0→chH [Hs.arr ty sz rows] c=.fresh:=fun c hc=>by
   match c,hc with
   | c+1,_=>simp[chH]
  have hl:∀c,(chH [Hs.arr ty sz rows] c).live=true→c=0:=fun c hc=>by
   by_cases h':c=0
   ·exact h'
   ·rw[h1 c h'] at hc;cases hc
  have hbn:∀b,¬blocks ρ (chH []) b:=fun b ⟨c,hc,_⟩=>by rw[chH_nil] at hc;cases hc
  obtain⟨A,cap,rfl,hcap,hlen,hcells⟩:=rows_den r hd (sz:=sz) (rows:=rows) (tc:=[]) (by simp[rowsF])
  have nilCase:∀W',W'=W→rows=[]→∃u res out ρ',Ending.returned (Value.slice none 0 0)=.returned u∧(res=V.own 0 rows.length∧out=[Hs.arr ty sz rows])∧RelH ⟨W,blocks ρ (chH []),ext,0,ρ⟩ ρ' (chH out) W' ∧
   Den W' (owns ⟨W,blocks ρ (chH []),ext,0,ρ⟩ ρ' (chH out)) ρ' (chH out) res u:=fun W' hW hrn=>by
   subst hW
   subst hrn
   refine⟨_,_,_,fun _=>⟨true,0,0,0⟩,rfl,⟨rfl,rfl⟩,⟨rfl,rfl,rfl,Nat.le_refl _,fun b _ _=>rfl,fun c=>?_,fun c _ hnl=>(by cases hnl),fun c c' _ _ hnl=>(by cases hnl),fun i hi=>absurd hi (Nat.not_lt_zero _)⟩, ?_⟩
   ·by_cases hc:c=0
    ·subst hc;rw[h0];exact .inl ⟨rfl,rfl,rfl⟩
    ·rw[h1 c hc];trivial
   ·simp only[Den,Den2,Den1,Den0,h0]
    rfl
  cases A with
  | none =>
    have hz:rows=[]:=by
     by_cases hp:0<rows.length
     ·obtain⟨_,_,e,_⟩:=hcells hp;cases e
     ·exact List.eq_nil_of_length_eq_zero (by omega)
    refine(h.1 _ _ W).mono fun e w' ⟨he,hw⟩=>?_
    subst he
    exact nilCase w' hw hz
  | some a =>
    have hflat:∃us:List Value,us.length=rows.length*sz∧(∀(j:Nat) u,us[j]?=some u→W.cell? (a.add j)=some u)∧(∀u,u∈us→u.oneCell'=true) ∧
     ∀(i:Nat) x (j:Nat) y,rows[i]?=some x→x[j]?=some y→∃z,us[i*sz+j]?=some z∧Imm W (owns ⟨W,blocks ρ (chH []),ext,0,ρ⟩ ρ (chH [])) y z:=by
     by_cases hp:0<rows.length
     ·obtain⟨blk,off,e,hb,hc⟩:=hcells hp
      cases e
      exact rows_flat hlen hc
     ·have:rows=[]:=List.eq_nil_of_length_eq_zero (by omega)
      subst this
      exact⟨[],by simp,fun j u hu=>by simp at hu,fun u hu=>by simp at hu,fun i x j y hx=>by simp at hx⟩
    obtain⟨us,hu1,hu2,hu3,hu4⟩:=hflat
    refine(h.2 a rows.length cap us W hu1 hu2 hu3 hr).mono fun e w' ⟨v',he,⟨hx,hown⟩,hb⟩=>?_
    subst he
    rcases hown with⟨rfl,hz⟩|⟨g,cap',cur,rfl,hg1,hg2,hg3,hg4,hg5,hg6⟩
    ·have:rows=[]:=List.eq_nil_of_length_eq_zero hz
     subst this
     refine⟨_,_,_,fun _=>⟨true,0,0,0⟩,rfl,⟨rfl,rfl⟩,⟨hb.os,hb.tape,hb.output,hb.size,fun b hb1 _=>hb.block b hb1,fun c=>?_,fun c _ hnl=>(by cases hnl),fun c c' _ _ hnl=>(by cases hnl),fun i hi=>absurd hi (Nat.not_lt_zero _)⟩, ?_⟩
     ·by_cases hc:c=0
      ·subst hc;rw[h0];exact .inl ⟨rfl,rfl,rfl⟩
      ·rw[h1 c hc];trivial
     ·simp only[Den,Den2,Den1,Den0,h0]
      rfl
    ·refine⟨_,_,_,fun _=>⟨false,g,0,cap'⟩,rfl,⟨rfl,rfl⟩,⟨hb.os,hb.tape,hb.output,hb.size,fun b hb1 _=>hb.block b hb1,fun c=>?_,fun c _ _=>.inr hg1,fun c c' hc hc' _ _ _=>(hl c hc).trans (hl c' hc').symm,fun i hi=>absurd hi (Nat.not_lt_zero _)⟩, ?_⟩
     ·by_cases hc:c=0
      ·subst hc
       rw[h0]
       refine .inr ⟨rfl,cur,hg2,by rw[hg5];exact⟨by simp,fun h=>⟨rfl,by rw[h,Nat.mul_one]⟩⟩,hg3,hlen,fun i x j y hx hy=>?_⟩
       obtain⟨z,hz1,hz2⟩:=hu4 i x j y hx hy
       have hjl:i*sz+j<rows.length*sz:=by rw[←hu1];exact(List.getElem?_eq_some_iff.1 hz1).1
       refine⟨z, ?_,hz2.mono hb.size (fun b hb1 _=>hb.block b hb1) (fun b hb1 ho=>?_)⟩
       ·rw[←hg6,List.getElem?_take,if_pos hjl] at hz1
        simpa using hz1
       ·rcases ho with ho|⟨c,hc,_,he⟩
        ·exact .inl ho
        ·simp only at he;omega
      ·rw[h1 c hc];trivial
     ·simp only[Den,Den2,Den1,Den0,h0]
      rfl
end
section
variable {g:Nat→Nat}
theorem rn_tup (l):(V.tup l).rn g=.tup (l.map (V.rn2 g)):=of_eq_true (eq_self _)
theorem rn_agg (l):(V.agg l).rn g=.agg (l.map (V.rn1 g)):=of_eq_true (eq_self _)
theorem rn2_agg (l):(V.agg l).rn2 g=.agg (l.map (V.rn1 g)):=of_eq_true (eq_self _)
theorem rn_fn (f l):(V.fn f l).rn g=.fn f (l.map (V.rn0 g)):=of_eq_true (eq_self _)
theorem rn2_fn (f l):(V.fn f l).rn2 g=.fn f (l.map (V.rn0 g)):=of_eq_true (eq_self _)
theorem rnfn1 (f l):(V.fn f l).rn1 g=.fn f (l.map (V.rn0 g)):=of_eq_true (eq_self _)
theorem rn_bot {v:V} (h:v.bot=true):v.rn g=v.rn0 g:=by cases v<;>first|rfl|cases h
theorem rn2_bot {v:V} (h:v.bot=true):v.rn2 g=v.rn0 g:=by cases v<;>first|rfl|cases h
theorem rn1_bot {v:V} (h:v.bot=true):v.rn1 g=v.rn0 g:=by cases v<;>first|rfl|cases h
theorem rn0_int (k n):(V.int k n).rn0 g=.int k n:=of_eq_true (eq_self _)
theorem rn0_bool (b):(V.bool b).rn0 g=.bool b:=of_eq_true (eq_self _)
theorem rn0_str (b):(V.str b).rn0 g=.str b:=of_eq_true (eq_self _)
theorem rn0_nils:V.nils.rn0 g=.nils:=of_eq_true (eq_self _)
theorem rn0_nilp:V.nilp.rn0 g=.nilp:=of_eq_true (eq_self _)
theorem rn0_nile:V.nile.rn0 g=.nile:=of_eq_true (eq_self _)
theorem rn0_erre:V.erre.rn0 g=.erre:=of_eq_true (eq_self _)
theorem rn0_sl (z r):(V.sl z r).rn0 g=.sl z r:=of_eq_true (eq_self _)
theorem rn0_iptr (r o):(V.iptr r o).rn0 g=.iptr r o:=of_eq_true (eq_self _)
theorem rn0_own (c n):(V.own c n).rn0 g=.own (g c) n:=of_eq_true (eq_self _)
theorem rn0_view (c o n):(V.view c o n).rn0 g=.view (g c) o n:=of_eq_true (eq_self _)
theorem rn0_pv (c n):(V.pv c n).rn0 g=.pv (g c) n:=of_eq_true (eq_self _)
theorem rn0_pa (c i n):(V.pa c i n).rn0 g=.pa (g c) i n:=of_eq_true (eq_self _)
theorem hrn_var (ty r):(Hs.var ty r).rn g=.var ty (r.map (V.rn1 g)):=of_eq_true (eq_self _)
theorem hrn_arr (ty z r):(Hs.arr ty z r).rn g=.arr ty z r:=of_eq_true (eq_self _)
theorem hrn_dead:(Hs.dead).rn g=.dead:=of_eq_true (eq_self _)
theorem outU_nil (k):outU g k []=[]:=of_eq_true (eq_self _)
theorem outU_cons (k s l):outU g k (s::l)=(g k,s.rn g)::outU g (k+1) l:=of_eq_true (eq_self _)
end
theorem deads_nil:deads []=[]:=of_eq_true (eq_self _)
theorem deads_cons (c l):deads (c::l)=(c,.dead)::deads l:=of_eq_true (eq_self _)
theorem bk_ge {ns:List Nat} {pin d i:Nat} (h:pin≤i):bk ns pin d i=100000+100*d+i:=by simp[bk,newN,Nat.not_lt.2 h]
theorem bk_lt {ns:List Nat} {pin d i:Nat} (h:i<pin):bk ns pin d i=nsF ns i:=by simp[bk,h]
theorem nsF_0 (n ns):nsF (n::ns) 0=n:=by simp[nsF]
theorem nsF_s (n ns i):nsF (n::ns) (i+1)=nsF ns i:=by simp[nsF]
theorem chH_0 (s cs):chH (s::cs) 0=s:=by simp[chH]
theorem chH_s (s cs i):chH (s::cs) (i+1)=chH cs i:=by simp[chH]
theorem chH_n (i):chH [] i=.fresh:=by simp[chH]
theorem newN_e (d i):newN d i=100000+100*d+i:=of_eq_true (eq_self _)
def andB (b:Bool) (o:Option Bool):Option Bool:=o.map (b&&·)
theorem andB_s (b c):andB b (some c)=some (b&&c):=of_eq_true (eq_self _)
theorem eqR_nil:eqR [] [] []=some true:=of_eq_true (eq_self _)
theorem eqR_i (ks k a r b s):eqR (.i::ks) (.int k a::r) (.int k b::s)=andB (decide (a=b)) (eqR ks r s):=by simp[eqR,andB]
theorem eqR_b (ks a r b s):eqR (.b::ks) (.bool a::r) (.bool b::s)=andB (a==b) (eqR ks r s):=by simp[eqR,andB]
theorem eqR_s (ks a r b s):eqR (.s::ks) (.str a::r) (.str b::s)=andB (decide (a=b)) (eqR ks r s):=by simp[eqR,andB]
def mapX (ng:Bool) (o:Option Bool):Option V:=o.map fun r=>.bool (ng ^^ r)
theorem mapX_f (b):mapX false (some b)=some (.bool b):=by simp[mapX]
theorem mapX_t (b):mapX true (some b)=some (.bool (!b)):=by simp[mapX]
theorem eqs_a (ng ks a b):eqsF ng ks (.agg a) (.agg b)=mapX ng (eqR ks a b):=of_eq_true (eq_self _)
theorem beq_f (a b):beqF false (.bool a) (.bool b)=some (.bool (a==b)):=by simp[beqF]
theorem beq_t (a b):beqF true (.bool a) (.bool b)=some (.bool (!(a==b))):=by simp[beqF]
section
variable {P:Program} {G:Glob}
theorem callO {f:FuncId} {args:List V} {postf:V→List Hs→Prop} (F:FnP P G f 0 [] args postf) {vs:List V} {d:Option Nat} {st:St} {K:St→List Nat→List Nat→Prop}
 (lent:List Nat) (dd m:Nat) (hw:WkL (Wk (fun c=>c∈lent) (nsF []) st.h (chH [])) vs args) (hl:∀c,c∈lent→(st.h c).live=true)
 (ho:∀res out,postf res out→out.length≤m) (hf:∀i,i<m→st.h (newN dd i)=.fresh)
 (hk:∀res out,postf res out→K (st.app d (res.rn (bk [] 0 dd)) (outU (bk [] 0 dd) 0 out++deads lent)) (callTc [] lent dd m) (callTc [] lent dd m)):CallV P G f vs d st K :=
 callN F [] lent true dd m hw trivial (Nat.zero_le _) List.nodup_nil (fun c hc=>⟨hl c hc,by simp⟩) (fun res out hp=>⟨Nat.zero_le _,ho res out hp,.inl rfl,fun i hi=>absurd hi (Nat.not_lt_zero _)⟩) hf
  (fun res out hp=>by simpa using hk res out hp)
theorem callU {f:FuncId} {cs:List Hs} {args:List V} {postf:V→List Hs→Prop} (F:FnP P G f 0 cs args postf) {vs:List V} {d:Option Nat} {st:St} {K:St→List Nat→List Nat→Prop}
 (ns lent:List Nat) (dd m:Nat) (hw:WkL (Wk (fun c=>c∈lent) (nsF ns) st.h (chH cs)) vs args)
 (hc:NsL (fun n s=>s.live=true∧WkH (fun c=>c∈lent) (nsF ns) st.h (chH cs) (st.h n) s) ns cs) (hnd:ns.Nodup)
 (hl:∀c,c∈lent→(st.h c).live=true∧c∉ns)
 (ho:∀res out,postf res out→out.length≤m) (hf:∀i,i<m→st.h (newN dd i)=.fresh)
 (hk:∀res out,postf res out→K (st.app d (res.rn (bk ns 0 dd)) (outU (bk ns 0 dd) 0 out++deads (ns++lent))) (callTc ns lent dd m) (callTc ns lent dd m)):CallV P G f vs d st K :=
 callN F ns lent true dd m hw hc (Nat.zero_le _) hnd hl (fun res out hp=>⟨Nat.zero_le _,ho res out hp,.inl rfl,fun i hi=>absurd hi (Nat.not_lt_zero _)⟩) hf
  (fun res out hp=>by simpa using hk res out hp)
end
theorem getD_mp {α:Type} [Inhabited α] {l:List α} {i:Nat} (h:i<l.length) (f:α→List V) (d:List V):(l.map f).getD i d=f (l.getD i default):=by
 simp[List.getD,h]
theorem live_arr (ty z r):(Hs.arr ty z r).live=true:=of_eq_true (eq_self _)
theorem live_var (ty r):(Hs.var ty r).live=true:=of_eq_true (eq_self _)
def liveN (fs:List (Nat×Nat)):List (Nat×Hs)→List Nat
 | []=>[]
 | (k,s)::m=>bif s.live then getN fs k::liveN fs m else liveN fs m
theorem liveN_mem {fs:List (Nat×Nat)}:∀ {m:List (Nat×Hs)} {k s},(k,s)∈m→s.live=true→getN fs k∈liveN fs m
 | (k0,s0)::m,k,s,h,hl=>by
   simp only[liveN]
   rcases List.mem_cons.1 h with h|h
   ·cases h;simp[hl]
   ·cases s0.live<;>simp[liveN_mem h hl]
theorem liveN_inj {fs:List (Nat×Nat)}:∀ {m:List (Nat×Hs)},(liveN fs m).Nodup→∀x y s s',(x,s)∈m→(y,s')∈m→s.live=true→s'.live=true→getN fs x=getN fs y→x=y
 | [],_,x,y,s,s',hx,_,_,_,_=>by cases hx
 | (k0,s0)::m,hn,x,y,s,s',hx,hy,h1,h2,he=>by
   simp only[liveN] at hn
   rcases List.mem_cons.1 hx with hx1|hx1<;>rcases List.mem_cons.1 hy with hy1|hy1
   ·cases hx1;cases hy1;rfl
   ·cases hx1
    simp only[h1,cond_true,List.nodup_cons] at hn
    exact absurd (he▸liveN_mem hy1 h2) hn.1
   ·cases hy1
    simp only[h2,cond_true,List.nodup_cons] at hn
    exact absurd (he▸liveN_mem hx1 h1) hn.1
   ·have hn':(liveN fs m).Nodup:=by
     cases hs:s0.live<;>simp only[hs,cond_true,cond_false,List.nodup_cons] at hn
     ·exact hn
     ·exact hn.2
    exact liveN_inj hn' x y s s' hx1 hy1 h1 h2 he
theorem getH_mem':∀ {m:List (Nat×Hs)} {c:Nat},getH m c≠.fresh→(c,getH m c)∈m
 | [],c,h=>absurd rfl h
 | (k,s)::m,c,h=>by
   simp only[getH] at h ⊢
   split at h
   ·rename_i e;subst e;simp
   ·rename_i e;rw[if_neg e];simp[getH_mem' h]
theorem leN' {G:Glob} {pin:Nat} {l1 l2:List (Nat×V)} {m1 m2:List (Nat×Hs)} (fs:List (Nat×Nat))
 (ht:WkS (Wk (fun c=>nonB fs m2 c=true) (getN fs) (getH m1) (getH m2)) (getL l1) l2)
 (hh:WkN (WkH (fun c=>nonB fs m2 c=true) (getN fs) (getH m1) (getH m2)) (fun c=>getH m1 (getN fs c)) m2)
 (hi:(liveN fs m2).Nodup) (hp:pinOk fs (getH m2) pin):St.le G pin ⟨getL l1,getH m1⟩ ⟨getL l2,getH m2⟩:=by
 have hF:∀c,nonB fs m2 c=true→NoN (getN fs) (getH m2) c∧getH m1 c=getH m1 c:=fun c hc=>⟨nonB_noN hc,rfl⟩
 refine LeR.le (f:=getN fs) ⟨fun d=>?_,fun c=>?_,fun x y hx hy he=>?_,hp.spec⟩
 ·exact(WkS.all (fun v=>by rw[wk_undef];trivial) ht d).congr hF
 ·exact(WkN.all (fun v=>wkh_fresh) hh c).congr hF
 ·exact liveN_inj hi x y _ _ (getH_mem' (live_fresh hx)) (getH_mem' (live_fresh hy)) hx hy he
def RowsW (rows rows':List (List V)):Prop:=rows'.length=rows.length∧∀(i:Nat) r r',rows[i]?=some r→rows'[i]?=some r'→r'.length=r.length∧∀(j:Nat) v v',r[j]?=some v→r'[j]?=some v'→v'=v∨(v=.nils∧∃sz,v'=.sl sz [])
def HsW:Hs→Hs→Prop
 | .arr ty sz rows,.arr ty' sz' rows'=>ty'=ty∧sz'=sz∧RowsW rows rows'
 | a,b=>b=a
theorem RowsW.refl (rows:List (List V)):RowsW rows rows:=⟨rfl,fun i r r' h h'=>by rw[h] at h';cases h';exact⟨rfl,fun j v v' a b=>by rw[a] at b;cases b;exact .inl rfl⟩⟩
theorem RowsW.app {a b a' b':List (List V)} (h1:RowsW a a') (h2:RowsW b b'):RowsW (a++b) (a'++b'):=by
 refine⟨by simp[h1.1,h2.1],fun i r r' hr hr'=>?_⟩
 by_cases hi:i<a.length
 ·rw[List.getElem?_append_left hi] at hr
  rw[List.getElem?_append_left (by rw[h1.1];exact hi)] at hr'
  exact h1.2 i r r' hr hr'
 ·rw[List.getElem?_append_right (by omega)] at hr
  rw[List.getElem?_append_right (by rw[h1.1];omega),h1.1] at hr'
  exact h2.2 _ r r' hr hr'
inductive RowW:List V→List V→Prop
 | nil:RowW [] []
 | same (v:V) {r r':List V} (h:RowW r r'):RowW (v::r) (v::r')
 | nils (sz:Nat) {r r':List V} (h:RowW r r'):RowW (.nils::r) (.sl sz []::r')
theorem RowW.spec {r r':List V} (h:RowW r r'):r'.length=r.length∧∀(j:Nat) v v',r[j]?=some v→r'[j]?=some v'→v'=v∨(v=.nils∧∃sz,v'=.sl sz []):=by
 induction h with
 | nil=>exact⟨rfl,fun j v v' h=>by simp at h⟩
 | same v h ih =>
   refine⟨by simp[ih.1],fun j a b ha hb=>?_⟩
   cases j with
   | zero=>simp at ha hb;subst ha;subst hb;exact .inl rfl
   | succ j=>exact ih.2 j a b (by simpa using ha) (by simpa using hb)
 | nils sz h ih =>
   refine⟨by simp[ih.1],fun j a b ha hb=>?_⟩
   cases j with
   | zero=>simp at ha hb;subst ha;subst hb;exact .inr ⟨rfl,sz,rfl⟩
   | succ j=>exact ih.2 j a b (by simpa using ha) (by simpa using hb)
theorem RowsW.one {r r':List V} (h:RowW r r'):RowsW [r] [r']:=by
 refine⟨rfl,fun i a b ha hb=>?_⟩
 cases i with
 | zero=>simp at ha hb;subst ha;subst hb;exact h.spec
 | succ i=>simp at ha
theorem HsW.refl (a:Hs):HsW a a:=by cases a<;>first|rfl|exact⟨rfl,rfl,.refl _⟩
theorem HsW.live {a b:Hs} (h:HsW a b):b.live=a.live:=by
 cases a<;>cases b<;>first|rfl|(cases h;done)|(simp only[HsW] at h;cases h;done)|(simp only[HsW] at h;rw[h])
theorem HsW.step {a b:Hs} (h:HsW a b) (l:Loc):HStep l a l b:=by
 cases a<;>cases b<;>first
  | exact HStep.refl _ _
  | (obtain⟨rfl,rfl,h⟩:=h;exact .inr (.inr ⟨rfl,.inr (.inr ⟨_,_,_,_,rfl,rfl,by rw[h.1];exact Nat.le_refl _⟩)⟩))
  | (simp only[HsW] at h;rw[h];exact HStep.refl _ _)
  | (simp only[HsW] at h;cases h;done)
theorem RelH.rows {B:Base} {ρ:Nat→Loc} {h h':Nat→Hs} {w:World} (hw:∀c,HsW (h c) (h' c)) (r:RelH B ρ h w):RelH B ρ h' w∧(∀b,owns B ρ h' b↔owns B ρ h b):=by
 have ho:∀b,owns B ρ h' b↔owns B ρ h b:=fun b=>by
  simp only[owns,(hw _).live]
 have himm:∀v u,Imm w (owns B ρ h) v u→Imm w (owns B ρ h') v u:=fun v u hi=>hi.mono (Nat.le_refl _) (fun _ _ _=>rfl) fun b _ hb=>(ho b).1 hb
 refine⟨⟨r.os,r.tape,r.output,r.grow,r.keep,fun c=>?_,fun c hl=>r.home c (by rw[←(hw c).live];exact hl),fun c c' hl hl'=>r.sep c c' (by rw[←(hw c).live];exact hl) (by rw[←(hw c').live];exact hl'),fun i hi=>?_⟩,ho⟩
 ·have hc:=(r.chunk c).mono himm (fun x=>(hw x).step (ρ x)) (fun _=>rfl)
  have hwc:=hw c
  revert hc hwc
  cases h c<;>cases h' c<;>intro hc hwc<;>first
   | trivial
   | (simp only[HsW] at hwc;cases hwc;exact hc)
   | (simp only[HsW] at hwc;cases hwc;done)
   | skip
  rename_i ty sz rows ty' sz' rows'
  obtain⟨rfl,rfl,hl,hr⟩:=hwc
  rcases hc with⟨a,b,c⟩|⟨a,cs,b,c,d,e,f⟩
  ·subst b
   exact .inl ⟨a,List.length_eq_zero_iff.1 (by simpa using hl),c⟩
  ·refine .inr ⟨a,cs,b,c,by omega,fun x hx=>?_,fun i x j v hx hv=>?_⟩
   ·obtain⟨i,hi⟩:=List.mem_iff_getElem?.1 hx
    have hil:i<rows.length:=by rw[←hl];exact(List.getElem?_eq_some_iff.1 hi).1
    rw[(hr i _ _ (zE hil) hi).1]
    exact e _ (List.getElem_mem hil)
   ·have hil:i<rows.length:=by rw[←hl];exact(List.getElem?_eq_some_iff.1 hx).1
    obtain⟨h1,h2⟩:=hr i _ _ (zE hil) hx
    have hjl:j<rows[i].length:=by rw[←h1];exact(List.getElem?_eq_some_iff.1 hv).1
    obtain⟨u,hu,hi⟩:=f i _ j _ (zE hil) (zE hjl)
    rcases h2 j _ _ (zE hjl) hv with hvv|⟨hv1,sz,rfl⟩
    ·rw[hvv];exact⟨u,hu,hi⟩
    ·rw[hv1] at hi
     cases hi
     exact⟨_,hu,.esl _ _ _⟩
 ·rcases r.pin i hi with hd|⟨hd,he⟩
  ·left
   have:=hw i
   rw[hd] at this
   exact this
  ·right
   exact⟨by rw[(hw i).live];exact hd,he⟩
theorem FnP.rowsIn {P:Program} {G:Glob} {f:FuncId} {pin:Nat} {cs cs':List Hs} {args:List V} {post:V→List Hs→Prop} (F:FnP P G f pin cs' args post) (hc:∀c,HsW (chH cs c) (chH cs' c)):FnP P G f pin cs args post where
 en:=F.en
 ne:=F.ne
 run:=fun W ρ ext us hg hlt hno hng r hargs=>by
  have hb:∀b,blocks ρ (chH cs') b↔blocks ρ (chH cs) b:=fun b=>by simp only[blocks,(hc _).live]
  have hbe:blocks ρ (chH cs')=blocks ρ (chH cs):=funext fun b=>propext (hb b)
  obtain⟨r',ho⟩:=r.rows hc
  have hargs':DenArgs W (owns ⟨W,blocks ρ (chH cs'),ext,pin,ρ⟩ ρ (chH cs')) ρ (chH cs') args us:=by
   rw[hbe]
   exact⟨hargs.1,fun j v u hv hu=>(hargs.2 j v u hv hu).mono (fun v u hi=>hi.mono (Nat.le_refl _) (fun _ _ _=>rfl) fun b _ hb=>(ho b).1 hb) fun c=>(hc c).step _⟩
  have:=F.run W ρ ext us hg hlt (fun b h=>by rw[hbe];exact hno b h) (fun b h=>hng b ((hb b).1 h)) (by rw[hbe];exact r') hargs'
  rw[hbe] at this
  exact this
theorem FnP.rowsOut {P:Program} {G:Glob} {f:FuncId} {pin:Nat} {cs:List Hs} {args:List V} {post post':V→List Hs→Prop} (F:FnP P G f pin cs args post)
 (hc:∀r o,post r o→∃o',post' r o'∧∀c,HsW (chH o c) (chH o' c)):FnP P G f pin cs args post' where
 en:=F.en
 ne:=let ⟨r,o,h⟩:=F.ne;let ⟨o',h',_⟩:=hc r o h;⟨r,o',h'⟩
 run:=fun W ρ ext us hg hlt hno hng r hargs=>(F.run W ρ ext us hg hlt hno hng r hargs).mono fun e W' ⟨u,res,out,ρ',he,hp,hr,hd⟩=>by
  obtain⟨o',hp',hw⟩:=hc res out hp
  obtain⟨hr',ho⟩:=hr.rows hw
  exact⟨u,res,o',ρ',he,hp',hr',hd.mono (fun v u hi=>hi.mono (Nat.le_refl _) (fun _ _ _=>rfl) fun b _ hb=>(ho b).1 hb) fun c=>(hw c).step _⟩
theorem St.le_trans {G:Glob} {pin:Nat} {a b c:St} (h1:a.le G pin b) (h2:b.le G pin c):a.le G pin c:=fun n B ρ x w hp hB r=>by
 obtain⟨ρ',r'⟩:=h1 n B ρ x w hp hB r
 exact h2 n B ρ' x w hp hB r'
def nilLoc:Loc:=⟨true,0,0,0⟩
theorem RelH.nilCell {G:Glob} {B:Base} {ρ:Nat→Loc} {h:Nat→Hs} {w:World} (hB:BaseOk G B) (r:RelH B ρ h w) {c m ty sz tz j:Nat} {row:List V} (hm:h m=.fresh) (hne:c≠m) (hc:h c=.var tz row) (hj:row[j]?=some .nils) :
 Turns B ρ h w (upρ ρ m nilLoc) (upH h [(c,.var tz (row.set j (.own m 0))),(m,.arr ty sz [])]) w:=by
 have hst:∀x,HStep (ρ x) (h x) (upρ ρ m nilLoc x) (upH h [(c,.var tz (row.set j (.own m 0))),(m,.arr ty sz [])] x):=fun x=>by
  by_cases hxm:x=m
  ·subst hxm;exact .inl hm
  ·by_cases hxc:x=c
   ·subst hxc
    refine .inr (.inr ⟨by simp[upρ,hxm],.inr (.inl ⟨tz,row,tz,row.set j (.own m 0),hc,by simp[upH]⟩)⟩)
   ·simp only[upH,upρ,if_neg hxm,if_neg hxc];exact HStep.refl _ _
 have hnm:∀x,(upρ ρ m nilLoc x).nil=false→x≠m:=fun x hx he=>by
  subst he;simp[upρ,nilLoc] at hx
 have hlv:∀x,x≠m→(upH h [(c,.var tz (row.set j (.own m 0))),(m,.arr ty sz [])] x).live=true→(h x).live=true:=fun x hx hl=>by
  by_cases hxc:x=c
  ·subst hxc;rw[hc];rfl
  ·simpa only[upH,if_neg hx,if_neg hxc] using hl
 refine r.turn rfl rfl rfl (Nat.le_refl _) (fun b _=>.inl rfl) hst (r.ext_lt hB) ?_ ?_ ?_
 ·intro x hl hn
  have hx:=hnm x hn
  simp only[upρ,if_neg hx] at hn ⊢
  exact .inl ⟨x,hlv x hx hl,hn,rfl⟩
 ·intro x y hl1 hl2 hn1 hn2 he
  have hx:=hnm x hn1
  have hy:=hnm y hn2
  simp only[upρ,if_neg hx,if_neg hy] at hn1 hn2 he
  exact r.sep x y (hlv x hx hl1) (hlv y hy hl2) hn1 hn2 he
 ·intro himm x
  by_cases hxm:x=m
  ·subst hxm
   have:upH h [(c,Hs.var tz (row.set j (.own x 0))),(x,.arr ty sz [])] x=.arr ty sz []:=by simp[upH,Ne.symm hne]
   rw[this]
   exact .inl ⟨by simp[upρ,nilLoc],rfl,by simp[upρ,nilLoc]⟩
  ·by_cases hxc:x=c
   ·subst hxc
    have e1:upH h [(x,Hs.var tz (row.set j (.own m 0))),(m,.arr ty sz [])] x=.var tz (row.set j (.own m 0)):=by simp[upH]
    have e2:upρ ρ m nilLoc x=ρ x:=by simp[upρ,hxm]
    have hcx:=r.chunk x
    rw[hc] at hcx
    obtain⟨a1,cs,a2,a3,a4⟩:=hcx
    rw[e1,e2]
    refine⟨a1,cs,a2,by simpa using a3,fun i v hv=>?_⟩
    by_cases hij:i=j
    ·subst hij
     obtain⟨u,b1,b2,b3⟩:=a4 i _ hj
     have hlt:=(List.getElem?_eq_some_iff.1 hj).1
     rw[List.getElem?_set_self hlt] at hv
     cases hv
     refine⟨u,b1,b2, ?_⟩
     have hu:u=.slice none 0 0:=by cases b3;rfl
     have e3:upH h [(x,Hs.var tz (row.set i (.own m 0))),(m,.arr ty sz [])] m=.arr ty sz []:=by simp[upH,hne,Ne.symm hne]
     refine(Den1.lo rfl).2 ?_
     simp only[Den0,e3]
     rw[hu]
     simp[upρ,nilLoc,Loc.sl,Loc.addr]
    ·rw[List.getElem?_set_ne (Ne.symm hij)] at hv
     obtain⟨u,b1,b2,b3⟩:=a4 i v hv
     exact⟨u,b1,b2,b3.mono himm hst⟩
   ·have e1:upH h [(c,Hs.var tz (row.set j (.own m 0))),(m,.arr ty sz [])] x=h x:=by simp only[upH,if_neg hxm,if_neg hxc]
    have e2:upρ ρ m nilLoc x=ρ x:=by simp[upρ,hxm]
    rw[e1,e2]
    exact(r.chunk x).mono himm hst (fun _=>rfl)
theorem nilOwn {G:Glob} {pin:Nat} {l:List (Nat×V)} {mm:List (Nat×Hs)} (c m ty sz tz j:Nat) {row:List V} (hm:getH mm m=.fresh) (hne:c≠m) (hc:getH mm c=.var tz row) (hj:row[j]?=some .nils) :
 St.le G pin ⟨getL l,getH mm⟩ ⟨getL l,getH ((c,.var tz (row.set j (.own m 0)))::(m,.arr ty sz [])::mm)⟩:=fun n B ρ a w hp hB r=>by
 have T:=r.mem.nilCell (c:=c) (m:=m) (ty:=ty) (sz:=sz) (tz:=tz) (j:=j) hB hm hne hc hj
 have e:upH (getH mm) [(c,Hs.var tz (row.set j (.own m 0))),(m,.arr ty sz [])]=getH ((c,.var tz (row.set j (.own m 0)))::(m,.arr ty sz [])::mm):=by
  funext x;simp[upH,getH]
 rw[e] at T
 exact⟨_,T.rel,r.size,r.nod,fun d=>T.den _ _ (r.tmps d)⟩
theorem upH_same {h:Nat→Hs}:∀ {up:List (Nat×Hs)},(∀x,x∈up→h x.1=x.2)→upH h up=h
 | [],_=>by funext x;rfl
 | p::up,hp=>by
   have ih:=upH_same (h:=h) (up:=up) fun x hx=>hp x (List.mem_cons_of_mem _ hx)
   have h1:=hp p List.mem_cons_self
   funext x
   simp only[upH]
   split
   ·rename_i e;rw[e];exact h1.symm
   ·exact congrFun ih x
section
variable {P:Program} {G:Glob}
theorem callRd {f:FuncId} {pin:Nat} {cs:List Hs} {args:List V} {postf:V→List Hs→Prop} (F:FnP P G f pin cs args postf) {vs:List V} {d:Option Nat} {st:St} {K:St→List Nat→List Nat→Prop}
 (ns:List Nat) (dd m:Nat)
 (hw:WkL (Wk (fun c=>c∈[]) (nsF ns) st.h (chH cs)) vs args)
 (hc:NsL (fun n s=>s.live=true∧WkH (fun c=>c∈[]) (nsF ns) st.h (chH cs) (st.h n) s) ns cs)
 (hpin:pin≤ns.length) (hnd:ns.Nodup)
 (ho:∀res out,postf res out→pin≤out.length∧out.length≤m∧∀i,i<pin→stepOk (chH cs i) (chH out i)=true)
 (hf:∀i,i<m→st.h (newN dd i)=.fresh)
 (hsame:∀res out,postf res out→∀x,x∈outU (bk ns pin dd) 0 out++deads (ns.drop pin)→st.h x.1=x.2)
 (hk:∀res out,postf res out→K (st.app d (res.rn (bk ns pin dd)) []) (callTc ns [] dd m) []) :
 CallV P G f vs d st K:=by
 obtain⟨hlen,hw⟩:=hw.spec
 have hF:∀h':Nat→Hs,(∀c,c∈callTc ns [] dd m→h' c=st.h c)→∀c,c∈([]:List Nat)→c∈([]:List Nat)∧h' c=st.h c:=fun h' hh c hc=>by cases hc
 obtain⟨h20,h21⟩:=hc.spec
 have h2:ns.length=cs.length∧∀(i:Nat) s,cs[i]?=some s→s.live=true∧WkH (fun c=>c∈([]:List Nat)) (nsF ns) st.h (chH cs) (st.h (nsF ns i)) s∧nsF ns i∈ns :=
  ⟨h20,fun i s hs=>⟨(h21 i s hs).1,(h21 i s hs).2,mem_nsF (by rw[h20];exact(List.getElem?_eq_some_iff.1 hs).1)⟩⟩
 have hs:=callS F (vs:=vs) (h:=st.h) (ns:=ns) (lent:=[]) (kp:=true) (d:=dd) (m:=m) hpin h2.1 hnd hlen.symm
  (fun h' hh j v v' h1 h2=>(hw j v v' h1 h2).congr (hF h' hh))
  (fun h' hh i s hs=>by
    obtain⟨a,b,e⟩:=h2.2 i s hs
    refine⟨.inl a, ?_⟩
    rw[hh (nsF ns i) (by simp[callTc,e])]
    exact b.congr (hF h' hh)) (fun c hc=>by cases hc) (fun res out hp=>let ⟨a,b,c⟩:=ho res out hp;⟨a,b,.inl rfl,c⟩) hf
 have hup:∀v up,callPost ns [] true pin dd postf v up→∃res out,postf res out∧v=res.rn (bk ns pin dd)∧∀x,x∈up→st.h x.1=x.2:=by
  rintro v up ⟨res,out,hp,rfl,rfl⟩
  refine⟨res,out,hp,rfl, ?_⟩
  simpa using hsame res out hp
 refine⟨fun v up=>∃up',callPost ns [] true pin dd postf v up'∧up=[],callTc ns [] dd m,[],⟨hs.en, ?_, ?_,(fun c hc=>by cases hc), ?_⟩, ?_⟩
 ·obtain⟨v,up,hp⟩:=hs.ne
  exact⟨v,[],up,hp,rfl⟩
 ·rintro v up ⟨_,_,rfl⟩ x hx;cases hx
 ·intro h' hh B ρ w us hB r ha
  refine(hs.run h' hh B ρ w us hB r ha).mono fun e w' hp=>?_
  obtain⟨u,v,up,ρ',he,hp,hT,hd⟩:=hp
  have hw2:=hs.wri v up hp
  obtain⟨_,_,_,_,hx⟩:=hup v up hp
  have e1:upH h' up=h':=upH_same fun x hxu=>by
   rw[hh x.1 (hs.sub _ (hw2 x hxu))];exact hx x hxu
  rw[e1] at hT hd
  exact⟨u,v,[],ρ',he,⟨up,hp,rfl⟩,hT,hd⟩
 ·rintro v up ⟨up',hp,rfl⟩
  obtain⟨res,out,hq,rfl,_⟩:=hup v up' hp
  exact hk res out hq
end
abbrev mV (d a:Nat):IOper:=⟨some d,none,.mv (.t a)⟩
abbrev lD (d k a:Nat):IOper:=⟨some d,none,.ld k false (.t a)⟩
abbrev lA (d k a:Nat):IOper:=⟨some d,none,.ld k true (.t a)⟩
abbrev fD (d k a:Nat):IOper:=⟨some d,none,.fad k (.t a)⟩
abbrev bN (d:Nat) (o:BinOp) (a b:Nat):IOper:=⟨some d,none,.bin o (.t a) (.t b)⟩
abbrev eX (d a i:Nat):IOper:=⟨some d,none,.ext (.t a) i⟩
abbrev oP (d:Nat) (x:IOp):IOper:=⟨some d,none,x⟩
abbrev nP (x:IOp):IOper:=⟨none,none,x⟩
abbrev sR (l:List IOper) (x:IC):IC:=.seq (.reg l) x
abbrev i0:V:=.int .i64 0
abbrev s0:V:=.str []
class Br (g:Prop) (p e A q f C:outParam Prop):Prop where
 out:(p→e→A)→(q→f→C)→g
theorem br {g p e A q f C:Prop} [i:Br g p e A q f C] (h1:p→e→A) (h2:q→f→C):g:=i.out h1 h2
class Sd (g:Prop) (p A:outParam Prop):Prop where
 out:p→A→g
theorem sd {g p A:Prop} [i:Sd g p A] (h2:A) (h1:p:=by first|kernel_rfl|omega):g:=i.out h1 h2
section
variable {P:Program} {G:Glob} {pin:Nat} {st:St} {K3:St→List Nat→List Nat→Prop} {Q:Ex→St→Prop}
instance {d op} {b:Bool}:Br (gK P G d op st K3 (some b)) (b=true) (b=true) (doV P G ⟨d,none,op⟩ st K3) (b=false) (b=false) (K3 (st.app d (.tup []) []) [] []):=⟨fun h1 h2=>gB (fun h=>h1 h h) fun h=>h2 h h⟩
instance {a b':IC} {b:Bool}:Br (condW P G pin a b' Q st (.bool b)) (b=true) (b=true) (wpI P G pin a Q st) (b=false) (b=false) (wpI P G pin b' Q st):=⟨fun h1 h2=>cB (fun h=>h1 h h) fun h=>h2 h h⟩
instance {d op} {b:Bool}:Br (gK P G d op st K3 (some (!b))) (b=true) (b=true) (K3 (st.app d (.tup []) []) [] []) (b=false) (b=false) (doV P G ⟨d,none,op⟩ st K3):=⟨fun h1 h2=>gBn (fun h=>h1 h h) fun h=>h2 h h⟩
instance {a b':IC} {b:Bool}:Br (condW P G pin a b' Q st (.bool (!b))) (b=true) (b=true) (wpI P G pin b' Q st) (b=false) (b=false) (wpI P G pin a Q st):=⟨fun h1 h2=>cBn (fun h=>h1 h h) fun h=>h2 h h⟩
instance {d op} {p:Prop} {inst:Decidable p}:Br (gK P G d op st K3 (some (decide p))) p (p=True) (doV P G ⟨d,none,op⟩ st K3) (¬p) (p=False) (K3 (st.app d (.tup []) []) [] []):=⟨gBd⟩
instance {a b':IC} {p:Prop} {inst:Decidable p}:Br (condW P G pin a b' Q st (.bool (decide p))) p (p=True) (wpI P G pin a Q st) (¬p) (p=False) (wpI P G pin b' Q st):=⟨cBd⟩
instance {d op} {p:Prop} {inst:Decidable p}:Br (gK P G d op st K3 (some (!decide p))) p (p=True) (K3 (st.app d (.tup []) []) [] []) (¬p) (p=False) (doV P G ⟨d,none,op⟩ st K3):=⟨gBnd⟩
instance {a b':IC} {p:Prop} {inst:Decidable p}:Br (condW P G pin a b' Q st (.bool (!decide p))) p (p=True) (wpI P G pin b' Q st) (¬p) (p=False) (wpI P G pin a Q st):=⟨cBnd⟩
instance {d:Option Nat} {c:Prop} {inst:Decidable c} {x:Option V}:Sd (pureK d st K3 (guardP c x)) c (pureK d st K3 x):=⟨pureG⟩
instance {d:Option Nat} {c:Prop} {inst:Decidable c} {x:Option (V×List (Nat×Hs)×List Nat)}:Sd (effK d st K3 (guardP c x)) c (effK d st K3 x):=⟨effG⟩
instance {bef i tc wr tr} {p:Prop}:Sd (chk bef i tc wr tr=true∧p) (chk bef i tc wr tr=true) p:=⟨fun a b=>⟨a,b⟩⟩
instance {bef i tc wr tr}:Sd (chk bef i tc wr tr=true) (chk bef i tc wr tr=true) True:=⟨fun a _=>a⟩
structure Dg (P:Program) (f:FuncId) (fn:Func) (ic:IC) (rs:List RV):Prop where
 hf:P.funcs[f]?=some fn
 he:entr P f=true
 hd:digF P fn=some (ic,rs)
theorem mF {f:FuncId} {fn:Func} {ic:IC} {rs:List RV} {args:List V} {v:V} (D:Dg P f fn ic rs) {n:Nat} (hnt:fn.ntmps=n) (h:wpI P G 0 ic (retF rs v) ⟨getL (argL 0 args),getH []⟩) (ha:args.length≤n:=by simp):FnR P G f args v :=
 FnR.mkF D.hf D.he D.hd hnt ha h
theorem mP {f:FuncId} {fn:Func} {ic:IC} {rs:List RV} {cs:List Hs} {args:List V} {post:V→List Hs→Prop} (D:Dg P f fn ic rs) {n:Nat} (hnt:fn.ntmps=n) (hne:∃r o,post r o) (h:wpI P G pin ic (retQ rs pin post) ⟨getL (argL 0 args),chH cs⟩)
 (ha:args.length≤n:=by simp):FnP P G f pin cs args post:=FnP.mk' D.hf D.he D.hd hnt ha hne h
theorem cr {f:FuncId} {vs:List V} {v:V} (F:FnR P G f vs v) {d:Option Nat} {K:St→List Nat→List Nat→Prop} (hk:K (st.app d v []) [] []) (hvs:vs.all V.nl=true:=by kernel_rfl) (hv:v.nl=true:=by kernel_rfl) :
 CallV P G f vs d st K:=callR F hvs hv hk
theorem leQ {l1 l2:List (Nat×V)} {m1 m2:List (Nat×Hs)} (fs:List (Nat×Nat))
 (ht:WkS (Wk (fun c=>nonB fs m2 c=true) (getN fs) (getH m1) (getH m2)) (getL l1) l2:=by simp only[go_sem];first|done|omega|rfl)
 (hh:WkN (WkH (fun c=>nonB fs m2 c=true) (getN fs) (getH m1) (getH m2)) (fun c=>getH m1 (getN fs c)) m2:=by simp only[go_sem];first|done|omega|rfl)
 (hi:(m2.map fun p=>getN fs p.1).Nodup:=by simp[getN]) (hp:pinOk fs (getH m2) pin:=by simp only[go_sem]):St.le G pin ⟨getL l1,getH m1⟩ ⟨getL l2,getH m2⟩:=leN fs ht hh hi hp
theorem cf {f:FuncId} {args:List V} {v:V} (F:FnR P G f args v) {vs:List V} {d:Option Nat} {K:St→List Nat→List Nat→Prop} (lent:List Nat)
 (hK:K (st.app d v []) lent [])
 (hw:WkL (Wk (fun c=>c∈lent) (nsF []) st.h (chH [])) vs args:=by simp only[go_sem];first|done|simp[E.row,Pc.row,Pair.row,Part.row,Flw.row,Pk.row,Conv.row])
 (hl:∀c,c∈lent→(st.h c).live=true:=by simp only[List.mem_cons,List.not_mem_nil,or_false];rintro c (rfl|rfl|rfl|rfl)<;>simp only[go_sem]) (hv:v.nl=true:=by kernel_rfl) (hk:v.plain=true:=by kernel_rfl):CallV P G f vs d st K :=
 callF F lent false hw hl hv (.inr hk) hK
end
end Go.Proofs.YtiegngjdjheebaaGreatDoor.VL
namespace Go.Proofs.YtiegngjdjheebaaGreatDoor.M
abbrev B:=List UInt8
structure E where
 a:Int
 p:Int
 deriving DecidableEq,Inhabited
structure Pc where
 size:Nat
 named:Bool
 e:E
 deriving DecidableEq,Inhabited
structure Pair where
 port:Int
 ins:E
 deriving DecidableEq,Inhabited
structure Part where
 size:Int
 text:B
 deriving DecidableEq,Inhabited
structure Strm where
 inn:B
 parts:List Part
 deriving DecidableEq,Inhabited
structure Pk where
 kind:Int
 frm:E
 to:E
 at_:Int
 text:B
 deriving DecidableEq,Inhabited
structure Flw where
 ins:E
 out:E
 up:Strm
 down:Strm
 deriving DecidableEq,Inhabited
structure Door where
 map:List Pair
 flows:List Flw
 deriving DecidableEq,Inhabited
structure Conv where
 ins:E
 out:E
 up:B
 down:B
 upAck:Int
 downAck:Int
 upGot:B
 downGot:B
 deriving DecidableEq,Inhabited
structure World where
 convs:List Conv
 door:Door
 nets:List Pk
 deriving DecidableEq,Inhabited
structure Ev where
 kind:Int
 a:Int
 b:Int
 c:Int
 pkt:Pk
 deriving DecidableEq,Inhabited
def E.zero:E:=⟨0,0⟩
def Pk.zero:Pk:=⟨0,.zero,.zero,0,[]⟩
def Strm.zero:Strm:=⟨[],[]⟩
def Door.zero:Door:=⟨[],[]⟩
def Conv.zero:Conv:=⟨.zero,.zero,[],[],0,0,[],[]⟩
def within (n lo hi:Int):Bool:=decide (lo≤n)&&decide (n≤hi)
def E.inside (e:E):Bool:=within e.a 1 3&&within e.p 1 9
def E.outside (e:E):Bool:=within e.a 4 6&&within e.p 1 9
def E.door (e:E):Bool:=decide (e.a=9)&&within e.p 10 17
def E.any (e:E):Bool:=e.inside||e.outside||e.door
def decN (n:Nat):B:=if n<10 then [UInt8.ofNat (48+n)] else [UInt8.ofNat (48+n / 10),UInt8.ofNat (48+n % 10)]
def dec (i:Int):B:=decN i.toNat
def E.text (e:E):B:=if e.any then dec e.a++(58::dec e.p) else []
def ends:List E :=
 ([1,2,3,4,5,6]:List Int).flatMap (fun a=>([1,2,3,4,5,6,7,8,9]:List Int).map fun p=>⟨a,p⟩)++([10,11,12,13,14,15,16,17]:List Int).map fun p=>⟨9,p⟩
def endRead (t:B):Option E:=ends.find? fun e=>decide (e.text=t)
def figB (b lo:UInt8):Bool:=decide (lo≤b)&&decide (b≤57)
def okB (b:UInt8):Bool:=(decide (97≤b)&&decide (b≤122))||figB b 48||decide (b=64)||decide (b=58)||decide (b=59)
def txOk (t:B):Bool:=t.all okB&&decide (t.length≤40)
def begs:B→Bool
 | [a]=>decide (a=64)
 | [a,b]=>decide (a=64)&&figB b 49
 | [a,b,c]=>decide (a=64)&&figB b 49&&decide (c=58)
 | [a,b,c,d]=>decide (a=64)&&figB b 49&&decide (c=58)&&figB d 49
 | [a,b,c,d,e]=>decide (a=64)&&figB b 49&&decide (c=58)&&figB d 49&&figB e 48
 | _=>false
def heldK (t:B):Nat→Nat
 | 0=>0
 | n+1=>if decide (n+1≤t.length)&&begs (t.drop (t.length - (n+1))) then n+1 else heldK t n
def held (t:B):Nat:=heldK t 5
def cutB (s:B) (c:UInt8):B×B×Bool:=if c∈s then(s.takeWhile fun b=>decide (b≠c),(s.dropWhile fun b=>decide (b≠c)).tail,true) else(s,[],false)
def name (e:E):B:=64::(e.text++[59])
def nameAt:B→Option E
 | []=>none
 | c::r=>if c=64∧59∈r then endRead (r.takeWhile fun b=>decide (b≠59)) else none
def pcK:Nat→B→List Pc
 | 0,_=>[]
 | _,[]=>[]
 | n+1,c::r=>match nameAt (c::r) with
   | some e=>⟨(name e).length,true,e⟩::pcK n ((c::r).drop (name e).length)
   | none=>⟨1,false,.zero⟩::pcK n r
def body (t:B):B:=t.take (t.length - held t)
def pieces (t:B):List Pc:=pcK t.length (body t)
def textPieces (t:B):List Pc:=if txOk t then pieces t else []
def namesOf (l:List Pc):List E:=(l.filter (·.named)).map (·.e)
def textNames (t:B):List E:=namesOf (textPieces t)
def okPair (m:List Pair) (i:Nat):Bool:=match m[i]? with
 | some p=>decide (p.port=10+(i:Int))&&p.ins.inside&&!(m.take i).any fun q=>decide (q.ins=p.ins)
 | none=>true
def mapOk (m:List Pair):Bool:=(List.range m.length).all (okPair m)&&decide (m.length≤8)
def portOf (m:List Pair) (e:E):Int:=match m.find? fun p=>decide (p.ins=e) with
 | some p=>p.port
 | none=>0
def insideOf (m:List Pair) (port:Int):Option E:=(m.find? fun p=>decide (p.port=port)).map (·.ins)
def mOut (m:List Pair) (e:E):List Pair×Int×Bool:=match m.find? fun p=>decide (p.ins=e) with
 | some p=>(m,p.port,true)
 | none=>if 8≤m.length then(m,0,false) else(m++[⟨10+(m.length:Int),e⟩],10+(m.length:Int),true)
def pieceOut (m:List Pair) (p:Pc) (s:B):List Pair×B :=
 if p.named&&p.e.inside then(match mOut m p.e with
  | (x,port,true)=>(x,name ⟨9,port⟩)
  | (_,_,false)=>(m,s))
 else(m,s)
def pieceIn (m:List Pair) (p:Pc) (s:B):B :=
 if p.named&&p.e.door then(match insideOf m p.e.p with
  | some e=>name e
  | none=>s)
 else s
def turn (m:List Pair) (p:Pc) (s:B) (out:Bool):List Pair×B:=bif out then pieceOut m p s else(m,pieceIn m p s)
def turned (m:List Pair):List Pc→B→Bool→List Pair×List B
 | [],_,_=>(m,[])
 | p::ps,s,out=>((turned (turn m p (s.take p.size) out).1 ps (s.drop p.size) out).1,(turn m p (s.take p.size) out).2::(turned (turn m p (s.take p.size) out).1 ps (s.drop p.size) out).2)
def okPart (p:Part) (q:Pc):Bool:=decide (p.size=(q.size:Int))&&within p.text.length 1 6&&txOk p.text
def okParts:List Part→List Pc→Bool
 | [],[]=>true
 | p::ps,q::qs=>okPart p q&&okParts ps qs
 | _,_=>false
def strmOk (s:Strm):Bool:=txOk s.inn&&okParts s.parts (pieces s.inn)
def sOut (s:Strm):B:=s.parts.flatMap (·.text)
def forP:List Part→Int→Int
 | [],_=>0
 | p::ps,i=>if p.size≤i then p.text.length+forP ps (i - p.size) else 0
def backP:List Part→Int→Int
 | [],_=>0
 | p::ps,i=>if(p.text.length:Int)≤i then p.size+backP ps (i - p.text.length) else 0
def behind (came:B) (at_:Int) (text:B):B×Bool :=
 if at_>came.length||at_+text.length>40 then(came,false)
 else if at_+text.length≤came.length then(came,true)
 else(came++text.drop (came.length - at_).toNat,true)
def doneP (l:List Part):Nat:=(l.map fun p=>p.size.toNat).sum
def mkParts:List Pc→List B→List Part
 | p::ps,b::bs=>⟨p.size,b⟩::mkParts ps bs
 | _,_=>[]
def put (m:List Pair) (s:Strm) (at_:Int) (text:B) (out:Bool):List Pair×Strm×Bool :=
 if(behind s.inn at_ text).2 then
  let inn:=(behind s.inn at_ text).1
  let list:=(pieces inn).drop s.parts.length
  let r:=turned m list (inn.drop (doneP s.parts)) out
  (r.1,⟨inn,s.parts++mkParts list r.2⟩,true)
 else(m,s,false)
def pkOk (p:Pk):Bool:=p.frm.any&&p.to.any&&within p.at_ 0 99 &&
 ((decide (p.kind=1)&&txOk p.text&&!p.text.isEmpty)||(decide (p.kind=2)&&p.text.isEmpty))
def flowIx (fs:List Flw) (i o:E):Option Nat:=fs.findIdx? fun f=>decide (f.ins=i)&&decide (f.out=o)
def okFlow (d:Door) (k:Nat):Bool:=match d.flows[k]? with
 | some f=>d.map.any (fun p=>decide (p.ins=f.ins))&&f.out.outside&&strmOk f.up&&strmOk f.down&&!(d.flows.take k).any fun g=>decide (g.ins=f.ins)&&decide (g.out=f.out)
 | none=>true
def doorOk (d:Door):Bool:=mapOk d.map&&decide (d.flows.length≤4)&&(List.range d.flows.length).all (okFlow d)
def sendOn (was is:Strm) (p:Pk):Option Pk :=
 let fr:=forP is.parts p.at_
 let to:=if was.inn.length<is.inn.length then((sOut is).length:Int) else forP is.parts (min (p.at_+p.text.length) is.inn.length)
 if fr≥to then none
 else if to - fr≤40 then some { p with at_:=fr,text:=((sOut is).take to.toNat).drop fr.toNat } else none
def openF (d:Door) (i o:E):Option (Door×Nat):=match flowIx d.flows i o with
 | some k=>some (d,k)
 | none=>match mOut d.map i with
   | (m,_,true)=>if d.flows.length<4 then some (⟨m,d.flows++[⟨i,o,.zero,.zero⟩]⟩,d.flows.length) else none
   | _=>none
def dOut (d:Door) (p:Pk):Door×Option Pk:=match openF d p.frm p.to with
 | none=>(d,none)
 | some (d,k)=>match d.flows[k]? with
   | none=>(d,none)
   | some f =>
     let dr:E:=⟨9,portOf d.map p.frm⟩
     if p.kind=2 then
      if p.at_>(sOut f.down).length then(d,none) else(d,some ⟨2,dr,p.to,backP f.down.parts p.at_,[]⟩)
     else match put d.map f.up p.at_ p.text true with
      | (_,_,false)=>(d,none)
      | (m,s,true)=>(⟨m,d.flows.set k { f with up:=s }⟩,(sendOn f.up s p).map fun q=>{ q with frm:=dr })
def dIn (d:Door) (p:Pk):Door×Option Pk:=match insideOf d.map p.to.p with
 | none=>(d,none)
 | some i=>match flowIx d.flows i p.frm with
   | none=>(d,none)
   | some k=>match d.flows[k]? with
     | none=>(d,none)
     | some f =>
       if p.kind=2 then
        if p.at_>(sOut f.up).length then(d,none) else(d,some ⟨2,p.frm,i,backP f.up.parts p.at_,[]⟩)
       else match put d.map f.down p.at_ p.text false with
        | (_,_,false)=>(d,none)
        | (_,s,true)=>(⟨d.map,d.flows.set k { f with down:=s }⟩,(sendOn f.down s p).map fun q=>{ q with to:=i })
def Pk.outward (p:Pk):Bool:=p.frm.inside&&p.to.outside
def Pk.inward (p:Pk):Bool:=p.frm.outside&&p.to.door
def dPass (d:Door) (p:Pk):Door×Option Pk:=if p.outward then dOut d p else if p.inward then dIn d p else(d,none)
def saying (t:B):Bool:=decide (t.length≤24)&&txOk t&&decide (held t=0)
def ownT (t:B):Bool:=!(textNames t).any E.door
def convNew (i o:E) (up down:B):Option Conv :=
 if i.inside&&o.outside&&saying up&&saying down&&ownT up then some ⟨i,o,up,down,0,0,[],[]⟩ else none
def convOk (c:Conv):Bool:=(convNew c.ins c.out c.up c.down).isSome&&within c.upAck 0 c.up.length&&within c.downAck 0 c.down.length&&txOk c.upGot&&txOk c.downGot
def say (c:Conv) (outward:Bool) (port at_ many:Int):Option Pk :=
 let p:Pk:=if outward then⟨1,c.ins,c.out,at_,[]⟩ else⟨1,c.out,⟨9,port⟩,at_,[]⟩
 let text:=if outward then c.up else c.down
 if within at_ 0 ((text.length:Int) - 1)&&decide (1≤many)&&(outward||p.to.door) then
  some { p with text:=(text.drop at_.toNat).take (min many (text.length - at_)).toNat }
 else none
def hear (c:Conv) (inward:Bool) (p:Pk):Conv×Option Pk :=
 if bif inward then decide (p.frm=c.out)&&decide (p.to=c.ins) else decide (p.to=c.out)&&p.frm.door then
  if p.kind=2 then
   (bif inward then { c with upAck:=max c.upAck (min p.at_ c.up.length) } else { c with downAck:=max c.downAck (min p.at_ c.down.length) },none)
  else
   bif inward then({ c with downGot:=(behind c.downGot p.at_ p.text).1 },some ⟨2,p.to,p.frm,(behind c.downGot p.at_ p.text).1.length,[]⟩)
   else({ c with upGot:=(behind c.upGot p.at_ p.text).1 },some ⟨2,p.to,p.frm,(behind c.upGot p.at_ p.text).1.length,[]⟩)
 else(c,none)
def okConv (cs:List Conv) (i:Nat):Bool:=match cs[i]? with
 | some c=>convOk c&&!(cs.take i).any fun o=>decide (o.ins=c.ins)||decide (o.out=c.out)
 | none=>true
def together (cs:List Conv):Bool:=(List.range cs.length).all (okConv cs)&&decide (cs.length≤2)
def newConvs:List Conv→Option (List Conv)
 | []=>some []
 | c::cs=>match convNew c.ins c.out c.up c.down,newConvs cs with
   | some n,some ns=>some (n::ns)
   | _,_=>none
def worldNew (cs:List Conv):Option World:=match newConvs cs with
 | some ns=>if together ns then some ⟨ns,.zero,[]⟩ else none
 | none=>none
def worldOk (w:World):Bool:=together w.convs&&doorOk w.door&&decide (w.nets.length≤10)&&w.nets.all pkOk
def send (w:World):Option Pk→World
 | some p=>if w.nets.length<10 then { w with nets:=w.nets++[p] } else w
 | none=>w
def hostIx (w:World) (p:Pk):Option (Nat×Bool) :=
 match w.convs.findIdx? fun c=>(decide (p.to=c.ins)&&decide (p.frm=c.out))||(decide (p.to=c.out)&&p.frm.door&&decide (p.frm.p=portOf w.door.map c.ins)) with
 | some i=>match w.convs[i]? with
   | some c=>some (i,decide (p.to=c.ins)&&decide (p.frm=c.out))
   | none=>none
 | none=>none
def carry (w:World) (p:Pk):World×Option Pk :=
 if p.to.door||p.frm.inside then({ w with door:=(dPass w.door p).1 },(dPass w.door p).2)
 else match hostIx w p with
  | none=>(w,none)
  | some (i,inward)=>match w.convs[i]? with
    | none=>(w,none)
    | some c=>({ w with convs:=w.convs.set i (hear c inward p).1 },(hear c inward p).2)
def sayW (w:World) (up:Bool) (a b c:Int):Option Pk :=
 if within a 0 ((w.convs.length:Int) - 1) then(match w.convs[a.toNat]? with
  | some cv=>say cv up (bif up then 0 else portOf w.door.map cv.ins) b c
  | none=>none)
 else none
def stranger (w:World) (p:Pk):Bool:=pkOk p&&p.inward&&!w.convs.any fun c=>decide (c.out=p.frm)
def wDo (w:World) (e:Ev):World :=
 let packet:=within e.a 0 ((w.nets.length:Int) - 1)
 if e.kind=1 then send w (sayW w true e.a e.b e.c)
 else if e.kind=2 then send w (sayW w false e.a e.b e.c)
 else if e.kind=3 then
  if packet then(match w.nets[e.a.toNat]? with
   | some p=>let r:=carry { w with nets:=w.nets.eraseIdx e.a.toNat } p;send r.1 r.2
   | none=>w) else w
 else if e.kind=4 then
  if packet then { w with nets:=w.nets.eraseIdx e.a.toNat } else w
 else if e.kind=5 then
  if packet then send w w.nets[e.a.toNat]? else w
 else if e.kind=6 then(if stranger w e.pkt then send w (some e.pkt) else w)
 else w
def worldPlay (cs:List Conv) (es:List Ev):Option World:=match worldNew cs with
 | some w=>if es.length≤60 then some (es.foldl wDo w) else none
 | none=>none
def through:Nat→World→Option Pk→World
 | 0,w,_=>w
 | _,w,none=>w
 | n+1,w,some p=>through n (carry w p).1 (carry w p).2
def sayRound (w:World) (i:Nat):World:=match w.convs[i]? with
 | none=>w
 | some c =>
   let w1:=through 4 w (say c true 0 c.upAck 24)
   match w1.convs[i]? with
   | none=>w1
   | some c1=>through 4 w1 (say c1 false (portOf w1.door.map c1.ins) c1.downAck 24)
def round (w:World):World :=
 let w1:=w.nets.foldl (fun w p=>through 4 w (some p)) { w with nets:=[] }
 (List.range w1.convs.length).foldl sayRound w1
def rounds:Nat→World→World
 | 0,w=>w
 | n+1,w=>rounds n (round w)
theorem within_iff {n lo hi:Int}:within n lo hi=true↔lo≤n∧n≤hi:=by simp[within]
theorem E.inside_iff {e:E}:e.inside=true↔(1≤e.a∧e.a≤3)∧1≤e.p∧e.p≤9:=by simp[E.inside,within_iff]
theorem E.outside_iff {e:E}:e.outside=true↔(4≤e.a∧e.a≤6)∧1≤e.p∧e.p≤9:=by simp[E.outside,within_iff]
theorem E.door_iff {e:E}:e.door=true↔e.a=9∧10≤e.p∧e.p≤17:=by simp[E.door,within_iff]
theorem E.any_iff {e:E}:e.any=true↔e∈ends:=by
 constructor
 ·intro h
  obtain⟨a,p⟩:=e
  simp only[E.any,Bool.or_eq_true,E.inside_iff,E.outside_iff,E.door_iff] at h
  have h9:∀x:Int,1≤x∧x≤9→x=1∨x=2∨x=3∨x=4∨x=5∨x=6∨x=7∨x=8∨x=9:=by omega
  have h17:∀x:Int,10≤x∧x≤17→x=10∨x=11∨x=12∨x=13∨x=14∨x=15∨x=16∨x=17:=by omega
  have h6:∀x:Int,1≤x∧x≤6→x=1∨x=2∨x=3∨x=4∨x=5∨x=6:=by omega
  have:(a=9∧10≤p∧p≤17)∨((1≤a∧a≤6)∧1≤p∧p≤9):=by omega
  simp only[ends,List.mem_append,List.mem_flatMap,List.mem_map,List.mem_cons,List.not_mem_nil,or_false,E.mk.injEq]
  rcases this with⟨rfl,hp⟩|⟨ha,hp⟩
  ·exact .inr ⟨p,h17 p hp,rfl,rfl⟩
  ·exact .inl ⟨a,h6 a ha,p,h9 p hp,rfl,rfl⟩
 ·intro h
  have key:ends.all E.any=true:=by decide
  exact List.all_eq_true.1 key e h
theorem ends_read:∀e∈ends,endRead e.text=some e:=by decide
theorem endRead_some {t:B} {e:E} (h:endRead t=some e):e.any=true∧e.text=t:=by
 have h1:=List.mem_of_find?_eq_some h
 have h2:=List.find?_some h
 exact⟨E.any_iff.2 h1,of_decide_eq_true h2⟩
theorem endRead_text {e:E} (h:e.any=true):endRead e.text=some e:=ends_read e (E.any_iff.1 h)
theorem text_no59 {e:E}:59∉e.text:=by
 by_cases h:e.any=true
 ·have key:∀e∈ends,59∉e.text:=by decide
  exact key e (E.any_iff.1 h)
 ·simp[E.text,h]
theorem text_no64 {e:E}:64∉e.text:=by
 by_cases h:e.any=true
 ·have key:∀e∈ends,64∉e.text:=by decide
  exact key e (E.any_iff.1 h)
 ·simp[E.text,h]
theorem text_len {e:E} (h:e.any=true):e.text.length=(if e.door then 4 else 3):=by
 have key:∀e∈ends,e.text.length=(if e.door then 4 else 3):=by decide
 exact key e (E.any_iff.1 h)
theorem text_ok {e:E}:e.text.all okB=true:=by
 by_cases h:e.any=true
 ·have key:∀e∈ends,e.text.all okB=true:=by decide
  exact key e (E.any_iff.1 h)
 ·simp[E.text,h]
theorem name_len {e:E} (h:e.any=true):(name e).length=(if e.door then 6 else 5):=by
 simp only[name,zC,zA,zN,text_len h]
 split<;>rfl
theorem takeWhile_name {e:E} {r:B}:(e.text++[59]++r).takeWhile (fun b=>decide (b≠59))=e.text:=by
 rw[List.append_assoc,List.takeWhile_append_of_pos]
 ·simp
 ·intro b hb
  simp only[ne_eq,decide_eq_true_eq]
  rintro rfl
  exact text_no59 hb
theorem nameAt_name {e:E} (h:e.any=true) (r:B):nameAt (name e++r)=some e:=by
 simp only[name,List.cons_append,nameAt]
 rw[if_pos (by simp),takeWhile_name,endRead_text h]
theorem split_59 {r:B} (h:59∈r):∃s,r=r.takeWhile (fun b=>decide (b≠59))++[59]++s:=by
 induction r with
 | nil=>cases h
 | cons c r ih =>
   by_cases hc:c=59
   ·subst hc;exact⟨r,by simp⟩
   ·have h':59∈r:=by
     rcases List.mem_cons.1 h with h|h
     ·exact absurd h.symm hc
     ·exact h
    obtain⟨s,hs⟩:=ih h'
    refine⟨s, ?_⟩
    rw[List.takeWhile_cons_of_pos (by simpa using hc)]
    simp only[List.cons_append]
    rw[←hs]
theorem nameAt_some {s:B} {e:E} (h:nameAt s=some e):e.any=true∧∃r,s=name e++r:=by
 cases s with
 | nil=>simp[nameAt] at h
 | cons c r =>
   simp only[nameAt] at h
   split at h
   ·rename_i hc
    obtain⟨rfl,h59⟩:=hc
    obtain⟨ha,ht⟩:=endRead_some h
    obtain⟨s,hs⟩:=split_59 h59
    refine⟨ha,s, ?_⟩
    rw[hs,←ht]
    simp[name]
   ·cases h
theorem ends_ok:∀e∈ends,(0≤e.a∧e.a<100)∧(0≤e.p∧e.p<100)∧58∉dec e.a:=by decide
theorem cut_mid {a r:B} {c:UInt8} (h:c∉a):cutB (a++c::r) c=(a,r,true):=by
 have h1:c∈a++c::r:=by simp
 simp only[cutB,if_pos h1]
 have ha:∀b∈a,decide (b≠c)=true:=fun b hb=>by simp only[ne_eq,decide_eq_true_eq];rintro rfl;exact h hb
 rw[List.takeWhile_append_of_pos ha,List.dropWhile_append_of_pos ha]
 simp
theorem endRead_cut {t:B} {e:E} (h:endRead t=some e):cutB t 58=(dec e.a,dec e.p,true)∧(0≤e.a∧e.a<100)∧(0≤e.p∧e.p<100):=by
 obtain⟨h1,h2⟩:=endRead_some h
 obtain⟨a1,a2,a3⟩:=ends_ok e (E.any_iff.1 h1)
 refine⟨?_,a1,a2⟩
 rw[←h2]
 simp only[E.text,h1,if_true]
 exact cut_mid a3
theorem cutB_len (t:B) (c:UInt8):(cutB t c).1.length≤t.length∧(cutB t c).2.1.length≤t.length:=by
 unfold cutB
 split
 ·have h:=List.takeWhile_append_dropWhile (p:=fun b:UInt8=>decide (b≠c)) (l:=t)
  have h2:=congrArg List.length h
  simp only[zA] at h2
  simp only[List.length_tail]
  omega
 ·simp
def pc1 (s:B):Pc:=match nameAt s with
 | some e=>⟨(name e).length,true,e⟩
 | none=>⟨1,false,.zero⟩
def pcs (s:B):List Pc:=pcK s.length s
theorem pc1_size {s:B} (h:s≠[]):1≤(pc1 s).size∧(pc1 s).size≤s.length∧(pc1 s).size≤6:=by
 unfold pc1
 cases hn:nameAt s with
 | none =>
   have:=List.length_pos_iff.2 h
   exact⟨Nat.le_refl _,this,by simp⟩
 | some e =>
   obtain⟨h1,r,h2⟩:=nameAt_some hn
   have:=name_len h1
   have h3:=congrArg List.length h2
   simp only[zA] at h3
   simp only
   split at this<;>omega
theorem pcK_step (n:Nat) {s:B} (h:s≠[]):pcK (n+1) s=pc1 s::pcK n (s.drop (pc1 s).size):=by
 cases s with
 | nil=>exact absurd rfl h
 | cons c r =>
   simp only[pcK,pc1]
   cases nameAt (c::r)<;>rfl
theorem pcK_len:∀(n:Nat) (s:B),s.length≤n→pcK n s=pcs s:=by
 intro n
 induction n using Nat.strongRecOn with
 | _ n ih =>
   intro s hs
   by_cases h:s=[]
   ·subst h;cases n<;>rfl
   ·have hp:=List.length_pos_iff.2 h
    obtain⟨p1,p2,_⟩:=pc1_size h
    obtain⟨m,rfl⟩:∃m,n=m+1:=⟨n - 1,by omega⟩
    obtain⟨k,hk⟩:∃k,s.length=k+1:=⟨s.length - 1,by omega⟩
    unfold pcs
    rw[hk,pcK_step m h,pcK_step k h]
    congr 1
    rw[ih m (by omega) _ (by simp;omega)]
    by_cases hkm:k=m
    ·subst hkm;rw[ih k (by omega) _ (by simp;omega)]
    ·rw[ih k (by omega) _ (by simp;omega)]
theorem pcs_nil:pcs []=[]:=rfl
theorem pcs_cons {s:B} (h:s≠[]):pcs s=pc1 s::pcs (s.drop (pc1 s).size):=by
 obtain⟨k,hk⟩:∃k,s.length=k+1:=⟨s.length - 1,by have:=List.length_pos_iff.2 h;omega⟩
 obtain⟨p1,p2,_⟩:=pc1_size h
 conv=>lhs;unfold pcs
 rw[hk,pcK_step k h,pcK_len k _ (by simp;omega)]
theorem body_len (t:B):(body t).length=t.length - held t:=by simp[body]
theorem pieces_eq (t:B):pieces t=pcs (body t):=by
 unfold pieces
 exact pcK_len _ _ (by rw[body_len];omega)
theorem pcs_len:∀(n:Nat) (s:B),s.length≤n→(pcs s).length≤s.length:=by
 intro n
 induction n with
 | zero =>
   intro s hs
   have:s=[]:=List.eq_nil_of_length_eq_zero (by omega)
   subst this;exact Nat.le_refl _
 | succ n ih =>
   intro s hs
   by_cases h:s=[]
   ·subst h;exact Nat.le_refl _
   ·obtain⟨p1,p2,_⟩:=pc1_size h
    rw[pcs_cons h]
    have:=ih (s.drop (pc1 s).size) (by simp;omega)
    simp only[zC,List.length_drop] at this ⊢
    omega
theorem pieces_len (t:B):(pieces t).length≤t.length:=by
 rw[pieces_eq]
 have:=pcs_len _ (body t) (Nat.le_refl _)
 rw[body_len] at this;omega
theorem textPieces_len (t:B):(textPieces t).length≤t.length:=by
 unfold textPieces
 split
 ·exact pieces_len t
 ·simp
theorem E.ext_iff' {a p c d:Int}:(decide (a=c)&&decide (p=d))=decide ((⟨a,p⟩:E)=⟨c,d⟩):=by
 by_cases h1:a=c<;>by_cases h2:p=d<;>simp[h1,h2]
def PortsOk (m:List Pair):Prop:=∀p∈m,p.port≠0∧p.port<1000
theorem portOf_nil (e:E):portOf [] e=0:=rfl
theorem portOf_cons (p:Pair) (m:List Pair) (e:E):portOf (p::m) e=if p.ins=e then p.port else portOf m e:=by
 by_cases h:p.ins=e<;>simp[portOf,h]
theorem insideOf_cons (p:Pair) (m:List Pair) (n:Int):insideOf (p::m) n=if p.port=n then some p.ins else insideOf m n:=by
 by_cases h:p.port=n<;>simp[insideOf,h]
theorem portOf_ne {m:List Pair} {e:E} (h:∀p∈m,p.port≠0):(portOf m e≠0↔m.any (fun q=>decide (q.ins=e))=true):=by
 induction m with
 | nil=>simp[portOf_nil]
 | cons p m ih =>
   rw[portOf_cons,List.any_cons]
   by_cases hp:p.ins=e
   ·simp[hp,h p (by simp)]
   ·rw[if_neg hp,ih fun q hq=>h q (by simp[hq])];simp[hp]
theorem mOut_found {m:List Pair} {e:E} (h:∀p∈m,p.port≠0) (hp:portOf m e≠0):mOut m e=(m,portOf m e,true):=by
 unfold portOf at hp ⊢
 unfold mOut
 cases hf:m.find? fun p=>decide (p.ins=e) with
 | none=>rw[hf] at hp;exact absurd rfl hp
 | some p=>rfl
theorem mOut_none {m:List Pair} {e:E} (h:∀p∈m,p.port≠0) (hp:portOf m e=0):mOut m e=if 8≤m.length then(m,0,false) else(m++[⟨10+(m.length:Int),e⟩],10+(m.length:Int),true):=by
 unfold mOut
 cases hf:m.find? fun p=>decide (p.ins=e) with
 | none=>rfl
 | some p =>
   unfold portOf at hp
   rw[hf] at hp
   exact absurd hp (h p (List.mem_of_find?_eq_some hf))
theorem PortsOk.mOut {m:List Pair} {e:E} (h:PortsOk m):PortsOk (mOut m e).1:=by
 unfold M.mOut
 split
 ·exact h
 ·split
  ·exact h
  ·rename_i hl
   intro p hp
   rcases List.mem_append.1 hp with hp|hp
   ·exact h p hp
   ·simp only[List.mem_singleton] at hp
    subst hp
    simp only
    omega
theorem okPair_port {m:List Pair} {i:Nat} {p:Pair} (h:okPair m i=true) (hp:m[i]?=some p):p.port=10+(i:Int)∧p.ins.inside=true:=by
 simp only[okPair,hp,Bool.and_eq_true,decide_eq_true_eq] at h
 exact h.1
theorem mapOk_ports {m:List Pair} (h:mapOk m=true):PortsOk m∧m.length≤8:=by
 simp only[mapOk,Bool.and_eq_true,decide_eq_true_eq,List.all_eq_true,List.mem_range] at h
 refine⟨fun p hp=>?_,h.2⟩
 obtain⟨i,hi⟩:=List.getElem?_of_mem hp
 have hl:=(List.getElem?_eq_some_iff.1 hi).1
 have:=(okPair_port (h.1 i hl) hi).1
 omega
theorem mapOk_at {m:List Pair} (h:mapOk m=true) {i:Nat} (hi:i<m.length):m[i].port=10+(i:Int)∧m[i].ins.inside=true:=by
 simp only[mapOk,Bool.and_eq_true,List.all_eq_true,List.mem_range] at h
 exact okPair_port (h.1 i hi) (zE hi)
theorem insideOf_at {m:List Pair} (h:mapOk m=true) (n:Int):insideOf m n=if hn:0≤n - 10∧n - 10<m.length then some (m[(n - 10).toNat]'(by omega)).ins else none:=by
 split
 ·rename_i hn
  have hi:(n - 10).toNat<m.length:=by omega
  have:m.find? (fun p=>decide (p.port=n))=some m[(n - 10).toNat]:=by
   rw[List.find?_eq_some_iff_getElem]
   refine⟨by rw[(mapOk_at h hi).1];simp;omega,_,hi,rfl,fun j hj=>?_⟩
   have:=(mapOk_at h (Nat.lt_trans hj hi)).1
   rw[this];simp;omega
  simp[insideOf,this]
 ·rename_i hn
  have:m.find? (fun p=>decide (p.port=n))=none:=by
   rw[List.find?_eq_none]
   intro p hp
   obtain⟨i,hi⟩:=List.getElem?_of_mem hp
   have hil:=(List.getElem?_eq_some_iff.1 hi).1
   have hpi:p=m[i]:=by rw[zE hil] at hi;exact(Option.some.inj hi).symm
   rw[hpi,(mapOk_at h hil).1]
   simp;omega
  simp[insideOf,this]
theorem mOut_len (m:List Pair) (e:E):(mOut m e).1.length≤m.length+1:=by
 unfold mOut
 split
 ·simp
 ·split<;>simp
theorem name_le (e:E):(name e).length≤6:=by
 by_cases h:e.any=true
 ·rw[name_len h];split<;>omega
 ·simp[name,E.text,h]
def fits:List Pc→B→Prop
 | [],_=>True
 | p::ps,s=>p.size≤s.length∧fits ps (s.drop p.size)
theorem turn_len (m:List Pair) (p:Pc) (s:B) (out:Bool):(turn m p s out).2.length≤s.length+6∧(turn m p s out).1.length≤m.length+1:=by
 cases out
 ·simp only[turn,pieceIn,cond_false]
  refine⟨?_,by omega⟩
  split
  ·split
   ·rename_i e _;have:=name_le e;omega
   ·omega
  ·omega
 ·simp only[turn,pieceOut,cond_true]
  split
  ·have h:=mOut_len m p.e
   rcases hmo:M.mOut m p.e with⟨x,port,ok⟩
   rw[hmo] at h
   cases ok<;>simp only at h ⊢
   ·omega
   ·have:=name_le ⟨9,port⟩;omega
  ·simp only;omega
theorem PortsOk.turn {m:List Pair} (h:PortsOk m) (p:Pc) (s:B) (out:Bool):PortsOk (turn m p s out).1:=by
 cases out
 ·exact h
 ·simp only[M.turn,pieceOut,cond_true]
  split
  ·have h2:=h.mOut (e:=p.e)
   rcases hmo:M.mOut m p.e with⟨x,port,ok⟩
   rw[hmo] at h2
   cases ok
   ·exact h
   ·exact h2
  ·exact h
theorem nameAt_app {s:B} {e:E} (h:nameAt s=some e) (r:B):nameAt (s++r)=some e:=by
 obtain⟨h1,q,rfl⟩:=nameAt_some h
 rw[List.append_assoc]
 exact nameAt_name h1 _
theorem nameAt_back {s r:B} {e:E} (h:nameAt (s++r)=some e) (hl:(name e).length≤s.length):nameAt s=some e:=by
 obtain⟨h1,q,hq⟩:=nameAt_some h
 have:s=name e++s.drop (name e).length:=by
  have h2:=congrArg (List.take (name e).length) hq
  rw[List.take_append_of_le_length hl,List.take_left'] at h2
  ·conv=>lhs;rw[←List.take_append_drop (name e).length s,h2]
  ·rfl
 rw[this]
 exact nameAt_name h1 _
theorem pcs_app:∀(n:Nat) (s r:B),s.length≤n→(∀i e,i<s.length→nameAt ((s++r).drop i)=some e→i+(name e).length≤s.length)→pcs (s++r)=pcs s++pcs r:=by
 intro n
 induction n with
 | zero =>
   intro s r hs _
   have:s=[]:=List.eq_nil_of_length_eq_zero (by omega)
   subst this;rfl
 | succ n ih =>
   intro s r hs H
   by_cases h:s=[]
   ·subst h;rfl
   have hp:0<s.length:=List.length_pos_iff.2 h
   have hne:s++r≠[]:=by simp[h]
   have key:pc1 (s++r)=pc1 s:=by
    unfold pc1
    cases hn:nameAt (s++r) with
    | some e =>
      have:=H 0 e hp (by simpa using hn)
      rw[nameAt_back hn (by omega)]
    | none =>
      cases hs:nameAt s with
      | none=>rfl
      | some e=>rw[nameAt_app hs r] at hn;cases hn
   obtain⟨p1,p2,_⟩:=pc1_size h
   rw[pcs_cons hne,pcs_cons h,key,List.drop_append_of_le_length p2,List.cons_append]
   congr 1
   refine ih _ _ (by simp;omega) fun i e hi hn=>?_
   have hi':i<s.length - (pc1 s).size:=by simpa using hi
   have:=H (i+(pc1 s).size) e (by omega) (by rw[Nat.add_comm,←List.drop_drop,List.drop_append_of_le_length p2];exact hn)
   simp;omega
theorem pcs_sum:∀(n:Nat) (s:B),s.length≤n→((pcs s).map (·.size)).sum=s.length:=by
 intro n
 induction n with
 | zero =>
   intro s hs
   have:s=[]:=List.eq_nil_of_length_eq_zero (by omega)
   subst this;rfl
 | succ n ih =>
   intro s hs
   by_cases h:s=[]
   ·subst h;rfl
   obtain⟨p1,p2,_⟩:=pc1_size h
   rw[pcs_cons h,List.map_cons,List.sum_cons,ih _ (by simp;omega)]
   simp;omega
theorem pcs_fits:∀(n:Nat) (s r:B),s.length≤n→fits (pcs s) (s++r):=by
 intro n
 induction n with
 | zero =>
   intro s r hs
   have:s=[]:=List.eq_nil_of_length_eq_zero (by omega)
   subst this;trivial
 | succ n ih =>
   intro s r hs
   by_cases h:s=[]
   ·subst h;trivial
   obtain⟨p1,p2,_⟩:=pc1_size h
   rw[pcs_cons h]
   refine⟨by simp;omega, ?_⟩
   rw[List.drop_append_of_le_length p2]
   exact ih _ _ (by simp;omega)
theorem heldK_beg (t:B):∀n,0<heldK t n→begs (t.drop (t.length - heldK t n))=true
 | 0,h=>by simp[heldK] at h
 | n+1,h=>by
   simp only[heldK] at h ⊢
   split
   ·rename_i hc
    simp only[Bool.and_eq_true] at hc
    exact hc.2
   ·rename_i hc
    rw[if_neg hc] at h
    exact heldK_beg t n h
theorem heldK_max (t:B):∀n k,k≤n→k≤t.length→0<k→begs (t.drop (t.length - k))=true→k≤heldK t n
 | 0,k,hk,_,h0,_=>by omega
 | n+1,k,hk,hl,h0,hb=>by
   simp only[heldK]
   by_cases hc:(decide (n+1≤t.length)&&begs (t.drop (t.length - (n+1))))=true
   ·rw[if_pos hc];exact hk
   ·rw[if_neg hc]
    rcases Nat.lt_or_ge k (n+1) with h|h
    ·exact heldK_max t n k (by omega) hl h0 hb
    ·obtain rfl:k=n+1:=by omega
     exact absurd (by simp[hl,hb]) hc
theorem held_beg {t:B} (h:0<held t):begs (t.drop (t.length - held t))=true:=heldK_beg t 5 h
theorem held_max {t:B} {k:Nat} (hk:k≤5) (hl:k≤t.length) (h0:0<k) (hb:begs (t.drop (t.length - k))=true):k≤held t:=heldK_max t 5 k hk hl h0 hb
theorem held5 (t:B):held t≤5∧held t≤t.length:=by
 have key:∀n,heldK t n≤n∧heldK t n≤t.length:=fun n=>by
  induction n with
  | zero=>exact⟨Nat.le_refl _,Nat.zero_le _⟩
  | succ n ih =>
    simp only[heldK]
    split
    ·rename_i h;simp at h;omega
    ·omega
 exact key 5
theorem begs_take {s:B} (h:begs s=true) {k:Nat} (h0:0<k) (hk:k≤s.length):begs (s.take k)=true:=by
 rcases s with _|⟨a,_|⟨b,_|⟨c,_|⟨d,_|⟨e,_|⟨f,r⟩⟩⟩⟩⟩⟩
 ·cases h
 all_goals(try(simp[begs] at h;done))
 all_goals
  simp only[zC,zN] at hk
  match k,h0,hk with
  | 1,_,_=>simp_all[begs]
  | 2,_,_=>simp_all[begs]
  | 3,_,_=>simp_all[begs]
  | 4,_,_=>simp_all[begs]
  | 5,_,_=>simp_all[begs]
theorem begs_head {s:B} (h:begs s=true):s.length≤5∧∃r,s=64::r:=by
 rcases s with _|⟨a,_|⟨b,_|⟨c,_|⟨d,_|⟨e,_|⟨f,r⟩⟩⟩⟩⟩⟩<;>simp_all[begs]
theorem ends_beg:∀e∈ends,∀k∈[1,2,3,4,5],k<(name e).length→begs ((name e).take k)=true:=by decide
theorem name_beg {e:E} (h:e.any=true) {k:Nat} (h0:0<k) (hk:k<(name e).length):begs ((name e).take k)=true:=by
 have hl:=name_len h
 refine ends_beg e (E.any_iff.1 h) k ?_ hk
 have:k≤5:=by split at hl<;>omega
 simp;omega
theorem name_64 {e:E} {j:Nat} (h0:0<j):(name e)[j]?≠some 64:=by
 obtain⟨j,rfl⟩:∃i,j=i+1:=⟨j - 1,by omega⟩
 simp only[name,List.getElem?_cons_succ]
 intro hc
 have:=List.mem_of_getElem? hc
 rcases List.mem_append.1 this with h|h
 ·exact text_no64 h
 ·simp at h
theorem held_app (s t:B):held (s++t)≤held s+t.length:=by
 rcases Nat.lt_or_ge t.length (held (s++t)) with h|h
 ·have hb:=held_beg (t:=s++t) (by omega)
  have h5:=held5 (s++t)
  simp only[zA] at h5 hb
  have hk:0<held (s++t) - t.length:=by omega
  have h2:=begs_take hb hk (by simp;omega)
  have e1:((s++t).drop (s.length+t.length - held (s++t))).take (held (s++t) - t.length)=s.drop (s.length - (held (s++t) - t.length)):=by
   rw[List.drop_append_of_le_length (by omega),List.take_append_of_le_length (by simp;omega)]
   rw[List.take_of_length_le (by simp;omega)]
   congr 1;omega
  rw[e1] at h2
  have:=held_max (by omega) (by omega) hk h2
  omega
 ·omega
theorem body_app (s t:B):body (s++t)=body s++(body (s++t)).drop (body s).length:=by
 have h1:=held_app s t
 have h5:=held5 s
 have:body s=(body (s++t)).take (body s).length:=by
  rw[body_len]
  unfold body
  rw[List.take_take,zA,Nat.min_eq_left (by omega),List.take_append_of_le_length (by omega)]
 conv=>lhs;rw[←List.take_append_drop (body s).length (body (s++t)),←this]
theorem pieces_app (s t:B):pieces (s++t)=pieces s++pcs ((body (s++t)).drop (body s).length):=by
 rw[pieces_eq,pieces_eq]
 conv=>lhs;rw[body_app]
 refine pcs_app _ _ _ (Nat.le_refl _) fun i e hi hn=>?_
 rw[←body_app] at hn
 obtain⟨ha,q,hq⟩:=nameAt_some hn
 have hu:∃q',(s++t).drop i=name e++q':=by
  refine⟨q++(s++t).drop ((s++t).length - held (s++t)), ?_⟩
  rw[←List.append_assoc,←hq]
  have:s++t=body (s++t)++(s++t).drop ((s++t).length - held (s++t)):=(List.take_append_drop _ _).symm
  conv=>lhs;rw[this]
  rw[List.drop_append_of_le_length]
  have h1:=congrArg List.length (body_app s t)
  simp only[zA] at h1
  omega
 obtain⟨q',hq'⟩:=hu
 have hnl:=name_len ha
 have hbl:=body_len s
 have h5:=held5 s
 rcases Nat.lt_or_ge (body s).length (i+(name e).length) with hlt|hge
 ·exfalso
  by_cases hh:held s=0
  ·have hk:0<s.length - i:=by omega
   have hkl:s.length - i<(name e).length:=by omega
   have hb:=name_beg ha hk hkl
   have e1:(name e).take (s.length - i)=s.drop (s.length - (s.length - i)):=by
    have h2:=congrArg (List.take (s.length - i)) hq'
    rw[List.take_append_of_le_length (by omega),List.drop_append_of_le_length (by omega),List.take_append_of_le_length (by simp),List.take_of_length_le (by simp)] at h2
    rw[←h2];congr 1;omega
   rw[e1] at hb
   have:=held_max (by split at hnl<;>omega) (by omega) hk hb
   omega
  ·have hb:=held_beg (t:=s) (by omega)
   obtain⟨_,r,hr⟩:=begs_head hb
   have e1:(s++t)[(body s).length]?=some 64:=by
    rw[List.getElem?_append_left (by omega),hbl]
    have:=congrArg (fun l=>l[0]?) hr
    simpa using this
   have e2:(s++t)[(body s).length]?=(name e)[(body s).length - i]?:=by
    have:=congrArg (fun l=>l[(body s).length - i]?) hq'
    simp only[List.getElem?_drop] at this
    rw[show i+((body s).length - i)=(body s).length by omega] at this
    rw[this,List.getElem?_append_left (by omega)]
   rw[e2] at e1
   exact name_64 (by omega) e1
 ·exact hge
def SB (s:Strm):Prop:=s.inn.length≤2000000∧s.parts.length≤2000000∧∀p∈s.parts,p.text.length≤2000000
def StrB (s:Strm):Prop:=s.inn.length≤40∧s.parts.length≤40∧∀p∈s.parts,(1≤p.size∧p.size≤6)∧1≤p.text.length∧p.text.length≤6∧txOk p.text=true
theorem okParts_len:∀ {ps:List Part} {qs:List Pc},okParts ps qs=true→ps.length=qs.length
 | [],[],_=>rfl
 | p::ps,q::qs,h=>by
   simp only[okParts,Bool.and_eq_true] at h
   simp[okParts_len h.2]
 | [],_::_,h=>by simp[okParts] at h
 | _::_,[],h=>by simp[okParts] at h
theorem okParts_at:∀ {ps:List Part} {qs:List Pc},okParts ps qs=true→∀(i:Nat) p q,ps[i]?=some p→qs[i]?=some q→okPart p q=true
 | [],[],_,i,p,q,h,_=>by simp at h
 | p::ps,q::qs,h,i,p',q',h1,h2=>by
   simp only[okParts,Bool.and_eq_true] at h
   cases i with
   | zero=>simp at h1 h2;subst h1 h2;exact h.1
   | succ i=>exact okParts_at h.2 i p' q' (by simpa using h1) (by simpa using h2)
 | [],_::_,h,_,_,_,_,_=>by simp[okParts] at h
 | _::_,[],h,_,_,_,_,_=>by simp[okParts] at h
theorem pcs_small:∀(n:Nat) (s:B),s.length≤n→∀q∈pcs s,1≤q.size∧q.size≤6:=by
 intro n
 induction n with
 | zero =>
   intro s hs
   have:s=[]:=List.eq_nil_of_length_eq_zero (by omega)
   subst this;intro q hq;cases hq
 | succ n ih =>
   intro s hs q hq
   by_cases h:s=[]
   ·subst h;cases hq
   obtain⟨p1,p2,p3⟩:=pc1_size h
   rw[pcs_cons h] at hq
   rcases List.mem_cons.1 hq with rfl|hq
   ·exact⟨p1,p3⟩
   ·exact ih _ (by simp;omega) q hq
theorem pieces_small (t:B):∀q∈pieces t,1≤q.size∧q.size≤6:=by
 rw[pieces_eq];exact pcs_small _ _ (Nat.le_refl _)
theorem txOk_len {t:B} (h:txOk t=true):t.length≤40:=by
 simp only[txOk,Bool.and_eq_true,decide_eq_true_eq] at h;exact h.2
theorem okPart_iff {p:Part} {q:Pc}:okPart p q=true↔p.size=q.size∧(1≤p.text.length∧p.text.length≤6)∧txOk p.text=true:=by
 simp only[okPart,Bool.and_eq_true,decide_eq_true_eq,within_iff]
 constructor
 ·rintro⟨⟨a,b⟩,c⟩;exact⟨a,by omega,c⟩
 ·rintro⟨a,b,c⟩;exact⟨⟨a,by omega⟩,c⟩
theorem strmOk_B {s:Strm} (h:strmOk s=true):StrB s:=by
 simp only[strmOk,Bool.and_eq_true] at h
 have hl:=okParts_len h.2
 have h40:=txOk_len h.1
 have:=pieces_len s.inn
 refine⟨h40,by omega,fun p hp=>?_⟩
 obtain⟨i,hi⟩:=List.getElem?_of_mem hp
 have hil:=(List.getElem?_eq_some_iff.1 hi).1
 have hq:=zE (show i<(pieces s.inn).length by omega)
 obtain⟨a,b,c⟩:=okPart_iff.1 (okParts_at h.2 i _ _ hi hq)
 have:=pieces_small s.inn _ (List.getElem_mem (show i<(pieces s.inn).length by omega))
 exact⟨by omega,b.1,b.2,c⟩
theorem StrB.sb {s:Strm} (h:StrB s):SB s:=⟨by have:=h.1;omega,by have:=h.2.1;omega,fun p hp=>by have:=(h.2.2 p hp).2.2.1;omega⟩
theorem doneP_cons (p:Part) (l:List Part):doneP (p::l)=p.size.toNat+doneP l:=by simp[doneP]
theorem okParts_done:∀ {ps:List Part} {qs:List Pc},okParts ps qs=true→doneP ps=(qs.map (·.size)).sum
 | [],[],_=>rfl
 | p::ps,q::qs,h=>by
   simp only[okParts,Bool.and_eq_true] at h
   have:=(okPart_iff.1 h.1).1
   rw[doneP_cons,okParts_done h.2,this];simp
 | [],_::_,h=>by simp[okParts] at h
 | _::_,[],h=>by simp[okParts] at h
theorem strmOk_done {s:Strm} (h:strmOk s=true):doneP s.parts=(body s.inn).length∧s.parts.length=(pieces s.inn).length:=by
 simp only[strmOk,Bool.and_eq_true] at h
 refine⟨?_,okParts_len h.2⟩
 rw[okParts_done h.2,pieces_eq,pcs_sum _ _ (Nat.le_refl _)]
theorem put_fits {s:Strm} (h:strmOk s=true) (t:B):s.parts.length≤(pieces (s.inn++t)).length∧(pieces (s.inn++t)).drop s.parts.length=pcs ((body (s.inn++t)).drop (body s.inn).length) ∧
 doneP s.parts≤(s.inn++t).length∧fits ((pieces (s.inn++t)).drop s.parts.length) ((s.inn++t).drop (doneP s.parts)):=by
 obtain⟨h1,h2⟩:=strmOk_done h
 have hp:=pieces_app s.inn t
 have hb:=body_app s.inn t
 have e1:(pieces (s.inn++t)).drop s.parts.length=pcs ((body (s.inn++t)).drop (body s.inn).length):=by
  rw[hp,h2,List.drop_left']
  rfl
 refine⟨by rw[hp,h2];simp,e1,by rw[h1,body_len];simp;omega, ?_⟩
 rw[e1,h1]
 have:s.inn++t=body (s.inn++t)++(s.inn++t).drop ((s.inn++t).length - held (s.inn++t)):=(List.take_append_drop _ _).symm
 conv=>rhs;rw[this]
 have hl:=congrArg List.length hb
 simp only[zA] at hl
 rw[List.drop_append_of_le_length (by omega)]
 exact pcs_fits _ _ _ (Nat.le_refl _)
theorem forP_rng {l:List Part} (h:∀p∈l,p.text.length≤6):∀i,0≤forP l i∧forP l i≤6*l.length:=by
 induction l with
 | nil=>intro i;simp[forP]
 | cons p l ih =>
   intro i
   have:=ih (fun q hq=>h q (by simp[hq])) (i - p.size)
   have:=h p (by simp)
   simp only[forP,zC]
   split<;>omega
theorem backP_rng {l:List Part} (h:∀p∈l,0≤p.size∧p.size≤6):∀i,0≤backP l i∧backP l i≤6*l.length:=by
 induction l with
 | nil=>intro i;simp[backP]
 | cons p l ih =>
   intro i
   have:=ih (fun q hq=>h q (by simp[hq])) (i - p.text.length)
   have:=h p (by simp)
   simp only[backP,zC]
   split<;>omega
def outL (l:List Part):B:=l.flatMap (·.text)
theorem outL_step {l:List Part} {i:Nat} (h:i<l.length):outL (l.take (i+1))=outL (l.take i)++l[i].text:=by
 unfold outL
 rw[List.take_add_one,zE h,List.flatMap_append]
 simp
theorem outL_le {l:List Part} (h:∀p∈l,p.text.length≤6) (i:Nat):(outL (l.take i)).length≤6*l.length:=by
 have key:∀(l:List Part),(∀p∈l,p.text.length≤6)→(outL l).length≤6*l.length:=by
  intro l
  induction l with
  | nil=>intro _;simp[outL]
  | cons p l ih =>
    intro h
    have:=ih fun q hq=>h q (by simp[hq])
    have:=h p (by simp)
    simp only[outL,List.flatMap_cons,zA,zC] at *
    omega
 have:=key (l.take i) fun p hp=>h p (List.mem_of_mem_take hp)
 simp only[List.length_take] at this
 omega
theorem doneL_step {l:List Part} {i:Nat} (h:i<l.length):doneP (l.take (i+1))=doneP (l.take i)+l[i].size.toNat:=by
 unfold doneP
 rw[List.take_add_one,zE h,List.map_append,List.sum_append]
 rfl
theorem doneL_le {l:List Part} (h:∀p∈l,p.size≤6) (i:Nat):doneP (l.take i)≤6*l.length:=by
 have key:∀(l:List Part),(∀p∈l,p.size≤6)→doneP l≤6*l.length:=by
  intro l
  induction l with
  | nil=>intro _;simp[doneP]
  | cons p l ih =>
    intro h
    have:=ih fun q hq=>h q (by simp[hq])
    have:=h p (by simp)
    rw[doneP_cons,zC]
    omega
 have:=key (l.take i) fun p hp=>h p (List.mem_of_mem_take hp)
 simp only[List.length_take] at this
 omega
theorem behind_app {c:B} {n:Int} {t:B} (h:(behind c n t).2=true):∃x,(behind c n t).1=c++x∧x.length≤t.length:=by
 unfold behind at h ⊢
 split
 ·rename_i hc;rw[if_pos hc] at h;cases h
 ·split
  ·exact⟨[],by simp,by simp⟩
  ·exact⟨_,rfl,by simp⟩
theorem mkParts_len:∀ {l:List Pc} {ts:List B},ts.length=l.length→(mkParts l ts).length=l.length
 | [],[],_=>rfl
 | p::ps,b::bs,h=>by simp[mkParts,mkParts_len (l:=ps) (ts:=bs) (by simpa using h)]
 | [],_::_,h=>by simp at h
 | _::_,[],h=>by simp at h
theorem turned_len:∀(l:List Pc) (m:List Pair) (s:B) (out:Bool),(turned m l s out).2.length=l.length
 | [],m,s,out=>rfl
 | p::ps,m,s,out=>by simp[turned,turned_len ps]
theorem mkParts_step:∀(l:List Pc) (ts:List B) (i:Nat),ts.length=l.length→i<l.length→mkParts (l.take (i+1)) (ts.take (i+1))=mkParts (l.take i) (ts.take i)++[⟨(l.getD i default).size,ts.getD i default⟩]
 | [],_,i,_,h=>by simp at h
 | _::_,[],i,h,_=>by simp at h
 | p::ps,b::bs,0,_,_=>by simp[mkParts]
 | p::ps,b::bs,i+1,h1,h2=>by
   have:=mkParts_step ps bs i (by simpa using h1) (by simpa using h2)
   simp[mkParts,this]
structure PutI (m:List Pair) (s:Strm) (inn:B) (out:Bool) (mm:List Pair) (ts:List B) (i d:Nat):Prop where
 hk:s.parts.length≤i
 hi:i≤(pieces inn).length
 hp:PortsOk mm
 ml:mm.length≤m.length+i
 ht:s.parts.length+ts.length=i
 hd:d≤inn.length
 f:fits ((pieces inn).drop i) (inn.drop d)
 o:out=false→mm=m
 e:turned m ((pieces inn).drop s.parts.length) (inn.drop (doneP s.parts)) out=((turned mm ((pieces inn).drop i) (inn.drop d) out).1,ts++(turned mm ((pieces inn).drop i) (inn.drop d) out).2)
theorem mkParts_app:∀(l:List Pc) (ts:List B) (b:B),ts.length<l.length→mkParts l (ts++[b])=mkParts l ts++[⟨(l.getD ts.length default).size,b⟩]
 | [],ts,b,h=>by simp at h
 | p::ps,[],b,_=>by simp[mkParts]
 | p::ps,t::ts,b,h=>by
   have:=mkParts_app ps ts b (by simpa using h)
   simp[mkParts,this]
theorem mkParts_len2:∀(l:List Pc) (ts:List B),ts.length≤l.length→(mkParts l ts).length=ts.length
 | [],ts,h=>by simp at h;subst h;rfl
 | p::ps,[],_=>rfl
 | p::ps,t::ts,h=>by simp[mkParts,mkParts_len2 ps ts (by simpa using h)]
theorem PutI.step {m:List Pair} {s:Strm} {inn:B} {out:Bool} {mm:List Pair} {ts:List B} {i d:Nat} (h:PutI m s inn out mm ts i d) (hi:i<(pieces inn).length) :
 d+((pieces inn).getD i default).size≤inn.length ∧
 PutI m s inn out (turn mm ((pieces inn).getD i default) ((inn.drop d).take ((pieces inn).getD i default).size) out).1 (ts++[(turn mm ((pieces inn).getD i default) ((inn.drop d).take ((pieces inn).getD i default).size) out).2]) (i+1) (d+((pieces inn).getD i default).size):=by
 have hg:(pieces inn).getD i default=(pieces inn)[i]:=by simp[List.getD,hi]
 obtain⟨h1,h2,h3,h4,h5,h6,h7,h8,h9⟩:=h
 rw[hg]
 rw[List.drop_eq_getElem_cons hi] at h7 h9
 generalize (pieces inn)[i]=q at *
 obtain⟨f1,f2⟩:=h7
 rw[List.length_drop] at f1
 have htl:=turn_len mm q ((inn.drop d).take q.size) out
 refine⟨by omega,by omega,by omega,h3.turn q _ out,by omega,by simp;omega,by omega,by rwa [List.drop_drop] at f2,fun hf=>by subst hf;exact h8 rfl, ?_⟩
 rw[h9]
 simp only[turned,List.drop_drop,List.append_assoc,List.singleton_append]
theorem PutI.init {m:List Pair} {s:Strm} {x:B} {out:Bool} (hm:PortsOk m) (hs:strmOk s=true):PutI m s (s.inn++x) out m [] s.parts.length (doneP s.parts):=by
 obtain⟨f1,f2,f3,f4⟩:=put_fits hs x
 exact⟨Nat.le_refl _,f1,hm,by omega,by simp,f3,f4,fun _=>rfl,by simp⟩
theorem PutI.done {m:List Pair} {s:Strm} {inn:B} {out:Bool} {mm:List Pair} {ts:List B} {d:Nat} (h:PutI m s inn out mm ts (pieces inn).length d) :
 turned m ((pieces inn).drop s.parts.length) (inn.drop (doneP s.parts)) out=(mm,ts):=by
 rw[h.e,List.drop_length];simp[turned]
theorem put_done {m:List Pair} {s:Strm} {n:Int} {t:B} {out:Bool} {mm:List Pair} {ts:List B} {d:Nat} (hb:(behind s.inn n t).2=true) (h:PutI m s (behind s.inn n t).1 out mm ts (pieces (behind s.inn n t).1).length d) :
 put m s n t out=(mm,⟨(behind s.inn n t).1,s.parts++mkParts ((pieces (behind s.inn n t).1).drop s.parts.length) ts⟩,true):=by
 simp[put,hb,h.done]
def ixI (o:Option Nat):Int:=match o with
 | some k=>k
 | none => -1
theorem flowIx_cons (f:Flw) (fs:List Flw) (i o:E):flowIx (f::fs) i o=if f.ins=i∧f.out=o then some 0 else(flowIx fs i o).map (·+1):=by
 unfold flowIx
 rw[List.findIdx?_cons]
 by_cases h1:f.ins=i<;>by_cases h2:f.out=o<;>simp[h1,h2]
theorem flowIx_nil (i o:E):flowIx [] i o=none:=rfl
def sameF (i o:E) (f:Flw):Bool:=decide (f.ins=i)&&decide (f.out=o)
theorem flowIx_none:∀ {fs:List Flw} {i o:E},flowIx fs i o=none↔fs.any (sameF i o)=false
 | [],i,o=>by simp[flowIx_nil]
 | f::fs,i,o=>by
   rw[flowIx_cons]
   have:=flowIx_none (fs:=fs) (i:=i) (o:=o)
   by_cases h:f.ins=i∧f.out=o
   ·rw[if_pos h];simp[sameF,h]
   ·rw[if_neg h]
    have hs:sameF i o f=false:=by rw[sameF,←Bool.decide_and];simpa using h
    simp[hs,this]
theorem flowIx_some:∀ {fs:List Flw} {i o:E} {k:Nat},flowIx fs i o=some k→∃f,fs[k]?=some f∧f.ins=i∧f.out=o∧(fs.take k).any (sameF i o)=false
 | [],i,o,k,h=>by simp[flowIx_nil] at h
 | f::fs,i,o,k,h=>by
   rw[flowIx_cons] at h
   by_cases hc:f.ins=i∧f.out=o
   ·rw[if_pos hc] at h;cases h;exact⟨f,rfl,hc.1,hc.2,rfl⟩
   ·rw[if_neg hc] at h
    cases hx:flowIx fs i o with
    | none=>rw[hx] at h;cases h
    | some j =>
      rw[hx] at h;cases h
      obtain⟨g,h1,h2,h3,h4⟩:=flowIx_some hx
      have hs:sameF i o f=false:=by rw[sameF,←Bool.decide_and];simpa using hc
      exact⟨g,by simpa using h1,h2,h3,by simp[hs,h4]⟩
theorem ixI_lt {o:Option Nat}:ixI o<0↔o=none:=by
 cases o with
 | none=>simp[ixI]
 | some k=>simp only[ixI,reduceCtorEq,iff_false];omega
theorem okFlow_i {d:Door} {k:Nat} (h:k<d.flows.length):okFlow d k=(d.map.any (fun p=>decide (p.ins=d.flows[k].ins))&&d.flows[k].out.outside&&strmOk d.flows[k].up&&strmOk d.flows[k].down&&!(d.flows.take k).any (sameF d.flows[k].ins d.flows[k].out)):=by
 unfold okFlow
 rw[zE h]
 rfl
theorem doorOk_bad {d:Door} {k:Nat} (h:k<d.flows.length) (hb:okFlow d k=false):doorOk d=false:=by
 have:(List.range d.flows.length).all (okFlow d)=false:=by
  rw[List.all_eq_false];exact⟨k,List.mem_range.2 h,by simp[hb]⟩
 simp[doorOk,this]
theorem doorOk_iff {d:Door}:doorOk d=true↔mapOk d.map=true∧d.flows.length≤4∧∀k,k<d.flows.length→okFlow d k=true:=by
 simp[doorOk,List.all_eq_true,and_assoc]
def DB (d:Door):Prop:=d.map.length≤2000000∧d.flows.length≤2000000∧∀f∈d.flows,SB f.up∧SB f.down
theorem mapOk_iff {m:List Pair}:mapOk m=true↔m.length≤8∧∀(i:Nat) p,m[i]?=some p→p.port=10+(i:Int)∧p.ins.inside=true∧(m.take i).any (fun q=>decide (q.ins=p.ins))=false:=by
 simp only[mapOk,Bool.and_eq_true,List.all_eq_true,List.mem_range,decide_eq_true_eq]
 constructor
 ·rintro⟨h1,h2⟩
  refine⟨h2,fun i p hp=>?_⟩
  have hi:i<m.length:=(List.getElem?_eq_some_iff.1 hp).1
  have:=h1 i hi
  simp only[okPair,hp,Bool.and_eq_true,decide_eq_true_eq,Bool.not_eq_true'] at this
  exact⟨this.1.1,this.1.2,this.2⟩
 ·rintro⟨h1,h2⟩
  refine⟨fun i hi=>?_,h1⟩
  obtain⟨a,b,c⟩:=h2 i m[i] (zE hi)
  simp only[okPair,zE hi,a,b,c]
  simp
theorem mOut_ok {m:List Pair} {e:E} (h:mapOk m=true) (he:e.inside=true):mapOk (mOut m e).1=true:=by
 unfold mOut
 split
 ·exact h
 ·rename_i hf
  split
  ·exact h
  ·rename_i hl
   rw[List.find?_eq_none] at hf
   obtain⟨h1,h2⟩:=mapOk_iff.1 h
   refine mapOk_iff.2 ⟨by simp;omega,fun i p hp=>?_⟩
   by_cases hi:i<m.length
   ·rw[List.getElem?_append_left hi] at hp
    obtain⟨a,b,c⟩:=h2 i p hp
    refine⟨a,b, ?_⟩
    rw[List.take_append_of_le_length (by omega)]
    exact c
   ·have hil:=(List.getElem?_eq_some_iff.1 hp).1
    simp only[zA,zC,zN] at hil
    obtain rfl:i=m.length:=by omega
    rw[List.getElem?_append_right (Nat.le_refl _)] at hp
    simp only[Nat.sub_self,List.getElem?_cons_zero,zS] at hp
    subst hp
    refine⟨rfl,he, ?_⟩
    rw[List.take_left',List.any_eq_false]
    ·exact hf
    ·rfl
theorem mOut_door {m:List Pair} {e:E} (h:mapOk m=true) (hok:(mOut m e).2.2=true):(⟨9,(mOut m e).2.1⟩:E).door=true:=by
 rw[E.door_iff]
 unfold mOut at hok ⊢
 obtain⟨h1,h2⟩:=mapOk_iff.1 h
 split
 ·rename_i p hf
  have:=List.mem_of_find?_eq_some hf
  obtain⟨i,hi,rfl⟩:=List.mem_iff_getElem.1 this
  obtain⟨a,_,_⟩:=h2 i _ (zE hi)
  refine⟨rfl, ?_⟩
  simp only[a];omega
 ·split
  ·rename_i hf hl
   simp only[hf,if_pos hl] at hok
   cases hok
  ·refine⟨rfl, ?_⟩
   simp only;omega
theorem insideOf_ok {m:List Pair} {n:Int} {e:E} (h:mapOk m=true) (hi:insideOf m n=some e):e.inside=true:=by
 unfold insideOf at hi
 obtain⟨p,hp,rfl⟩:=Option.map_eq_some_iff.1 hi
 have:=List.mem_of_find?_eq_some hp
 obtain⟨i,hil,rfl⟩:=List.mem_iff_getElem.1 this
 exact(mapOk_at h hil).2
theorem name_ok (e:E):(name e).all okB=true:=by
 simp only[name,List.all_cons,List.all_append,text_ok,List.all_nil];decide
theorem inside_any {e:E} (h:e.inside=true):e.any=true:=by simp[E.any,h]
theorem door_any {e:E} (h:e.door=true):e.any=true:=by simp[E.any,h]
theorem turn_mapOk {m:List Pair} (h:mapOk m=true) (p:Pc) (s:B) (out:Bool):mapOk (turn m p s out).1=true:=by
 cases out
 ·exact h
 ·simp only[turn,cond_true,pieceOut]
  split
  ·rename_i hc
   rw[Bool.and_eq_true] at hc
   have:=mOut_ok h hc.2
   rcases hmo:mOut m p.e with⟨x,port,ok⟩
   rw[hmo] at this
   cases ok
   ·exact h
   ·exact this
  ·exact h
theorem turn_txt {m:List Pair} (h:mapOk m=true) (p:Pc) {s:B} (out:Bool) (hs:1≤s.length∧s.length≤6) (hok:s.all okB=true) :
 (1≤(turn m p s out).2.length∧(turn m p s out).2.length≤6)∧(turn m p s out).2.all okB=true:=by
 cases out
 ·simp only[turn,cond_false,pieceIn]
  split
  ·split
   ·rename_i e he
    have:=name_len (inside_any (insideOf_ok h he))
    refine⟨?_,name_ok e⟩
    have hl:=name_le e
    split at this<;>omega
   ·exact⟨hs,hok⟩
  ·exact⟨hs,hok⟩
 ·simp only[turn,cond_true,pieceOut]
  split
  ·have hd:=mOut_door (e:=p.e) h
   rcases hmo:mOut m p.e with⟨x,port,ok⟩
   rw[hmo] at hd
   cases ok
   ·exact⟨hs,hok⟩
   ·have:=name_len (door_any (hd rfl))
    have hl:=name_le ⟨9,port⟩
    refine⟨?_,name_ok _⟩
    simp only at this ⊢
    split at this<;>omega
  ·exact⟨hs,hok⟩
theorem all_take {s:B} {n:Nat} (h:s.all okB=true):(s.take n).all okB=true:=by
 rw[List.all_eq_true] at h ⊢;exact fun b hb=>h b (List.mem_of_mem_take hb)
theorem all_drop {s:B} {n:Nat} (h:s.all okB=true):(s.drop n).all okB=true:=by
 rw[List.all_eq_true] at h ⊢;exact fun b hb=>h b (List.mem_of_mem_drop hb)
theorem turned_mapOk:∀ {l:List Pc} {m:List Pair} {s:B} {out:Bool},mapOk m=true→mapOk (turned m l s out).1=true
 | [],m,s,out,h=>h
 | p::ps,m,s,out,h=>by
   simp only[turned];exact turned_mapOk (turn_mapOk h _ _ _)
theorem turned_txt:∀ {l:List Pc} {m:List Pair} {s:B} {out:Bool},mapOk m=true→fits l s→(∀q∈l,1≤q.size∧q.size≤6)→s.all okB=true →
 ∀b∈(turned m l s out).2,(1≤b.length∧b.length≤6)∧b.all okB=true
 | [],m,s,out,_,_,_,_=>by simp[turned]
 | p::ps,m,s,out,h,hf,hq,hs=>by
   obtain⟨f1,f2⟩:=hf
   have hp:=hq p (List.mem_cons_self ..)
   simp only[turned]
   intro b hb
   rcases List.mem_cons.1 hb with rfl|hb
   ·exact turn_txt h p out (by rw[List.length_take];omega) (all_take hs)
   ·exact turned_txt (turn_mapOk h _ _ _) f2 (fun q hq'=>hq q (List.mem_cons_of_mem _ hq')) (all_drop hs) b hb
theorem okParts_mk:∀ {l:List Pc} {ts:List B},ts.length=l.length→(∀b∈ts,(1≤b.length∧b.length≤6)∧b.all okB=true)→okParts (mkParts l ts) l=true
 | [],[],_,_=>rfl
 | p::ps,b::bs,hl,h=>by
   have hb:=h b (List.mem_cons_self ..)
   simp only[mkParts,okParts,Bool.and_eq_true]
   refine⟨?_,okParts_mk (by simpa using hl) fun x hx=>h x (List.mem_cons_of_mem _ hx)⟩
   rw[okPart_iff]
   refine⟨rfl,hb.1, ?_⟩
   simp only[txOk,Bool.and_eq_true,decide_eq_true_eq]
   exact⟨hb.2,by omega⟩
 | [],_::_,hl,_=>by simp at hl
 | _::_,[],hl,_=>by simp at hl
theorem okParts_app:∀ {a:List Part} {c:List Pc} {b:List Part} {d:List Pc},okParts a c=true→okParts b d=true→okParts (a++b) (c++d)=true
 | [],[],b,d,_,h=>h
 | x::xs,y::ys,b,d,h1,h2=>by
   simp only[okParts,Bool.and_eq_true] at h1
   simp only[List.cons_append,okParts,Bool.and_eq_true]
   exact⟨h1.1,okParts_app h1.2 h2⟩
 | [],_::_,b,d,h,_=>by simp[okParts] at h
 | _::_,[],b,d,h,_=>by simp[okParts] at h
theorem behind_tx {c:B} {n:Int} {t:B} (hc:txOk c=true) (ht:txOk t=true) (hn:0≤n) (h:(behind c n t).2=true):txOk (behind c n t).1=true:=by
 simp only[txOk,Bool.and_eq_true,decide_eq_true_eq] at hc ht ⊢
 unfold behind at h ⊢
 split
 ·exact hc
 ·rename_i h1
  simp only[Bool.or_eq_true,decide_eq_true_eq,not_or,Int.not_lt,gt_iff_lt] at h1
  split
  ·exact hc
  ·refine⟨?_, ?_⟩
   ·simp only[List.all_append,hc.1,all_drop ht.1,Bool.and_self]
   ·simp only[zA,List.length_drop];omega
theorem put_ok {m:List Pair} {s:Strm} {n:Int} {t:B} {out:Bool} (hm:mapOk m=true) (hs:strmOk s=true) (ht:txOk t=true) (hn:0≤n) :
 mapOk (put m s n t out).1=true∧strmOk (put m s n t out).2.1=true:=by
 unfold put
 split
 ·rename_i hb
  refine⟨turned_mapOk hm, ?_⟩
  have hs0:txOk s.inn=true∧okParts s.parts (pieces s.inn)=true:=by simpa[strmOk] using hs
  have htx:=behind_tx hs0.1 ht hn hb
  obtain⟨x,hx,_⟩:=behind_app hb
  obtain⟨f1,f2,f3,f4⟩:=put_fits hs x
  rw[←hx] at f1 f2 f3 f4
  simp only[strmOk,htx,Bool.true_and]
  have hq:∀q∈(pieces (behind s.inn n t).1).drop s.parts.length,1≤q.size∧q.size≤6:=fun q hq=>pieces_small _ q (List.mem_of_mem_drop hq)
  have hpc:pieces (behind s.inn n t).1=pieces s.inn++(pieces (behind s.inn n t).1).drop s.parts.length:=by
   have h1:=pieces_app s.inn x
   rw[←hx] at h1
   rw[f2,h1,hx]
  conv=>lhs;arg 2;rw[hpc]
  refine okParts_app hs0.2 (okParts_mk (turned_len ..) ?_)
  refine turned_txt hm f4 hq (all_drop ?_)
  simp only[txOk,Bool.and_eq_true] at htx
  exact htx.1
 ·exact⟨hm,hs⟩
theorem forP_le {l:List Part} (i:Int):0≤forP l i∧forP l i≤((l.flatMap (·.text)).length:Int):=by
 induction l generalizing i with
 | nil=>simp[forP]
 | cons p l ih =>
   have:=ih (i - p.size)
   simp only[forP,List.flatMap_cons,zA]
   split<;>omega
theorem sOut_len {s:Strm} (h:StrB s):(sOut s).length≤240:=by
 have h1:=outL_le (l:=s.parts) (fun p hp=>(h.2.2 p hp).2.2.1) s.parts.length
 rw[List.take_length] at h1
 have:=h.2.1
 show(outL s.parts).length≤240
 omega
def toR (was is:Strm) (p:Pk):Int:=if was.inn.length<is.inn.length then((sOut is).length:Int) else forP is.parts (min (p.at_+p.text.length) is.inn.length)
theorem toR_le (was is:Strm) (p:Pk):0≤toR was is p∧toR was is p≤(sOut is).length:=by
 unfold toR
 split
 ·omega
 ·exact forP_le _
theorem put_inn (m:List Pair) (s:Strm) (n:Int) (t:B) (out:Bool):s.inn.length≤(put m s n t out).2.1.inn.length:=by
 unfold put
 split
 ·rename_i h
  obtain⟨x,hx,_⟩:=behind_app h
  simp only[hx,zA];omega
 ·exact Nat.le_refl _
def sendR (was is:Strm) (p:Pk):Pk×Bool :=
 if forP is.parts p.at_≥toR was is p then(.zero,false)
 else({ p with at_:=forP is.parts p.at_,text:=((sOut is).take (toR was is p).toNat).drop (forP is.parts p.at_).toNat },decide ((((sOut is).take (toR was is p).toNat).drop (forP is.parts p.at_).toNat).length≤40))
theorem sendR_on (was is:Strm) (p:Pk):sendOn was is p=if(sendR was is p).2 then some (sendR was is p).1 else none:=by
 have h1:=forP_le (l:=is.parts) p.at_
 have h2:=toR_le was is p
 have h3:sendOn was is p=if forP is.parts p.at_≥toR was is p then none else if toR was is p - forP is.parts p.at_≤40 then some { p with at_:=forP is.parts p.at_,text:=((sOut is).take (toR was is p).toNat).drop (forP is.parts p.at_).toNat } else none:=rfl
 rw[h3]
 unfold sendR
 by_cases hc:forP is.parts p.at_≥toR was is p
 ·rw[if_pos hc,if_pos hc];rfl
 ·rw[if_neg hc,if_neg hc]
  have hl:(((sOut is).take (toR was is p).toNat).drop (forP is.parts p.at_).toNat).length=(toR was is p - forP is.parts p.at_).toNat:=by
   rw[List.length_drop,List.length_take];omega
  simp only[hl]
  by_cases h4:toR was is p - forP is.parts p.at_≤40
  ·rw[if_pos h4,if_pos (by simp;omega)]
  ·rw[if_neg h4,if_neg (by simp;omega)]
def goesR (was is:Strm) (p:Pk):Pk×Bool :=
 ({ p with at_:=forP is.parts p.at_,text:=((sOut is).take (max (toR was is p) (forP is.parts p.at_)).toNat).drop (forP is.parts p.at_).toNat },
   within (((sOut is).take (max (toR was is p) (forP is.parts p.at_)).toNat).drop (forP is.parts p.at_).toNat).length 1 40)
theorem goesR_on (was is:Strm) (p:Pk):sendOn was is p=if(goesR was is p).2 then some (goesR was is p).1 else none:=by
 have h1:=forP_le (l:=is.parts) p.at_
 have h2:=toR_le was is p
 have h3:sendOn was is p=if forP is.parts p.at_≥toR was is p then none else if toR was is p - forP is.parts p.at_≤40 then some { p with at_:=forP is.parts p.at_,text:=((sOut is).take (toR was is p).toNat).drop (forP is.parts p.at_).toNat } else none:=rfl
 rw[h3]
 unfold goesR
 have hl:(((sOut is).take (max (toR was is p) (forP is.parts p.at_)).toNat).drop (forP is.parts p.at_).toNat).length=(max (toR was is p) (forP is.parts p.at_) - forP is.parts p.at_).toNat:=by
  rw[List.length_drop,List.length_take]
  have h5:forP is.parts p.at_≤((sOut is).length:Int):=h1.2
  omega
 simp only[hl]
 by_cases hc:forP is.parts p.at_≥toR was is p
 ·rw[if_pos hc,if_neg]
  rw[within_iff];omega
 ·rw[if_neg hc]
  have hmx:max (toR was is p) (forP is.parts p.at_)=toR was is p:=by omega
  by_cases h4:toR was is p - forP is.parts p.at_≤40
  ·rw[if_pos h4,if_pos (by rw[within_iff];omega),hmx]
  ·rw[if_neg h4,if_neg (by rw[within_iff];omega)]
def openR (d:Door) (i o:E):Door×Nat×Bool:=match openF d i o with
 | some (x,k)=>(x,k,true)
 | none=>(d,0,false)
theorem openF_has {d:Door} {i o:E} {k:Nat} (h:flowIx d.flows i o=some k):openR d i o=(d,k,true):=by
 simp[openR,openF,h]
theorem openF_no {d:Door} {i o:E} (h:flowIx d.flows i o=none) (h2:(mOut d.map i).2.2=false):openR d i o=(d,0,false):=by
 rcases hm:mOut d.map i with⟨m,n,ok⟩
 rw[hm] at h2
 simp only at h2
 subst h2
 simp[openR,openF,h,hm]
theorem openF_new {d:Door} {i o:E} (h:flowIx d.flows i o=none) (h2:(mOut d.map i).2.2=true) (h3:d.flows.length<4):openR d i o=(⟨(mOut d.map i).1,d.flows++[⟨i,o,.zero,.zero⟩]⟩,d.flows.length,true):=by
 rcases hm:mOut d.map i with⟨m,n,ok⟩
 rw[hm] at h2
 simp only at h2
 subst h2
 simp[openR,openF,h,hm,h3]
structure OpenedP (d:Door) (i o:E) (x:Door) (k:Nat):Prop where
 map:mapOk x.map=true
 port:portOf x.map i≠0
 len:x.flows.length≤d.flows.length+1
 kl:k<x.flows.length
 flow:(x.flows.getD k default).ins=i∧(x.flows.getD k default).out=o
 up:strmOk (x.flows.getD k default).up=true
 down:strmOk (x.flows.getD k default).down=true
 ok:doorOk x=true
theorem strmOk_zero:strmOk .zero=true:=by decide
theorem portOf_ne' {m:List Pair} (hm:mapOk m=true) (e:E):portOf m e≠0↔m.any (fun q=>decide (q.ins=e))=true :=
 portOf_ne fun p hp=>((mapOk_ports hm).1 p hp).1
theorem any_mOut {m:List Pair} {e f:E} (h:m.any (fun q=>decide (q.ins=f))=true):(mOut m e).1.any (fun q=>decide (q.ins=f))=true:=by
 unfold mOut
 split
 ·exact h
 ·split
  ·exact h
  ·simp only[List.any_append,h,Bool.true_or]
theorem any_mOut_self {m:List Pair} {e:E} (h:(mOut m e).2.2=true):(mOut m e).1.any (fun q=>decide (q.ins=e))=true:=by
 unfold mOut at h ⊢
 split
 ·rename_i p hf
  rw[List.any_eq_true]
  have:=List.find?_some hf
  exact⟨p,List.mem_of_find?_eq_some hf,this⟩
 ·rename_i hf
  split
  ·rename_i hl;simp only[hf,if_pos hl] at h;cases h
  ·simp
theorem flow_at {d:Door} (h:doorOk d=true) {k:Nat} {f:Flw} (hf:d.flows[k]?=some f):d.map.any (fun p=>decide (p.ins=f.ins))=true∧f.out.outside=true∧strmOk f.up=true∧strmOk f.down=true∧(d.flows.take k).any (sameF f.ins f.out)=false:=by
 obtain⟨_,_,h3⟩:=doorOk_iff.1 h
 have hk:k<d.flows.length:=(List.getElem?_eq_some_iff.1 hf).1
 have h4:=h3 k hk
 rw[okFlow_i hk] at h4
 obtain rfl:d.flows[k]=f:=by rw[zE hk] at hf;exact Option.some.inj hf
 simp only[Bool.and_eq_true,Bool.not_eq_true'] at h4
 exact⟨h4.1.1.1.1,h4.1.1.1.2,h4.1.1.2,h4.1.2,h4.2⟩
theorem doorOk_of {m:List Pair} {fs:List Flw} (hm:mapOk m=true) (hl:fs.length≤4) (h:∀k f,fs[k]?=some f→m.any (fun p=>decide (p.ins=f.ins))=true∧f.out.outside=true∧strmOk f.up=true∧strmOk f.down=true∧(fs.take k).any (sameF f.ins f.out)=false):doorOk ⟨m,fs⟩=true:=by
 refine doorOk_iff.2 ⟨hm,hl,fun k hk=>?_⟩
 rw[okFlow_i (d:=⟨m,fs⟩) hk]
 obtain⟨a,b,c,d,e⟩:=h k _ (zE hk)
 simp[a,b,c,d,e]
theorem openR_ok {d:Door} {i o:E} (hd:doorOk d=true) (hi:i.inside=true) (ho:o.outside=true) (hok:(openR d i o).2.2=true):OpenedP d i o (openR d i o).1 (openR d i o).2.1:=by
 obtain⟨hm,hl,h3⟩:=doorOk_iff.1 hd
 cases hf:flowIx d.flows i o with
 | some k =>
   rw[openF_has hf]
   obtain⟨f,h1,rfl,rfl,h4⟩:=flowIx_some hf
   obtain⟨a,b,c,e,g⟩:=flow_at hd h1
   have hk:k<d.flows.length:=(List.getElem?_eq_some_iff.1 h1).1
   have hg:d.flows.getD k default=f:=by simp[List.getD,h1]
   exact⟨hm,(portOf_ne' hm _).2 a,by simp,hk,by rw[hg];exact⟨rfl,rfl⟩,by rw[hg];exact c,by rw[hg];exact e,hd⟩
 | none =>
   cases h2:(mOut d.map i).2.2 with
   | false=>rw[openF_no hf h2] at hok;cases hok
   | true =>
     by_cases h4:d.flows.length<4
     ·rw[openF_new hf h2 h4]
      have hm':=mOut_ok hm hi
      have ha:=any_mOut_self h2
      have hg:(d.flows++[Flw.mk i o .zero .zero]).getD d.flows.length default=⟨i,o,.zero,.zero⟩:=by simp[List.getD]
      refine⟨hm',(portOf_ne' hm' _).2 ha,by simp,by simp,by rw[hg];exact⟨rfl,rfl⟩,by rw[hg];exact strmOk_zero,by rw[hg];exact strmOk_zero, ?_⟩
      refine doorOk_of hm' (by simp;omega) fun k f hk=>?_
      by_cases hkl:k<d.flows.length
      ·rw[List.getElem?_append_left hkl] at hk
       obtain⟨a,b,c,e,g⟩:=flow_at hd hk
       refine⟨any_mOut a,b,c,e, ?_⟩
       rw[List.take_append_of_le_length (by omega)];exact g
      ·have:=(List.getElem?_eq_some_iff.1 hk).1
       simp only[zA,zC,zN] at this
       obtain rfl:k=d.flows.length:=by omega
       rw[List.getElem?_append_right (Nat.le_refl _)] at hk
       simp only[Nat.sub_self,List.getElem?_cons_zero,zS] at hk
       subst hk
       refine⟨ha,ho,strmOk_zero,strmOk_zero, ?_⟩
       rw[List.take_left' rfl]
       exact flowIx_none.1 hf
     ·exfalso
      rcases hmo:mOut d.map i with⟨m,n,ok⟩
      rw[hmo] at h2
      simp only at h2
      subst h2
      simp[openR,openF,hf,hmo,h4] at hok
theorem set_ok {d:Door} {m:List Pair} {k:Nat} {f g:Flw} (hd:doorOk d=true) (hf:d.flows[k]?=some f) (hm:mapOk m=true) (hsub:∀e,d.map.any (fun p=>decide (p.ins=e))=true→m.any (fun p=>decide (p.ins=e))=true)
 (h1:g.ins=f.ins) (h2:g.out=f.out) (h3:strmOk g.up=true) (h4:strmOk g.down=true):doorOk ⟨m,d.flows.set k g⟩=true:=by
 obtain⟨_,hl,_⟩:=doorOk_iff.1 hd
 refine doorOk_of hm (by simpa using hl) fun j x hj=>?_
 have hsame:∀j i o,((d.flows.set k g).take j).any (sameF i o)=(d.flows.take j).any (sameF i o):=fun j i o=>by
  have hkl:k<d.flows.length:=(List.getElem?_eq_some_iff.1 hf).1
  have e1:(d.flows.set k g).map (sameF i o)=d.flows.map (sameF i o):=by
   rw[List.map_set]
   have:sameF i o g=(d.flows.map (sameF i o))[k]'(by simpa using hkl):=by
    rw[List.getElem_map]
    have hfe:d.flows[k]=f:=by rw[zE hkl] at hf;exact Option.some.inj hf
    rw[hfe,sameF,sameF,h1,h2]
   rw[this,List.set_getElem_self]
  have e2:∀l:List Flw,(l.take j).any (sameF i o)=((l.map (sameF i o)).take j).any id:=fun l=>by rw[←List.map_take,List.any_map];rfl
  rw[e2,e1,←e2]
 rw[hsame]
 by_cases hjk:j=k
 ·subst hjk
  have hkl:j<d.flows.length:=(List.getElem?_eq_some_iff.1 hf).1
  rw[List.getElem?_set_self hkl] at hj
  cases hj
  obtain⟨a,b,c,e,q⟩:=flow_at hd hf
  rw[h1,h2]
  exact⟨hsub _ a,b,h3,h4,q⟩
 ·rw[List.getElem?_set_ne (by omega)] at hj
  obtain⟨a,b,c,e,q⟩:=flow_at hd hj
  exact⟨hsub _ a,b,c,e,q⟩
def Flw.at (d:Door) (k:Nat):Flw:=d.flows.getD k default
def outK (x:Door) (k:Nat) (p:Pk):Door×Option Pk :=
 if p.kind=2 then
  if p.at_>(sOut (Flw.at x k).down).length then(x,none) else(x,some ⟨2,⟨9,portOf x.map p.frm⟩,p.to,backP (Flw.at x k).down.parts p.at_,[]⟩)
 else if(put x.map (Flw.at x k).up p.at_ p.text true).2.2=false then(x,none)
 else(⟨(put x.map (Flw.at x k).up p.at_ p.text true).1,x.flows.set k { Flw.at x k with up:=(put x.map (Flw.at x k).up p.at_ p.text true).2.1 }⟩,
  (sendOn (Flw.at x k).up (put x.map (Flw.at x k).up p.at_ p.text true).2.1 p).map fun q=>{ q with frm:=⟨9,portOf x.map p.frm⟩ })
theorem dOut_no {d:Door} {p:Pk} (h:(openR d p.frm p.to).2.2=false):dOut d p=(d,none):=by
 unfold openR at h
 cases ho:openF d p.frm p.to with
 | none=>simp[dOut,ho]
 | some x=>rw[ho] at h;cases h
theorem dOut_yes {d:Door} {p:Pk} (h:(openR d p.frm p.to).2.2=true) (hk:(openR d p.frm p.to).2.1<(openR d p.frm p.to).1.flows.length) :
 dOut d p=outK (openR d p.frm p.to).1 (openR d p.frm p.to).2.1 p:=by
 unfold openR at h hk ⊢
 cases ho:openF d p.frm p.to with
 | none=>rw[ho] at h;cases h
 | some x =>
   obtain⟨x,k⟩:=x
   rw[ho] at hk
   simp only at hk ⊢
   have hf:x.flows[k]?=some (Flw.at x k):=by simp[Flw.at,List.getD,hk]
   simp only[dOut,ho,hf,outK]
   split
   ·rfl
   ·rcases hp:put x.map (Flw.at x k).up p.at_ p.text true with⟨m,s,ok⟩
    cases ok<;>simp
def inK (x:Door) (k:Nat) (i:E) (p:Pk):Door×Option Pk :=
 if p.kind=2 then
  if p.at_>(sOut (Flw.at x k).up).length then(x,none) else(x,some ⟨2,p.frm,i,backP (Flw.at x k).up.parts p.at_,[]⟩)
 else if(put x.map (Flw.at x k).down p.at_ p.text false).2.2=false then(x,none)
 else(⟨x.map,x.flows.set k { Flw.at x k with down:=(put x.map (Flw.at x k).down p.at_ p.text false).2.1 }⟩,
  (sendOn (Flw.at x k).down (put x.map (Flw.at x k).down p.at_ p.text false).2.1 p).map fun q=>{ q with to:=i })
theorem dIn_no1 {d:Door} {p:Pk} (h:insideOf d.map p.to.p=none):dIn d p=(d,none):=by simp[dIn,h]
theorem dIn_no2 {d:Door} {p:Pk} {i:E} (h:insideOf d.map p.to.p=some i) (h2:flowIx d.flows i p.frm=none):dIn d p=(d,none):=by simp[dIn,h,h2]
theorem dIn_yes {d:Door} {p:Pk} {i:E} {k:Nat} (h:insideOf d.map p.to.p=some i) (h2:flowIx d.flows i p.frm=some k):k<d.flows.length∧dIn d p=inK d k i p:=by
 obtain⟨f,h3,_⟩:=flowIx_some h2
 have hk:k<d.flows.length:=(List.getElem?_eq_some_iff.1 h3).1
 refine⟨hk, ?_⟩
 have hf:d.flows[k]?=some (Flw.at d k):=by simp[Flw.at,List.getD,hk]
 simp only[dIn,h,h2,hf,inK]
 split
 ·rfl
 ·rcases hp:put d.map (Flw.at d k).down p.at_ p.text false with⟨m,s,ok⟩
  cases ok<;>simp
structure PkP (p:Pk):Prop where
 at_:0≤p.at_∧p.at_≤999
 len:p.text.length≤40
 tx:p.kind=2∨txOk p.text=true
 ack:p.kind=2→p.text=[]
 kd:p.kind=1∨p.kind=2
theorem pkOk_P {p:Pk} (h:pkOk p=true):PkP p:=by
 simp only[pkOk,Bool.and_eq_true,Bool.or_eq_true,decide_eq_true_eq,within_iff] at h
 obtain⟨⟨_,h1⟩,h2|h2⟩:=h
 ·exact⟨⟨h1.1,by omega⟩,txOk_len h2.1.2,.inr h2.1.2,fun h=>(by rw[h2.1.1] at h;cases h),.inl h2.1.1⟩
 ·have:p.text=[]:=by simpa using h2.2
  exact⟨⟨h1.1,by omega⟩,by simp[this],.inl h2.1,fun _=>this,.inr h2.1⟩
theorem put_sub {m:List Pair} {s:Strm} {n:Int} {t:B} {out:Bool}:∀e,m.any (fun p=>decide (p.ins=e))=true→(put m s n t out).1.any (fun p=>decide (p.ins=e))=true:=by
 intro e h
 unfold put
 split
 ·have key:∀(l:List Pc) (m:List Pair) (s:B),m.any (fun p=>decide (p.ins=e))=true→(turned m l s out).1.any (fun p=>decide (p.ins=e))=true:=by
   intro l
   induction l with
   | nil=>intro m s h;exact h
   | cons q l ih =>
     intro m s h
     simp only[turned]
     refine ih _ _ ?_
     cases out
     ·exact h
     ·simp only[turn,cond_true,pieceOut]
      split
      ·have:=any_mOut (e:=q.e) h
       rcases hmo:mOut m q.e with⟨x,port,ok⟩
       rw[hmo] at this
       cases ok
       ·exact h
       ·exact this
      ·exact h
  exact key _ _ _ h
 ·exact h
theorem outK_ok {x:Door} {k:Nat} {p:Pk} (hd:doorOk x=true) (hk:k<x.flows.length) (hp:PkP p):doorOk (outK x k p).1=true∧(outK x k p).1.flows.length=x.flows.length:=by
 have hf:x.flows[k]?=some (Flw.at x k):=by simp[Flw.at,List.getD,hk]
 obtain⟨_,_,hu,hdn,_⟩:=flow_at hd hf
 unfold outK
 split
 ·split<;>exact⟨hd,rfl⟩
 ·rename_i hkd
  split
  ·exact⟨hd,rfl⟩
  ·obtain⟨p1,p2⟩:=put_ok (out:=true) (doorOk_iff.1 hd).1 hu (hp.tx.resolve_left hkd) hp.at_.1
   exact⟨set_ok hd hf p1 put_sub rfl rfl p2 hdn,by simp⟩
theorem inK_ok {x:Door} {k:Nat} {i:E} {p:Pk} (hd:doorOk x=true) (hk:k<x.flows.length) (hp:PkP p):doorOk (inK x k i p).1=true∧(inK x k i p).1.flows.length=x.flows.length∧(inK x k i p).1.map=x.map:=by
 have hf:x.flows[k]?=some (Flw.at x k):=by simp[Flw.at,List.getD,hk]
 obtain⟨_,_,hu,hdn,_⟩:=flow_at hd hf
 unfold inK
 split
 ·split<;>exact⟨hd,rfl,rfl⟩
 ·rename_i hkd
  split
  ·exact⟨hd,rfl,rfl⟩
  ·obtain⟨p1,p2⟩:=put_ok (out:=false) (doorOk_iff.1 hd).1 hdn (hp.tx.resolve_left hkd) hp.at_.1
   exact⟨set_ok hd hf (doorOk_iff.1 hd).1 (fun e h=>h) rfl rfl hu p2,by simp,rfl⟩
theorem openR_no {d:Door} {i o:E} (h:(openR d i o).2.2=false):(openR d i o).1=d:=by
 unfold openR at h ⊢
 cases ho:openF d i o with
 | none=>rfl
 | some x=>rw[ho] at h;cases h
theorem dOut_ok {d:Door} {p:Pk} (hd:doorOk d=true) (hp:PkP p) (h1:p.outward=true):doorOk (dOut d p).1=true∧(dOut d p).1.flows.length≤d.flows.length+1:=by
 simp only[Pk.outward,Bool.and_eq_true] at h1
 cases ho:(openR d p.frm p.to).2.2 with
 | false=>rw[dOut_no ho];exact⟨hd,by simp⟩
 | true =>
   have hx:=openR_ok hd h1.1 h1.2 ho
   rw[dOut_yes ho hx.kl]
   have:=outK_ok hx.ok hx.kl hp
   exact⟨this.1,by rw[this.2];exact hx.len⟩
theorem dIn_ok {d:Door} {p:Pk} (hd:doorOk d=true) (hp:PkP p):doorOk (dIn d p).1=true∧(dIn d p).1.flows.length=d.flows.length:=by
 cases h1:insideOf d.map p.to.p with
 | none=>rw[dIn_no1 h1];exact⟨hd,rfl⟩
 | some i =>
   cases h2:flowIx d.flows i p.frm with
   | none=>rw[dIn_no2 h1 h2];exact⟨hd,rfl⟩
   | some k =>
     obtain⟨hk,he⟩:=dIn_yes h1 h2
     rw[he]
     have:=inK_ok (i:=i) hd hk hp
     exact⟨this.1,this.2.1⟩
theorem dPass_ok {d:Door} {p:Pk} (hd:doorOk d=true) (hp:PkP p):doorOk (dPass d p).1=true∧(dPass d p).1.flows.length≤d.flows.length+1:=by
 unfold dPass
 split
 ·rename_i h;exact dOut_ok hd hp h
 ·split
  ·have:=dIn_ok hd hp;exact⟨this.1,by omega⟩
  ·exact⟨hd,by simp⟩
theorem sendOn_to (was is:Strm) (p:Pk) (i:E):sendOn was is { p with to:=i }=(sendOn was is p).map fun q=>{ q with to:=i }:=by
 have h3:∀p:Pk,sendOn was is p=if forP is.parts p.at_≥toR was is p then none else if toR was is p - forP is.parts p.at_≤40 then some { p with at_:=forP is.parts p.at_,text:=((sOut is).take (toR was is p).toNat).drop (forP is.parts p.at_).toNat } else none:=fun p=>rfl
 rw[h3,h3]
 have:toR was is { p with to:=i }=toR was is p:=rfl
 rw[this]
 simp only
 split
 ·rfl
 ·split<;>rfl
theorem sendOn_frm (was is:Strm) (p:Pk) (i:E):sendOn was is { p with frm:=i }=(sendOn was is p).map fun q=>{ q with frm:=i }:=by
 have h3:∀p:Pk,sendOn was is p=if forP is.parts p.at_≥toR was is p then none else if toR was is p - forP is.parts p.at_≤40 then some { p with at_:=forP is.parts p.at_,text:=((sOut is).take (toR was is p).toNat).drop (forP is.parts p.at_).toNat } else none:=fun p=>rfl
 rw[h3,h3]
 have:toR was is { p with frm:=i }=toR was is p:=rfl
 rw[this]
 simp only
 split
 ·rfl
 ·split<;>rfl
theorem put_mapF (m:List Pair) (s:Strm) (n:Int) (t:B):(put m s n t false).1=m:=by
 have key:∀(l:List Pc) (m:List Pair) (s:B),(turned m l s false).1=m:=by
  intro l
  induction l with
  | nil=>intro m s;rfl
  | cons q l ih=>intro m s;simp only[turned];rw[ih];rfl
 unfold put
 split
 ·exact key _ _ _
 ·rfl
theorem convOk_iff {c:Conv}:convOk c=true↔(c.ins.inside=true∧c.out.outside=true∧saying c.up=true∧saying c.down=true∧ownT c.up=true)∧(0≤c.upAck∧c.upAck≤c.up.length)∧(0≤c.downAck∧c.downAck≤c.down.length)∧txOk c.upGot=true∧txOk c.downGot=true:=by
 unfold convOk convNew
 split
 ·rename_i h
  simp only[Bool.and_eq_true] at h
  simp[within_iff,h,and_assoc]
 ·rename_i h
  simp only[Bool.and_eq_true,not_and] at h
  simp only[Option.isSome_none,Bool.false_and,Bool.false_eq_true,false_iff]
  rintro⟨⟨a,b,c,d,e⟩,_⟩
  exact h ⟨⟨⟨a,b⟩,c⟩,d⟩ e
theorem saying_len {t:B} (h:saying t=true):t.length≤24∧txOk t=true∧held t=0:=by
 simpa[saying,and_assoc] using h
structure CvB (c:Conv):Prop where
 up:c.up.length≤24
 down:c.down.length≤24
 upGot:c.upGot.length≤40
 downGot:c.downGot.length≤40
 upAck:0≤c.upAck∧c.upAck≤24
 downAck:0≤c.downAck∧c.downAck≤24
theorem convOk_B {c:Conv} (h:convOk c=true):CvB c:=by
 obtain⟨⟨_,_,h3,h4,_⟩,h6,h7,h8,h9⟩:=convOk_iff.1 h
 have:=(saying_len h3).1
 have:=(saying_len h4).1
 exact⟨by omega,by omega,txOk_len h8,txOk_len h9,by omega,by omega⟩
theorem not_in_out {e:E} (h:e.outside=true):e.inside=false:=by
 cases hi:e.inside with
 | false=>rfl
 | true=>have:=E.inside_iff.1 hi;have:=E.outside_iff.1 h;omega
structure NetP (cs:List Conv) (p:Pk):Prop where
 pk:PkP p
 c:p.frm.inside=true→∃c∈cs,p.frm=c.ins∧p.to=c.out
structure WI (w:World):Prop where
 cv:∀c∈w.convs,convOk c=true
 cl:w.convs.length≤2
 door:doorOk w.door=true
 fl:∀f∈w.door.flows,∃c∈w.convs,f.ins=c.ins∧f.out=c.out
 nl:w.nets.length≤10
 net:∀p∈w.nets,NetP w.convs p
theorem flow_one {cs:List Conv} {fs:List Flw} (hl:cs.length≤2) (h:∀f∈fs,∃c∈cs,f.ins=c.ins∧f.out=c.out)
 (hd:∀(j k:Nat) f g,j<k→fs[j]?=some f→fs[k]?=some g→¬(f.ins=g.ins∧f.out=g.out)):fs.length≤2:=by
 match fs,cs,hl with
 | [],_,_=>simp
 | [_],_,_=>simp
 | [_,_],_,_=>simp
 | a::b::c::r,cs,hl =>
   exfalso
   have h1:=hd 0 1 a b (by omega) rfl rfl
   have h2:=hd 0 2 a c (by omega) rfl rfl
   have h3:=hd 1 2 b c (by omega) rfl rfl
   obtain⟨x,hx,x1,x2⟩:=h a (by simp)
   obtain⟨y,hy,y1,y2⟩:=h b (by simp)
   obtain⟨z,hz,z1,z2⟩:=h c (by simp)
   match cs,hl with
   | [],_=>cases hx
   | [u],_ =>
     simp only[List.mem_singleton] at hx hy hz
     subst hx;subst hy;subst hz
     exact h1 ⟨x1.trans y1.symm,x2.trans y2.symm⟩
   | [u,v],_ =>
     simp only[List.mem_cons,List.not_mem_nil,or_false] at hx hy hz
     rcases hx with rfl|rfl<;>rcases hy with rfl|rfl<;>rcases hz with rfl|rfl<;>first
      | exact h1 ⟨x1.trans y1.symm,x2.trans y2.symm⟩
      | exact h2 ⟨x1.trans z1.symm,x2.trans z2.symm⟩
      | exact h3 ⟨y1.trans z1.symm,y2.trans z2.symm⟩
theorem doorOk_apart {d:Door} (h:doorOk d=true) (j k:Nat) (f g:Flw) (hjk:j<k) (hf:d.flows[j]?=some f) (hg:d.flows[k]?=some g):¬(f.ins=g.ins∧f.out=g.out):=by
 obtain⟨_,_,_,_,ha⟩:=flow_at h hg
 rintro⟨e1,e2⟩
 have hm:f∈d.flows.take k:=List.mem_iff_getElem?.2 ⟨j,by rw[List.getElem?_take,if_pos hjk];exact hf⟩
 have:=List.any_eq_false.1 ha f hm
 simp[sameF,e1,e2] at this
theorem sOut_ok {s:Strm} (h:StrB s):(sOut s).all okB=true:=by
 simp only[sOut,List.all_flatMap,List.all_eq_true]
 intro p hp
 have:=(h.2.2 p hp).2.2.2
 simp only[txOk,Bool.and_eq_true] at this
 exact List.all_eq_true.1 this.1
theorem sendOn_P {was is:Strm} {p q:Pk} (hs:StrB is) (hp:PkP p) (hk:p.kind≠2) (h:sendOn was is p=some q):PkP q∧q.frm=p.frm∧q.to=p.to∧q.kind=p.kind:=by
 have h1:=forP_le (l:=is.parts) p.at_
 have h2:=toR_le was is p
 have h3:=sOut_len hs
 have e:sendOn was is p=if forP is.parts p.at_≥toR was is p then none else if toR was is p - forP is.parts p.at_≤40 then some { p with at_:=forP is.parts p.at_,text:=((sOut is).take (toR was is p).toNat).drop (forP is.parts p.at_).toNat } else none:=rfl
 rw[e] at h
 have h1':forP is.parts p.at_≤((sOut is).length:Int):=h1.2
 have h1'':=h1.1
 generalize forP is.parts p.at_=a at *
 generalize toR was is p=b at *
 split at h
 ·cases h
 ·split at h
  ·cases h
   have hl:(((sOut is).take b.toNat).drop a.toNat).length≤40:=by simp only[List.length_drop,List.length_take];omega
   refine⟨⟨⟨h1'',by simp only;omega⟩,hl,.inr ?_,fun h=>absurd h hk,hp.kd⟩,rfl,rfl,rfl⟩
   simp only[txOk,Bool.and_eq_true,decide_eq_true_eq]
   exact⟨all_drop (all_take (sOut_ok hs)),hl⟩
  ·cases h
theorem backP_P {l:List Part} (h:∀p∈l,(1≤p.size∧p.size≤6)) (hl:l.length≤40) (n:Int):0≤backP l n∧backP l n≤240:=by
 have:=backP_rng (l:=l) (fun p hp=>by have:=h p hp;omega) n
 omega
theorem dOut_flows {d:Door} {p:Pk}:∀f∈(dOut d p).1.flows,(f.ins=p.frm∧f.out=p.to)∨∃g∈d.flows,f.ins=g.ins∧f.out=g.out:=by
 have hin:∀f∈d.flows,(f.ins=p.frm∧f.out=p.to)∨∃g∈d.flows,f.ins=g.ins∧f.out=g.out:=fun f hf=>.inr ⟨f,hf,rfl,rfl⟩
 have hop:∀x k,openF d p.frm p.to=some (x,k)→∀f∈x.flows,(f.ins=p.frm∧f.out=p.to)∨∃g∈d.flows,f.ins=g.ins∧f.out=g.out:=by
  intro x k h
  unfold openF at h
  split at h
  ·cases h;exact hin
  ·split at h
   ·split at h
    ·cases h
     intro f hf
     rcases List.mem_append.1 hf with hf|hf
     ·exact hin f hf
     ·simp only[List.mem_singleton] at hf;subst hf;exact .inl ⟨rfl,rfl⟩
    ·cases h
   ·cases h
 unfold dOut
 split
 ·exact hin
 ·rename_i x k ho
  have hx:=hop x k ho
  split
  ·exact hx
  ·rename_i f hf
   split
   ·split<;>exact hx
   ·split
    ·exact hx
    ·intro g hg
     simp only at hg
     rcases List.mem_or_eq_of_mem_set hg with hg|rfl
     ·exact hx g hg
     ·exact hx f (List.mem_of_getElem? hf)
theorem dIn_flows {d:Door} {p:Pk}:∀f∈(dIn d p).1.flows,∃g∈d.flows,f.ins=g.ins∧f.out=g.out:=by
 have hin:∀f∈d.flows,∃g∈d.flows,f.ins=g.ins∧f.out=g.out:=fun f hf=>⟨f,hf,rfl,rfl⟩
 unfold dIn
 split
 ·exact hin
 ·split
  ·exact hin
  ·split
   ·exact hin
   ·rename_i f hf
    split
    ·split<;>exact hin
    ·split
     ·exact hin
     ·intro g hg
      simp only at hg
      rcases List.mem_or_eq_of_mem_set hg with hg|rfl
      ·exact hin g hg
      ·exact⟨f,List.mem_of_getElem? hf,rfl,rfl⟩
theorem outK_P {x:Door} {k:Nat} {p q:Pk} (hd:doorOk x=true) (hk:k<x.flows.length) (hp:PkP p) (h:(outK x k p).2=some q):PkP q∧q.frm.inside=false∧q.frm=⟨9,portOf x.map p.frm⟩∧q.to=p.to∧q.kind=p.kind:=by
 have hf:x.flows[k]?=some (Flw.at x k):=by simp[Flw.at,List.getD,hk]
 obtain⟨_,_,hu,hdn,_⟩:=flow_at hd hf
 have hn:∀n,(⟨9,n⟩:E).inside=false:=fun n=>by simp[E.inside,within]
 unfold outK at h
 split at h
 ·rename_i hk2
  split at h
  ·cases h
  ·cases h
   have hb:=strmOk_B hdn
   have:=backP_P (fun p hp=>(hb.2.2 p hp).1) hb.2.1 p.at_
   exact⟨⟨⟨this.1,by simp only;omega⟩,by simp,.inl rfl,fun _=>rfl,.inr rfl⟩,hn _,rfl,rfl,hk2.symm⟩
 ·rename_i hkd
  split at h
  ·cases h
  ·obtain⟨p1,p2⟩:=put_ok (out:=true) (doorOk_iff.1 hd).1 hu (hp.tx.resolve_left hkd) hp.at_.1
   simp only[zM] at h
   obtain⟨q',hq,rfl⟩:=h
   obtain⟨h1,h2,h3,h4⟩:=sendOn_P (strmOk_B p2) hp hkd hq
   exact⟨⟨h1.at_,h1.len,h1.tx,h1.ack,h1.kd⟩,hn _,rfl,h3,h4⟩
theorem inK_P {x:Door} {k:Nat} {i:E} {p q:Pk} (hd:doorOk x=true) (hk:k<x.flows.length) (hp:PkP p) (h:(inK x k i p).2=some q):PkP q∧q.frm=p.frm∧q.to=i∧q.kind=p.kind:=by
 have hf:x.flows[k]?=some (Flw.at x k):=by simp[Flw.at,List.getD,hk]
 obtain⟨_,_,hu,hdn,_⟩:=flow_at hd hf
 unfold inK at h
 split at h
 ·rename_i hk2
  split at h
  ·cases h
  ·cases h
   have hb:=strmOk_B hu
   have:=backP_P (fun p hp=>(hb.2.2 p hp).1) hb.2.1 p.at_
   exact⟨⟨⟨this.1,by simp only;omega⟩,by simp,.inl rfl,fun _=>rfl,.inr rfl⟩,rfl,rfl,hk2.symm⟩
 ·rename_i hkd
  split at h
  ·cases h
  ·obtain⟨p1,p2⟩:=put_ok (out:=false) (doorOk_iff.1 hd).1 hdn (hp.tx.resolve_left hkd) hp.at_.1
   simp only[zM] at h
   obtain⟨q',hq,rfl⟩:=h
   obtain⟨h1,h2,h3,h4⟩:=sendOn_P (strmOk_B p2) hp hkd hq
   exact⟨⟨h1.at_,h1.len,h1.tx,h1.ack,h1.kd⟩,h2,rfl,h4⟩
theorem behind_P {c:B} {n:Int} {t:B} (hc:txOk c=true) (ht:txOk t=true) (hn:0≤n):txOk (behind c n t).1=true:=by
 cases h:(behind c n t).2 with
 | true=>exact behind_tx hc ht hn h
 | false =>
   have:(behind c n t).1=c:=by
    revert h;unfold behind;split
    ·intro;rfl
    ·split<;>(intro h;cases h)
   rw[this];exact hc
theorem hear_same (c:Conv) (inward:Bool) (p:Pk):(hear c inward p).1.ins=c.ins∧(hear c inward p).1.out=c.out∧(hear c inward p).1.up=c.up∧(hear c inward p).1.down=c.down:=by
 unfold hear
 cases inward<;>simp only[cond_true,cond_false]<;>split<;>(try split)<;>exact⟨rfl,rfl,rfl,rfl⟩
theorem hear_ok {c:Conv} {inward:Bool} {p:Pk} (hc:convOk c=true) (hp:PkP p):convOk (hear c inward p).1=true:=by
 obtain⟨h1,h2,h3,h4,h5⟩:=convOk_iff.1 hc
 have hp1:=hp.at_
 unfold hear
 cases inward<;>simp only[cond_true,cond_false]<;>split
 ·split
  ·exact convOk_iff.2 ⟨h1,h2,by simp only;omega,h4,h5⟩
  ·rename_i hk
   exact convOk_iff.2 ⟨h1,h2,h3,behind_P h4 (hp.tx.resolve_left hk) hp1.1,h5⟩
 ·exact hc
 ·split
  ·exact convOk_iff.2 ⟨h1,by simp only;omega,h3,h4,h5⟩
  ·rename_i hk
   exact convOk_iff.2 ⟨h1,h2,h3,h4,behind_P h5 (hp.tx.resolve_left hk) hp1.1⟩
 ·exact hc
theorem hear_ans {c:Conv} {inward:Bool} {p q:Pk} (hc:convOk c=true) (hp:PkP p) (h:(hear c inward p).2=some q):PkP q∧q.kind=2∧q.frm=p.to∧q.to=p.frm∧(bif inward then p.frm=c.out∧p.to=c.ins else p.to=c.out∧p.frm.door=true):=by
 have hh:=hear_ok (inward:=inward) hc hp
 revert hh h
 unfold hear
 cases inward<;>simp only[cond_true,cond_false]<;>split
 ·rename_i hb
  simp only[Bool.and_eq_true,decide_eq_true_eq] at hb
  split
  ·intro h;cases h
  ·intro h hh;cases h
   have:=(convOk_B hh).upGot
   exact⟨⟨by simp only at this ⊢;omega,by simp,.inl rfl,fun _=>rfl,.inr rfl⟩,rfl,rfl,rfl,hb⟩
 ·intro h;cases h
 ·rename_i hb
  simp only[Bool.and_eq_true,decide_eq_true_eq] at hb
  split
  ·intro h;cases h
  ·intro h hh;cases h
   have:=(convOk_B hh).downGot
   exact⟨⟨by simp only at this ⊢;omega,by simp,.inl rfl,fun _=>rfl,.inr rfl⟩,rfl,rfl,rfl,hb⟩
 ·intro h;cases h
theorem hostIx_at {w:World} {p:Pk} {i:Nat} {b:Bool} (h:hostIx w p=some (i,b)):∃c,w.convs[i]?=some c∧b=(decide (p.to=c.ins)&&decide (p.frm=c.out)):=by
 unfold hostIx at h
 split at h
 ·split at h
  ·rename_i c hc
   cases h
   exact⟨c,hc,rfl⟩
  ·cases h
 ·cases h
theorem NetP.set {cs:List Conv} {i:Nat} {c x:Conv} {p:Pk} (hi:cs[i]?=some c) (h1:x.ins=c.ins) (h2:x.out=c.out) (h:NetP cs p):NetP (cs.set i x) p:=by
 refine⟨h.pk,fun hin=>?_⟩
 obtain⟨c',hc',h3,h4⟩:=h.c hin
 obtain⟨j,hj⟩:=List.mem_iff_getElem?.1 hc'
 by_cases hij:i=j
 ·subst hij
  rw[hi] at hj;cases hj
  have hl:=(List.getElem?_eq_some_iff.1 hi).1
  exact⟨x,List.mem_set hl x,by rw[h3,h1],by rw[h4,h2]⟩
 ·exact⟨c',List.mem_iff_getElem?.2 ⟨j,by rw[List.getElem?_set_ne hij];exact hj⟩,h3,h4⟩
theorem WI.setC {w:World} (h:WI w) {i:Nat} {c x:Conv} (hi:w.convs[i]?=some c) (h1:x.ins=c.ins) (h2:x.out=c.out) (hx:convOk x=true):WI { w with convs:=w.convs.set i x }:=by
 refine⟨fun y hy=>?_,by simpa using h.cl,h.door,fun f hf=>?_,h.nl,fun p hp=>(h.net p hp).set hi h1 h2⟩
 ·rcases List.mem_or_eq_of_mem_set hy with hy|rfl
  ·exact h.cv y hy
  ·exact hx
 ·obtain⟨c',hc',h3,h4⟩:=h.fl f hf
  obtain⟨j,hj⟩:=List.mem_iff_getElem?.1 hc'
  by_cases hij:i=j
  ·subst hij
   rw[hi] at hj;cases hj
   have hl:=(List.getElem?_eq_some_iff.1 hi).1
   exact⟨x,List.mem_set hl x,by rw[h3,h1],by rw[h4,h2]⟩
  ·exact⟨c',List.mem_iff_getElem?.2 ⟨j,by simp only;rw[List.getElem?_set_ne hij];exact hj⟩,h3,h4⟩
theorem dPass_P {cs:List Conv} {d:Door} {p q:Pk} (hd:doorOk d=true) (hp:NetP cs p) (h:(dPass d p).2=some q):NetP cs q:=by
 unfold dPass at h
 split at h
 ·rename_i ho
  simp only[Pk.outward,Bool.and_eq_true] at ho
  cases hok:(openR d p.frm p.to).2.2 with
  | false=>rw[dOut_no hok] at h;cases h
  | true =>
    have hx:=openR_ok hd ho.1 ho.2 hok
    rw[dOut_yes hok hx.kl] at h
    obtain⟨h1,h2,_⟩:=outK_P hx.ok hx.kl hp.pk h
    exact⟨h1,fun hin=>by rw[h2] at hin;cases hin⟩
 ·split at h
  ·rename_i hi
   simp only[Pk.inward,Bool.and_eq_true] at hi
   cases h1:insideOf d.map p.to.p with
   | none=>rw[dIn_no1 h1] at h;cases h
   | some i =>
     cases h2:flowIx d.flows i p.frm with
     | none=>rw[dIn_no2 h1 h2] at h;cases h
     | some k =>
       obtain⟨hk,he⟩:=dIn_yes h1 h2
       rw[he] at h
       obtain⟨h3,h4,_⟩:=inK_P hd hk hp.pk h
       exact⟨h3,fun hin=>by rw[h4,not_in_out hi.1] at hin;cases hin⟩
  ·cases h
theorem carry_ok {w:World} {p:Pk} (h:WI w) (hp:NetP w.convs p):WI (carry w p).1∧∀q,(carry w p).2=some q→NetP (carry w p).1.convs q:=by
 unfold carry
 split
 ·refine⟨⟨h.cv,h.cl,(dPass_ok h.door hp.pk).1,fun f hf=>?_,h.nl,h.net⟩,fun q hq=>dPass_P h.door hp hq⟩
  simp only at hf
  unfold dPass at hf
  split at hf
  ·rename_i ho
   simp only[Pk.outward,Bool.and_eq_true] at ho
   rcases dOut_flows f hf with⟨h1,h2⟩|⟨g,hg,h1,h2⟩
   ·obtain⟨c,hc,h3,h4⟩:=hp.c ho.1
    exact⟨c,hc,by rw[h1,h3],by rw[h2,h4]⟩
   ·obtain⟨c,hc,h3,h4⟩:=h.fl g hg
    exact⟨c,hc,by rw[h1,h3],by rw[h2,h4]⟩
  ·split at hf
   ·obtain⟨g,hg,h1,h2⟩:=dIn_flows f hf
    obtain⟨c,hc,h3,h4⟩:=h.fl g hg
    exact⟨c,hc,by rw[h1,h3],by rw[h2,h4]⟩
   ·exact h.fl f hf
 ·split
  ·exact⟨h,fun q hq=>by cases hq⟩
  ·rename_i i b hb
   obtain⟨c,hc,hbe⟩:=hostIx_at hb
   simp only[hc]
   have hcv:=h.cv c (List.mem_of_getElem? hc)
   obtain⟨s1,s2,_,_⟩:=hear_same c b p
   refine⟨h.setC hc s1 s2 (hear_ok hcv hp.pk),fun q hq=>?_⟩
   obtain⟨h1,h2,h3,h4,h5⟩:=hear_ans hcv hp.pk hq
   refine NetP.set hc s1 s2 ⟨h1,fun hin=>?_⟩
   have hcc:=convOk_iff.1 hcv
   cases b with
   | true=>exact⟨c,List.mem_of_getElem? hc,by rw[h3];exact h5.2,by rw[h4];exact h5.1⟩
   | false =>
     rw[h3] at hin
     simp only[cond_false] at h5
     rw[h5.1,not_in_out hcc.1.2.1] at hin
     cases hin
theorem send_ok {w:World} {o:Option Pk} (h:WI w) (hp:∀p,o=some p→NetP w.convs p):WI (send w o):=by
 unfold send
 cases o with
 | none=>exact h
 | some p =>
   simp only
   split
   ·refine⟨h.cv,h.cl,h.door,h.fl,by simp;omega,fun q hq=>?_⟩
    rcases List.mem_append.1 hq with hq|hq
    ·exact h.net q hq
    ·simp only[List.mem_singleton] at hq;subst hq;exact hp _ rfl
   ·exact h
theorem say_P {c:Conv} {up:Bool} {port n m:Int} {p:Pk} (hc:convOk c=true) (h:say c up port n m=some p) :
 PkP p∧p.kind=1∧(bif up then p.frm=c.ins∧p.to=c.out else p.frm=c.out∧p.to=⟨9,port⟩∧(10≤port∧port≤17))∧p.at_=n∧p.text=((bif up then c.up else c.down).drop n.toNat).take (min m ((bif up then c.up else c.down).length - n)).toNat∧(0≤n∧n<(bif up then c.up else c.down).length)∧1≤m:=by
 obtain⟨⟨_,_,h3,h4,_⟩,_⟩:=convOk_iff.1 hc
 unfold say at h
 cases up<;>simp only[Bool.false_eq_true,if_false,if_true,Bool.false_or,Bool.true_or,Bool.and_true] at h<;>split at h
 ·rename_i hg
  cases h
  simp only[Bool.and_eq_true,within_iff,decide_eq_true_eq,E.door_iff] at hg
  obtain⟨a,b,_⟩:=saying_len h4
  have b':=b
  simp only[txOk,Bool.and_eq_true,decide_eq_true_eq] at b'
  have hl:((c.down.drop n.toNat).take (min m (c.down.length - n)).toNat).length≤40:=by simp only[List.length_take,List.length_drop];omega
  refine⟨⟨by simp only;omega,hl,.inr ?_,(fun h=>by cases h),.inl rfl⟩,rfl,⟨rfl,rfl,hg.2.2⟩,rfl,rfl,by simp only[cond_false];omega,hg.1.2⟩
  simp only[txOk,Bool.and_eq_true,decide_eq_true_eq]
  exact⟨all_take (all_drop b'.1),hl⟩
 ·cases h
 ·rename_i hg
  cases h
  simp only[Bool.and_eq_true,within_iff,decide_eq_true_eq] at hg
  obtain⟨a,b,_⟩:=saying_len h3
  have b':=b
  simp only[txOk,Bool.and_eq_true,decide_eq_true_eq] at b'
  have hl:((c.up.drop n.toNat).take (min m (c.up.length - n)).toNat).length≤40:=by simp only[List.length_take,List.length_drop];omega
  refine⟨⟨by simp only;omega,hl,.inr ?_,(fun h=>by cases h),.inl rfl⟩,rfl,⟨rfl,rfl⟩,rfl,rfl,by simp only[cond_true];omega,hg.2⟩
  simp only[txOk,Bool.and_eq_true,decide_eq_true_eq]
  exact⟨all_take (all_drop b'.1),hl⟩
 ·cases h
theorem say_net {cs:List Conv} {c:Conv} {up:Bool} {port n m:Int} {p:Pk} (hm:c∈cs) (hc:convOk c=true) (h:say c up port n m=some p):NetP cs p:=by
 obtain⟨h1,_,h2,_⟩:=say_P hc h
 refine⟨h1,fun hin=>?_⟩
 cases up with
 | true=>exact⟨c,hm,h2.1,h2.2⟩
 | false=>simp only[cond_false] at h2;rw[h2.1,not_in_out (convOk_iff.1 hc).1.2.1] at hin;cases hin
theorem sayW_net {w:World} (h:WI w) {up:Bool} {a b c:Int} {p:Pk} (hs:sayW w up a b c=some p):NetP w.convs p:=by
 unfold sayW at hs
 split at hs
 ·split at hs
  ·rename_i cv hcv
   have hm:=List.mem_of_getElem? hcv
   exact say_net hm (h.cv _ hm) hs
  ·cases hs
 ·cases hs
theorem stranger_net {w:World} {p:Pk} (h:stranger w p=true):NetP w.convs p:=by
 simp only[stranger,Bool.and_eq_true,Pk.inward] at h
 exact⟨pkOk_P h.1.1,fun hin=>by rw[not_in_out h.1.2.1] at hin;cases hin⟩
theorem WI.erase {w:World} (h:WI w) (k:Nat):WI { w with nets:=w.nets.eraseIdx k } :=
 ⟨h.cv,h.cl,h.door,h.fl,by have:=List.length_eraseIdx_le w.nets k;have:=h.nl;simp only;omega,fun p hp=>h.net p (List.mem_of_mem_eraseIdx hp)⟩
theorem together_iff {cs:List Conv}:together cs=true↔cs.length≤2∧∀i,i<cs.length→okConv cs i=true:=by
 simp[together,and_comm]
theorem okConv_i {cs:List Conv} {i:Nat} (h:i<cs.length):okConv cs i=(convOk cs[i]&&!(cs.take i).any fun o=>decide (o.ins=cs[i].ins)||decide (o.out=cs[i].out)):=by
 simp[okConv,h]
theorem together_ok {cs:List Conv} (h:together cs=true):∀c∈cs,convOk c=true:=fun c hc=>by
 obtain⟨i,hi⟩:=List.mem_iff_getElem?.1 hc
 obtain⟨hl,rfl⟩:=List.getElem?_eq_some_iff.1 hi
 have:=(together_iff.1 h).2 i hl
 rw[okConv_i hl,Bool.and_eq_true] at this
 exact this.1
theorem worldNew_ok {cs:List Conv} {w:World} (h:worldNew cs=some w):WI w:=by
 unfold worldNew at h
 split at h
 ·split at h
  ·rename_i ht
   cases h
   exact⟨together_ok ht,(together_iff.1 ht).1,(by decide:doorOk .zero=true),(fun f hf=>by cases hf),by simp,(fun p hp=>by cases hp)⟩
  ·cases h
 ·cases h
end Go.Proofs.YtiegngjdjheebaaGreatDoor.M
