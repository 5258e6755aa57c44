/- Part 4 of the proof: the walk over values, the plain model, contracts of the functions of the program. -/
import Derived.Test.YtpnekhiejecipaaGreatDoorQ03
import Derived.Test.YtpnekhiejecipaaGreatDoorRows
import Derived.WalkKit
import Derived.ProofKit
import Derived.OpenShut
import Derived.ShutString
import Derived.ChangeOld
import Derived.Below
import Derived.Carry
import Derived.LaidMore
import Derived.LaidHandle
import Derived.Stop.LaidErr
import Derived.Stop.Joined
import Derived.Deep.DeepHandedRow
import Derived.Deep.DeepWitnessRowRef
import Derived.Shelf.Vars
import Derived.Deep.Slices
import Derived.ChangeMaps5
import Derived.Test.YtpnekhiejecipaaGreatDoorQ02
set_option linter.all false
namespace Go.Proofs.YtpnekhiejecipaaGreatDoor.W
open Go Go.RowKit Go.Proofs Go.Proofs.YtpnekhiejecipaaGreatDoor.VL Go.Proofs.YtpnekhiejecipaaGreatDoor.M Go.ChangeShapes Go.WideShapes
theorem qa6:laidOutB Tryz.prog=true:=by kernel_rfl
theorem mapF:mapsRowed Tryz.prog=true:=by kernel_rfl
theorem mayF:Tryz.prog.mayEnter=true:=by kernel_rfl
theorem stoF:Tryz.prog.stopsHeard=true:=by kernel_rfl
theorem lifF:(Rows.fnExactWorldPlayRow.lifted==Tryz.prog.liftsFinal)=true:=by kernel_rfl
theorem pkeF:(Rows.fnExactWorldPlayRow.plainKeys==Tryz.prog.plainKeys)=true:=by kernel_rfl
theorem makF:(Tryz.prog.make==some Rows.fnExactWorldPlayRow.make)=true:=by kernel_rfl
theorem own:ownKnob Tryz.prog.godebug=none:=by kernel_rfl
def noO:Nat→Prop:=λ_=>False
def noH:Nat→Hs:=λ_=>.fresh
def noρ:Nat→VL.Loc:=λ_=>default
theorem noB (W:World):owns ⟨W,blocks noρ (chH []),λ_=>False,0,noρ⟩ noρ (chH [])=noO:=by
 funext b
 apply propext
 constructor
 ·rintro(h|⟨c,h,_⟩)
  ·exact h
  ·simp[chH,Hs.live] at h
 ·intro h;exact h.elim
theorem FnR.calls {P:Program} {G:Glob} {f:FuncId} {vs:List V} {b:Bool} (F:FnR P G f vs (.bool b)) {W:World} {us:List Value} (hg:G.g W) (ha:DenArgs W noO noρ noH vs us) :
 Calls P f us.toArray W λe W'=>e=.returned (.bool b)∧Below W.heap.size W W':=by
 have hc:chH []=noH:=by funext x;simp[chH,noH]
 have nl:∀c,(noH c).live=true→False:=λc h=>by cases h
 have hb:∀b,¬blocks noρ (chH []) b:=λb ⟨c,h,_⟩=>by rw[hc] at h;exact nl c h
 refine(F.run W noρ (λ_=>False) us hg (λb h=>h.elim) (λb h=>h.elim) (λb h=>(hb b h).elim) ⟨rfl,rfl,rfl,Nat.le_refl _,λ_ _ _=>rfl,λc=>(by rw[hc];trivial),λc h=>(by rw[hc] at h;exact(nl c h).elim),λc c' h=>(by rw[hc] at h;exact(nl c h).elim),λi hi=>absurd hi (Nat.not_lt_zero _)⟩ (by rw[noB,hc];exact ha)).mono λe W' hp=>?_
 obtain⟨u,res,out,ρ',rfl,⟨rfl,rfl⟩,r,hd⟩:=hp
 refine⟨by rw[q4m hd],r.os,r.tape,r.output,r.grow,λk hk=>r.keep k hk (hb k)⟩
theorem gES:Tryz.prog.globalNamed "strconv.ErrSyntax"=some 2:=by kernel_rfl
theorem gER:Tryz.prog.globalNamed "strconv.ErrRange"=some 3:=by kernel_rfl
theorem gESt:(Tryz.prog.globals[2]?).map (·.type)=some 93:=by kernel_rfl
theorem gERt:(Tryz.prog.globals[3]?).map (·.type)=some 93:=by kernel_rfl
theorem qro (u:TypeId) (h:Tryz.prog.typeName? 3 u=some "*errors.errorString"):u=288 :=
 typeName_ptr_named (nm:= "errors.errorString") (by kernel_rfl) (by kernel_rfl) (by decide) u h
theorem gOk {l:List (String×DataW Unit)} {W:World} (hl:l=Rows.fnExactWorldPlayRow.laid) (hL:laidMetH Tryz.prog l W) (hs:W.ShapedOpen Tryz.prog):G.g W:=by
 subst hl
 rw[MakeChecks.laidMetH_plain _ _ _ (by kernel_rfl)] at hL
 obtain⟨a0,s0,hv0,-,-,-⟩:=laid_sentinel hL.tail.tail.tail gER gERt Tryz.underlying93 qro Tryz.underlying288 Tryz.underlying290 rfl rfl Tryz.underlying9 (by kernel_rfl) (by kernel_rfl)
 obtain⟨a1,s1,hv1,-,-,-⟩:=laid_sentinel hL.tail.tail.tail.tail gES gESt Tryz.underlying93 qro Tryz.underlying288 Tryz.underlying290 rfl rfl Tryz.underlying9 (by kernel_rfl) (by kernel_rfl)
 refine⟨cell_of_shapedOpen_int (t:=3) (zero:=#[.int .i64 0]) hs (of_decide_eq_true (by kernel_rfl)) (by kernel_rfl) rfl (by kernel_rfl) (by kernel_rfl) Tryz.underlying3, ?_, ?_⟩
 ·exact⟨_,by have h0:=World.var?_cell gES hv1 0;simpa using h0,.inr ⟨_,_,rfl⟩⟩
 ·exact⟨_,by have h0:=World.var?_cell gER hv0 0;simpa using h0,.inr ⟨_,_,rfl⟩⟩
theorem q78 {H:Type} {enc:TypeId×Value→H} {C:Checked} {os:Os} {f:FuncId} {fn:Func} {s:OpenSpec} {conds:List PathCond} {apart:Bool} {laid:List (String×DataW Unit)} (w0:World) (args:Array Value) (hos:w0.os=os)
 (hsh:(w0.forCall (λ_ _=>0) ⟨#[],args,[]⟩).Shaped C.prog) (hok:Input.okWideB C.prog (w0.forCall (λ_ _=>0) ⟨#[],args,[]⟩) f ⟨#[],args,[]⟩=true)
 (hrow:s.preRow enc C.prog fn conds apart laid (w0.forCall (λ_ _=>0) ⟨#[],args,[]⟩).memory args) :
 ∃(w:World) (tape:Tape) (i:Input),w.os=os∧(w.forCall tape i).Shaped C.prog∧i.vars=[]∧Input.okWide C.prog (w.forCall tape i) .any w.heap.size f i ∧
  s.preRow enc C.prog fn conds apart laid (w.forCall tape i).memory i.args∧({ modest:=false }:Assume).holds C.prog (lone (Frame.enter C.prog f i.args .normal) [] (w.forCall tape i)) :=
 ⟨w0,λ_ _=>0,⟨#[],args,[]⟩,hos,hsh,(Input.okWide_of_okWideB (base:=0) hok).1,(Input.okWide_of_okWideB hok).2,hrow,by
   simp only[Assume.holds]
   exact⟨by simp,by simp,by simp,by simp,by simp⟩⟩
def q98 (g:TypeId→Option (List Bool)) (P:Program):Nat→List Field→Option (List Bool)
 | _,[]=>some []
 | o,f::fs=>(g f.type).bind λk=>if f.offset=o∧P.cellsOf f.type=k.length then(q98 g P (o+k.length) fs).map (k++·) else none
def qcu (P:Program):Nat→TypeId→Option (List Bool)
 | 0,_=>none
 | n+1,t=>match P.underlying t with
   | some (.int .i64)=>some [false]
   | some .string=>some [true]
   | some (.struct fs)=>q98 (qcu P n) P 0 fs.toList
   | _=>none
def qk4:Bool→Value→Prop
 | false,v=>∃z,v=.int .i64 z
 | true,v=>∃s:ByteArray,v=.string s∧s.size≤maxLen
def Good (ks:List Bool) (cs:List Value):Prop:=∀(j:Nat) k,ks[j]?=some k→∃v,cs[j]?=some v∧qk4 k v
theorem q6o {P:Program} {g:TypeId→Option (List Bool)} {R:TypeId→List Value→Prop} (ih:∀t cs ks,R t cs→g t=some ks→Good ks cs) {cs:List Value}:∀(fs:List Field) (o:Nat) (ks:List Bool),
 (∀f∈fs,R f.type ((cs.drop f.offset).take (P.cellsOf f.type)))→q98 g P o fs=some ks→∀(j:Nat) k,ks[j]?=some k→∃v,cs[o+j]?=some v∧qk4 k v
 | [],o,ks,h,he,j,k,hj=>by simp only[q98,zS] at he;subst he;simp at hj
 | f::fs,o,ks,h,he,j,k,hj=>by
   simp only[q98,zB] at he
   obtain⟨k0,hk0,he⟩:=he
   split at he
   ·rename_i hc
    obtain⟨hc1,hc2⟩:=hc
    obtain⟨k1,hk1,rfl⟩:=Option.map_eq_some_iff.1 he
    by_cases hlt:j<k0.length
    ·rw[List.getElem?_append_left hlt] at hj
     obtain⟨v,hv,hk⟩:=ih _ _ _ (h f (by simp)) hk0 j k hj
     rw[hc1,hc2,List.getElem?_take,if_pos hlt,List.getElem?_drop] at hv
     exact⟨v,hv,hk⟩
    ·rw[List.getElem?_append_right (by omega)] at hj
     obtain⟨v,hv,hk⟩:=q6o ih fs _ k1 (λf hf=>h f (by simp[hf])) hk1 _ k hj
     rw[show o+k0.length+(j - k0.length)=o+j by omega] at hv
     exact⟨v,hv,hk⟩
   ·cases he
section
variable {H:Type} {enc:TypeId×Value→H} {P:Program} {w:World} {base:Nat} {sp:Nat→Bool} {held:Bool}
theorem q9g:∀(n fuel:Nat) (t:TypeId) (cs:List Value) x (ks:List Bool),DataW.trod enc P w base sp held fuel t cs=some x→qcu P n t=some ks→Good ks cs
 | 0,_,_,_,_,_,_,h=>by simp[qcu] at h
 | n+1,fuel,t,cs,x,ks,hx,h=>by
   unfold qcu at h
   split at h
   ·rename_i ht
    cases h
    obtain⟨z,rfl,_⟩:=DataW.trod_int ht hx
    intro j k hj
    match j with
    | 0=>cases hj;exact⟨_,rfl,z,rfl⟩
    | j+1=>simp at hj
   ·rename_i ht
    cases h
    obtain⟨s,rfl,_,hs⟩:=DataW.trod_string ht hx
    intro j k hj
    match j with
    | 0=>cases hj;exact⟨_,rfl,s,rfl,hs⟩
    | j+1=>simp at hj
   ·rename_i fs ht
    obtain⟨xs,m,_,rfl,_,hxl,hf⟩:=DataW.trod_struct ht hx
    intro j k hj
    have:=q6o (P:=P) (g:=qcu P n) (R:=λt cs=>∃x,DataW.trod enc P w base sp held m t cs=some x) (λt cs ks ⟨x,hx⟩ hk=>q9g n m t cs x ks hx hk) (cs:=cs) fs.toList 0 ks (λf hf'=>by
     obtain⟨i,hi⟩:=List.getElem?_of_mem hf'
     have hi':fs[i]?=some f:=by simpa using hi
     have g:=hf i f hi'
     have hlt:i<fs.size:=(Array.getElem?_eq_some_iff.1 hi').1
     rw[zE (by omega)] at g
     exact⟨_,g⟩) h j k hj
    simpa using this
   ·cases h
theorem q9m {t e:TypeId} {n sz:Nat} {ks:List Bool} {α:Type} [Inhabited α] {Q:α→Prop} (row:α→List V) (ht:P.underlying t=some (.slice e)) (hk:qcu P n e=some ks) (hsz:P.cellsOf e=sz) (hz:0<sz)
 (hrow:∀a,(row a).length=sz) (mk:∀cs,Good ks cs→∃a,Q a∧∀(j:Nat) v,(row a)[j]?=some v→∃u,cs[j]?=some u∧Imm w noO v u)
 {v:Value} {d:DataW H} {ps:List MemPlace} (h:DataW.Trod enc P w base sp held t v d ps) (hv:∃a l c,v=.slice a l c):∃l:List α,Den w noO noρ noH (.sl sz (l.map row)) v∧(l.length:Int)≤9223372036854775807∧∀a∈l,Q a:=by
 obtain⟨a0,len0,cap0,rfl⟩:=hv
 obtain⟨fuel,hf⟩:=h
 rcases Go.Deep.open_slice ht hf with⟨hcs,_⟩|⟨x,len,cap,m,n',D,Pl,hcs,_,hl,hm,hmm,_,hel⟩
 ·simp[Value.cells] at hcs
  obtain⟨rfl,rfl,rfl⟩:=hcs
  exact⟨[],Imm.esl sz none 0,by simp,λa ha=>by cases ha⟩
 ·simp[Value.cells] at hcs
  obtain⟨rfl,rfl,rfl⟩:=hcs
  have hle:len0≤m:=by rw[hmm];split<;>omega
  rw[hsz] at hel
  obtain⟨F,hF⟩:=Go.Deep.choose_lt (α:=α) (n:=len0) (p:=λi a=>Q a∧∀(j:Nat) v,(row a)[j]?=some v→∃u,w.cell? ((x.add (i*sz)).add j)=some u∧Imm w noO v u) (λi hi=>by
   obtain⟨cs',h1,h2⟩:=hel i (by omega)
   obtain⟨_,hlen,hc⟩:=World.cells?_some h1
   obtain⟨a,ha,hb⟩:=mk cs' (q9g n n' e cs' _ ks h2 hk)
   refine⟨a,ha,λj v hj=>?_⟩
   obtain⟨u,hu,hi⟩:=hb j v hj
   have hjl:j<sz:=by rw[←hrow a];exact(List.getElem?_eq_some_iff.1 hj).1
   exact⟨u,by rw[hc j hjl];exact hu,hi⟩)
  refine⟨(List.range len0).map F, ?_, ?_, ?_⟩
  ·cases len0 with
   | zero=>exact Imm.esl sz _ _
   | succ n0 =>
     have c0:=(hF 0 (by omega)).2 0
     obtain⟨v0,hv0⟩:∃v0,(row (F 0))[0]?=some v0:=⟨_,zE (by rw[hrow];exact hz)⟩
     obtain⟨u0,hu0,_⟩:=c0 v0 hv0
     have hsp:x.spot=none:=by
      have:=World.cell?_spot hu0
      simpa[Addr.add] using this
     obtain⟨b,o,sp⟩:=x
     simp only at hsp
     subst hsp
     have hlt:b<w.heap.size:=by
      have h3:=hu0
      simp only[Nat.zero_mul,Addr.add,if_true] at h3
      unfold World.cell? at h3
      split at h3
      ·rename_i hh;exact(Array.getElem?_eq_some_iff.1 hh).1
      ·cases h3
     have hat:∀(i j:Nat),((⟨b,o,none⟩:Addr).add (i*sz)).add j=⟨b,o+(i*sz+j),none⟩:=λi j=>by rw[Go.Deep.add_add];exact add_plain _ _ _
     have cell:∀(i:Nat) r (j:Nat) v,(((List.range (n0+1)).map F).map row)[i]?=some r→r[j]?=some v→∃u,w.cell? ⟨b,o+(i*sz+j),none⟩=some u∧Imm w noO v u:=λi r j v hr hv=>by
      have hi:i<n0+1:=by have:=(List.getElem?_eq_some_iff.1 hr).1;simpa using this
      simp[hi] at hr
      subst hr
      obtain⟨u,h1,h2⟩:=(hF i hi).2 j v hv
      rw[hat] at h1
      exact⟨u,h1,h2⟩
     have key:=Imm.sl (w:=w) (O:=noO) sz (((List.range (n0+1)).map F).map row) b o cap0 (λi j=>(w.cell? ⟨b,o+(i*sz+j),none⟩).getD undef) (λh=>h) hlt (by simp) (λr hr=>by
      obtain⟨y,_,rfl⟩:=List.mem_map.1 hr;exact hrow y) (by simp;omega)
      (λi r j v hr hv=>by obtain⟨u,h1,_⟩:=cell i r j v hr hv;rw[h1];rfl) (λi r j v hr hv=>by obtain⟨u,h1,h2⟩:=cell i r j v hr hv;rw[h1];exact h2)
     have e:(((List.range (n0+1)).map F).map row).length=n0+1:=by simp
     rw[e] at key
     exact key
  ·have hx:maxLen=9223372036854775807:=rfl
   rw[List.length_map,List.length_range]
   omega
  ·intro a ha
   obtain⟨i,hi,rfl⟩:=List.mem_map.1 ha
   exact(hF i (List.mem_range.1 hi)).1
end
theorem gi {ks:List Bool} {cs:List Value} (h:Good ks cs) (j:Nat) (hj:ks[j]?=some false):∃z,cs[j]?=some (.int .i64 z):=by
 obtain⟨v,h1,z,rfl⟩:=h j false hj
 exact⟨z,h1⟩
theorem gs {ks:List Bool} {cs:List Value} (h:Good ks cs) (j:Nat) (hj:ks[j]?=some true):∃t:B,cs[j]?=some (.string (VL.mkStr t))∧(t.length:Int)≤9223372036854775807:=by
 obtain⟨v,h1,s,rfl,hs⟩:=h j true hj
 refine⟨s.data.toList,by rw[h1,VL.mkStr_data], ?_⟩
 have hx:maxLen=9223372036854775807:=rfl
 have:s.data.toList.length=s.size:=rfl
 omega
def qp1 (c:Conv):Prop:=(c.up.length:Int)≤9223372036854775807∧(c.down.length:Int)≤9223372036854775807∧(c.upGot.length:Int)≤9223372036854775807∧(c.downGot.length:Int)≤9223372036854775807
def qoz (e:Ev):Prop:=(e.pkt.text.length:Int)≤9223372036854775807
theorem qlg {w:Go.World} (cs:List Value) (h:Good [false,false,false,false,true,true,false,false,true,true] cs):∃a:Conv,qp1 a∧∀(j:Nat) v,(Conv.row a)[j]?=some v→∃u,cs[j]?=some u∧Imm w noO v u:=by
 obtain⟨z0,h0⟩:=gi h 0 rfl
 obtain⟨z1,h1⟩:=gi h 1 rfl
 obtain⟨z2,h2⟩:=gi h 2 rfl
 obtain⟨z3,h3⟩:=gi h 3 rfl
 obtain⟨s4,h4,l4⟩:=gs h 4 rfl
 obtain⟨s5,h5,l5⟩:=gs h 5 rfl
 obtain⟨z6,h6⟩:=gi h 6 rfl
 obtain⟨z7,h7⟩:=gi h 7 rfl
 obtain⟨s8,h8,l8⟩:=gs h 8 rfl
 obtain⟨s9,h9,l9⟩:=gs h 9 rfl
 refine⟨⟨⟨z0,z1⟩,⟨z2,z3⟩,s4,s5,z6,z7,s8,s9⟩,⟨l4,l5,l8,l9⟩,λj v hj=>?_⟩
 match j,hj with
 | 0,hj=>cases hj;exact⟨_,h0,Imm.int _ _⟩
 | 1,hj=>cases hj;exact⟨_,h1,Imm.int _ _⟩
 | 2,hj=>cases hj;exact⟨_,h2,Imm.int _ _⟩
 | 3,hj=>cases hj;exact⟨_,h3,Imm.int _ _⟩
 | 4,hj=>cases hj;exact⟨_,h4,Imm.str _⟩
 | 5,hj=>cases hj;exact⟨_,h5,Imm.str _⟩
 | 6,hj=>cases hj;exact⟨_,h6,Imm.int _ _⟩
 | 7,hj=>cases hj;exact⟨_,h7,Imm.int _ _⟩
 | 8,hj=>cases hj;exact⟨_,h8,Imm.str _⟩
 | 9,hj=>cases hj;exact⟨_,h9,Imm.str _⟩
 | j+10,hj=>exact absurd (List.getElem?_eq_some_iff.1 hj).1 (by simp only[Conv.row,zC,zN];omega)
theorem mk_ev {w:Go.World} (cs:List Value) (h:Good [false,false,false,false,false,false,false,false,false,false,true] cs):∃a:Ev,qoz a∧∀(j:Nat) v,(Ev.row a)[j]?=some v→∃u,cs[j]?=some u∧Imm w noO v u:=by
 obtain⟨z0,h0⟩:=gi h 0 rfl
 obtain⟨z1,h1⟩:=gi h 1 rfl
 obtain⟨z2,h2⟩:=gi h 2 rfl
 obtain⟨z3,h3⟩:=gi h 3 rfl
 obtain⟨z4,h4⟩:=gi h 4 rfl
 obtain⟨z5,h5⟩:=gi h 5 rfl
 obtain⟨z6,h6⟩:=gi h 6 rfl
 obtain⟨z7,h7⟩:=gi h 7 rfl
 obtain⟨z8,h8⟩:=gi h 8 rfl
 obtain⟨z9,h9⟩:=gi h 9 rfl
 obtain⟨s,ha,l⟩:=gs h 10 rfl
 refine⟨⟨z0,z1,z2,z3,⟨z4,⟨z5,z6⟩,⟨z7,z8⟩,z9,s⟩⟩,l,λj v hj=>?_⟩
 match j,hj with
 | 0,hj=>cases hj;exact⟨_,h0,Imm.int _ _⟩
 | 1,hj=>cases hj;exact⟨_,h1,Imm.int _ _⟩
 | 2,hj=>cases hj;exact⟨_,h2,Imm.int _ _⟩
 | 3,hj=>cases hj;exact⟨_,h3,Imm.int _ _⟩
 | 4,hj=>cases hj;exact⟨_,h4,Imm.int _ _⟩
 | 5,hj=>cases hj;exact⟨_,h5,Imm.int _ _⟩
 | 6,hj=>cases hj;exact⟨_,h6,Imm.int _ _⟩
 | 7,hj=>cases hj;exact⟨_,h7,Imm.int _ _⟩
 | 8,hj=>cases hj;exact⟨_,h8,Imm.int _ _⟩
 | 9,hj=>cases hj;exact⟨_,h9,Imm.int _ _⟩
 | 10,hj=>cases hj;exact⟨_,ha,Imm.str _⟩
 | j+11,hj=>exact absurd (List.getElem?_eq_some_iff.1 hj).1 (by simp only[Ev.row,zC,zN];omega)
theorem qch {H:Type} {enc:TypeId×Value→H} {W:Go.World} {v:Value} {d:DataW H} {ps:List MemPlace} (h:DataW.Trod enc Tryz.prog W 0 (λ_=>true) true 22 v d ps) (hv:∃a l c,v=.slice a l c) :
 ∃l:List Conv,Den W noO noρ noH (.sl 10 (l.map Conv.row)) v∧(l.length:Int)≤9223372036854775807∧∀a∈l,qp1 a :=
 q9m (n:=8) (ks:=[false,false,false,false,true,true,false,false,true,true]) Conv.row Tryz.underlying22 (by kernel_rfl) (by kernel_rfl) (by decide) (λ_=>rfl) qlg h hv
theorem qar {H:Type} {enc:TypeId×Value→H} {W:Go.World} {v:Value} {d:DataW H} {ps:List MemPlace} (h:DataW.Trod enc Tryz.prog W 0 (λ_=>true) true 23 v d ps) (hv:∃a l c,v=.slice a l c) :
 ∃l:List Ev,Den W noO noρ noH (.sl 11 (l.map Ev.row)) v∧(l.length:Int)≤9223372036854775807∧∀a∈l,qoz a :=
 q9m (n:=8) (ks:=[false,false,false,false,false,false,false,false,false,false,true]) Ev.row Tryz.underlying23 (by kernel_rfl) (by kernel_rfl) (by decide) (λ_=>rfl) mk_ev h hv
end Go.Proofs.YtpnekhiejecipaaGreatDoor.W
namespace Go.Proofs.YtpnekhiejecipaaGreatDoor.W
open Go Go.RowKit Go.Proofs Go.Proofs.YtpnekhiejecipaaGreatDoor.VL Go.Proofs.YtpnekhiejecipaaGreatDoor.M
def ic73:IC:=sR [oP 1 (.box 65 (.t 0)),oP 2 (.mv cF)] (.seq (sR [fD 3 1 1,lA 4 2 3,oP 5 (.call 133 [.t 4]),oP 6 (.un .not (.t 5)),mV 7 6,gF 8 7 (.fad 3 (.t 1)),gF 9 7 (.ld 2 true (.t 8)),gF 10 7 (.call 133 [.t 9]),gF 11 7 (.un .not (.t 10)),pT 12 7 11,mV 13 12,gF 14 13 (.fad 5 (.t 1)),gF 15 13 (.ld 1 false (.t 14)),gF 16 13 (.call 65 [.t 15,.c i0,cI 99]),gF 17 13 (.un .not (.t 16)),pT 18 13 17] (cD 18 (sR [oP 2 (.mv cF)] .ret) .skip)) (sR [fD 19 0 1,lD 20 1 19,oP 21 (.bin .eql (.t 20) (cI 1)),mV 22 21,gT 23 22 (.fad 6 (.t 1)),gT 24 22 (.ld 1 false (.t 23)),gT 25 22 (.call 134 [.t 24]),pF 26 22 25,mV 27 26,gT 28 27 (.fad 6 (.t 1)),gT 29 27 (.ld 1 false (.t 28)),gT 30 27 (.bin .neq (.t 29) (.c s0)),pF 31 27 30,mV 32 31,gF 33 32 (.fad 0 (.t 1)),gF 34 32 (.ld 1 false (.t 33)),gF 35 32 (.bin .eql (.t 34) (cI 2)),gF 36 32 (.mv (.t 35)),gT 37 36 (.fad 6 (.t 1)),gT 38 36 (.ld 1 false (.t 37)),gT 39 36 (.bin .eql (.t 38) (.c s0)),gF 40 32 (.pick (.t 36) (.t 39) cF),pT 41 32 40,mV 2 41] .ret))
theorem dg73:Dg Tryz.prog 73 Tryz.f73 ic73 [(.t 2)]:=⟨Tryz.func73,by kernel_rfl,by kernel_rfl⟩
theorem isE (s:B):List.isEmpty s=decide (s=[]):=by cases s<;>simp
theorem c73 (p:Pk) (h:p.text.length≤2000000):FnR Tryz.prog G 73 [.agg [.int .i64 p.kind,.int .i64 p.frm.a,.int .i64 p.frm.p,.int .i64 p.to.a,.int .i64 p.to.p,.int .i64 p.at_,.str p.text]] (.bool (qhi p)):=by
 refine mF dg73 Tryz.ntmps73 ?_
 simp only[ic73,go_sem]
 with_reducible repeat' (first|refine br ?_ ?_<;>intro h e<;>(try simp only[e,go_sem])<;>clear e|rw[q01 (by omega)]|refine sd ?_<;>try simp only[go_sem]|(first|refine cr (c133 ..) ?_|refine cr (c65 ..) ?_|refine cr (qpa ..) ?_)<;>try simp only[go_sem]|fail)
 all_goals simp_all[qhi,isE]
def qum:IC:=sR [oP 1 (.box 65 (.t 0)),oP 2 (.mv cF)] (.seq (sR [fD 3 1 1,lA 4 2 3,oP 5 (.call 142 [.t 4]),oP 6 (.un .not (.t 5)),mV 7 6,gF 8 7 (.fad 3 (.t 1)),gF 9 7 (.ld 2 true (.t 8)),gF 10 7 (.call 142 [.t 9]),gF 11 7 (.un .not (.t 10)),pT 12 7 11,mV 13 12,gF 14 13 (.fad 5 (.t 1)),gF 15 13 (.ld 1 false (.t 14)),gF 16 13 (.call 114 [.t 15,.c i0,cI 99]),gF 17 13 (.un .not (.t 16)),pT 18 13 17] (cD 18 (sR [oP 2 (.mv cF)] .ret) .skip)) (.seq (sR [fD 19 0 1,lD 20 1 19] (.block 0 (sR [oP 22 (.bin .eql (.t 20) (cI 1)),mV 21 22] (cD 21 (sR [fD 23 6 1,lD 24 1 23,oP 25 (.call 161 [.t 24]),mV 26 25,gT 27 26 (.fad 6 (.t 1)),gT 28 26 (.ld 1 false (.t 27)),gT 29 26 (.bin .neq (.t 28) (.c s0)),pF 30 26 29,mV 2 30] .ret) (sR [oP 32 (.bin .eql (.t 20) (cI 2)),mV 31 32] (cD 31 (sR [fD 33 6 1,lD 34 1 33,oP 35 (.bin .eql (.t 34) (.c s0)),mV 2 35] .ret) .skip)))))) (sR [oP 2 (.mv cF)] .ret)))
theorem dg118:Dg Tryz.prog 118 Tryz.f118 qum [(.t 2)]:=⟨Tryz.func118,by kernel_rfl,by kernel_rfl⟩
theorem c118 (p:Pk) (h:p.text.length≤2000000):FnR Tryz.prog G 118 [.agg [.int .i64 p.kind,.int .i64 p.frm.a,.int .i64 p.frm.p,.int .i64 p.to.a,.int .i64 p.to.p,.int .i64 p.at_,.str p.text]] (.bool (qhi p)):=by
 refine mF dg118 Tryz.ntmps118 ?_
 simp only[qum,go_sem]
 with_reducible repeat' (first|refine br ?_ ?_<;>intro h e<;>(try simp only[e,go_sem])<;>clear e|rw[q01 (by omega)]|refine sd ?_<;>try simp only[go_sem]|(first|refine cr (c142 ..) ?_|refine cr (qda ..) ?_|refine cr (qru ..) ?_)<;>try simp only[go_sem]|fail)
 all_goals simp_all[qhi,isE]
def qr9:IC:=sR [oP 1 (.box 65 (.t 0)),oP 2 (.mv cF)] (sR [fD 3 1 1,lA 4 2 3,oP 5 (.call 120 [.t 4]),mV 6 5,gT 7 6 (.fad 3 (.t 1)),gT 8 6 (.ld 2 true (.t 7)),gT 9 6 (.call 121 [.t 8]),pF 10 6 9,mV 2 10] .ret)
theorem dg169:Dg Tryz.prog 169 Tryz.f169 qr9 [(.t 2)]:=⟨Tryz.func169,by kernel_rfl,by kernel_rfl⟩
theorem c169 (p:Pk):FnR Tryz.prog G 169 [.agg [.int .i64 p.kind,.int .i64 p.frm.a,.int .i64 p.frm.p,.int .i64 p.to.a,.int .i64 p.to.p,.int .i64 p.at_,.str p.text]] (.bool p.outward):=by
 refine mF dg169 Tryz.ntmps169 ?_
 simp only[qr9,go_sem]
 with_reducible repeat' (first|refine br ?_ ?_<;>intro h e<;>(try simp only[e,go_sem])<;>clear e|rw[q01 (by omega)]|refine sd ?_<;>try simp only[go_sem]|(first|refine cr (qwj ..) ?_|refine cr (c121 ..) ?_)<;>try simp only[go_sem]|fail)
 all_goals simp_all[Pk.outward]
def ic74:IC:=sR [oP 1 (.box 65 (.t 0)),oP 2 (.mv cF)] (sR [fD 3 1 1,lA 4 2 3,oP 5 (.call 121 [.t 4]),mV 6 5,gT 7 6 (.fad 3 (.t 1)),gT 8 6 (.ld 2 true (.t 7)),gT 9 6 (.call 125 [.t 8]),pF 10 6 9,mV 2 10] .ret)
theorem dg74:Dg Tryz.prog 74 Tryz.f74 ic74 [(.t 2)]:=⟨Tryz.func74,by kernel_rfl,by kernel_rfl⟩
theorem c74 (p:Pk):FnR Tryz.prog G 74 [.agg [.int .i64 p.kind,.int .i64 p.frm.a,.int .i64 p.frm.p,.int .i64 p.to.a,.int .i64 p.to.p,.int .i64 p.at_,.str p.text]] (.bool p.inward):=by
 refine mF dg74 Tryz.ntmps74 ?_
 simp only[ic74,go_sem]
 with_reducible repeat' (first|refine br ?_ ?_<;>intro h e<;>(try simp only[e,go_sem])<;>clear e|rw[q01 (by omega)]|refine sd ?_<;>try simp only[go_sem]|(first|refine cr (c121 ..) ?_|refine cr (qg8 ..) ?_)<;>try simp only[go_sem]|fail)
 all_goals simp_all[Pk.inward]
def qun:IC:=sR [oP 4 (.box 63 (.t 1)),oP 5 (.box 63 (.t 2)),oP 6 (.mv (.c i0))] (.seq (sR [oP 7 (.mv (.c i0))] (.block 0 (.loop (.seq (sR [mV 8 7,mV 9 0,oP 10 (.len (.t 9)),bN 11 .lss 8 10] (cD 11 .skip (.exit 0))) (.seq (.block 1 (.seq (.drw [0,0,3,7,15,0,63,127,255,255,1023,2047,4095,255,16383,32767] [(0,mV 14 0),(1,mV 15 7),(2,oP 16 (.iad 8 (.t 14) (.t 15))),(3,fD 17 0 16),(4,lA 18 2 17),(5,lA 19 2 4),(6,oP 20 (.eqs false [.i,.i] (.t 18) (.t 19))),(7,mV 21 20),(8,gT 22 21 (.mv (.t 0))),(9,gT 23 21 (.mv (.t 7))),(10,gT 24 21 (.iad 8 (.t 22) (.t 23))),(11,gT 25 21 (.fad 2 (.t 24))),(12,gT 26 21 (.ld 2 true (.t 25))),(13,gT 27 21 (.ld 2 true (.t 5))),(14,gT 28 21 (.eqs false [.i,.i] (.t 26) (.t 27))),(15,pF 29 21 28)]) (cD 29 (sR [mV 30 7,mV 6 30] .ret) .skip))) (.reg [mV 12 7,oP 13 (.bin .add (.t 12) (cI 1)),mV 7 13])))))) (sR [oP 6 (.mv (.c (.int .i64 (-1))))] .ret))
theorem dg230:Dg Tryz.prog 230 Tryz.f230 qun [(.t 6)]:=⟨Tryz.func230,by kernel_rfl,by kernel_rfl⟩
theorem c230 (fs:List Flw) (i o:E) (hl:fs.length≤2000000):FnR Tryz.prog G 230 [.sl 8 (fs.map Flw.row),.agg [.int .i64 i.a,.int .i64 i.p],.agg [.int .i64 o.a,.int .i64 o.p]] (.int .i64 (ixI (q0w fs i o))):=by
 refine mF dg230 Tryz.ntmps230 ?_
 simp only[qun,go_sem]
 refine q0h (λk:Nat=>⟨q0e [(0,.sl 8 (fs.map Flw.row)),(4,.pv 1004 0),(5,.pv 1005 0),(7,.int .i64 (k:Int))],q09 [(1004,.var 63 [.int .i64 i.a,.int .i64 i.p]),(1005,.var 63 [.int .i64 o.a,.int .i64 o.p])]⟩) (λk=>fs.length - k)
  (λk=>k≤fs.length∧q0w fs i o=(q0w (fs.drop k) i o).map (·+k)) 0 (leQ []) ⟨Nat.zero_le _,by simp⟩ ?_
 intro k ⟨hk,ha⟩
 simp only[go_sem]
 by_cases h:(k:Int)<fs.length
 ·have hil:k<fs.length:=by omega
  have hg:fs.getD k default=fs[k]:=by simp[List.getD,hil]
  rw[List.drop_eq_getElem_cons hil,q3g] at ha
  simp only[eq_true h,go_sem]
  with_reducible repeat' (first|refine br ?_ ?_<;>intro h e<;>(try simp only[e,go_sem,hg,E.ext_iff'])<;>clear e|rw[q01 (by omega)]|refine sd ?_<;>try simp only[go_sem,hg,E.ext_iff']|fail)
  ·rw[if_pos ⟨by assumption,h⟩] at ha
   rw[ha];simp[ixI]
  ·rw[if_neg (λhc=>h hc.2)] at ha
   refine⟨k+1,by omega,⟨by omega,by rw[ha];cases q0w (fs.drop (k+1)) i o<;>simp;omega⟩,(leQ [])⟩
  ·rw[if_neg (λhc=>h hc.1)] at ha
   refine⟨k+1,by omega,⟨by omega,by rw[ha];cases q0w (fs.drop (k+1)) i o<;>simp;omega⟩,(leQ [])⟩
 ·simp only[eq_false h,go_sem]
  have:k=fs.length:=by omega
  subst this
  rw[ha,List.drop_length];rfl
def qrs:IC:=sR [oP 3 (.box 169 (.t 0)),oP 4 (.mv cF)] (sR [fD 5 0 3,lA 6 2 5,lA 7 2 1,oP 8 (.eqs false [.i,.i] (.t 6) (.t 7)),mV 9 8,gT 10 9 (.fad 2 (.t 3)),gT 11 9 (.ld 2 true (.t 10)),gT 12 9 (.ld 2 true (.t 2)),gT 13 9 (.eqs false [.i,.i] (.t 11) (.t 12)),pF 14 9 13,mV 4 14] .ret)
theorem dg245:Dg Tryz.prog 245 Tryz.f245 qrs [(.t 4)]:=⟨Tryz.func245,by kernel_rfl,by kernel_rfl⟩
theorem c245 (f:Flw) (i o:E):FnR Tryz.prog G 245 [.agg [.int .i64 f.ins.a,.int .i64 f.ins.p,.int .i64 f.out.a,.int .i64 f.out.p,.str f.up.inn,.sl 2 (f.up.parts.map Part.row),.str f.down.inn,.sl 2 (f.down.parts.map Part.row)],.iptr [.int .i64 i.a,.int .i64 i.p] 0,.iptr [.int .i64 o.a,.int .i64 o.p] 0] (.bool (decide (f.ins=i)&&decide (f.out=o))):=by
 refine mF dg245 Tryz.ntmps245 ?_
 simp only[qrs,go_sem,E.ext_iff']
 with_reducible repeat' (first|refine br ?_ ?_<;>intro h e<;>(try simp only[e,go_sem,E.ext_iff'])<;>clear e|rw[q01 (by omega)]|refine sd ?_<;>try simp only[go_sem,E.ext_iff']|fail)
 all_goals simp_all
def qvj:IC:=sR [oP 4 (.mv (.c i0))] (.seq (sR [mV 6 0,oP 7 (.len (.t 6)),oP 8 (.mv (.c i0))] (.block 0 (.loop (sR [bN 9 .lss 8 7] (.seq (cD 9 .skip (.exit 0)) (.seq (.block 1 (sR [mV 10 8,mV 5 10] (sR [mV 11 1,mV 12 0,mV 13 5,oP 14 (.iad 8 (.t 12) (.t 13)),lA 15 8 14,oP 16 (.cal (.t 11) [.t 15])] (cD 16 (sR [mV 17 5,mV 4 17] .ret) .skip)))) (.reg [oP 18 (.bin .add (.t 8) (cI 1)),mV 8 18]))))))) (sR [oP 4 (.mv (.c (.int .i64 (-1))))] .ret))
theorem dg244:Dg Tryz.prog 244 Tryz.f244 qvj [(.t 4)]:=⟨Tryz.func244,by kernel_rfl,by kernel_rfl⟩
theorem c244 (fs:List Flw) (i o:E) (hl:fs.length≤2000000):FnR Tryz.prog G 244 [.sl 8 (fs.map Flw.row),.fn 245 [.iptr [.int .i64 i.a,.int .i64 i.p] 0,.iptr [.int .i64 o.a,.int .i64 o.p] 0]] (.int .i64 (ixI (q0w fs i o))):=by
 refine mF dg244 Tryz.ntmps244 ?_
 simp only[qvj,go_sem]
 refine q0h (λk:Nat=>⟨q0e [(0,.sl 8 (fs.map Flw.row)),(1,.fn 245 [.iptr [.int .i64 i.a,.int .i64 i.p] 0,.iptr [.int .i64 o.a,.int .i64 o.p] 0]),(7,.int .i64 fs.length),(8,.int .i64 (k:Int))],q09 []⟩) (λk=>fs.length - k)
  (λk=>k≤fs.length∧q0w fs i o=(q0w (fs.drop k) i o).map (·+k)) 0 (leQ []) ⟨Nat.zero_le _,by simp⟩ ?_
 intro k ⟨hk,ha⟩
 simp only[go_sem]
 by_cases h:(k:Int)<fs.length
 ·have hil:k<fs.length:=by omega
  have hg:fs.getD k default=fs[k]:=by simp[List.getD,hil]
  rw[List.drop_eq_getElem_cons hil,q3g] at ha
  simp only[eq_true h,go_sem]
  with_reducible repeat' (first|refine br ?_ ?_<;>intro h e<;>(try simp only[e,go_sem,hg])<;>clear e|rw[q01 (by omega)]|refine sd ?_<;>try simp only[go_sem,hg]|fail)
  refine q0s (c245 fs[k] i o) rfl rfl ?_
  simp only[go_sem]
  by_cases hc:fs[k].ins=i∧fs[k].out=o
  ·rw[if_pos hc] at ha
   simp only[hc,go_sem]
   rw[ha];simp[ixI]
  ·rw[if_neg hc] at ha
   have:(decide (fs[k].ins=i)&&decide (fs[k].out=o))=false:=by
    rw[←Bool.decide_and];simpa using hc
   simp only[this,go_sem]
   with_reducible repeat' (first|refine br ?_ ?_<;>intro h e<;>(try simp only[e,go_sem])<;>clear e|rw[q01 (by omega)]|refine sd ?_<;>try simp only[go_sem]|fail)
   refine⟨k+1,by omega,⟨by omega,by rw[ha];cases q0w (fs.drop (k+1)) i o<;>simp;omega⟩,(leQ [])⟩
 ·simp only[eq_false h,go_sem]
  have:k=fs.length:=by omega
  subst this
  rw[ha,List.drop_length];rfl
theorem q4a (f a b:Nat):qk3 f [.pv a b]=some (.fn f [.pv a b]):=qlt rfl
theorem qnp (f a b c d:Nat):qk3 f [.pv a b,.pv c d]=some (.fn f [.pv a b,.pv c d]):=qlt rfl
def qt7:IC:=sR [oP 3 (.box 30 (.t 0)),oP 4 (.box 63 (.t 1)),oP 5 (.box 63 (.t 2)),oP 6 (.mv (.c i0))] (sR [fD 7 1 3,lD 8 1 7,oP 9 (.mkf 245 [.t 4,.t 5]),oP 10 (.call 244 [.t 8,.t 9]),mV 6 10] .ret)
theorem dg204:Dg Tryz.prog 204 Tryz.f204 qt7 [(.t 6)]:=⟨Tryz.func204,by kernel_rfl,by kernel_rfl⟩
theorem quj (rows:List (List V)) (fs:List Flw) (i o:E) (hl:fs.length≤2000000):FnR Tryz.prog G 204 [.agg [.sl 3 rows,.sl 8 (fs.map Flw.row)],.agg [.int .i64 i.a,.int .i64 i.p],.agg [.int .i64 o.a,.int .i64 o.p]] (.int .i64 (ixI (q0w fs i o))):=by
 refine mF dg204 Tryz.ntmps204 ?_
 simp only[qt7,go_sem,qnp]
 refine q0l (c244 fs i o hl) [1004,1005] true (by simp only[go_sem,List.mem_cons,true_or,or_true]) (by simp only[List.mem_cons,List.not_mem_nil,or_false];rintro c (rfl|rfl)<;>rfl) rfl (.inl rfl) ?_
 simp only[go_sem]
def qmo:IC:=sR [oP 1 (.box 169 (.t 0)),oP 2 (.alloc 169 [i0,i0,i0,i0,s0,.nils,s0,.nils])] (.seq (.drw [0,1,0,4,0,16,48,0,128,496,1023,2047] [(0,fD 3 0 1),(1,lA 4 2 3),(2,fD 5 2 1),(3,lA 6 2 5),(4,fD 7 4 1),(5,lA 8 2 7),(6,oP 9 (.call 175 [.t 8])),(7,fD 10 6 1),(8,lA 11 2 10),(9,oP 12 (.call 175 [.t 11])),(10,oP 13 (.build [i0,i0,i0,i0,s0,.nils,s0,.nils] [(0,(2,.t 4)),(2,(2,.t 6)),(4,(2,.t 9)),(6,(2,.t 12))])),(11,nP (.sto 8 (.t 2) (.t 13)))]) .ret)
theorem quw:Dg Tryz.prog 136 Tryz.f136 qmo [(.cell 2 8 true)]:=⟨Tryz.func136,by kernel_rfl,by kernel_rfl⟩
theorem c136 (f:Flw) (h:f.up.parts.length≤2000000∧f.down.parts.length≤2000000):FnR Tryz.prog G 136 [.agg [.int .i64 f.ins.a,.int .i64 f.ins.p,.int .i64 f.out.a,.int .i64 f.out.p,.str f.up.inn,.sl 2 (f.up.parts.map Part.row),.str f.down.inn,.sl 2 (f.down.parts.map Part.row)]]
 (.agg [.int .i64 f.ins.a,.int .i64 f.ins.p,.int .i64 f.out.a,.int .i64 f.out.p,.str f.up.inn,.sl 2 (f.up.parts.map Part.row),.str f.down.inn,.sl 2 (f.down.parts.map Part.row)]):=by
 refine mF quw Tryz.ntmps136 ?_
 simp only[qmo,go_sem]
 have c1:=c175 f.up.inn (f.up.parts.map Part.row) (by simp;omega)
 have c2:=c175 f.down.inn (f.down.parts.map Part.row) (by simp;omega)
 with_reducible repeat' (first|refine br ?_ ?_<;>intro h e<;>(try simp only[e,go_sem])<;>clear e|rw[q01 (by omega)]|refine sd ?_<;>try simp only[go_sem]|(first|refine cr (c1 ..) ?_|refine cr (c2 ..) ?_)<;>try simp only[go_sem]|fail)
def ic77:IC:=sR [oP 1 (.box 30 (.t 0)),oP 2 (.alloc 30 [.nils,.nils])] (.seq (.drw [0,1,3,0,8,24,56,127,0,511] [(0,fD 6 0 1),(1,lD 7 1 6),(2,oP 8 (.call 135 [.t 7])),(3,fD 9 1 1),(4,lD 10 1 9),(5,oP 11 (.len (.t 10))),(6,oP 12 (.mks 169 8 (.t 11))),(7,oP 13 (.build [.nils,.nils] [(0,(1,.t 8)),(1,(1,.t 12))])),(8,oP 3 (.alloc 30 [.nils,.nils])),(9,nP (.sto 2 (.t 3) (.t 13)))]) (.seq (sR [fD 14 1 1,lD 15 1 14,oP 16 (.len (.t 15)),oP 17 (.mv (.c i0))] (.block 0 (.loop (sR [bN 18 .lss 17 16] (.seq (cD 18 .skip (.exit 0)) (.seq (.block 1 (sR [oP 19 (.iad 8 (.t 15) (.t 17)),lA 20 8 19,oP 5 (.alloc 169 [i0,i0,i0,i0,s0,.nils,s0,.nils]),nP (.sto 8 (.t 5) (.t 20))] (.drw [0,1,0,4,12,31,63,127] [(0,fD 21 1 3),(1,lD 22 1 21),(2,lA 23 8 5),(3,oP 24 (.call 136 [.t 23])),(4,oP 25 (.bsl 169 8 [.t 24])),(5,oP 26 (.app 169 8 (.t 22) (.t 25))),(6,fD 27 1 3),(7,nP (.sto 1 (.t 27) (.t 26)))]))) (.reg [oP 28 (.bin .add (.t 17) (cI 1)),mV 17 28]))))))) (sR [lA 29 2 3,nP (.sto 2 (.t 2) (.t 29))] .ret)))
theorem dg77:Dg Tryz.prog 77 Tryz.f77 ic77 [(.cell 2 2 true)]:=⟨Tryz.func77,by kernel_rfl,by kernel_rfl⟩
structure PutOk (m:List Pair) (s:Strm) (n:Int) (t:B):Prop where
 m:mapOk m=true
 s:strmOk s=true
 n:0≤n∧n≤999
 t:t.length≤40
def qs5:IC:=sR [oP 5 (.box 167 (.t 0)),oP 10 (.mv (.c .nils)),oP 11 (.alloc 167 [s0,.nils]),oP 12 (.mv cF)] (sR [fD 24 0 5,lD 25 1 24,mV 26 2,mV 27 3,oP 28 (.call 172 [.t 25,.t 26,.t 27]),mV 23 28,eX 29 23 0,eX 30 23 1,mV 13 29,mV 14 30] (.seq (sR [mV 31 14,oP 32 (.un .not (.t 31))] (cD 32 (.seq (.drw [0,0,1,7,15] [(0,mV 33 1),(1,lA 34 2 5),(2,mV 10 33),(3,nP (.sto 2 (.t 11) (.t 34))),(4,oP 12 (.mv cF))]) .ret) .skip)) (.seq (.drw [0,1,0,4,12,31,63] [(0,mV 35 13),(1,oP 36 (.call 203 [.t 35])),(2,fD 37 1 5),(3,lD 38 1 37),(4,oP 39 (.len (.t 38))),(5,oP 40 (.slv 4 (.t 36) (some (.t 39)) none)),(6,mV 15 40)]) (sR [oP 16 (.mv (.c i0))] (.seq (sR [fD 41 1 5,lD 42 1 41,oP 43 (.len (.t 42)),oP 44 (.mv (.c i0))] (.block 0 (.loop (sR [bN 45 .lss 44 43] (.seq (cD 45 .skip (.exit 0)) (.seq (.block 1 (sR [oP 46 (.iad 2 (.t 42) (.t 44)),lA 47 2 46,oP 18 (.alloc 204 [i0,s0]),nP (.sto 2 (.t 18) (.t 47))] (.reg [mV 48 16,fD 49 0 18,lD 50 1 49,bN 51 .add 48 50,mV 16 51]))) (.reg [oP 52 (.bin .add (.t 44) (cI 1)),mV 44 52]))))))) (sR [mV 54 1,mV 55 15,mV 56 13,mV 57 16,oP 58 (.sls (.t 56) (some (.t 57)) none),mV 59 4,oP 60 (.call 265 [.t 54,.t 55,.t 58,.t 59]),mV 53 60,eX 61 53 0,eX 62 53 1,mV 19 61,mV 20 62] (sR [mV 63 13,fD 64 1 5,lD 65 1 64,oP 66 (.call 210 [.t 65]),oP 67 (.build [s0,.nils] [(0,(1,.t 63)),(1,(1,.t 66))]),nP (.sto 2 (.t 5) (.t 67))] (.seq (sR [mV 68 15,oP 69 (.len (.t 68)),oP 70 (.mv (.c i0))] (.block 2 (.loop (sR [bN 71 .lss 70 69] (.seq (cD 71 .skip (.exit 2)) (.seq (.block 3 (sR [mV 72 70,oP 73 (.iad 4 (.t 68) (.t 70)),lA 74 4 73,oP 22 (.alloc 193 [i0,.bool false,i0,i0]),mV 21 72,nP (.sto 4 (.t 22) (.t 74))] (.drw [0,1,0,4,0,0,48,112,252,508,1023,2047,4095] [(0,fD 75 1 5),(1,lD 76 1 75),(2,fD 77 0 22),(3,lD 78 1 77),(4,mV 79 20),(5,mV 80 21),(6,oP 81 (.iad 1 (.t 79) (.t 80))),(7,lD 82 1 81),(8,oP 83 (.build [i0,s0] [(0,(1,.t 78)),(1,(1,.t 82))])),(9,oP 84 (.bsl 204 2 [.t 83])),(10,oP 85 (.app 204 2 (.t 76) (.t 84))),(11,fD 86 1 5),(12,nP (.sto 1 (.t 86) (.t 85)))]))) (.reg [oP 87 (.bin .add (.t 70) (cI 1)),mV 70 87]))))))) (.seq (.drw [0,0,1,7,15] [(0,mV 88 19),(1,lA 89 2 5),(2,mV 10 88),(3,nP (.sto 2 (.t 11) (.t 89))),(4,oP 12 (.mv cT))]) .ret)))))))))
theorem dg248:Dg Tryz.prog 248 Tryz.f248 qs5 [(.t 10),(.cell 11 2 true),(.t 12)]:=⟨Tryz.func248,by kernel_rfl,by kernel_rfl⟩
theorem c248 (m:List Pair) (s:Strm) (n:Int) (t:B) (out:Bool) (h:PutOk m s n t):FnR Tryz.prog G 248 [.agg [.str s.inn,.sl 2 (s.parts.map Part.row)],.sl 3 (m.map Pair.row),.int .i64 n,.str t,.bool out]
 (.tup [.sl 3 ((put m s n t out).1.map Pair.row),.agg [.str (put m s n t out).2.1.inn,.sl 2 ((put m s n t out).2.1.parts.map Part.row)],.bool (put m s n t out).2.2]):=by
 refine mF dg248 Tryz.ntmps248 ?_
 obtain⟨hm,hs,hn,ht⟩:=h
 obtain⟨hp,hml⟩:=q0c hm
 obtain⟨s1,s2,s3⟩:=q0k hs
 simp only[qs5,go_sem]
 refine q0s (c172 s.inn n t (by omega) (by omega) (by omega)) rfl rfl ?_
 simp only[go_sem]
 cases hb:(q0a s.inn n t).2<;>simp only[go_sem]
 ·with_reducible repeat' (first|rw[q01 (by omega)];try simp only[go_sem]|refine br ?_ ?_<;>intro h e<;>(try simp only[e,go_sem])<;>clear e|refine sd ?_<;>try simp only[go_sem]|fail)
  simp[put,hb]
 obtain⟨x,hx,hx40⟩:=q5c hb
 obtain⟨f1,f2,f3,f4⟩:=q87 hs x
 have hpl:=q32 (q0a s.inn n t).1
 have hput:put m s n t out=((turned m ((pieces (q0a s.inn n t).1).drop s.parts.length) ((q0a s.inn n t).1.drop (doneP s.parts)) out).1,
  ⟨(q0a s.inn n t).1,s.parts++q0q ((pieces (q0a s.inn n t).1).drop s.parts.length) (turned m ((pieces (q0a s.inn n t).1).drop s.parts.length) ((q0a s.inn n t).1.drop (doneP s.parts)) out).2⟩,true):=by
  simp[put,hb]
 rw[hput]
 rw[←hx] at f1 f2 f3 f4
 generalize (q0a s.inn n t).1=inn at *
 have hil:inn.length≤80:=by rw[hx];simp;omega
 with_reducible repeat' (first|rw[q01 (by omega)];try simp only[go_sem]|refine br ?_ ?_<;>intro h e<;>(try simp only[e,go_sem])<;>clear e|refine sd ?_<;>try simp only[go_sem]|(first|refine cr (c203 ..) ?_)<;>try simp only[go_sem]|fail)
 refine q0h (λi:Nat=>⟨q0e [(1,.sl 3 (m.map Pair.row)),(4,.bool out),(5,.pv 1005 0),(11,.pv 1011 0),(13,.str inn),(15,.sl 4 (((pieces inn).drop s.parts.length).map Pc.row)),(16,.int .i64 (doneP (s.parts.take i))),(42,.sl 2 (s.parts.map Part.row)),(43,.int .i64 s.parts.length),(44,.int .i64 (i:Int))],
  q09 [(1005,.var 167 [.str s.inn,.sl 2 (s.parts.map Part.row)]),(1011,.var 167 [.str [],.nils])]⟩) (λi=>s.parts.length - i) (λi=>i≤s.parts.length) 0 ?_ (Nat.zero_le _) ?_
 ·refine leN [] ?_ (by simp only[go_sem]) (by simp[q0b]) (by simp only[go_sem])
  simp only[go_sem]
  rw[List.take_length];exact⟨rfl,rfl⟩
 intro i hi
 simp only[go_sem]
 have hdl:=qbh (l:=s.parts) (λp hp=>(s3 p hp).1.2) i
 by_cases h:(i:Int)<s.parts.length
 ·have hil:i<s.parts.length:=by omega
  have hst:=q7q hil
  have h3':=(s3 _ (List.getElem_mem hil)).1
  have hg:s.parts.getD i default=s.parts[i]:=by simp[List.getD,hil]
  simp only[eq_true h,go_sem]
  refine effG (by omega) ?_
  simp only[hg,go_sem]
  with_reducible repeat' (first|rw[q01 (by omega)];try simp only[go_sem]|refine br ?_ ?_<;>intro h e<;>(try simp only[e,go_sem])<;>clear e|refine sd ?_<;>try simp only[go_sem]|fail)
  refine⟨i+1,by omega,by omega,leN [] (by simp only[go_sem,hst];omega) (by simp only[go_sem]) (by simp[q0b]) (by simp only[go_sem])⟩
 ·simp only[eq_false h,go_sem]
  have:i=s.parts.length:=by omega
  subst this
  rw[List.take_length] at *
  with_reducible repeat' (first|rw[q01 (by omega)];try simp only[go_sem]|refine br ?_ ?_<;>intro h e<;>(try simp only[e,go_sem])<;>clear e|refine sd ?_<;>try simp only[go_sem]|fail)
  rw[List.take_length]
  refine q0s (c265 m _ _ out hp (by omega) (by simp;omega) (by simp;omega) f4) rfl rfl ?_
  simp only[go_sem]
  refine q0t (c210 (s.parts.map Part.row) (by simp;omega)) [] 66 1 (by simp only[go_sem];first|done|simp) (by simp) (by rintro _ _ ⟨rfl,rfl⟩;simp) (by intro i hi;obtain rfl:i=0:=(by omega);simp only[go_sem]) ?_
  rintro _ _ ⟨rfl,rfl⟩
  simp only[go_sem]
  have htl:=q5a ((pieces inn).drop s.parts.length) m (inn.drop (doneP s.parts)) out
  generalize turned m ((pieces inn).drop s.parts.length) (inn.drop (doneP s.parts)) out=r at *
  have hll:((pieces inn).drop s.parts.length).length≤80:=by simp;omega
  generalize (pieces inn).drop s.parts.length=l at *
  refine q0h (λi:Nat=>⟨q0e [(5,.pv 1005 0),(11,.pv 1011 0),(19,.sl 3 (r.1.map Pair.row)),(20,.sl 1 (r.2.map λx=>[.str x])),(68,.sl 4 (l.map Pc.row)),(69,.int .i64 l.length),(70,.int .i64 (i:Int))],
   q09 [(1005,.var 167 [.str inn,.own 106600 (s.parts.length+i)]),(1011,.var 167 [.str [],.nils]),(106600,.arr 204 2 ((s.parts++q0q (l.take i) (r.2.take i)).map Part.row))]⟩) (λi=>l.length - i) (λi=>i≤l.length) 0 ?_ (Nat.zero_le _) ?_
  ·refine leN [] (by simp only[go_sem];first|done|rfl) ?_ (by simp[q0b]) (by simp only[go_sem])
   simp only[go_sem];simp[q0q]
  intro i hi
  simp only[go_sem]
  by_cases h2:(i:Int)<l.length
  ·have hil2:i<l.length:=by omega
   have hst:=q5k l r.2 i htl hil2
   have hml:(q0q (l.take i) (r.2.take i)).length=i:=by
    rw[q39 (by simp;omega)];simp;omega
   have hml2:(s.parts++q0q (l.take i) (r.2.take i)).length=s.parts.length+i:=by simp[hml]
   simp only[eq_true h2,go_sem]
   refine effG (by omega) ?_
   simp only[go_sem]
   with_reducible repeat' (first|rw[q01 (by omega)];try simp only[go_sem]|refine br ?_ ?_<;>intro h e<;>(try simp only[e,go_sem])<;>clear e|refine sd ?_<;>try simp only[go_sem]|fail)
   refine⟨i+1,by omega,by omega,leN [(106600,1085)] ?_ ?_ (by simp[q0b]) (by simp only[go_sem])⟩
   ·simp only[go_sem];omega
   ·simp only[go_sem,hst];simp[Part.row];omega
  ·simp only[eq_false h2,go_sem]
   have:i=l.length:=by omega
   subst this
   rw[List.take_length,←htl,List.take_length]
   with_reducible repeat' (first|rw[q01 (by omega)];try simp only[go_sem]|refine br ?_ ?_<;>intro h e<;>(try simp only[e,go_sem])<;>clear e|refine sd ?_<;>try simp only[go_sem]|fail)
   first|exact⟨rfl,by rw[zA,q39 htl,htl]⟩|rw[zA,q39 htl,htl]
def q33 (s:Strm) (p:Pk):Pk×Bool:=if p.at_>(sOut s).length then(.zero,false) else({ p with at_:=q2c s.parts p.at_ },true)
def qug:IC:=sR [oP 2 (.box 167 (.t 0)),oP 3 (.box 65 (.t 1)),oP 4 (.alloc 65 [i0,i0,i0,i0,i0,i0,s0]),oP 5 (.mv cF)] (.seq (.seq (.drw [0,1,0,4,12,31] [(0,fD 6 5 3),(1,lD 7 1 6),(2,lA 8 2 2),(3,oP 9 (.call 246 [.t 8])),(4,oP 10 (.lens (.t 9))),(5,bN 11 .gtr 7 10)]) (cD 11 (sR [oP 12 (.build [i0,i0,i0,i0,i0,i0,s0] []),nP (.sto 7 (.t 4) (.t 12)),oP 5 (.mv cF)] .ret) .skip)) (sR [lA 13 2 2,fD 14 5 3,lD 15 1 14,oP 16 (.call 247 [.t 13,.t 15]),fD 17 5 3,nP (.sto 1 (.t 17) (.t 16))] (sR [lA 18 7 3,nP (.sto 7 (.t 4) (.t 18)),oP 5 (.mv cT)] .ret)))
theorem dg206:Dg Tryz.prog 206 Tryz.f206 qug [(.cell 4 7 true),(.t 5)]:=⟨Tryz.func206,by kernel_rfl,by kernel_rfl⟩
theorem c206 (s:Strm) (p:Pk) (h:StrB s) (hp : -10000≤p.at_∧p.at_≤10000):FnR Tryz.prog G 206 [.agg [.str s.inn,.sl 2 (s.parts.map Part.row)],.agg [.int .i64 p.kind,.int .i64 p.frm.a,.int .i64 p.frm.p,.int .i64 p.to.a,.int .i64 p.to.p,.int .i64 p.at_,.str p.text]]
 (.tup [.agg (Pk.row (q33 s p).1),.bool (q33 s p).2]):=by
 refine mF dg206 Tryz.ntmps206 ?_
 have so:=q29 h
 have f1:=qpw s h
 have f2:=c247 s p.at_ h hp
 simp only[qug,go_sem]
 with_reducible repeat' (first|refine br ?_ ?_<;>intro h e<;>(try simp only[e,go_sem])<;>clear e|rw[q01 (by omega)]|refine sd ?_<;>try simp only[go_sem]|(first|refine cr (f1 ..) ?_|refine cr (f2 ..) ?_)<;>try simp only[go_sem]|fail)
 ·simp only[q33];rw[if_pos (by omega)];simp[Pk.zero,E.zero]
 ·simp only[q33];rw[if_neg (by omega)];simp
theorem r135 (rows:List (List V)) (hr:rows.length≤2000000):FnR Tryz.prog G 135 [.sl 3 rows] (.sl 3 rows):=by
 refine mF quf Tryz.ntmps135 ?_
 simp only[qmt,go_sem]
 refine q0t (c174 rows hr) [] 4 1 (by simp only[go_sem];first|done|simp) (by simp) (by rintro _ _ ⟨rfl,rfl⟩;simp) (by intro i hi;obtain rfl:i=0:=(by omega);simp only[go_sem]) ?_
 rintro _ _ ⟨rfl,rfl⟩
 simp only[go_sem]
 refine q1t (o173 rows rows.length rfl) [100400] [] 5 1 (by simp only[go_sem];first|done|simp) (by simp only[go_sem];first|done|simp) (by simp) (by simp) (by rintro _ _ ⟨rfl,rfl⟩;simp) (by intro i hi;obtain rfl:i=0:=(by omega);simp only[go_sem]) ?_
 rintro _ _ ⟨rfl,rfl⟩
 simp only[go_sem]
def qfm:IC:=sR [oP 6 (.box 65 (.t 2)),oP 8 (.alloc 65 [i0,i0,i0,i0,i0,i0,s0]),oP 9 (.mv cF)] (sR [mV 17 1,oP 18 (.nilc (.t 17)),fD 19 0 18,lD 20 1 19,oP 21 (.lens (.t 20)),mV 10 21] (.seq (.drw [0,1,3,0,8,24,56,0,128,0,512,0,4095,8191,16383,16383,16383,0,163839,458751,1048575] [(0,mV 23 1),(1,oP 24 (.nilc (.t 23))),(2,lA 25 2 24),(3,mV 26 0),(4,oP 27 (.nilc (.t 26))),(5,fD 28 0 27),(6,lD 29 1 28),(7,fD 30 5 6),(8,lD 31 1 30),(9,fD 32 6 6),(10,lD 33 1 32),(11,mV 34 3),(12,oP 35 (.call 248 [.t 25,.t 29,.t 31,.t 33,.t 34])),(13,mV 22 35),(14,eX 36 22 0),(15,eX 37 22 1),(16,eX 38 22 2),(17,oP 12 (.alloc 167 [s0,.nils])),(18,mV 11 36),(19,nP (.sto 2 (.t 12) (.t 37))),(20,mV 13 38)]) (.seq (sR [mV 39 13,oP 40 (.un .not (.t 39))] (cD 40 (sR [oP 41 (.build [i0,i0,i0,i0,i0,i0,s0] []),nP (.sto 7 (.t 8) (.t 41)),oP 9 (.mv cF)] .ret) .skip)) (.seq (.drw [0,0,0,4,0,13,45,109,255,511] [(0,mV 42 0),(1,mV 43 1),(2,mV 44 11),(3,oP 45 (.call 135 [.t 44])),(4,lA 46 2 12),(5,oP 47 (.nilc (.t 42))),(6,fD 48 0 47),(7,nP (.sto 1 (.t 48) (.t 45))),(8,oP 49 (.nilc (.t 43))),(9,nP (.sto 2 (.t 49) (.t 46)))]) (sR [mV 50 1,oP 51 (.nilc (.t 50)),lA 52 2 51,oP 53 (.call 246 [.t 52]),mV 14 53] (.seq (.drw [0,1,3,0,8,31,0,64,63,511] [(0,mV 54 1),(1,oP 55 (.nilc (.t 54))),(2,lA 56 2 55),(3,fD 57 5 6),(4,lD 58 1 57),(5,oP 59 (.call 249 [.t 56,.t 58])),(6,mV 60 14),(7,oP 61 (.lens (.t 60))),(8,mV 15 59),(9,mV 16 61)]) (.seq (sR [mV 62 1,oP 63 (.nilc (.t 62)),fD 64 0 63,lD 65 1 64,oP 66 (.lens (.t 65)),mV 67 10,bN 68 .eql 66 67] (cD 68 (.drw [0,1,3,0,8,0,32,96,248,0,1016,2047,4095] [(0,mV 69 1),(1,oP 70 (.nilc (.t 69))),(2,lA 71 2 70),(3,fD 72 5 6),(4,lD 73 1 72),(5,fD 74 6 6),(6,lD 75 1 74),(7,oP 76 (.lens (.t 75))),(8,bN 77 .add 73 76),(9,mV 78 10),(10,oP 79 (.mn (.t 77) (.t 78))),(11,oP 80 (.call 249 [.t 71,.t 79])),(12,mV 16 80)]) .skip)) (.seq (.drw [0,0,0,0,0,24,62,1,129,511,1023] [(0,mV 81 15),(1,mV 82 14),(2,mV 83 15),(3,mV 84 16),(4,mV 85 15),(5,oP 86 (.mx (.t 84) (.t 85))),(6,oP 87 (.sls (.t 82) (some (.t 83)) (some (.t 86)))),(7,fD 88 5 6),(8,nP (.sto 1 (.t 88) (.t 81))),(9,fD 89 6 6),(10,nP (.sto 1 (.t 89) (.t 87)))]) (.seq (.drw [0,0,2,6,14,31,63] [(0,lA 90 7 6),(1,fD 91 6 6),(2,lD 92 1 91),(3,oP 93 (.lens (.t 92))),(4,oP 94 (.call 65 [.t 93,cI 1,cI 40])),(5,nP (.sto 7 (.t 8) (.t 90))),(6,mV 9 94)]) .ret)))))))))
theorem qgf:Dg Tryz.prog 207 Tryz.f207 qfm [(.cell 8 7 true),(.t 9)]:=⟨Tryz.func207,by kernel_rfl,by kernel_rfl⟩
def q4q (m:List Pair) (fs:List Flw) (k:Nat) (p:Pk) (out:Bool) (r:V) (o:List Hs):Prop :=
 ((put m (fs.getD k default).up p.at_ p.text out).2.2=false∧r=.tup [.agg (Pk.row .zero),.bool false]∧o=[.var 30 [.sl 3 (m.map Pair.row),.own 1 fs.length],.arr 169 8 (fs.map Flw.row)]) ∨
 ((put m (fs.getD k default).up p.at_ p.text out).2.2=true∧r=.tup [.agg (Pk.row (q1d (fs.getD k default).up (put m (fs.getD k default).up p.at_ p.text out).2.1 p).1),.bool (q1d (fs.getD k default).up (put m (fs.getD k default).up p.at_ p.text out).2.1 p).2] ∧
   o=[.var 30 [.sl 3 ((put m (fs.getD k default).up p.at_ p.text out).1.map Pair.row),.own 1 fs.length],.arr 169 8 ((fs.set k { fs.getD k default with up:=(put m (fs.getD k default).up p.at_ p.text out).2.1 }).map Flw.row)])
theorem q9z {m:List Pair} {fs:List Flw} {k:Nat} {p:Pk} {out:Bool} {f:Flw} {m':List Pair} {s':Strm} (hf:fs.getD k default=f) (hP:put m f.up p.at_ p.text out=(m',s',false)) :
 q4q m fs k p out (.tup [.agg (Pk.row .zero),.bool false]) [.var 30 [.sl 3 (m.map Pair.row),.own 1 fs.length],.arr 169 8 (fs.map Flw.row)]:=by
 unfold q4q
 rw[hf,hP]
 exact Or.inl ⟨rfl,rfl,rfl⟩
theorem q5j {m:List Pair} {fs:List Flw} {k:Nat} {p:Pk} {out:Bool} {f:Flw} {m':List Pair} {s':Strm} (hf:fs.getD k default=f) (hP:put m f.up p.at_ p.text out=(m',s',true)) :
 q4q m fs k p out (.tup [.agg (Pk.row (q1d f.up s' p).1),.bool (q1d f.up s' p).2]) [.var 30 [.sl 3 (m'.map Pair.row),.own 1 fs.length],.arr 169 8 ((fs.set k { f with up:=s' }).map Flw.row)]:=by
 unfold q4q
 rw[hf,hP]
 exact Or.inr ⟨rfl,rfl,rfl⟩
theorem c207up (m:List Pair) (fs:List Flw) (k:Nat) (p:Pk) (out:Bool) (hm:mapOk m=true) (hk:k<fs.length) (hs:strmOk (fs.getD k default).up=true) (hp:PkP p) (htx:txOk p.text=true) :
 FnP Tryz.prog G 207 2 [.var 30 [.sl 3 (m.map Pair.row),.own 1 fs.length],.arr 169 8 (fs.map Flw.row)] [.pv 0 0,.pa 1 k 4,.agg [.int .i64 p.kind,.int .i64 p.frm.a,.int .i64 p.frm.p,.int .i64 p.to.a,.int .i64 p.to.p,.int .i64 p.at_,.str p.text],.bool out] (q4q m fs k p out):=by
 refine mP qgf Tryz.ntmps207 ?_ ?_
 ·cases hb:(put m (fs.getD k default).up p.at_ p.text out).2.2
  ·exact⟨_,_,.inl ⟨hb,rfl,rfl⟩⟩
  ·exact⟨_,_,.inr ⟨hb,rfl,rfl⟩⟩
 have hpa:=hp.at_
 have hpl:=hp.len
 have hpk:=q45 (m:=m) (s:=(fs.getD k default).up) (n:=p.at_) (t:=p.text) (out:=out) hm hs htx hpa.1
 have sb:=q0k hs
 obtain⟨s1,s2,s3⟩:=sb
 have f0:=c248 m (fs.getD k default).up p.at_ p.text out ⟨hm,hs,hpa,hpl⟩
 have gs:∀R,((fs.map Flw.row).set k R).getD k []=R:=λR=>by simp[List.getD,hk]
 generalize hf:fs.getD k default=f at *
 simp only[qfm,go_sem,q03 hk,hf]
 with_reducible repeat' (first|refine br ?_ ?_<;>intro h e<;>(try simp only[e,go_sem,q03 hk,hf])<;>clear e|rw[q01 (by omega)]|refine sd ?_<;>try simp only[go_sem,q03 hk,hf]|fail)
 refine q0s f0 rfl rfl ?_
 have hml:=(q0c hpk.1).2
 have sb:=q0k hpk.2
 have so:=q29 sb
 have gr:∀a b,q0x (put m f.up p.at_ p.text out).2.1.parts p.at_=a→toR f.up (put m f.up p.at_ p.text out).2.1 p=b→q1d f.up (put m f.up p.at_ p.text out).2.1 p=({ p with at_:=a,text:=((sOut (put m f.up p.at_ p.text out).2.1).take (max b a).toNat).drop a.toNat },q0m (((sOut (put m f.up p.at_ p.text out).2.1).take (max b a).toNat).drop a.toNat).length 1 40):=λa b ha hb=>by subst ha;subst hb;rfl
 have hto:toR f.up (put m f.up p.at_ p.text out).2.1 p=if f.up.inn.length<(put m f.up p.at_ p.text out).2.1.inn.length then((sOut (put m f.up p.at_ p.text out).2.1).length:Int) else q0x (put m f.up p.at_ p.text out).2.1.parts (min (p.at_+p.text.length) (put m f.up p.at_ p.text out).2.1.inn.length):=rfl
 have fo1:0≤q0x (put m f.up p.at_ p.text out).2.1.parts p.at_∧q0x (put m f.up p.at_ p.text out).2.1.parts p.at_≤(sOut (put m f.up p.at_ p.text out).2.1).length:=q1z _
 have fo2:0≤q0x (put m f.up p.at_ p.text out).2.1.parts (min (p.at_+p.text.length) f.up.inn.length)∧q0x (put m f.up p.at_ p.text out).2.1.parts (min (p.at_+p.text.length) f.up.inn.length)≤(sOut (put m f.up p.at_ p.text out).2.1).length:=q1z _
 have hinn:f.up.inn.length≤(put m f.up p.at_ p.text out).2.1.inn.length:=q8j ..
 generalize hP:put m f.up p.at_ p.text out=P at *
 obtain⟨m',s',ok⟩:=P
 simp only at hpk hml sb so gr hto fo1 fo2 hinn
 cases ok<;>simp only[go_sem]
 ·with_reducible repeat' (first|refine br ?_ ?_<;>intro h e<;>(try simp only[e,go_sem])<;>clear e|rw[q01 (by omega)]|refine sd ?_<;>try simp only[go_sem]|fail)
  refine q0v (.tup [.agg (Pk.row .zero),.bool false]) [.var 30 [.sl 3 (m.map Pair.row),.own 1 fs.length],.arr 169 8 (fs.map Flw.row)] [] ?_ (q9z hf hP) ?_ (by simp[q0r,q0b]) (by simp only[go_sem])
  ·simp only[go_sem,Pk.zero,E.zero]
  ·simp only[go_sem]
 have f1:=r135 (m'.map Pair.row) (by simp;omega)
 have f2:=qpw s' sb
 have f3:=qkg s' p.at_ sb (by omega)
 have f4:=qkg s' (min (p.at_+p.text.length) f.up.inn.length) sb (by omega)
 generalize hA:q0x s'.parts p.at_=A at *
 generalize hB:q0x s'.parts (min (p.at_+p.text.length) f.up.inn.length)=Bb at *
 with_reducible repeat' (first|refine br ?_ ?_<;>intro h e<;>(try simp only[e,go_sem,q03 hk,hf,gs])<;>clear e|rw[q01 (by omega)]|refine sd ?_<;>try simp only[go_sem,q03 hk,hf,gs]|(first|refine cr (f1 ..) ?_|refine cr (f2 ..) ?_|refine cr (f3 ..) ?_|refine cr (f4 ..) ?_|refine cr (c65 ..) ?_)<;>try simp only[go_sem,q03 hk,hf,gs]|fail)
 ·have hto':toR f.up s' p=Bb:=by rw[hto,if_neg (by omega),←hB];congr 2
  have g:=gr A _ rfl hto'
  refine q0v (.tup [.agg (Pk.row (q1d f.up s' p).1),.bool (q1d f.up s' p).2]) [.var 30 [.sl 3 (m'.map Pair.row),.own 1 fs.length],.arr 169 8 ((fs.set k { f with up:=s' }).map Flw.row)] [] ?_ (q5j hf hP) ?_ (by simp[q0r,q0b]) (by simp only[go_sem])
  ·simp only[g,go_sem]
  ·simp only[go_sem,List.map_set]
 ·have hto':toR f.up s' p=((sOut s').length:Int):=by rw[hto,if_pos (by omega)]
  have g:=gr A _ rfl hto'
  refine q0v (.tup [.agg (Pk.row (q1d f.up s' p).1),.bool (q1d f.up s' p).2]) [.var 30 [.sl 3 (m'.map Pair.row),.own 1 fs.length],.arr 169 8 ((fs.set k { f with up:=s' }).map Flw.row)] [] ?_ (q5j hf hP) ?_ (by simp[q0r,q0b]) (by simp only[go_sem])
  ·simp only[g,go_sem]
  ·simp only[go_sem,List.map_set]
def q2x (m:List Pair) (fs:List Flw) (k:Nat) (p:Pk) (out:Bool) (r:V) (o:List Hs):Prop :=
 ((put m (fs.getD k default).down p.at_ p.text out).2.2=false∧r=.tup [.agg (Pk.row .zero),.bool false]∧o=[.var 30 [.sl 3 (m.map Pair.row),.own 1 fs.length],.arr 169 8 (fs.map Flw.row)]) ∨
 ((put m (fs.getD k default).down p.at_ p.text out).2.2=true∧r=.tup [.agg (Pk.row (q1d (fs.getD k default).down (put m (fs.getD k default).down p.at_ p.text out).2.1 p).1),.bool (q1d (fs.getD k default).down (put m (fs.getD k default).down p.at_ p.text out).2.1 p).2] ∧
   o=[.var 30 [.sl 3 ((put m (fs.getD k default).down p.at_ p.text out).1.map Pair.row),.own 1 fs.length],.arr 169 8 ((fs.set k { fs.getD k default with down:=(put m (fs.getD k default).down p.at_ p.text out).2.1 }).map Flw.row)])
theorem q8n {m:List Pair} {fs:List Flw} {k:Nat} {p:Pk} {out:Bool} {f:Flw} {m':List Pair} {s':Strm} (hf:fs.getD k default=f) (hP:put m f.down p.at_ p.text out=(m',s',false)) :
 q2x m fs k p out (.tup [.agg (Pk.row .zero),.bool false]) [.var 30 [.sl 3 (m.map Pair.row),.own 1 fs.length],.arr 169 8 (fs.map Flw.row)]:=by
 unfold q2x
 rw[hf,hP]
 exact Or.inl ⟨rfl,rfl,rfl⟩
theorem q44 {m:List Pair} {fs:List Flw} {k:Nat} {p:Pk} {out:Bool} {f:Flw} {m':List Pair} {s':Strm} (hf:fs.getD k default=f) (hP:put m f.down p.at_ p.text out=(m',s',true)) :
 q2x m fs k p out (.tup [.agg (Pk.row (q1d f.down s' p).1),.bool (q1d f.down s' p).2]) [.var 30 [.sl 3 (m'.map Pair.row),.own 1 fs.length],.arr 169 8 ((fs.set k { f with down:=s' }).map Flw.row)]:=by
 unfold q2x
 rw[hf,hP]
 exact Or.inr ⟨rfl,rfl,rfl⟩
theorem qgp (m:List Pair) (fs:List Flw) (k:Nat) (p:Pk) (out:Bool) (hm:mapOk m=true) (hk:k<fs.length) (hs:strmOk (fs.getD k default).down=true) (hp:PkP p) (htx:txOk p.text=true) :
 FnP Tryz.prog G 207 2 [.var 30 [.sl 3 (m.map Pair.row),.own 1 fs.length],.arr 169 8 (fs.map Flw.row)] [.pv 0 0,.pa 1 k 6,.agg [.int .i64 p.kind,.int .i64 p.frm.a,.int .i64 p.frm.p,.int .i64 p.to.a,.int .i64 p.to.p,.int .i64 p.at_,.str p.text],.bool out] (q2x m fs k p out):=by
 refine mP qgf Tryz.ntmps207 ?_ ?_
 ·cases hb:(put m (fs.getD k default).down p.at_ p.text out).2.2
  ·exact⟨_,_,.inl ⟨hb,rfl,rfl⟩⟩
  ·exact⟨_,_,.inr ⟨hb,rfl,rfl⟩⟩
 have hpa:=hp.at_
 have hpl:=hp.len
 have hpk:=q45 (m:=m) (s:=(fs.getD k default).down) (n:=p.at_) (t:=p.text) (out:=out) hm hs htx hpa.1
 have sb:=q0k hs
 obtain⟨s1,s2,s3⟩:=sb
 have f0:=c248 m (fs.getD k default).down p.at_ p.text out ⟨hm,hs,hpa,hpl⟩
 have gs:∀R,((fs.map Flw.row).set k R).getD k []=R:=λR=>by simp[List.getD,hk]
 generalize hf:fs.getD k default=f at *
 simp only[qfm,go_sem,q03 hk,hf]
 with_reducible repeat' (first|refine br ?_ ?_<;>intro h e<;>(try simp only[e,go_sem,q03 hk,hf])<;>clear e|rw[q01 (by omega)]|refine sd ?_<;>try simp only[go_sem,q03 hk,hf]|fail)
 refine q0s f0 rfl rfl ?_
 have hml:=(q0c hpk.1).2
 have sb:=q0k hpk.2
 have so:=q29 sb
 have gr:∀a b,q0x (put m f.down p.at_ p.text out).2.1.parts p.at_=a→toR f.down (put m f.down p.at_ p.text out).2.1 p=b→q1d f.down (put m f.down p.at_ p.text out).2.1 p=({ p with at_:=a,text:=((sOut (put m f.down p.at_ p.text out).2.1).take (max b a).toNat).drop a.toNat },q0m (((sOut (put m f.down p.at_ p.text out).2.1).take (max b a).toNat).drop a.toNat).length 1 40):=λa b ha hb=>by subst ha;subst hb;rfl
 have hto:toR f.down (put m f.down p.at_ p.text out).2.1 p=if f.down.inn.length<(put m f.down p.at_ p.text out).2.1.inn.length then((sOut (put m f.down p.at_ p.text out).2.1).length:Int) else q0x (put m f.down p.at_ p.text out).2.1.parts (min (p.at_+p.text.length) (put m f.down p.at_ p.text out).2.1.inn.length):=rfl
 have fo1:0≤q0x (put m f.down p.at_ p.text out).2.1.parts p.at_∧q0x (put m f.down p.at_ p.text out).2.1.parts p.at_≤(sOut (put m f.down p.at_ p.text out).2.1).length:=q1z _
 have fo2:0≤q0x (put m f.down p.at_ p.text out).2.1.parts (min (p.at_+p.text.length) f.down.inn.length)∧q0x (put m f.down p.at_ p.text out).2.1.parts (min (p.at_+p.text.length) f.down.inn.length)≤(sOut (put m f.down p.at_ p.text out).2.1).length:=q1z _
 have hinn:f.down.inn.length≤(put m f.down p.at_ p.text out).2.1.inn.length:=q8j ..
 generalize hP:put m f.down p.at_ p.text out=P at *
 obtain⟨m',s',ok⟩:=P
 simp only at hpk hml sb so gr hto fo1 fo2 hinn
 cases ok<;>simp only[go_sem]
 ·with_reducible repeat' (first|refine br ?_ ?_<;>intro h e<;>(try simp only[e,go_sem])<;>clear e|rw[q01 (by omega)]|refine sd ?_<;>try simp only[go_sem]|fail)
  refine q0v (.tup [.agg (Pk.row .zero),.bool false]) [.var 30 [.sl 3 (m.map Pair.row),.own 1 fs.length],.arr 169 8 (fs.map Flw.row)] [] ?_ (q8n hf hP) ?_ (by simp[q0r,q0b]) (by simp only[go_sem])
  ·simp only[go_sem,Pk.zero,E.zero]
  ·simp only[go_sem]
 have f1:=r135 (m'.map Pair.row) (by simp;omega)
 have f2:=qpw s' sb
 have f3:=qkg s' p.at_ sb (by omega)
 have f4:=qkg s' (min (p.at_+p.text.length) f.down.inn.length) sb (by omega)
 generalize hA:q0x s'.parts p.at_=A at *
 generalize hB:q0x s'.parts (min (p.at_+p.text.length) f.down.inn.length)=Bb at *
 with_reducible repeat' (first|refine br ?_ ?_<;>intro h e<;>(try simp only[e,go_sem,q03 hk,hf,gs])<;>clear e|rw[q01 (by omega)]|refine sd ?_<;>try simp only[go_sem,q03 hk,hf,gs]|(first|refine cr (f1 ..) ?_|refine cr (f2 ..) ?_|refine cr (f3 ..) ?_|refine cr (f4 ..) ?_|refine cr (c65 ..) ?_)<;>try simp only[go_sem,q03 hk,hf,gs]|fail)
 ·have hto':toR f.down s' p=Bb:=by rw[hto,if_neg (by omega),←hB];congr 2
  have g:=gr A _ rfl hto'
  refine q0v (.tup [.agg (Pk.row (q1d f.down s' p).1),.bool (q1d f.down s' p).2]) [.var 30 [.sl 3 (m'.map Pair.row),.own 1 fs.length],.arr 169 8 ((fs.set k { f with down:=s' }).map Flw.row)] [] ?_ (q44 hf hP) ?_ (by simp[q0r,q0b]) (by simp only[go_sem])
  ·simp only[g,go_sem]
  ·simp only[go_sem,List.map_set]
 ·have hto':toR f.down s' p=((sOut s').length:Int):=by rw[hto,if_pos (by omega)]
  have g:=gr A _ rfl hto'
  refine q0v (.tup [.agg (Pk.row (q1d f.down s' p).1),.bool (q1d f.down s' p).2]) [.var 30 [.sl 3 (m'.map Pair.row),.own 1 fs.length],.arr 169 8 ((fs.set k { f with down:=s' }).map Flw.row)] [] ?_ (q44 hf hP) ?_ (by simp[q0r,q0b]) (by simp only[go_sem])
  ·simp only[g,go_sem]
  ·simp only[go_sem,List.map_set]
def outB (x:Door×Option Pk) (r:V) (o:List Hs):Prop :=
 ∃q,r=.tup [.agg (Pk.row q),.bool x.2.isSome]∧(∀q',x.2=some q'→q=q')∧o=[.var 30 [.sl 3 (x.1.map.map Pair.row),.own 1 x.1.flows.length],.arr 169 8 (x.1.flows.map Flw.row)]
theorem qfb {d:Door}:outB (d,none) (.tup [.agg (Pk.row .zero),.bool false]) [.var 30 [.sl 3 (d.map.map Pair.row),.own 1 d.flows.length],.arr 169 8 (d.flows.map Flw.row)]:=⟨.zero,rfl,λq h=>(by simp at h),rfl⟩
theorem qo5 (d:Door) (q:Pk) (ok:Bool):outB (d,if ok=true then some q else none) (.tup [.agg (Pk.row q),.bool ok]) [.var 30 [.sl 3 (d.map.map Pair.row),.own 1 d.flows.length],.arr 169 8 (d.flows.map Flw.row)] :=
 ⟨q,by cases ok<;>rfl,λq' h=>by cases ok<;>simp at h;exact h,rfl⟩
def qln:IC:=sR [oP 3 (.box 65 (.t 1)),oP 4 (.alloc 65 [i0,i0,i0,i0,i0,i0,s0]),oP 5 (.mv cF)] (.seq (.drw [0,1,3,7,0,16,48,127,255,511,511,0,3071,8191] [(0,mV 10 0),(1,oP 11 (.nilc (.t 10))),(2,fD 12 0 11),(3,lD 13 1 12),(4,fD 14 3 3),(5,fD 15 1 14),(6,lD 16 1 15),(7,oP 17 (.call 208 [.t 13,.t 16])),(8,mV 9 17),(9,eX 18 9 0),(10,eX 19 9 1),(11,oP 6 (.alloc 63 [i0,i0])),(12,nP (.sto 2 (.t 6) (.t 18))),(13,mV 7 19)]) (.seq (.drw [0,1,3,0,0,16,63,127] [(0,mV 20 0),(1,oP 21 (.nilc (.t 20))),(2,lA 22 2 21),(3,lA 23 2 6),(4,fD 24 1 3),(5,lA 25 2 24),(6,oP 26 (.call 204 [.t 22,.t 23,.t 25])),(7,mV 8 26)]) (.seq (sR [mV 27 7,oP 28 (.un .not (.t 27)),mV 29 28,gF 30 29 (.mv (.t 8)),gF 31 29 (.bin .lss (.t 30) (.c i0)),pT 32 29 31] (cD 32 (sR [oP 33 (.build [i0,i0,i0,i0,i0,i0,s0] []),nP (.sto 7 (.t 4) (.t 33)),oP 5 (.mv cF)] .ret) .skip)) (sR [lA 34 2 6,fD 35 3 3,nP (.sto 2 (.t 35) (.t 34))] (.seq (sR [fD 36 0 3,lD 37 1 36,oP 38 (.bin .eql (.t 37) (cI 2))] (cD 38 (.seq (.drw [0,1,3,7,0,31,63,127,0,511,1023,1023,4095,8191] [(0,mV 39 0),(1,oP 40 (.nilc (.t 39))),(2,fD 41 1 40),(3,lD 42 1 41),(4,mV 43 8),(5,oP 44 (.iad 8 (.t 42) (.t 43))),(6,fD 45 4 44),(7,lA 46 2 45),(8,lA 47 7 3),(9,oP 48 (.call 206 [.t 46,.t 47])),(10,eX 49 48 0),(11,eX 50 48 1),(12,nP (.sto 7 (.t 4) (.t 49))),(13,mV 5 50)]) .ret) .skip)) (.seq (.drw [0,0,2,6,14,0,62,126,0,511,1023,1023,4095,8191] [(0,mV 51 0),(1,mV 52 0),(2,oP 53 (.nilc (.t 52))),(3,fD 54 1 53),(4,lD 55 1 54),(5,mV 56 8),(6,oP 57 (.iad 8 (.t 55) (.t 56))),(7,fD 58 6 57),(8,lA 59 7 3),(9,oP 60 (.call 207 [.t 51,.t 58,.t 59,cF])),(10,eX 61 60 0),(11,eX 62 60 1),(12,nP (.sto 7 (.t 4) (.t 61))),(13,mV 5 62)]) .ret))))))
theorem qqe:Dg Tryz.prog 171 Tryz.f171 qln [(.cell 4 7 true),(.t 5)]:=⟨Tryz.func171,by kernel_rfl,by kernel_rfl⟩
theorem c171 (d:Door) (p:Pk) (hd:doorOk d=true) (hp:PkP p):FnP Tryz.prog G 171 1 [.var 30 [.sl 3 (d.map.map Pair.row),.own 1 d.flows.length],.arr 169 8 (d.flows.map Flw.row)]
 [.pv 0 0,.agg [.int .i64 p.kind,.int .i64 p.frm.a,.int .i64 p.frm.p,.int .i64 p.to.a,.int .i64 p.to.p,.int .i64 p.at_,.str p.text]] (outB (dIn d p)):=by
 refine mP qqe Tryz.ntmps171 ?_ ?_
 ·exact⟨_,_,(dIn d p).2.getD .zero,rfl,λq' h=>by rw[h];rfl,rfl⟩
 obtain⟨hm,hfl,_⟩:=q0i.1 hd
 obtain⟨hmp,hml⟩:=q0c hm
 have no:∀l mm,dIn d p=(d,none)→q0e l 4=.pv 1004 0→q0e l 5=.bool false→q09 mm 1004=.var 65 (Pk.row .zero)→q09 mm 0=.var 30 [.sl 3 (d.map.map Pair.row),.own 1 d.flows.length]→q09 mm 1=.arr 169 8 (d.flows.map Flw.row) →
  q50 [.cell 4 7 true,.t 5] 1 (outB (dIn d p)) .ret ⟨q0e l,q09 mm⟩:=λl mm hx h1 h2 h3 h4 h5=>by
  rw[hx]
  refine q0v _ _ [] ?_ qfb ?_ (by simp[q0r,q0b]) (by simp only[go_sem])
  ·simp only[go_sem,h1,h2,h3]
  ·simp only[go_sem,h4,h5]
 simp only[qln,go_sem]
 have f0:=c208 d.map p.to.p (by omega)
 with_reducible repeat' (first|refine br ?_ ?_<;>intro h e<;>(try simp only[e,go_sem])<;>clear e|rw[q01 (by omega)]|refine sd ?_<;>try simp only[go_sem]|(first|refine cr (f0 ..) ?_)<;>try simp only[go_sem]|fail)
 cases hin:q0p d.map p.to.p with
 | none =>
   simp only[go_sem,Option.isSome_none,Option.getD_none,E.zero]
   with_reducible repeat' (first|refine br ?_ ?_<;>intro h e<;>(try simp only[e,go_sem])<;>clear e|rw[q01 (by omega)]|refine sd ?_<;>try simp only[go_sem]|fail)
   refine q0l (quj (d.map.map Pair.row) d.flows ⟨0,0⟩ p.frm (by omega)) [1] false (by simp only[go_sem];first|done|simp[E.row,Pc.row,Pair.row,Part.row,Flw.row,Pk.row,Conv.row]) (by simp only[List.mem_singleton];rintro c rfl;rfl) rfl (.inr rfl) ?_
   simp only[go_sem]
   with_reducible repeat' (first|refine br ?_ ?_<;>intro h e<;>(try simp only[e,go_sem])<;>clear e|rw[q01 (by omega)]|refine sd ?_<;>try simp only[go_sem]|fail)
   exact no _ _ (q59 hin) (by simp only[go_sem]) (by simp only[go_sem]) (by simp only[go_sem,Pk.zero,E.zero]) (by simp only[go_sem]) (by simp only[go_sem])
 | some i =>
   simp only[go_sem,Option.isSome_some,Option.getD_some]
   with_reducible repeat' (first|refine br ?_ ?_<;>intro h e<;>(try simp only[e,go_sem])<;>clear e|rw[q01 (by omega)]|refine sd ?_<;>try simp only[go_sem]|fail)
   refine q0l (quj (d.map.map Pair.row) d.flows i p.frm (by omega)) [1] false (by simp only[go_sem];first|done|simp[E.row,Pc.row,Pair.row,Part.row,Flw.row,Pk.row,Conv.row]) (by simp only[List.mem_singleton];rintro c rfl;rfl) rfl (.inr rfl) ?_
   simp only[go_sem]
   cases hf:q0w d.flows i p.frm with
   | none =>
     simp only[ixI,go_sem]
     with_reducible repeat' (first|refine br ?_ ?_<;>intro h e<;>(try simp only[e,go_sem])<;>clear e|rw[q01 (by omega)]|refine sd ?_<;>try simp only[go_sem]|fail)
     exact no _ _ (q52 hin hf) (by simp only[go_sem]) (by simp only[go_sem]) (by simp only[go_sem,Pk.zero,E.zero]) (by simp only[go_sem]) (by simp only[go_sem])
   | some k =>
     obtain⟨hk,hke⟩:=q54 hin hf
     rw[hke]
     have hg:d.flows.getD k default=Flw.at d k:=rfl
     have hfk:d.flows[k]?=some (Flw.at d k):=by simp[Flw.at,List.getD,hk]
     obtain⟨_,_,x6,x7,_⟩:=q1u hd hfk
     have s1:=q0k x6
     have hpa:=hp.at_
     have hpl:=hp.len
     have f1:=c206 (Flw.at d k).up { p with to:=i } s1 (by simp only;omega)
     have hlt:¬((k:Int)<0):=by omega
     simp only[ixI,go_sem,eq_false hlt]
     with_reducible repeat' (first|refine br ?_ ?_<;>intro h e<;>(try simp only[e,go_sem,q03 hk,hg])<;>clear e|rw[q01 (by omega)]|refine sd ?_<;>try simp only[go_sem,q03 hk,hg]|(first|refine cr (f1 ..) ?_)<;>try simp only[go_sem,q03 hk,hg]|fail)
     ·have hx:∀b,(q33 (Flw.at d k).up { p with to:=i }).2=b→inK d k i p=(d,if b then some (q33 (Flw.at d k).up { p with to:=i }).1 else none):=λb hb=>by
       subst hb
       have hk2:p.kind=2:=by assumption
       simp only[inK,q33]
       rw[if_pos hk2]
       by_cases hc:p.at_>((sOut (Flw.at d k).up).length:Int)
       ·rw[if_pos hc,if_pos hc];rfl
       ·rw[if_neg hc,if_neg hc,hp.ack hk2,hk2];rfl
      generalize hA:q33 (Flw.at d k).up { p with to:=i }=A at *
      obtain⟨q,ok⟩:=A
      have hx:=hx _ rfl
      simp only at hx
      rw[hx]
      refine q0v (.tup [.agg (Pk.row q),.bool ok]) [.var 30 [.sl 3 (d.map.map Pair.row),.own 1 d.flows.length],.arr 169 8 (d.flows.map Flw.row)] [] ?_ ⟨q,by cases ok<;>rfl,λq' h=>by cases ok<;>simp at h;exact h,rfl⟩ ?_ (by simp[q0r,q0b]) (by simp only[go_sem])
      ·simp only[go_sem]
      ·simp only[go_sem]
     have hk2:¬p.kind=2:=by assumption
     have htx:=hp.tx.resolve_left hk2
     refine q0f (qgp d.map d.flows k { p with to:=i } false hm hk x7 ⟨hp.at_,hp.len,hp.tx,hp.ack,hp.kd⟩ htx) [0,1] [] true 60 2 (by simp only[go_sem];first|done|simp) (by simp only[go_sem];first|done|simp) (by simp) (by simp) (by simp) ?_ ?_ ?_
     ·rintro res out (⟨_,rfl,rfl⟩|⟨_,rfl,rfl⟩)
      ·exact⟨by simp,by simp,.inl rfl,λi hi=>by rcases(show i=0∨i=1 by omega) with rfl|rfl<;>simp[chH,q07]⟩
      ·exact⟨by simp,by simp,.inl rfl,λi hi=>by rcases(show i=0∨i=1 by omega) with rfl|rfl<;>simp[chH,q07]⟩
     ·intro i hi
      rcases(show i=0∨i=1 by omega) with rfl|rfl<;>simp only[go_sem]
     have hko:inK d k i p=if(put d.map (Flw.at d k).down p.at_ p.text false).2.2=false then(d,none)
      else(⟨d.map,d.flows.set k { Flw.at d k with down:=(put d.map (Flw.at d k).down p.at_ p.text false).2.1 }⟩,
       q1n (Flw.at d k).down (put d.map (Flw.at d k).down p.at_ p.text false).2.1 { p with to:=i }):=by
      simp only[inK];rw[if_neg hk2,q9n _ _ p i]
     have hpm:=qby d.map (Flw.at d k).down p.at_ p.text
     rintro res out (⟨h,rfl,rfl⟩|⟨h,rfl,rfl⟩)
     all_goals
      simp only[hg] at h ⊢
      generalize hP:put d.map (Flw.at d k).down p.at_ p.text false=P at *
      obtain⟨m',s',ok'⟩:=P
      simp only at h hko hpm
      subst h
      subst hpm
      simp only[go_sem]
     ·rw[if_pos rfl] at hko
      rw[hko]
      with_reducible repeat' (first|refine br ?_ ?_<;>intro h e<;>(try simp only[e,go_sem])<;>clear e|rw[q01 (by omega)]|refine sd ?_<;>try simp only[go_sem]|fail)
      refine q0v _ _ [] ?_ qfb ?_ (by simp[q0r,q0b]) (by simp only[go_sem])
      ·simp only[go_sem]
      ·simp only[go_sem]
     ·rw[if_neg (by simp),q64] at hko
      rw[hko]
      with_reducible repeat' (first|refine br ?_ ?_<;>intro h e<;>(try simp only[e,go_sem])<;>clear e|rw[q01 (by omega)]|refine sd ?_<;>try simp only[go_sem]|fail)
      refine q0v _ _ [] ?_ (qo5 ⟨d.map,d.flows.set k { Flw.at d k with down:=s' }⟩ _ _) ?_ (by simp[q0r,q0b]) (by simp only[go_sem])
      ·simp only[go_sem]
      ·simp only[go_sem,List.map_set,List.length_set]
theorem qd1 {d:Door} {i o:E} (h:q0w d.flows i o=none) (h3:¬d.flows.length<4):q1m d i o=(d,0,false):=by
 rcases hm:mOut d.map i with⟨m,n,ok⟩
 cases ok<;>simp[q1m,q5q,h,hm,h3]
theorem qf5 (l:List (List V)) (r:List V) {n:Nat} (h:n=l.length) (x:List V):(l++[r]).getD n x=r:=by
 subst h;simp[List.getD]
theorem qnx (fs:List Flw) (i o:E):RowsW (fs.map Flw.row++[[.int .i64 i.a,.int .i64 i.p,.int .i64 o.a,.int .i64 o.p,.str [],.nils,.str [],.nils]]) ((fs++[Flw.mk i o .zero .zero]).map Flw.row):=by
 rw[List.map_append]
 exact RowsW.app (RowsW.refl _) (RowsW.one (.same _ (.same _ (.same _ (.same _ (.same _ (.nils 2 (.same _ (.nils 2 .nil)))))))))
def qt0:IC:=sR [oP 3 (.box 65 (.t 1)),oP 4 (.alloc 65 [i0,i0,i0,i0,i0,i0,s0]),oP 5 (.mv cF)] (.seq (.drw [0,1,3,0,8,0,32,127,255] [(0,mV 10 0),(1,oP 11 (.nilc (.t 10))),(2,lA 12 2 11),(3,fD 13 1 3),(4,lA 14 2 13),(5,fD 15 3 3),(6,lA 16 2 15),(7,oP 17 (.call 204 [.t 12,.t 14,.t 16])),(8,mV 6 17)]) (.seq (sR [mV 18 6,oP 19 (.bin .lss (.t 18) (.c i0))] (cD 19 (.seq (.drw [0,1,3,7,0,16,63,127,255,255,255,511,3071,8191] [(0,mV 21 0),(1,oP 22 (.nilc (.t 21))),(2,fD 23 0 22),(3,lD 24 1 23),(4,fD 25 1 3),(5,lA 26 2 25),(6,oP 27 (.call 205 [.t 24,.t 26])),(7,mV 20 27),(8,eX 28 20 0),(9,eX 29 20 1),(10,eX 30 20 2),(11,mV 7 28),(12,mV 8 29),(13,mV 9 30)]) (.seq (sR [mV 31 9,oP 32 (.un .not (.t 31)),mV 33 32,gF 34 33 (.mv (.t 0)),gF 35 33 (.nilc (.t 34)),gF 36 33 (.fad 1 (.t 35)),gF 37 33 (.ld 1 false (.t 36)),gF 38 33 (.len (.t 37)),gF 39 33 (.bin .geq (.t 38) (cI 4)),pT 40 33 39] (cD 40 (sR [oP 41 (.build [i0,i0,i0,i0,i0,i0,s0] []),nP (.sto 7 (.t 4) (.t 41)),oP 5 (.mv cF)] .ret) .skip)) (sR [mV 42 0,oP 43 (.nilc (.t 42)),fD 44 1 43,lD 45 1 44,oP 46 (.len (.t 45)),mV 6 46] (sR [mV 47 0,mV 48 7,oP 49 (.nilc (.t 47)),fD 50 0 49,nP (.sto 1 (.t 50) (.t 48))] (.drw [0,0,2,6,14,0,32,0,128,480,992,2046,4095,8191,16383] [(0,mV 51 0),(1,mV 52 0),(2,oP 53 (.nilc (.t 52))),(3,fD 54 1 53),(4,lD 55 1 54),(5,fD 56 1 3),(6,lA 57 2 56),(7,fD 58 3 3),(8,lA 59 2 58),(9,oP 60 (.build [i0,i0,i0,i0,s0,.nils,s0,.nils] [(0,(2,.t 57)),(2,(2,.t 59))])),(10,oP 61 (.bsl 169 8 [.t 60])),(11,oP 62 (.app 169 8 (.t 55) (.t 61))),(12,oP 63 (.nilc (.t 51))),(13,fD 64 1 63),(14,nP (.sto 1 (.t 64) (.t 62)))]))))) .skip)) (.seq (.drw [0,1,3,7,0,16,63,127,255,511] [(0,mV 65 0),(1,oP 66 (.nilc (.t 65))),(2,fD 67 0 66),(3,lD 68 1 67),(4,fD 69 1 3),(5,lA 70 2 69),(6,oP 71 (.call 128 [.t 68,.t 70])),(7,oP 72 (.build [i0,i0] [(0,(1,cI 9)),(1,(1,.t 71))])),(8,fD 73 1 3),(9,nP (.sto 2 (.t 73) (.t 72)))]) (.seq (sR [fD 74 0 3,lD 75 1 74,oP 76 (.bin .eql (.t 75) (cI 2))] (cD 76 (.seq (.drw [0,1,3,7,0,31,63,127,0,511,1023,1023,4095,8191] [(0,mV 77 0),(1,oP 78 (.nilc (.t 77))),(2,fD 79 1 78),(3,lD 80 1 79),(4,mV 81 6),(5,oP 82 (.iad 8 (.t 80) (.t 81))),(6,fD 83 6 82),(7,lA 84 2 83),(8,lA 85 7 3),(9,oP 86 (.call 206 [.t 84,.t 85])),(10,eX 87 86 0),(11,eX 88 86 1),(12,nP (.sto 7 (.t 4) (.t 87))),(13,mV 5 88)]) .ret) .skip)) (.seq (.drw [0,0,2,6,14,0,62,126,0,511,1023,1023,4095,8191] [(0,mV 89 0),(1,mV 90 0),(2,oP 91 (.nilc (.t 90))),(3,fD 92 1 91),(4,lD 93 1 92),(5,mV 94 6),(6,oP 95 (.iad 8 (.t 93) (.t 94))),(7,fD 96 4 95),(8,lA 97 7 3),(9,oP 98 (.call 207 [.t 89,.t 96,.t 97,cT])),(10,eX 99 98 0),(11,eX 100 98 1),(12,nP (.sto 7 (.t 4) (.t 99))),(13,mV 5 100)]) .ret)))))
theorem dg170:Dg Tryz.prog 170 Tryz.f170 qt0 [(.cell 4 7 true),(.t 5)]:=⟨Tryz.func170,by kernel_rfl,by kernel_rfl⟩
theorem qgm {d:Door} (hd:doorOk d=true):∀f∈d.flows,f.up.parts.length≤2000000∧f.down.parts.length≤2000000:=λf hf=>by
 obtain⟨k,hk⟩:=List.mem_iff_getElem?.1 hf
 obtain⟨_,_,h1,h2,_⟩:=q1u hd hk
 have:=(q0k h1).2.1
 have:=(q0k h2).2.1
 omega
def qu9:IC:=sR [oP 3 (.box 65 (.t 1)),oP 4 (.alloc 65 [i0,i0,i0,i0,i0,i0,s0]),oP 5 (.mv cF)] (.seq (.block 0 (sR [lA 7 7 3,oP 8 (.call 169 [.t 7]),mV 6 8] (cD 6 (sR [mV 9 0,lA 10 7 3,oP 11 (.call 170 [.t 9,.t 10]),eX 12 11 0,eX 13 11 1,nP (.sto 7 (.t 4) (.t 12)),mV 5 13] .ret) (sR [lA 15 7 3,oP 16 (.call 74 [.t 15]),mV 14 16] (cD 14 (sR [mV 17 0,lA 18 7 3,oP 19 (.call 171 [.t 17,.t 18]),eX 20 19 0,eX 21 19 1,nP (.sto 7 (.t 4) (.t 20)),mV 5 21] .ret) .skip))))) (sR [oP 22 (.build [i0,i0,i0,i0,i0,i0,s0] []),nP (.sto 7 (.t 4) (.t 22)),oP 5 (.mv cF)] .ret))
theorem dg129:Dg Tryz.prog 129 Tryz.f129 qu9 [(.cell 4 7 true),(.t 5)]:=⟨Tryz.func129,by kernel_rfl,by kernel_rfl⟩
theorem k77 (rows:List (List V)) (fs:List Flw) (hr:rows.length≤2000000) (hf:fs.length≤1000000) (h:∀f∈fs,f.up.parts.length≤2000000∧f.down.parts.length≤2000000) :
 FnP Tryz.prog G 77 0 [] [.agg [.sl 3 rows,.sl 8 (fs.map Flw.row)]] (λr o=>r=.agg [.sl 3 rows,.own 0 fs.length]∧o=[.arr 169 8 (fs.map Flw.row)]):=by
 refine mP dg77 Tryz.ntmps77 ⟨_,_,rfl,rfl⟩ ?_
 simp only[ic77,go_sem]
 with_reducible repeat' (first|refine br ?_ ?_<;>intro h e<;>(try simp only[e,go_sem])<;>clear e|rw[q01 (by omega)]|refine sd ?_<;>try simp only[go_sem]|fail)
 refine q0t (qpu rows hr) [] 8 1 (by simp only[go_sem];first|done|simp) (by simp) (by rintro _ _ ⟨rfl,rfl⟩;simp) (by intro i hi;obtain rfl:i=0:=(by omega);simp only[go_sem]) ?_
 rintro _ _ ⟨rfl,rfl⟩
 simp only[go_sem]
 with_reducible repeat' (first|refine br ?_ ?_<;>intro h e<;>(try simp only[e,go_sem])<;>clear e|rw[q01 (by omega)]|refine sd ?_<;>try simp only[go_sem]|fail)
 refine q0h (λk:Nat=>⟨q0e [(2,.pv 1002 0),(3,.pv 1003 0),(15,.sl 8 (fs.map Flw.row)),(16,.int .i64 fs.length),(17,.int .i64 (k:Int))],q09 [(1002,.var 30 [.nils,.nils]),(1003,.var 30 [.own 100800 rows.length,.own 1012 k]),(100800,.arr 145 3 rows),(1012,.arr 169 8 ((fs.take k).map Flw.row))]⟩) (λk=>fs.length - k)
  (λk=>k≤fs.length) 0 (leQ []) (Nat.zero_le _) ?_
 intro k hk
 simp only[go_sem]
 by_cases h5:(k:Int)<fs.length
 ·have hil:k<fs.length:=by omega
  have hg:fs.getD k default=fs[k]:=by simp[List.getD,hil]
  have hlen:(fs.take k).length=k:=by simp;omega
  have c1:=c136 fs[k] (h _ (List.getElem_mem hil))
  simp only[eq_true h5,go_sem]
  with_reducible repeat' (first|refine br ?_ ?_<;>intro h e<;>(try simp only[e,go_sem,hg,hlen])<;>clear e|rw[q01 (by omega)]|refine sd ?_<;>try simp only[go_sem,hg,hlen]|(first|refine cr (c1 ..) ?_)<;>try simp only[go_sem,hg,hlen]|fail)
  refine⟨k+1,by omega,by omega,leN [(1012,1026)] ?_ ?_ (by simp[q0b]) (by simp only[go_sem])⟩
  ·simp only[go_sem];first|done|omega
  ·simp only[go_sem];rw[List.take_add_one,zE hil];simp only[Option.toList_some,List.map_append,List.map_cons,List.map_nil,Flw.row]
 ·simp only[eq_false h5,go_sem]
  have:k=fs.length:=by omega
  subst this
  rw[List.take_length]
  with_reducible repeat' (first|refine br ?_ ?_<;>intro h e<;>(try simp only[e,go_sem])<;>clear e|rw[q01 (by omega)]|refine sd ?_<;>try simp only[go_sem]|fail)
  refine q0v (.agg [.sl 3 rows,.own 0 fs.length]) [.arr 169 8 (fs.map Flw.row)] [(0,1012)] ?_ ⟨rfl,rfl⟩ ?_ (by simp[q0r,q0b]) (by simp only[go_sem])
  ·simp only[go_sem];first|done|simp
  ·simp only[go_sem]
def q4s (u:M.World) (m:List Pair) (fs:List Flw) (k:Nat) (p:Pk) (out:Bool) (r:V) (o:List Hs):Prop :=
 ((put m (fs.getD k default).up p.at_ p.text out).2.2=false∧r=.tup [.agg (Pk.row .zero),.bool false]∧o=[.var 33 [.own 2 u.convs.length,.sl 3 (m.map Pair.row),.own 1 fs.length,.own 3 u.nets.length],.arr 169 8 (fs.map Flw.row),.arr 69 10 (u.convs.map Conv.row),.arr 65 7 (u.nets.map Pk.row)]) ∨
 ((put m (fs.getD k default).up p.at_ p.text out).2.2=true∧r=.tup [.agg (Pk.row (q1d (fs.getD k default).up (put m (fs.getD k default).up p.at_ p.text out).2.1 p).1),.bool (q1d (fs.getD k default).up (put m (fs.getD k default).up p.at_ p.text out).2.1 p).2] ∧
   o=[.var 33 [.own 2 u.convs.length,.sl 3 ((put m (fs.getD k default).up p.at_ p.text out).1.map Pair.row),.own 1 fs.length,.own 3 u.nets.length],.arr 169 8 ((fs.set k { fs.getD k default with up:=(put m (fs.getD k default).up p.at_ p.text out).2.1 }).map Flw.row),.arr 69 10 (u.convs.map Conv.row),.arr 65 7 (u.nets.map Pk.row)])
theorem qa7 {u:M.World} {m:List Pair} {fs:List Flw} {k:Nat} {p:Pk} {out:Bool} {f:Flw} {m':List Pair} {s':Strm} (hf:fs.getD k default=f) (hP:put m f.up p.at_ p.text out=(m',s',false)) :
 q4s u m fs k p out (.tup [.agg (Pk.row .zero),.bool false]) [.var 33 [.own 2 u.convs.length,.sl 3 (m.map Pair.row),.own 1 fs.length,.own 3 u.nets.length],.arr 169 8 (fs.map Flw.row),.arr 69 10 (u.convs.map Conv.row),.arr 65 7 (u.nets.map Pk.row)]:=by
 unfold q4s
 rw[hf,hP]
 exact Or.inl ⟨rfl,rfl,rfl⟩
theorem q5f {u:M.World} {m:List Pair} {fs:List Flw} {k:Nat} {p:Pk} {out:Bool} {f:Flw} {m':List Pair} {s':Strm} (hf:fs.getD k default=f) (hP:put m f.up p.at_ p.text out=(m',s',true)) :
 q4s u m fs k p out (.tup [.agg (Pk.row (q1d f.up s' p).1),.bool (q1d f.up s' p).2]) [.var 33 [.own 2 u.convs.length,.sl 3 (m'.map Pair.row),.own 1 fs.length,.own 3 u.nets.length],.arr 169 8 ((fs.set k { f with up:=s' }).map Flw.row),.arr 69 10 (u.convs.map Conv.row),.arr 65 7 (u.nets.map Pk.row)]:=by
 unfold q4s
 rw[hf,hP]
 exact Or.inr ⟨rfl,rfl,rfl⟩
theorem qk5 (u:M.World) (m:List Pair) (fs:List Flw) (k:Nat) (p:Pk) (out:Bool) (hm:mapOk m=true) (hk:k<fs.length) (hs:strmOk (fs.getD k default).up=true) (hp:PkP p) (htx:txOk p.text=true) :
 FnP Tryz.prog G 207 4 [.var 33 [.own 2 u.convs.length,.sl 3 (m.map Pair.row),.own 1 fs.length,.own 3 u.nets.length],.arr 169 8 (fs.map Flw.row),.arr 69 10 (u.convs.map Conv.row),.arr 65 7 (u.nets.map Pk.row)] [.pv 0 1,.pa 1 k 4,.agg [.int .i64 p.kind,.int .i64 p.frm.a,.int .i64 p.frm.p,.int .i64 p.to.a,.int .i64 p.to.p,.int .i64 p.at_,.str p.text],.bool out] (q4s u m fs k p out):=by
 refine mP qgf Tryz.ntmps207 ?_ ?_
 ·cases hb:(put m (fs.getD k default).up p.at_ p.text out).2.2
  ·exact⟨_,_,.inl ⟨hb,rfl,rfl⟩⟩
  ·exact⟨_,_,.inr ⟨hb,rfl,rfl⟩⟩
 have hpa:=hp.at_
 have hpl:=hp.len
 have hpk:=q45 (m:=m) (s:=(fs.getD k default).up) (n:=p.at_) (t:=p.text) (out:=out) hm hs htx hpa.1
 have sb:=q0k hs
 obtain⟨s1,s2,s3⟩:=sb
 have f0:=c248 m (fs.getD k default).up p.at_ p.text out ⟨hm,hs,hpa,hpl⟩
 have gs:∀R,((fs.map Flw.row).set k R).getD k []=R:=λR=>by simp[List.getD,hk]
 generalize hf:fs.getD k default=f at *
 simp only[qfm,go_sem,q03 hk,hf]
 with_reducible repeat' (first|refine br ?_ ?_<;>intro h e<;>(try simp only[e,go_sem,q03 hk,hf])<;>clear e|rw[q01 (by omega)]|refine sd ?_<;>try simp only[go_sem,q03 hk,hf]|fail)
 refine q0s f0 rfl rfl ?_
 have hml:=(q0c hpk.1).2
 have sb:=q0k hpk.2
 have so:=q29 sb
 have gr:∀a b,q0x (put m f.up p.at_ p.text out).2.1.parts p.at_=a→toR f.up (put m f.up p.at_ p.text out).2.1 p=b→q1d f.up (put m f.up p.at_ p.text out).2.1 p=({ p with at_:=a,text:=((sOut (put m f.up p.at_ p.text out).2.1).take (max b a).toNat).drop a.toNat },q0m (((sOut (put m f.up p.at_ p.text out).2.1).take (max b a).toNat).drop a.toNat).length 1 40):=λa b ha hb=>by subst ha;subst hb;rfl
 have hto:toR f.up (put m f.up p.at_ p.text out).2.1 p=if f.up.inn.length<(put m f.up p.at_ p.text out).2.1.inn.length then((sOut (put m f.up p.at_ p.text out).2.1).length:Int) else q0x (put m f.up p.at_ p.text out).2.1.parts (min (p.at_+p.text.length) (put m f.up p.at_ p.text out).2.1.inn.length):=rfl
 have fo1:0≤q0x (put m f.up p.at_ p.text out).2.1.parts p.at_∧q0x (put m f.up p.at_ p.text out).2.1.parts p.at_≤(sOut (put m f.up p.at_ p.text out).2.1).length:=q1z _
 have fo2:0≤q0x (put m f.up p.at_ p.text out).2.1.parts (min (p.at_+p.text.length) f.up.inn.length)∧q0x (put m f.up p.at_ p.text out).2.1.parts (min (p.at_+p.text.length) f.up.inn.length)≤(sOut (put m f.up p.at_ p.text out).2.1).length:=q1z _
 have hinn:f.up.inn.length≤(put m f.up p.at_ p.text out).2.1.inn.length:=q8j ..
 generalize hP:put m f.up p.at_ p.text out=P at *
 obtain⟨m',s',ok⟩:=P
 simp only at hpk hml sb so gr hto fo1 fo2 hinn
 cases ok<;>simp only[go_sem]
 ·with_reducible repeat' (first|refine br ?_ ?_<;>intro h e<;>(try simp only[e,go_sem])<;>clear e|rw[q01 (by omega)]|refine sd ?_<;>try simp only[go_sem]|fail)
  refine q0v (.tup [.agg (Pk.row .zero),.bool false]) [.var 33 [.own 2 u.convs.length,.sl 3 (m.map Pair.row),.own 1 fs.length,.own 3 u.nets.length],.arr 169 8 (fs.map Flw.row),.arr 69 10 (u.convs.map Conv.row),.arr 65 7 (u.nets.map Pk.row)] [] ?_ (qa7 hf hP) ?_ (by simp[q0r,q0b]) (by simp only[go_sem])
  ·simp only[go_sem,Pk.zero,E.zero]
  ·simp only[go_sem]
 have f1:=r135 (m'.map Pair.row) (by simp;omega)
 have f2:=qpw s' sb
 have f3:=qkg s' p.at_ sb (by omega)
 have f4:=qkg s' (min (p.at_+p.text.length) f.up.inn.length) sb (by omega)
 generalize hA:q0x s'.parts p.at_=A at *
 generalize hB:q0x s'.parts (min (p.at_+p.text.length) f.up.inn.length)=Bb at *
 with_reducible repeat' (first|refine br ?_ ?_<;>intro h e<;>(try simp only[e,go_sem,q03 hk,hf,gs])<;>clear e|rw[q01 (by omega)]|refine sd ?_<;>try simp only[go_sem,q03 hk,hf,gs]|(first|refine cr (f1 ..) ?_|refine cr (f2 ..) ?_|refine cr (f3 ..) ?_|refine cr (f4 ..) ?_|refine cr (c65 ..) ?_)<;>try simp only[go_sem,q03 hk,hf,gs]|fail)
 ·have hto':toR f.up s' p=Bb:=by rw[hto,if_neg (by omega),←hB];congr 2
  have g:=gr A _ rfl hto'
  refine q0v (.tup [.agg (Pk.row (q1d f.up s' p).1),.bool (q1d f.up s' p).2]) [.var 33 [.own 2 u.convs.length,.sl 3 (m'.map Pair.row),.own 1 fs.length,.own 3 u.nets.length],.arr 169 8 ((fs.set k { f with up:=s' }).map Flw.row),.arr 69 10 (u.convs.map Conv.row),.arr 65 7 (u.nets.map Pk.row)] [] ?_ (q5f hf hP) ?_ (by simp[q0r,q0b]) (by simp only[go_sem])
  ·simp only[g,go_sem]
  ·simp only[go_sem,List.map_set]
 ·have hto':toR f.up s' p=((sOut s').length:Int):=by rw[hto,if_pos (by omega)]
  have g:=gr A _ rfl hto'
  refine q0v (.tup [.agg (Pk.row (q1d f.up s' p).1),.bool (q1d f.up s' p).2]) [.var 33 [.own 2 u.convs.length,.sl 3 (m'.map Pair.row),.own 1 fs.length,.own 3 u.nets.length],.arr 169 8 ((fs.set k { f with up:=s' }).map Flw.row),.arr 69 10 (u.convs.map Conv.row),.arr 65 7 (u.nets.map Pk.row)] [] ?_ (q5f hf hP) ?_ (by simp[q0r,q0b]) (by simp only[go_sem])
  ·simp only[g,go_sem]
  ·simp only[go_sem,List.map_set]
def q30 (u:M.World) (m:List Pair) (fs:List Flw) (k:Nat) (p:Pk) (out:Bool) (r:V) (o:List Hs):Prop :=
 ((put m (fs.getD k default).down p.at_ p.text out).2.2=false∧r=.tup [.agg (Pk.row .zero),.bool false]∧o=[.var 33 [.own 2 u.convs.length,.sl 3 (m.map Pair.row),.own 1 fs.length,.own 3 u.nets.length],.arr 169 8 (fs.map Flw.row),.arr 69 10 (u.convs.map Conv.row),.arr 65 7 (u.nets.map Pk.row)]) ∨
 ((put m (fs.getD k default).down p.at_ p.text out).2.2=true∧r=.tup [.agg (Pk.row (q1d (fs.getD k default).down (put m (fs.getD k default).down p.at_ p.text out).2.1 p).1),.bool (q1d (fs.getD k default).down (put m (fs.getD k default).down p.at_ p.text out).2.1 p).2] ∧
   o=[.var 33 [.own 2 u.convs.length,.sl 3 ((put m (fs.getD k default).down p.at_ p.text out).1.map Pair.row),.own 1 fs.length,.own 3 u.nets.length],.arr 169 8 ((fs.set k { fs.getD k default with down:=(put m (fs.getD k default).down p.at_ p.text out).2.1 }).map Flw.row),.arr 69 10 (u.convs.map Conv.row),.arr 65 7 (u.nets.map Pk.row)])
theorem q85 {u:M.World} {m:List Pair} {fs:List Flw} {k:Nat} {p:Pk} {out:Bool} {f:Flw} {m':List Pair} {s':Strm} (hf:fs.getD k default=f) (hP:put m f.down p.at_ p.text out=(m',s',false)) :
 q30 u m fs k p out (.tup [.agg (Pk.row .zero),.bool false]) [.var 33 [.own 2 u.convs.length,.sl 3 (m.map Pair.row),.own 1 fs.length,.own 3 u.nets.length],.arr 169 8 (fs.map Flw.row),.arr 69 10 (u.convs.map Conv.row),.arr 65 7 (u.nets.map Pk.row)]:=by
 unfold q30
 rw[hf,hP]
 exact Or.inl ⟨rfl,rfl,rfl⟩
theorem q46 {u:M.World} {m:List Pair} {fs:List Flw} {k:Nat} {p:Pk} {out:Bool} {f:Flw} {m':List Pair} {s':Strm} (hf:fs.getD k default=f) (hP:put m f.down p.at_ p.text out=(m',s',true)) :
 q30 u m fs k p out (.tup [.agg (Pk.row (q1d f.down s' p).1),.bool (q1d f.down s' p).2]) [.var 33 [.own 2 u.convs.length,.sl 3 (m'.map Pair.row),.own 1 fs.length,.own 3 u.nets.length],.arr 169 8 ((fs.set k { f with down:=s' }).map Flw.row),.arr 69 10 (u.convs.map Conv.row),.arr 65 7 (u.nets.map Pk.row)]:=by
 unfold q30
 rw[hf,hP]
 exact Or.inr ⟨rfl,rfl,rfl⟩
theorem qid (u:M.World) (m:List Pair) (fs:List Flw) (k:Nat) (p:Pk) (out:Bool) (hm:mapOk m=true) (hk:k<fs.length) (hs:strmOk (fs.getD k default).down=true) (hp:PkP p) (htx:txOk p.text=true) :
 FnP Tryz.prog G 207 4 [.var 33 [.own 2 u.convs.length,.sl 3 (m.map Pair.row),.own 1 fs.length,.own 3 u.nets.length],.arr 169 8 (fs.map Flw.row),.arr 69 10 (u.convs.map Conv.row),.arr 65 7 (u.nets.map Pk.row)] [.pv 0 1,.pa 1 k 6,.agg [.int .i64 p.kind,.int .i64 p.frm.a,.int .i64 p.frm.p,.int .i64 p.to.a,.int .i64 p.to.p,.int .i64 p.at_,.str p.text],.bool out] (q30 u m fs k p out):=by
 refine mP qgf Tryz.ntmps207 ?_ ?_
 ·cases hb:(put m (fs.getD k default).down p.at_ p.text out).2.2
  ·exact⟨_,_,.inl ⟨hb,rfl,rfl⟩⟩
  ·exact⟨_,_,.inr ⟨hb,rfl,rfl⟩⟩
 have hpa:=hp.at_
 have hpl:=hp.len
 have hpk:=q45 (m:=m) (s:=(fs.getD k default).down) (n:=p.at_) (t:=p.text) (out:=out) hm hs htx hpa.1
 have sb:=q0k hs
 obtain⟨s1,s2,s3⟩:=sb
 have f0:=c248 m (fs.getD k default).down p.at_ p.text out ⟨hm,hs,hpa,hpl⟩
 have gs:∀R,((fs.map Flw.row).set k R).getD k []=R:=λR=>by simp[List.getD,hk]
 generalize hf:fs.getD k default=f at *
 simp only[qfm,go_sem,q03 hk,hf]
 with_reducible repeat' (first|refine br ?_ ?_<;>intro h e<;>(try simp only[e,go_sem,q03 hk,hf])<;>clear e|rw[q01 (by omega)]|refine sd ?_<;>try simp only[go_sem,q03 hk,hf]|fail)
 refine q0s f0 rfl rfl ?_
 have hml:=(q0c hpk.1).2
 have sb:=q0k hpk.2
 have so:=q29 sb
 have gr:∀a b,q0x (put m f.down p.at_ p.text out).2.1.parts p.at_=a→toR f.down (put m f.down p.at_ p.text out).2.1 p=b→q1d f.down (put m f.down p.at_ p.text out).2.1 p=({ p with at_:=a,text:=((sOut (put m f.down p.at_ p.text out).2.1).take (max b a).toNat).drop a.toNat },q0m (((sOut (put m f.down p.at_ p.text out).2.1).take (max b a).toNat).drop a.toNat).length 1 40):=λa b ha hb=>by subst ha;subst hb;rfl
 have hto:toR f.down (put m f.down p.at_ p.text out).2.1 p=if f.down.inn.length<(put m f.down p.at_ p.text out).2.1.inn.length then((sOut (put m f.down p.at_ p.text out).2.1).length:Int) else q0x (put m f.down p.at_ p.text out).2.1.parts (min (p.at_+p.text.length) (put m f.down p.at_ p.text out).2.1.inn.length):=rfl
 have fo1:0≤q0x (put m f.down p.at_ p.text out).2.1.parts p.at_∧q0x (put m f.down p.at_ p.text out).2.1.parts p.at_≤(sOut (put m f.down p.at_ p.text out).2.1).length:=q1z _
 have fo2:0≤q0x (put m f.down p.at_ p.text out).2.1.parts (min (p.at_+p.text.length) f.down.inn.length)∧q0x (put m f.down p.at_ p.text out).2.1.parts (min (p.at_+p.text.length) f.down.inn.length)≤(sOut (put m f.down p.at_ p.text out).2.1).length:=q1z _
 have hinn:f.down.inn.length≤(put m f.down p.at_ p.text out).2.1.inn.length:=q8j ..
 generalize hP:put m f.down p.at_ p.text out=P at *
 obtain⟨m',s',ok⟩:=P
 simp only at hpk hml sb so gr hto fo1 fo2 hinn
 cases ok<;>simp only[go_sem]
 ·with_reducible repeat' (first|refine br ?_ ?_<;>intro h e<;>(try simp only[e,go_sem])<;>clear e|rw[q01 (by omega)]|refine sd ?_<;>try simp only[go_sem]|fail)
  refine q0v (.tup [.agg (Pk.row .zero),.bool false]) [.var 33 [.own 2 u.convs.length,.sl 3 (m.map Pair.row),.own 1 fs.length,.own 3 u.nets.length],.arr 169 8 (fs.map Flw.row),.arr 69 10 (u.convs.map Conv.row),.arr 65 7 (u.nets.map Pk.row)] [] ?_ (q85 hf hP) ?_ (by simp[q0r,q0b]) (by simp only[go_sem])
  ·simp only[go_sem,Pk.zero,E.zero]
  ·simp only[go_sem]
 have f1:=r135 (m'.map Pair.row) (by simp;omega)
 have f2:=qpw s' sb
 have f3:=qkg s' p.at_ sb (by omega)
 have f4:=qkg s' (min (p.at_+p.text.length) f.down.inn.length) sb (by omega)
 generalize hA:q0x s'.parts p.at_=A at *
 generalize hB:q0x s'.parts (min (p.at_+p.text.length) f.down.inn.length)=Bb at *
 with_reducible repeat' (first|refine br ?_ ?_<;>intro h e<;>(try simp only[e,go_sem,q03 hk,hf,gs])<;>clear e|rw[q01 (by omega)]|refine sd ?_<;>try simp only[go_sem,q03 hk,hf,gs]|(first|refine cr (f1 ..) ?_|refine cr (f2 ..) ?_|refine cr (f3 ..) ?_|refine cr (f4 ..) ?_|refine cr (c65 ..) ?_)<;>try simp only[go_sem,q03 hk,hf,gs]|fail)
 ·have hto':toR f.down s' p=Bb:=by rw[hto,if_neg (by omega),←hB];congr 2
  have g:=gr A _ rfl hto'
  refine q0v (.tup [.agg (Pk.row (q1d f.down s' p).1),.bool (q1d f.down s' p).2]) [.var 33 [.own 2 u.convs.length,.sl 3 (m'.map Pair.row),.own 1 fs.length,.own 3 u.nets.length],.arr 169 8 ((fs.set k { f with down:=s' }).map Flw.row),.arr 69 10 (u.convs.map Conv.row),.arr 65 7 (u.nets.map Pk.row)] [] ?_ (q46 hf hP) ?_ (by simp[q0r,q0b]) (by simp only[go_sem])
  ·simp only[g,go_sem]
  ·simp only[go_sem,List.map_set]
 ·have hto':toR f.down s' p=((sOut s').length:Int):=by rw[hto,if_pos (by omega)]
  have g:=gr A _ rfl hto'
  refine q0v (.tup [.agg (Pk.row (q1d f.down s' p).1),.bool (q1d f.down s' p).2]) [.var 33 [.own 2 u.convs.length,.sl 3 (m'.map Pair.row),.own 1 fs.length,.own 3 u.nets.length],.arr 169 8 ((fs.set k { f with down:=s' }).map Flw.row),.arr 69 10 (u.convs.map Conv.row),.arr 65 7 (u.nets.map Pk.row)] [] ?_ (q46 hf hP) ?_ (by simp[q0r,q0b]) (by simp only[go_sem])
  ·simp only[g,go_sem]
  ·simp only[go_sem,List.map_set]
def qkr (u:M.World) (x:Door×Option Pk) (r:V) (o:List Hs):Prop :=
 ∃q,r=.tup [.agg (Pk.row q),.bool x.2.isSome]∧(∀q',x.2=some q'→q=q')∧o=[.var 33 [.own 2 u.convs.length,.sl 3 (x.1.map.map Pair.row),.own 1 x.1.flows.length,.own 3 u.nets.length],.arr 169 8 (x.1.flows.map Flw.row),.arr 69 10 (u.convs.map Conv.row),.arr 65 7 (u.nets.map Pk.row)]
theorem q5b {u:M.World} {d:Door}:qkr u (d,none) (.tup [.agg (Pk.row .zero),.bool false]) [.var 33 [.own 2 u.convs.length,.sl 3 (d.map.map Pair.row),.own 1 d.flows.length,.own 3 u.nets.length],.arr 169 8 (d.flows.map Flw.row),.arr 69 10 (u.convs.map Conv.row),.arr 65 7 (u.nets.map Pk.row)]:=⟨.zero,rfl,λq h=>(by simp at h),rfl⟩
theorem q6r {u:M.World} (d:Door) (q:Pk) (ok:Bool):qkr u (d,if ok=true then some q else none) (.tup [.agg (Pk.row q),.bool ok]) [.var 33 [.own 2 u.convs.length,.sl 3 (d.map.map Pair.row),.own 1 d.flows.length,.own 3 u.nets.length],.arr 169 8 (d.flows.map Flw.row),.arr 69 10 (u.convs.map Conv.row),.arr 65 7 (u.nets.map Pk.row)] :=
 ⟨q,by cases ok<;>rfl,λq' h=>by cases ok<;>simp at h;exact h,rfl⟩
theorem w171 (u:M.World) (d:Door) (p:Pk) (hd:doorOk d=true) (hp:PkP p):FnP Tryz.prog G 171 1 [.var 33 [.own 2 u.convs.length,.sl 3 (d.map.map Pair.row),.own 1 d.flows.length,.own 3 u.nets.length],.arr 169 8 (d.flows.map Flw.row),.arr 69 10 (u.convs.map Conv.row),.arr 65 7 (u.nets.map Pk.row)]
 [.pv 0 1,.agg [.int .i64 p.kind,.int .i64 p.frm.a,.int .i64 p.frm.p,.int .i64 p.to.a,.int .i64 p.to.p,.int .i64 p.at_,.str p.text]] (qkr u (dIn d p)):=by
 refine mP qqe Tryz.ntmps171 ?_ ?_
 ·exact⟨_,_,(dIn d p).2.getD .zero,rfl,λq' h=>by rw[h];rfl,rfl⟩
 obtain⟨hm,hfl,_⟩:=q0i.1 hd
 obtain⟨hmp,hml⟩:=q0c hm
 have no:∀l mm,dIn d p=(d,none)→q0e l 4=.pv 1004 0→q0e l 5=.bool false→q09 mm 1004=.var 65 (Pk.row .zero)→q09 mm 0=.var 33 [.own 2 u.convs.length,.sl 3 (d.map.map Pair.row),.own 1 d.flows.length,.own 3 u.nets.length]→q09 mm 1=.arr 169 8 (d.flows.map Flw.row)→q09 mm 2=.arr 69 10 (u.convs.map Conv.row)→q09 mm 3=.arr 65 7 (u.nets.map Pk.row) →
  q50 [.cell 4 7 true,.t 5] 1 (qkr u (dIn d p)) .ret ⟨q0e l,q09 mm⟩:=λl mm hx h1 h2 h3 h4 h5 h6 h7=>by
  rw[hx]
  refine q0v _ _ [] ?_ q5b ?_ (by simp[q0r,q0b]) (by simp only[go_sem])
  ·simp only[go_sem,h1,h2,h3]
  ·simp only[go_sem,h4,h5,h6,h7]
 simp only[qln,go_sem]
 have f0:=c208 d.map p.to.p (by omega)
 with_reducible repeat' (first|refine br ?_ ?_<;>intro h e<;>(try simp only[e,go_sem])<;>clear e|rw[q01 (by omega)]|refine sd ?_<;>try simp only[go_sem]|(first|refine cr (f0 ..) ?_)<;>try simp only[go_sem]|fail)
 cases hin:q0p d.map p.to.p with
 | none =>
   simp only[go_sem,Option.isSome_none,Option.getD_none,E.zero]
   with_reducible repeat' (first|refine br ?_ ?_<;>intro h e<;>(try simp only[e,go_sem])<;>clear e|rw[q01 (by omega)]|refine sd ?_<;>try simp only[go_sem]|fail)
   refine q0l (quj (d.map.map Pair.row) d.flows ⟨0,0⟩ p.frm (by omega)) [1] false (by simp only[go_sem];first|done|simp[E.row,Pc.row,Pair.row,Part.row,Flw.row,Pk.row,Conv.row]) (by simp only[List.mem_singleton];rintro c rfl;rfl) rfl (.inr rfl) ?_
   simp only[go_sem]
   with_reducible repeat' (first|refine br ?_ ?_<;>intro h e<;>(try simp only[e,go_sem])<;>clear e|rw[q01 (by omega)]|refine sd ?_<;>try simp only[go_sem]|fail)
   exact no _ _ (q59 hin) (by simp only[go_sem]) (by simp only[go_sem]) (by simp only[go_sem,Pk.zero,E.zero]) (by simp only[go_sem]) (by simp only[go_sem]) (by simp only[go_sem]) (by simp only[go_sem])
 | some i =>
   simp only[go_sem,Option.isSome_some,Option.getD_some]
   with_reducible repeat' (first|refine br ?_ ?_<;>intro h e<;>(try simp only[e,go_sem])<;>clear e|rw[q01 (by omega)]|refine sd ?_<;>try simp only[go_sem]|fail)
   refine q0l (quj (d.map.map Pair.row) d.flows i p.frm (by omega)) [1] false (by simp only[go_sem];first|done|simp[E.row,Pc.row,Pair.row,Part.row,Flw.row,Pk.row,Conv.row]) (by simp only[List.mem_singleton];rintro c rfl;rfl) rfl (.inr rfl) ?_
   simp only[go_sem]
   cases hf:q0w d.flows i p.frm with
   | none =>
     simp only[ixI,go_sem]
     with_reducible repeat' (first|refine br ?_ ?_<;>intro h e<;>(try simp only[e,go_sem])<;>clear e|rw[q01 (by omega)]|refine sd ?_<;>try simp only[go_sem]|fail)
     exact no _ _ (q52 hin hf) (by simp only[go_sem]) (by simp only[go_sem]) (by simp only[go_sem,Pk.zero,E.zero]) (by simp only[go_sem]) (by simp only[go_sem]) (by simp only[go_sem]) (by simp only[go_sem])
   | some k =>
     obtain⟨hk,hke⟩:=q54 hin hf
     rw[hke]
     have hg:d.flows.getD k default=Flw.at d k:=rfl
     have hfk:d.flows[k]?=some (Flw.at d k):=by simp[Flw.at,List.getD,hk]
     obtain⟨_,_,x6,x7,_⟩:=q1u hd hfk
     have s1:=q0k x6
     have hpa:=hp.at_
     have hpl:=hp.len
     have f1:=c206 (Flw.at d k).up { p with to:=i } s1 (by simp only;omega)
     have hlt:¬((k:Int)<0):=by omega
     simp only[ixI,go_sem,eq_false hlt]
     with_reducible repeat' (first|refine br ?_ ?_<;>intro h e<;>(try simp only[e,go_sem,q03 hk,hg])<;>clear e|rw[q01 (by omega)]|refine sd ?_<;>try simp only[go_sem,q03 hk,hg]|(first|refine cr (f1 ..) ?_)<;>try simp only[go_sem,q03 hk,hg]|fail)
     ·have hx:∀b,(q33 (Flw.at d k).up { p with to:=i }).2=b→inK d k i p=(d,if b then some (q33 (Flw.at d k).up { p with to:=i }).1 else none):=λb hb=>by
       subst hb
       have hk2:p.kind=2:=by assumption
       simp only[inK,q33]
       rw[if_pos hk2]
       by_cases hc:p.at_>((sOut (Flw.at d k).up).length:Int)
       ·rw[if_pos hc,if_pos hc];rfl
       ·rw[if_neg hc,if_neg hc,hp.ack hk2,hk2];rfl
      generalize hA:q33 (Flw.at d k).up { p with to:=i }=A at *
      obtain⟨q,ok⟩:=A
      have hx:=hx _ rfl
      simp only at hx
      rw[hx]
      refine q0v (.tup [.agg (Pk.row q),.bool ok]) [.var 33 [.own 2 u.convs.length,.sl 3 (d.map.map Pair.row),.own 1 d.flows.length,.own 3 u.nets.length],.arr 169 8 (d.flows.map Flw.row),.arr 69 10 (u.convs.map Conv.row),.arr 65 7 (u.nets.map Pk.row)] [] ?_ ⟨q,by cases ok<;>rfl,λq' h=>by cases ok<;>simp at h;exact h,rfl⟩ ?_ (by simp[q0r,q0b]) (by simp only[go_sem])
      ·simp only[go_sem]
      ·simp only[go_sem]
     have hk2:¬p.kind=2:=by assumption
     have htx:=hp.tx.resolve_left hk2
     refine q0f (qid u d.map d.flows k { p with to:=i } false hm hk x7 ⟨hp.at_,hp.len,hp.tx,hp.ack,hp.kd⟩ htx) [0,1,2,3] [] true 60 4 (by simp only[go_sem];first|done|simp) (by simp only[go_sem];first|done|simp) (by simp) (by simp) (by simp) ?_ ?_ ?_
     ·rintro res out (⟨_,rfl,rfl⟩|⟨_,rfl,rfl⟩)
      ·exact⟨by simp,by simp,.inl rfl,λi hi=>by rcases(show i=0∨i=1∨i=2∨i=3 by omega) with rfl|rfl|rfl|rfl<;>simp[chH,q07]⟩
      ·exact⟨by simp,by simp,.inl rfl,λi hi=>by rcases(show i=0∨i=1∨i=2∨i=3 by omega) with rfl|rfl|rfl|rfl<;>simp[chH,q07]⟩
     ·intro i hi
      rcases(show i=0∨i=1∨i=2∨i=3 by omega) with rfl|rfl|rfl|rfl<;>simp only[go_sem]
     have hko:inK d k i p=if(put d.map (Flw.at d k).down p.at_ p.text false).2.2=false then(d,none)
      else(⟨d.map,d.flows.set k { Flw.at d k with down:=(put d.map (Flw.at d k).down p.at_ p.text false).2.1 }⟩,
       q1n (Flw.at d k).down (put d.map (Flw.at d k).down p.at_ p.text false).2.1 { p with to:=i }):=by
      simp only[inK];rw[if_neg hk2,q9n _ _ p i]
     have hpm:=qby d.map (Flw.at d k).down p.at_ p.text
     rintro res out (⟨h,rfl,rfl⟩|⟨h,rfl,rfl⟩)
     all_goals
      simp only[hg] at h ⊢
      generalize hP:put d.map (Flw.at d k).down p.at_ p.text false=P at *
      obtain⟨m',s',ok'⟩:=P
      simp only at h hko hpm
      subst h
      subst hpm
      simp only[go_sem]
     ·rw[if_pos rfl] at hko
      rw[hko]
      with_reducible repeat' (first|refine br ?_ ?_<;>intro h e<;>(try simp only[e,go_sem])<;>clear e|rw[q01 (by omega)]|refine sd ?_<;>try simp only[go_sem]|fail)
      refine q0v _ _ [] ?_ q5b ?_ (by simp[q0r,q0b]) (by simp only[go_sem])
      ·simp only[go_sem]
      ·simp only[go_sem]
     ·rw[if_neg (by simp),q64] at hko
      rw[hko]
      with_reducible repeat' (first|refine br ?_ ?_<;>intro h e<;>(try simp only[e,go_sem])<;>clear e|rw[q01 (by omega)]|refine sd ?_<;>try simp only[go_sem]|fail)
      refine q0v _ _ [] ?_ (q6r ⟨d.map,d.flows.set k { Flw.at d k with down:=s' }⟩ _ _) ?_ (by simp[q0r,q0b]) (by simp only[go_sem])
      ·simp only[go_sem]
      ·simp only[go_sem,List.map_set,List.length_set]
def outX (u:M.World) (x:Door×Option Pk) (r:V) (o:List Hs):Prop:=∃o',qkr u x r o'∧∀c,HsW (chH o c) (chH o' c)
theorem q4c {u:M.World} {x:Door×Option Pk} {r:V} {o:List Hs} (h:qkr u x r o):outX u x r o:=⟨o,h,λc=>HsW.refl _⟩
theorem qkq (u:M.World) (M:List Pair) (fs:List Flw) (i o:E):∀c,HsW (chH [.var 33 [.own 2 u.convs.length,.sl 3 (M.map Pair.row),.own 1 (fs++[Flw.mk i o .zero .zero]).length,.own 3 u.nets.length],.arr 169 8 (fs.map Flw.row++[[.int .i64 i.a,.int .i64 i.p,.int .i64 o.a,.int .i64 o.p,.str [],.nils,.str [],.nils]]),.arr 69 10 (u.convs.map Conv.row),.arr 65 7 (u.nets.map Pk.row)] c)
 (chH [.var 33 [.own 2 u.convs.length,.sl 3 (M.map Pair.row),.own 1 (fs++[Flw.mk i o .zero .zero]).length,.own 3 u.nets.length],.arr 169 8 ((fs++[Flw.mk i o .zero .zero]).map Flw.row),.arr 69 10 (u.convs.map Conv.row),.arr 65 7 (u.nets.map Pk.row)] c)
 | 0=>rfl
 | 1=>⟨rfl,rfl,qnx fs i o⟩
 | 2=>HsW.refl _
 | 3=>HsW.refl _
 | n+4=>rfl
theorem w170 (u:M.World) (d:Door) (p:Pk) (hd:doorOk d=true) (hp:PkP p) (hi:p.frm.inside=true) (ho:p.to.outside=true):FnP Tryz.prog G 170 1 [.var 33 [.own 2 u.convs.length,.sl 3 (d.map.map Pair.row),.own 1 d.flows.length,.own 3 u.nets.length],.arr 169 8 (d.flows.map Flw.row),.arr 69 10 (u.convs.map Conv.row),.arr 65 7 (u.nets.map Pk.row)]
 [.pv 0 1,.agg [.int .i64 p.kind,.int .i64 p.frm.a,.int .i64 p.frm.p,.int .i64 p.to.a,.int .i64 p.to.p,.int .i64 p.at_,.str p.text]] (qkr u (q8h d p)):=by
 refine FnP.rowsOut (post:=outX u (q8h d p)) ?_ λr o h=>h
 refine mP dg170 Tryz.ntmps170 ?_ ?_
 ·exact⟨_,_,q4c ⟨(q8h d p).2.getD .zero,rfl,λq' h=>by rw[h];rfl,rfl⟩⟩
 obtain⟨hm,hfl,_⟩:=q0i.1 hd
 obtain⟨hmp,hml⟩:=q0c hm
 have hyes:=λok=>q4y hd hi ho ok
 have hout:=λok=>q4n (p:=p) ok (hyes ok).kl
 have hno:=λok=>q6k (d:=d) (p:=p) ok
 simp only[qt0,go_sem]
 with_reducible repeat' (first|refine br ?_ ?_<;>intro h e<;>(try simp only[e,go_sem])<;>clear e|rw[q01 (by omega)]|refine sd ?_<;>try simp only[go_sem]|fail)
 refine q0l (quj (d.map.map Pair.row) d.flows p.frm p.to (by omega)) [1] false (by simp only[go_sem];first|done|simp[E.row,Pc.row,Pair.row,Part.row,Flw.row,Pk.row,Conv.row]) (by simp only[List.mem_singleton];rintro c rfl;rfl) rfl (.inr rfl) ?_
 simp only[go_sem]
 cases hf:q0w d.flows p.frm p.to with
 | some k =>
   have hop:=q66 hf
   rw[hop] at hyes hout hno
   have hlt:¬((k:Int)<0):=by omega
   simp only[ixI,go_sem,eq_false hlt]
   obtain⟨x1,x2,x3,x4,x5,x6,x7,x8⟩:=hyes rfl
   have hout:=hout rfl
   simp only at x1 x2 x3 x4 x5 x6 x7 x8 hout
   rw[hout]
   have hg:d.flows.getD k default=Flw.at d k:=rfl
   rw[hg] at x6 x7
   have s2:=q0k x7
   have hpa:=hp.at_
   have hpl:=hp.len
   have f0:=c128 d.map p.frm.a p.frm.p (by omega)
   have f1:=c206 (Flw.at d k).down { p with frm:=⟨9,portOf d.map p.frm⟩ } s2 (by simp only;omega)
   with_reducible repeat' (first|refine br ?_ ?_<;>intro h e<;>(try simp only[e,go_sem,q03 x4,hg])<;>clear e|rw[q01 (by omega)]|refine sd ?_<;>try simp only[go_sem,q03 x4,hg]|(first|refine cr (f0 ..) ?_|refine cr (f1 ..) ?_)<;>try simp only[go_sem,q03 x4,hg]|fail)
   ·have hx:∀b,(q33 (Flw.at d k).down { p with frm:=⟨9,portOf d.map p.frm⟩ }).2=b→q6w d k p=(d,if b then some (q33 (Flw.at d k).down { p with frm:=⟨9,portOf d.map p.frm⟩ }).1 else none):=λb hb=>by
     subst hb
     have hk2:p.kind=2:=by assumption
     simp only[q6w,q33]
     rw[if_pos hk2]
     by_cases hc:p.at_>((sOut (Flw.at d k).down).length:Int)
     ·rw[if_pos hc,if_pos hc];rfl
     ·rw[if_neg hc,if_neg hc,hp.ack hk2,hk2];rfl
    generalize hA:q33 (Flw.at d k).down { p with frm:=⟨9,portOf d.map p.frm⟩ }=A at *
    obtain⟨q,ok⟩:=A
    have hx:=hx _ rfl
    simp only at hx
    rw[hx]
    refine q0v _ _ [] ?_ (q4c (q6r d q ok)) ?_ (by simp[q0r,q0b]) (by simp only[go_sem])
    ·simp only[go_sem]
    ·simp only[go_sem]
   have hk2:¬p.kind=2:=by assumption
   have htx:=hp.tx.resolve_left hk2
   refine q0f (qk5 u d.map d.flows k { p with frm:=⟨9,portOf d.map p.frm⟩ } true hm x4 x6 ⟨hp.at_,hp.len,hp.tx,hp.ack,hp.kd⟩ htx) [0,1,2,3] [] true 98 4 (by simp only[go_sem];first|done|simp) (by simp only[go_sem];first|done|simp) (by simp) (by simp) (by simp) ?_ ?_ ?_
   ·rintro res out (⟨_,rfl,rfl⟩|⟨_,rfl,rfl⟩)
    ·exact⟨by simp,by simp,.inl rfl,λi hi=>by rcases(show i=0∨i=1∨i=2∨i=3 by omega) with rfl|rfl|rfl|rfl<;>simp[chH,q07]⟩
    ·exact⟨by simp,by simp,.inl rfl,λi hi=>by rcases(show i=0∨i=1∨i=2∨i=3 by omega) with rfl|rfl|rfl|rfl<;>simp[chH,q07]⟩
   ·intro i hi
    rcases(show i=0∨i=1∨i=2∨i=3 by omega) with rfl|rfl|rfl|rfl<;>simp only[go_sem]
   have hko:q6w d k p=if(put d.map (Flw.at d k).up p.at_ p.text true).2.2=false then(d,none)
    else(⟨(put d.map (Flw.at d k).up p.at_ p.text true).1,d.flows.set k { Flw.at d k with up:=(put d.map (Flw.at d k).up p.at_ p.text true).2.1 }⟩,
     q1n (Flw.at d k).up (put d.map (Flw.at d k).up p.at_ p.text true).2.1 { p with frm:=⟨9,portOf d.map p.frm⟩ }):=by
    simp only[q6w];rw[if_neg hk2,q72 _ _ p ⟨9,portOf d.map p.frm⟩]
   rintro res out (⟨h,rfl,rfl⟩|⟨h,rfl,rfl⟩)
   all_goals
    simp only[hg] at h ⊢
    generalize hP:put d.map (Flw.at d k).up p.at_ p.text true=P at *
    obtain⟨m',s',ok'⟩:=P
    simp only at h hko
    subst h
    simp only[go_sem]
   ·rw[if_pos rfl] at hko
    rw[hko]
    with_reducible repeat' (first|refine br ?_ ?_<;>intro h e<;>(try simp only[e,go_sem])<;>clear e|rw[q01 (by omega)]|refine sd ?_<;>try simp only[go_sem]|fail)
    refine q0v _ _ [] ?_ (q4c q5b) ?_ (by simp[q0r,q0b]) (by simp only[go_sem])
    ·simp only[go_sem]
    ·simp only[go_sem]
   ·rw[if_neg (by simp),q64] at hko
    rw[hko]
    with_reducible repeat' (first|refine br ?_ ?_<;>intro h e<;>(try simp only[e,go_sem])<;>clear e|rw[q01 (by omega)]|refine sd ?_<;>try simp only[go_sem]|fail)
    refine q0v _ _ [] ?_ (q4c (q6r ⟨m',d.flows.set k { Flw.at d k with up:=s' }⟩ _ _)) ?_ (by simp[q0r,q0b]) (by simp only[go_sem])
    ·simp only[go_sem]
    ·simp only[go_sem,List.map_set,List.length_set]
 | none =>
   simp only[ixI,go_sem]
   with_reducible repeat' (first|refine br ?_ ?_<;>intro h e<;>(try simp only[e,go_sem])<;>clear e|rw[q01 (by omega)]|refine sd ?_<;>try simp only[go_sem]|fail)
   have f9:=c205 d.map p.frm.a p.frm.p hmp (by omega)
   have no:∀l mm,q8h d p=(d,none)→q0e l 4=.pv 1004 0→q0e l 5=.bool false→q09 mm 1004=.var 65 (Pk.row .zero)→q09 mm 0=.var 33 [.own 2 u.convs.length,.sl 3 (d.map.map Pair.row),.own 1 d.flows.length,.own 3 u.nets.length]→q09 mm 1=.arr 169 8 (d.flows.map Flw.row)→q09 mm 2=.arr 69 10 (u.convs.map Conv.row)→q09 mm 3=.arr 65 7 (u.nets.map Pk.row) →
    q50 [.cell 4 7 true,.t 5] 1 (outX u (q8h d p)) .ret ⟨q0e l,q09 mm⟩:=λl mm hx h1 h2 h3 h4 h5 h6 h7=>by
    rw[hx]
    refine q0v _ _ [] ?_ (q4c q5b) ?_ (by simp[q0r,q0b]) (by simp only[go_sem])
    ·simp only[go_sem,h1,h2,h3]
    ·simp only[go_sem,h4,h5,h6,h7]
   refine q0s f9 rfl rfl ?_
   simp only[go_sem]
   cases hok:(mOut d.map p.frm).2.2 with
   | false =>
     rw[q8l hf hok] at hno
     simp only[go_sem]
     with_reducible repeat' (first|refine br ?_ ?_<;>intro h e<;>(try simp only[e,go_sem])<;>clear e|rw[q01 (by omega)]|refine sd ?_<;>try simp only[go_sem]|fail)
     exact no _ _ (hno rfl) (by simp only[go_sem]) (by simp only[go_sem]) (by simp only[go_sem,Pk.zero,E.zero]) (by simp only[go_sem]) (by simp only[go_sem]) (by simp only[go_sem]) (by simp only[go_sem])
   | true =>
     simp only[go_sem]
     with_reducible repeat' (first|refine br ?_ ?_<;>intro h e<;>(try simp only[e,go_sem])<;>clear e|rw[q01 (by omega)]|refine sd ?_<;>try simp only[go_sem]|fail)
     ·rw[qd1 hf (by omega)] at hno
      exact no _ _ (hno rfl) (by simp only[go_sem]) (by simp only[go_sem]) (by simp only[go_sem,Pk.zero,E.zero]) (by simp only[go_sem]) (by simp only[go_sem]) (by simp only[go_sem]) (by simp only[go_sem])
     rw[q4v hf hok (by omega)] at hyes hout
     obtain⟨x1,x2,x3,x4,x5,x6,x7,x8⟩:=hyes rfl
     have hout:=hout rfl
     simp only at x1 x2 x3 x4 x5 x6 x7 x8 hout
     rw[hout]
     have hm2:=(q0c x1).2
     have hpa:=hp.at_
     have hpl:=hp.len
     have hg:Flw.at ⟨(mOut d.map p.frm).1,d.flows++[Flw.mk p.frm p.to .zero .zero]⟩ d.flows.length=Flw.mk p.frm p.to .zero .zero:=by simp[Flw.at,List.getD]
     have hx:∀R:List V,((d.flows.map Flw.row)++[R]).getD d.flows.length []=R:=λR=>qf5 _ _ (by simp) _
     have f0:=c128 (mOut d.map p.frm).1 p.frm.a p.frm.p (by omega)
     generalize hM:(mOut d.map p.frm).1=M at *
     with_reducible repeat' (first|refine br ?_ ?_<;>intro h e<;>(try simp only[e,go_sem,hx])<;>clear e|rw[q01 (by omega)]|refine sd ?_<;>try simp only[go_sem,hx]|(first|refine cr (f0 ..) ?_)<;>try simp only[go_sem,hx]|fail)
     all_goals
      refine effG (by simp only[zA,List.length_map,zC,zN];omega) ?_
      simp only[go_sem,hx]
      with_reducible repeat' (first|refine br ?_ ?_<;>intro h e<;>(try simp only[e,go_sem,hx])<;>clear e|rw[q01 (by omega)]|refine sd ?_<;>try simp only[go_sem,hx]|fail)
     ·have f1:=c206 .zero { p with frm:=⟨9,portOf M p.frm⟩ } (q0k q2k) (by simp only;omega)
      refine q0l f1 [] true (by simp only[go_sem,Strm.zero]) (by simp) rfl (.inl rfl) ?_
      simp only[go_sem]
      with_reducible repeat' (first|refine br ?_ ?_<;>intro h e<;>(try simp only[e,go_sem,hx])<;>clear e|rw[q01 (by omega)]|refine sd ?_<;>try simp only[go_sem,hx]|fail)
      have hx2:∀b,(q33 .zero { p with frm:=⟨9,portOf M p.frm⟩ }).2=b→q6w ⟨M,d.flows++[Flw.mk p.frm p.to .zero .zero]⟩ d.flows.length p=(⟨M,d.flows++[Flw.mk p.frm p.to .zero .zero]⟩,if b then some (q33 .zero { p with frm:=⟨9,portOf M p.frm⟩ }).1 else none):=λb hb=>by
       subst hb
       have hk2:p.kind=2:=by assumption
       simp only[q6w,q33,hg]
       rw[if_pos hk2]
       by_cases hc:p.at_>((sOut .zero).length:Int)
       ·rw[if_pos hc,if_pos hc];rfl
       ·rw[if_neg hc,if_neg hc,hp.ack hk2,hk2];rfl
      generalize hA:q33 .zero { p with frm:=⟨9,portOf M p.frm⟩ }=A at *
      obtain⟨q,ok⟩:=A
      have hx2:=hx2 _ rfl
      simp only at hx2
      rw[hx2]
      refine q0v _ _ [(1,1062)] ?_ ⟨_,q6r ⟨M,d.flows++[Flw.mk p.frm p.to .zero .zero]⟩ q ok,qkq u M d.flows p.frm p.to⟩ ?_ (by simp[q0r,q0b]) (by simp only[go_sem])
      ·simp only[go_sem]
      ·simp only[go_sem];simp
     have hk2:¬p.kind=2:=by assumption
     have htx:=hp.tx.resolve_left hk2
     refine q0f (FnP.rowsIn (qk5 u M (d.flows++[Flw.mk p.frm p.to .zero .zero]) d.flows.length { p with frm:=⟨9,portOf M p.frm⟩ } true x1 x4 x6 ⟨hp.at_,hp.len,hp.tx,hp.ack,hp.kd⟩ htx) (qkq u M d.flows p.frm p.to)) [0,1062,2,3] [] true 98 4 (by simp only[go_sem];first|done|simp) (by simp only[go_sem];first|done|simp) (by simp) (by simp) (by simp) ?_ ?_ ?_
     ·rintro res out (⟨_,rfl,rfl⟩|⟨_,rfl,rfl⟩)
      ·exact⟨by simp,by simp,.inl rfl,λi hi=>by rcases(show i=0∨i=1∨i=2∨i=3 by omega) with rfl|rfl|rfl|rfl<;>simp[chH,q07]⟩
      ·exact⟨by simp,by simp,.inl rfl,λi hi=>by rcases(show i=0∨i=1∨i=2∨i=3 by omega) with rfl|rfl|rfl|rfl<;>simp[chH,q07]⟩
     ·intro i hi
      rcases(show i=0∨i=1∨i=2∨i=3 by omega) with rfl|rfl|rfl|rfl<;>simp only[go_sem]
     have hgd:(d.flows++[Flw.mk p.frm p.to .zero .zero]).getD d.flows.length default=Flw.mk p.frm p.to .zero .zero:=hg
     have hko:q6w ⟨M,d.flows++[Flw.mk p.frm p.to .zero .zero]⟩ d.flows.length p=if(put M .zero p.at_ p.text true).2.2=false then(⟨M,d.flows++[Flw.mk p.frm p.to .zero .zero]⟩,none)
      else(⟨(put M .zero p.at_ p.text true).1,(d.flows++[Flw.mk p.frm p.to .zero .zero]).set d.flows.length { Flw.mk p.frm p.to .zero .zero with up:=(put M .zero p.at_ p.text true).2.1 }⟩,
       q1n .zero (put M .zero p.at_ p.text true).2.1 { p with frm:=⟨9,portOf M p.frm⟩ }):=by
      simp only[q6w,hg];rw[if_neg hk2,q72 _ _ p ⟨9,portOf M p.frm⟩]
     rintro res out (⟨h,rfl,rfl⟩|⟨h,rfl,rfl⟩)
     all_goals
      simp only[hgd] at h ⊢
      generalize hP:put M .zero p.at_ p.text true=P at *
      obtain⟨m',s',ok'⟩:=P
      simp only at h hko
      subst h
      simp only[go_sem]
     ·rw[if_pos rfl] at hko
      rw[hko]
      with_reducible repeat' (first|refine br ?_ ?_<;>intro h e<;>(try simp only[e,go_sem])<;>clear e|rw[q01 (by omega)]|refine sd ?_<;>try simp only[go_sem]|fail)
      refine q0v _ _ [(1,1062)] ?_ (q4c q5b) ?_ (by simp[q0r,q0b]) (by simp only[go_sem])
      ·simp only[go_sem]
      ·simp only[go_sem]
     ·rw[if_neg (by simp),q64] at hko
      rw[hko]
      with_reducible repeat' (first|refine br ?_ ?_<;>intro h e<;>(try simp only[e,go_sem])<;>clear e|rw[q01 (by omega)]|refine sd ?_<;>try simp only[go_sem]|fail)
      refine q0v _ _ [(1,1062)] ?_ (q4c (q6r ⟨m',(d.flows++[Flw.mk p.frm p.to .zero .zero]).set d.flows.length { Flw.mk p.frm p.to .zero .zero with up:=s' }⟩ _ _)) ?_ (by simp[q0r,q0b]) (by simp only[go_sem])
      ·simp only[go_sem]
      ·simp only[go_sem,List.map_set,List.length_set]
theorem w129 (u:M.World) (d:Door) (p:Pk) (hd:doorOk d=true) (hp:PkP p):FnP Tryz.prog G 129 1 [.var 33 [.own 2 u.convs.length,.sl 3 (d.map.map Pair.row),.own 1 d.flows.length,.own 3 u.nets.length],.arr 169 8 (d.flows.map Flw.row),.arr 69 10 (u.convs.map Conv.row),.arr 65 7 (u.nets.map Pk.row)]
 [.pv 0 1,.agg [.int .i64 p.kind,.int .i64 p.frm.a,.int .i64 p.frm.p,.int .i64 p.to.a,.int .i64 p.to.p,.int .i64 p.at_,.str p.text]] (qkr u (q1a d p)):=by
 refine mP dg129 Tryz.ntmps129 ?_ ?_
 ·exact⟨_,_,(q1a d p).2.getD .zero,rfl,λq' h=>by rw[h];rfl,rfl⟩
 have b1:=c169 p
 have b2:=c74 p
 simp only[qu9,go_sem]
 with_reducible repeat' (first|refine br ?_ ?_<;>intro h e<;>(try simp only[e,go_sem])<;>clear e|rw[q01 (by omega)]|refine sd ?_<;>try simp only[go_sem]|(first|refine cr (b1 ..) ?_|refine cr (b2 ..) ?_)<;>try simp only[go_sem]|fail)
 ·have hx:q1a d p=q8h d p:=by simp_all[q1a]
  rw[hx]
  have hio:p.frm.inside=true∧p.to.outside=true:=by simp_all[Pk.outward]
  refine q0f (w170 u d p hd hp hio.1 hio.2) [0,1,2,3] [] true 11 4 (by simp only[go_sem];first|done|simp) (by simp only[go_sem];first|done|simp) (by simp) (by simp) (by simp) ?_ ?_ ?_
  ·rintro res out ⟨q,rfl,hq,rfl⟩
   exact⟨by simp,by simp,.inl rfl,λi hi=>by obtain rfl:i=0:=(by omega);simp[chH,q07]⟩
  ·intro i hi
   rcases(show i=0∨i=1∨i=2∨i=3 by omega) with rfl|rfl|rfl|rfl<;>simp only[go_sem]
  rintro res out ⟨q,rfl,hq,rfl⟩
  simp only[go_sem]
  refine q0v _ _ [(1,101101),(2,101102),(3,101103)] ?_ ⟨q,rfl,hq,rfl⟩ ?_ (by simp[q0r,q0b]) (by simp only[go_sem])
  ·simp only[go_sem]
  ·simp only[go_sem]
 ·have hx:q1a d p=dIn d p:=by simp_all[q1a]
  rw[hx]
  refine q0f (w171 u d p hd hp) [0,1,2,3] [] true 19 4 (by simp only[go_sem];first|done|simp) (by simp only[go_sem];first|done|simp) (by simp) (by simp) (by simp) ?_ ?_ ?_
  ·rintro res out ⟨q,rfl,hq,rfl⟩
   exact⟨by simp,by simp,.inl rfl,λi hi=>by obtain rfl:i=0:=(by omega);simp[chH,q07]⟩
  ·intro i hi
   rcases(show i=0∨i=1∨i=2∨i=3 by omega) with rfl|rfl|rfl|rfl<;>simp only[go_sem]
  rintro res out ⟨q,rfl,hq,rfl⟩
  simp only[go_sem]
  refine q0v _ _ [(1,101901),(2,101902),(3,101903)] ?_ ⟨q,rfl,hq,rfl⟩ ?_ (by simp[q0r,q0b]) (by simp only[go_sem])
  ·simp only[go_sem]
  ·simp only[go_sem]
 ·have hx:q1a d p=(d,none):=by simp_all[q1a]
  rw[hx]
  refine q0v _ _ [] ?_ q5b ?_ (by simp[q0r,q0b]) (by simp only[go_sem])
  ·simp only[go_sem,Pk.zero,E.zero]
  ·simp only[go_sem]
def qwy:IC:=sR [oP 2 (.mv cF)] (sR [mV 3 0,oP 4 (.lens (.t 3)),oP 5 (.bin .leq (.t 4) (cI 24)),mV 6 5,gT 7 6 (.mv (.t 0)),gT 8 6 (.call 134 [.t 7]),pF 9 6 8,mV 10 9,gT 11 10 (.mv (.t 0)),gT 12 10 (.call 165 [.t 11]),gT 13 10 (.bin .eql (.t 12) (.c i0)),pF 14 10 13,mV 2 14] .ret)
theorem dg122:Dg Tryz.prog 122 Tryz.f122 qwy [(.t 2)]:=⟨Tryz.func122,by kernel_rfl,by kernel_rfl⟩
theorem c122 (t:B) (hl:t.length≤2000000):FnR Tryz.prog G 122 [.str t] (.bool (q42 t)):=by
 refine mF dg122 Tryz.ntmps122 ?_
 simp only[qwy,go_sem]
 have c1:=qpa t hl
 have c2:=c165 t hl
 with_reducible repeat' (first|refine br ?_ ?_<;>intro h e<;>(try simp only[e,go_sem])<;>clear e|rw[q01 (by omega)]|refine sd ?_<;>try simp only[go_sem]|(first|refine cr (c1 ..) ?_|refine cr (c2 ..) ?_)<;>try simp only[go_sem]|fail)
 all_goals simp_all[q42]
 all_goals omega
theorem q3p {α:Type} {P:α→Bool} {l:List α} (h:l.any P=false):l.findIdx? P=none:=List.findIdx?_eq_none_iff.2 λx hx=>by simpa using List.any_eq_false.1 h x hx
theorem q48 {α:Type} {P:α→Bool} {l:List α} {k:Nat} (hk:k<l.length) (h:(l.take k).any P=false) (hp:P l[k]=true):l.findIdx? P=some k:=by
 refine List.findIdx?_eq_some_iff_getElem.2 ⟨hk,hp,λj hj=>?_⟩
 have:=List.any_eq_false.1 h l[j] (List.mem_iff_getElem?.2 ⟨j,by rw[List.getElem?_take,if_pos hj];exact zE _⟩)
 simpa using this
theorem q5y {α:Type} {P:α→Bool} {l:List α} {k:Nat} (hk:k<l.length) (h:(l.take k).any P=false) (hp:P l[k]=false):(l.take (k+1)).any P=false:=by
 rw[List.take_add_one,zE hk]
 simp only[Option.toList_some,List.any_append,h,List.any_cons,List.any_nil,Bool.or_false,Bool.false_or,hp]
theorem qa8 {α:Type} {P:α→Bool} {l:List α}:decide (0≤ixI (l.findIdx? P))=l.any P:=by
 cases h:l.any P with
 | false=>rw[q3p h];rfl
 | true =>
   obtain⟨x,hx,hp⟩:=List.any_eq_true.1 h
   cases hf:l.findIdx? P with
   | none=>have:=List.findIdx?_eq_none_iff.1 hf x hx;rw[hp] at this;cases this
   | some k=>simp[ixI]
def qul:IC:=sR [oP 4 (.mv (.c i0))] (.seq (sR [mV 6 0,oP 7 (.len (.t 6)),oP 8 (.mv (.c i0))] (.block 0 (.loop (sR [bN 9 .lss 8 7] (.seq (cD 9 .skip (.exit 0)) (.seq (.block 1 (sR [mV 10 8,mV 5 10] (sR [mV 11 1,mV 12 0,mV 13 5,oP 14 (.iad 2 (.t 12) (.t 13)),lA 15 2 14,oP 16 (.cal (.t 11) [.t 15])] (cD 16 (sR [mV 17 5,mV 4 17] .ret) .skip)))) (.reg [oP 18 (.bin .add (.t 8) (cI 1)),mV 8 18]))))))) (sR [oP 4 (.mv (.c (.int .i64 (-1))))] .ret))
theorem dg166:Dg Tryz.prog 166 Tryz.f166 qul [(.t 4)]:=⟨Tryz.func166,by kernel_rfl,by kernel_rfl⟩
theorem c166 (l:List E) (hl:l.length≤2000000):FnR Tryz.prog G 166 [.sl 2 (l.map E.row),.fn 125 []] (.int .i64 (ixI (l.findIdx? E.door))):=by
 refine mF dg166 Tryz.ntmps166 ?_
 simp only[qul,go_sem]
 refine q0h (λk:Nat=>⟨q0e [(0,.sl 2 (l.map E.row)),(1,.fn 125 []),(7,.int .i64 l.length),(8,.int .i64 (k:Int))],q09 []⟩) (λk=>l.length - k)
  (λk=>k≤l.length∧(l.take k).any E.door=false) 0 (leQ []) ⟨Nat.zero_le _,by simp⟩ ?_
 intro k ⟨hk,ha⟩
 simp only[go_sem]
 by_cases h:(k:Int)<l.length
 ·have hil:k<l.length:=by omega
  have hg:l.getD k default=l[k]:=by simp[List.getD,hil]
  have hy:=q48 hil ha
  have hs:=q5y hil ha
  simp only[eq_true h,go_sem]
  with_reducible repeat' (first|refine br ?_ ?_<;>intro h e<;>(try simp only[e,go_sem,hg])<;>clear e|rw[q01 (by omega)]|refine sd ?_<;>try simp only[go_sem,hg]|(first|refine cr (qg8 ..) ?_)<;>try simp only[go_sem,hg]|fail)
  ·rw[hy (by assumption)];rfl
  ·exact⟨k+1,by omega,⟨by omega,hs (by assumption)⟩,(leQ [])⟩
 ·simp only[eq_false h,go_sem]
  have:k=l.length:=by omega
  subst this
  rw[List.take_length] at ha
  rw[q3p ha];rfl
def qsa:IC:=sR [oP 4 (.mv cF)] (sR [mV 5 0,mV 6 1,oP 7 (.call 166 [.t 5,.t 6]),oP 8 (.bin .geq (.t 7) (.c i0)),mV 4 8] .ret)
theorem dg123:Dg Tryz.prog 123 Tryz.f123 qsa [(.t 4)]:=⟨Tryz.func123,by kernel_rfl,by kernel_rfl⟩
theorem c123 (l:List E) (hl:l.length≤2000000):FnR Tryz.prog G 123 [.sl 2 (l.map E.row),.fn 125 []] (.bool (l.any E.door)):=by
 refine mF dg123 Tryz.ntmps123 ?_
 simp only[qsa,go_sem]
 refine q0s (c166 l hl) rfl rfl ?_
 simp only[go_sem,qa8]
theorem qig {t:B} (hl:t.length≤2000000):(q18 t).length≤2000000:=by
 have h1:=q21 t
 have h2:=q61 (q19 t)
 unfold q18;omega
def ic63:IC:=sR [oP 4 (.box 63 (.t 0)),oP 5 (.box 63 (.t 1)),oP 8 (.alloc 69 [i0,i0,i0,i0,s0,s0,i0,i0,s0,s0]),oP 9 (.mv cF)] (.seq (sR [lA 10 2 4,oP 11 (.call 120 [.t 10]),oP 12 (.un .not (.t 11)),mV 13 12,gF 14 13 (.ld 2 true (.t 5)),gF 15 13 (.call 121 [.t 14]),gF 16 13 (.un .not (.t 15)),pT 17 13 16,mV 18 17,gF 19 18 (.mv (.t 2)),gF 20 18 (.call 122 [.t 19]),gF 21 18 (.un .not (.t 20)),pT 22 18 21,mV 23 22,gF 24 23 (.mv (.t 3)),gF 25 23 (.call 122 [.t 24]),gF 26 23 (.un .not (.t 25)),pT 27 23 26,mV 28 27,gF 29 28 (.mv (.t 2)),gF 30 28 (.call 124 [.t 29]),gF 31 28 (.call 123 [.t 30,.c (.fn 125 [])]),pT 32 28 31] (cD 32 (sR [oP 33 (.build [i0,i0,i0,i0,s0,s0,i0,i0,s0,s0] []),nP (.sto 10 (.t 8) (.t 33)),oP 9 (.mv cF)] .ret) .skip)) (sR [lA 34 2 4,lA 35 2 5,mV 36 2,mV 37 3,oP 38 (.build [i0,i0,i0,i0,s0,s0,i0,i0,s0,s0] [(0,(2,.t 34)),(2,(2,.t 35)),(4,(1,.t 36)),(5,(1,.t 37))]),nP (.sto 10 (.t 8) (.t 38)),oP 9 (.mv cT)] .ret))
theorem dg63:Dg Tryz.prog 63 Tryz.f63 ic63 [(.cell 8 10 true),(.t 9)]:=⟨Tryz.func63,by kernel_rfl,by kernel_rfl⟩
theorem c63 (i o:E) (up down:B) (h1:up.length≤2000000) (h2:down.length≤2000000):FnR Tryz.prog G 63 [.agg [.int .i64 i.a,.int .i64 i.p],.agg [.int .i64 o.a,.int .i64 o.p],.str up,.str down]
 (.tup [.agg (Conv.row ((q1f i o up down).getD .zero)),.bool (q1f i o up down).isSome]):=by
 refine mF dg63 Tryz.ntmps63 ?_
 simp only[ic63,go_sem]
 have c1:=c122 up h1
 have c2:=c122 down h2
 have c3:=c124 up h1
 have c4:=c123 (q18 up) (qig h1)
 have ho:qv5 up=!(q18 up).any E.door:=rfl
 generalize (q18 up).any E.door=nd at *
 with_reducible repeat' (first|refine br ?_ ?_<;>intro h e<;>(try simp only[e,go_sem])<;>clear e|rw[q01 (by omega)]|refine sd ?_<;>try simp only[go_sem]|(first|refine cr (qwj ..) ?_|refine cr (c121 ..) ?_|refine cr (c1 ..) ?_|refine cr (c2 ..) ?_|refine cr (c3 ..) ?_|refine cr (c4 ..) ?_)<;>try simp only[go_sem]|fail)
 all_goals simp_all[q1f,Conv.zero,E.zero]
def qp9:IC:=sR [oP 1 (.box 69 (.t 0)),oP 2 (.mv cF)] (sR [fD 6 0 1,lA 7 2 6,fD 8 2 1,lA 9 2 8,fD 10 4 1,lD 11 1 10,fD 12 5 1,lD 13 1 12,oP 14 (.call 63 [.t 7,.t 9,.t 11,.t 13]),mV 5 14,eX 15 5 0,eX 16 5 1,oP 3 (.alloc 69 [i0,i0,i0,i0,s0,s0,i0,i0,s0,s0]),nP (.sto 10 (.t 3) (.t 15)),mV 4 16] (sR [mV 17 4,mV 18 17,gT 19 18 (.fad 6 (.t 1)),gT 20 18 (.ld 1 false (.t 19)),gT 21 18 (.fad 4 (.t 1)),gT 22 18 (.ld 1 false (.t 21)),gT 23 18 (.lens (.t 22)),gT 24 18 (.call 65 [.t 20,.c i0,.t 23]),pF 25 18 24,mV 26 25,gT 27 26 (.fad 7 (.t 1)),gT 28 26 (.ld 1 false (.t 27)),gT 29 26 (.fad 5 (.t 1)),gT 30 26 (.ld 1 false (.t 29)),gT 31 26 (.lens (.t 30)),gT 32 26 (.call 65 [.t 28,.c i0,.t 31]),pF 33 26 32,mV 34 33,gT 35 34 (.fad 8 (.t 1)),gT 36 34 (.ld 1 false (.t 35)),gT 37 34 (.call 134 [.t 36]),pF 38 34 37,mV 39 38,gT 40 39 (.fad 9 (.t 1)),gT 41 39 (.ld 1 false (.t 40)),gT 42 39 (.call 134 [.t 41]),pF 43 39 42,mV 2 43] .ret))
theorem dg126:Dg Tryz.prog 126 Tryz.f126 qp9 [(.t 2)]:=⟨Tryz.func126,by kernel_rfl,by kernel_rfl⟩
theorem c126 (c:Conv) (h1:c.up.length≤2000000) (h2:c.down.length≤2000000) (h3:c.upGot.length≤2000000) (h4:c.downGot.length≤2000000):FnR Tryz.prog G 126 [.agg [.int .i64 c.ins.a,.int .i64 c.ins.p,.int .i64 c.out.a,.int .i64 c.out.p,.str c.up,.str c.down,.int .i64 c.upAck,.int .i64 c.downAck,.str c.upGot,.str c.downGot]] (.bool (convOk c)):=by
 refine mF dg126 Tryz.ntmps126 ?_
 simp only[qp9,go_sem]
 refine q0s (c63 c.ins c.out c.up c.down h1 h2) rfl rfl ?_
 simp only[go_sem]
 have c1:=qpa c.upGot h3
 have c2:=qpa c.downGot h4
 with_reducible repeat' (first|refine br ?_ ?_<;>intro h e<;>(try simp only[e,go_sem])<;>clear e|rw[q01 (by omega)]|refine sd ?_<;>try simp only[go_sem]|(first|refine cr (c65 ..) ?_|refine cr (c1 ..) ?_|refine cr (c2 ..) ?_)<;>try simp only[go_sem]|fail)
 all_goals simp_all[convOk]
theorem q28 {t:B} {n k:Int} (hn:0≤n) (hk:0≤k):(t.take (n+k).toNat).drop n.toNat=(t.drop n.toNat).take k.toNat:=by
 rw[List.drop_take];congr 1;omega
def qad (c o:Conv):Bool:=decide (o.ins=c.ins)||decide (o.out=c.out)
def qsp:IC:=sR [oP 2 (.box 69 (.t 0)),oP 3 (.mv cF)] (sR [fD 4 0 2,lA 5 2 4,fD 6 0 1,lA 7 2 6,oP 8 (.eqs false [.i,.i] (.t 5) (.t 7)),mV 9 8,gF 10 9 (.fad 2 (.t 2)),gF 11 9 (.ld 2 true (.t 10)),gF 12 9 (.fad 2 (.t 1)),gF 13 9 (.ld 2 true (.t 12)),gF 14 9 (.eqs false [.i,.i] (.t 11) (.t 13)),pT 15 9 14,mV 3 15] .ret)
theorem dg127:Dg Tryz.prog 127 Tryz.f127 qsp [(.t 3)]:=⟨Tryz.func127,by kernel_rfl,by kernel_rfl⟩
theorem c127 (o c:Conv):FnR Tryz.prog G 127 [.agg [.int .i64 o.ins.a,.int .i64 o.ins.p,.int .i64 o.out.a,.int .i64 o.out.p,.str o.up,.str o.down,.int .i64 o.upAck,.int .i64 o.downAck,.str o.upGot,.str o.downGot],.iptr [.int .i64 c.ins.a,.int .i64 c.ins.p,.int .i64 c.out.a,.int .i64 c.out.p,.str c.up,.str c.down,.int .i64 c.upAck,.int .i64 c.downAck,.str c.upGot,.str c.downGot] 0] (.bool (qad c o)):=by
 refine mF dg127 Tryz.ntmps127 ?_
 simp only[qsp,go_sem,E.ext_iff']
 with_reducible repeat' (first|refine br ?_ ?_<;>intro h e<;>(try simp only[e,go_sem,E.ext_iff'])<;>clear e|rw[q01 (by omega)]|refine sd ?_<;>try simp only[go_sem,E.ext_iff']|fail)
 all_goals simp_all[qad]
def qmb:IC:=sR [oP 4 (.mv (.c i0))] (.seq (sR [mV 6 0,oP 7 (.len (.t 6)),oP 8 (.mv (.c i0))] (.block 0 (.loop (sR [bN 9 .lss 8 7] (.seq (cD 9 .skip (.exit 0)) (.seq (.block 1 (sR [mV 10 8,mV 5 10] (sR [mV 11 1,mV 12 0,mV 13 5,oP 14 (.iad 10 (.t 12) (.t 13)),lA 15 10 14,oP 16 (.cal (.t 11) [.t 15])] (cD 16 (sR [mV 17 5,mV 4 17] .ret) .skip)))) (.reg [oP 18 (.bin .add (.t 8) (cI 1)),mV 8 18]))))))) (sR [oP 4 (.mv (.c (.int .i64 (-1))))] .ret))
theorem qqw:Dg Tryz.prog 132 Tryz.f132 qmb [(.t 4)]:=⟨Tryz.func132,by kernel_rfl,by kernel_rfl⟩
theorem c132T (l:List Conv) (c:Conv) (hl:l.length≤2000000):FnR Tryz.prog G 132 [.sl 10 (l.map Conv.row),.fn 127 [.iptr [.int .i64 c.ins.a,.int .i64 c.ins.p,.int .i64 c.out.a,.int .i64 c.out.p,.str c.up,.str c.down,.int .i64 c.upAck,.int .i64 c.downAck,.str c.upGot,.str c.downGot] 0]] (.int .i64 (ixI (l.findIdx? (qad c)))):=by
 refine mF qqw Tryz.ntmps132 ?_
 simp only[qmb,go_sem]
 refine q0h (λk:Nat=>⟨q0e [(0,.sl 10 (l.map Conv.row)),(1,.fn 127 [.iptr [.int .i64 c.ins.a,.int .i64 c.ins.p,.int .i64 c.out.a,.int .i64 c.out.p,.str c.up,.str c.down,.int .i64 c.upAck,.int .i64 c.downAck,.str c.upGot,.str c.downGot] 0]),(7,.int .i64 l.length),(8,.int .i64 (k:Int))],q09 []⟩) (λk=>l.length - k)
  (λk=>k≤l.length∧(l.take k).any (qad c)=false) 0 (leQ []) ⟨Nat.zero_le _,by simp⟩ ?_
 intro k ⟨hk,ha⟩
 simp only[go_sem]
 by_cases h:(k:Int)<l.length
 ·have hil:k<l.length:=by omega
  have hg:l.getD k default=l[k]:=by simp[List.getD,hil]
  have hy:=q48 hil ha
  have hs:=q5y hil ha
  simp only[eq_true h,go_sem]
  refine effG (by omega) ?_
  simp only[hg,go_sem]
  refine q0s (c127 l[k] c) rfl rfl ?_
  simp only[go_sem]
  with_reducible repeat' (first|refine br ?_ ?_<;>intro h e<;>(try simp only[e,go_sem])<;>clear e|rw[q01 (by omega)]|refine sd ?_<;>try simp only[go_sem]|fail)
  ·rw[hy (by assumption)];rfl
  ·exact⟨k+1,by omega,⟨by omega,hs (by assumption)⟩,(leQ [])⟩
 ·simp only[eq_false h,go_sem]
  have:k=l.length:=by omega
  subst this
  rw[List.take_length] at ha
  rw[q3p ha];rfl
def ic71:IC:=sR [oP 4 (.mv cF)] (sR [mV 5 0,mV 6 1,oP 7 (.call 132 [.t 5,.t 6]),oP 8 (.bin .geq (.t 7) (.c i0)),mV 4 8] .ret)
theorem dg71:Dg Tryz.prog 71 Tryz.f71 ic71 [(.t 4)]:=⟨Tryz.func71,by kernel_rfl,by kernel_rfl⟩
theorem c71T (l:List Conv) (c:Conv) (hl:l.length≤2000000):FnR Tryz.prog G 71 [.sl 10 (l.map Conv.row),.fn 127 [.iptr [.int .i64 c.ins.a,.int .i64 c.ins.p,.int .i64 c.out.a,.int .i64 c.out.p,.str c.up,.str c.down,.int .i64 c.upAck,.int .i64 c.downAck,.str c.upGot,.str c.downGot] 0]] (.bool (l.any (qad c))):=by
 refine mF dg71 Tryz.ntmps71 ?_
 simp only[ic71,go_sem]
 refine q0s (c132T l c hl) rfl rfl ?_
 simp only[go_sem,qa8]
theorem q63 {cs:List Conv} {k:Nat} (h:k<cs.length) (hb:q6h cs k=false):q16 cs=false:=by
 cases ht:q16 cs with
 | false=>rfl
 | true=>rw[(q25.1 ht).2 k h] at hb;cases hb
def ic64:IC:=sR [oP 2 (.mv cF)] (.seq (sR [mV 5 0,oP 6 (.len (.t 5)),oP 7 (.mv (.c i0))] (.block 0 (.loop (sR [bN 8 .lss 7 6] (.seq (cD 8 .skip (.exit 0)) (.seq (.block 1 (sR [mV 9 7,oP 10 (.iad 10 (.t 5) (.t 7)),lA 11 10 10,oP 4 (.alloc 69 [i0,i0,i0,i0,s0,s0,i0,i0,s0,s0]),mV 3 9,nP (.sto 10 (.t 4) (.t 11))] (sR [lA 12 10 4,oP 13 (.call 126 [.t 12]),oP 14 (.un .not (.t 13)),mV 15 14,gF 16 15 (.mv (.t 0)),gF 17 15 (.mv (.t 3)),gF 18 15 (.slv 10 (.t 16) none (some (.t 17))),gF 19 15 (.mkf 127 [.t 4]),gF 20 15 (.call 71 [.t 18,.t 19]),pT 21 15 20] (cD 21 (sR [oP 2 (.mv cF)] .ret) .skip)))) (.reg [oP 22 (.bin .add (.t 7) (cI 1)),mV 7 22]))))))) (sR [mV 23 0,oP 24 (.len (.t 23)),oP 25 (.bin .leq (.t 24) (cI 2)),mV 2 25] .ret))
theorem dg64:Dg Tryz.prog 64 Tryz.f64 ic64 [(.t 2)]:=⟨Tryz.func64,by kernel_rfl,by kernel_rfl⟩
theorem c64 (cs:List Conv) (hl:cs.length≤2000000) (hB:∀c∈cs,(c.up.length≤2000000∧c.down.length≤2000000)∧c.upGot.length≤2000000∧c.downGot.length≤2000000):FnR Tryz.prog G 64 [.sl 10 (cs.map Conv.row)] (.bool (q16 cs)):=by
 refine mF dg64 Tryz.ntmps64 ?_
 simp only[ic64,go_sem]
 refine q0h (λi:Nat=>⟨q0e [(0,.sl 10 (cs.map Conv.row)),(5,.sl 10 (cs.map Conv.row)),(6,.int .i64 cs.length),(7,.int .i64 (i:Int))],q09 []⟩) (λi=>cs.length - i) (λi=>i≤cs.length∧∀j,j<i→q6h cs j=true) 0 (leQ []) ⟨Nat.zero_le _,by omega⟩ ?_
 intro i ⟨hi,ha⟩
 simp only[go_sem]
 by_cases h:(i:Int)<cs.length
 ·have hil:i<cs.length:=by omega
  have hg:cs.getD i default=cs[i]:=by simp[List.getD,hil]
  have hok:=q7y hil
  obtain⟨⟨b1,b2⟩,b3,b4⟩:=hB _ (List.getElem_mem hil)
  have c1:=c126 cs[i] b1 b2 b3 b4
  have c2:=c71T (cs.take i) cs[i] (by simp;omega)
  simp only[eq_true h,go_sem]
  with_reducible repeat' (first|refine br ?_ ?_<;>intro h e<;>(try simp only[e,go_sem,hg,q4a])<;>clear e|rw[q01 (by omega)]|refine sd ?_<;>try simp only[go_sem,hg,q4a]|(first|refine cr (c1 ..) ?_)<;>try simp only[go_sem,hg,q4a]|fail)
  ·exact q63 hil (by rw[hok];simp_all)
  refine q0l c2 [1004] true (by simp only[go_sem,List.mem_cons,true_or,or_true]) (by simp only[List.mem_singleton];rintro c rfl;rfl) rfl (.inl rfl) ?_
  have he:(cs.take i).any (λo=>decide (o.ins=cs[i].ins)||decide (o.out=cs[i].out))=(cs.take i).any (qad cs[i]):=rfl
  rw[he] at hok
  generalize (cs.take i).any (qad cs[i])=b at *
  simp only[go_sem]
  cases b<;>simp only[go_sem]
  ·with_reducible repeat' (first|refine br ?_ ?_<;>intro h e<;>(try simp only[e,go_sem])<;>clear e|rw[q01 (by omega)]|refine sd ?_<;>try simp only[go_sem]|fail)
   refine⟨i+1,by omega,⟨by omega,λj hj=>?_⟩,(leQ [])⟩
   rcases Nat.lt_or_ge j i with hji|hji
   ·exact ha j hji
   ·obtain rfl:j=i:=by omega
    rw[hok];simp_all
  ·exact q63 hil (by rw[hok];simp_all)
 ·simp only[eq_false h,go_sem]
  have:i=cs.length:=by omega
  subst this
  with_reducible repeat' (first|refine br ?_ ?_<;>intro h e<;>(try simp only[e,go_sem])<;>clear e|rw[q01 (by omega)]|refine sd ?_<;>try simp only[go_sem]|fail)
  have h1:=q25 (cs:=cs)
  by_cases h2:cs.length≤2
  ·rw[h1.2 ⟨h2,ha⟩];exact(decide_eq_true (by omega)).symm
  ·have:q16 cs=false:=by
    cases ht:q16 cs with
    | false=>rfl
    | true=>exact absurd (h1.1 ht).1 h2
   rw[this];exact(decide_eq_false (by omega)).symm
theorem qkm:qdg []=some (.tup []):=rfl
theorem qbi {c:Conv} {up:Bool} {port n m:Int} (h:q0m n 0 ((bif up then c.up else c.down).length - 1)=false∨m<1∨(up=false∧(⟨9,port⟩:E).door=false)):say c up port n m=none:=by
 unfold say
 cases up<;>simp only[cond_true,cond_false] at h<;>simp only[Bool.false_eq_true,if_false,if_true]<;>rw[if_neg]<;>simp only[Bool.and_eq_true,decide_eq_true_eq,not_and,Bool.or_eq_true,Bool.false_eq_true,false_or,true_or,not_true_eq_false]
 ·rintro⟨h1,h2⟩ h3
  rcases h with h|h|h
  ·rw[h1] at h;cases h
  ·omega
  ·rw[h.2] at h3;cases h3
 ·rintro h1
  rcases h with h|h|h
  ·rw[h1.1] at h;cases h
  ·omega
  ·cases h.1
theorem q7t {c:Conv} {up:Bool} {port n m:Int} (h1:q0m n 0 ((bif up then c.up else c.down).length - 1)=true) (h2:1≤m) (h3:up=true∨(⟨9,port⟩:E).door=true) :
 say c up port n m=some (bif up then⟨1,c.ins,c.out,n,(c.up.drop n.toNat).take (min m (c.up.length - n)).toNat⟩ else⟨1,c.out,⟨9,port⟩,n,(c.down.drop n.toNat).take (min m (c.down.length - n)).toNat⟩):=by
 unfold say
 cases up<;>simp only[cond_true,cond_false] at h1 ⊢<;>simp only[Bool.false_eq_true,if_false,if_true]<;>rw[if_pos]
 ·simp only[h1,Bool.true_and,Bool.and_eq_true,decide_eq_true_eq,Bool.false_or]
  exact⟨h2,h3.resolve_left (by simp)⟩
 ·simp only[h1,Bool.true_and,Bool.and_eq_true,decide_eq_true_eq,Bool.true_or,and_true]
  exact h2
def ic67:IC:=sR [oP 5 (.box 69 (.t 0)),oP 10 (.alloc 65 [i0,i0,i0,i0,i0,i0,s0]),oP 11 (.mv cF)] (sR [fD 14 0 5,lA 15 2 14,fD 16 2 5,lA 17 2 16,mV 18 3,oP 19 (.build [i0,i0,i0,i0,i0,i0,s0] [(0,(1,cI 1)),(1,(2,.t 15)),(3,(2,.t 17)),(5,(1,.t 18))]),oP 12 (.alloc 65 [i0,i0,i0,i0,i0,i0,s0]),nP (.sto 7 (.t 12) (.t 19))] (sR [fD 20 4 5,lD 21 1 20,mV 13 21] (.seq (sR [mV 22 1,oP 23 (.un .not (.t 22))] (cD 23 (sR [fD 24 2 5,lA 25 2 24,mV 26 2,oP 27 (.build [i0,i0] [(0,(1,cI 9)),(1,(1,.t 26))]),fD 28 1 12,nP (.sto 2 (.t 28) (.t 25)),fD 29 3 12,nP (.sto 2 (.t 29) (.t 27))] (.reg [fD 30 5 5,lD 31 1 30,mV 13 31])) .skip)) (.seq (sR [mV 32 3,mV 33 13,oP 34 (.lens (.t 33)),oP 35 (.bin .sub (.t 34) (cI 1)),oP 36 (.call 65 [.t 32,.c i0,.t 35]),oP 37 (.un .not (.t 36)),mV 38 37,gF 39 38 (.mv (.t 4)),gF 40 38 (.bin .lss (.t 39) (cI 1)),pT 41 38 40,mV 42 41,gF 43 42 (.mv (.t 1)),gF 44 42 (.un .not (.t 43)),gF 45 42 (.mv (.t 44)),gT 46 45 (.fad 3 (.t 12)),gT 47 45 (.ld 2 true (.t 46)),gT 48 45 (.call 125 [.t 47]),gT 49 45 (.un .not (.t 48)),gF 50 42 (.pick (.t 45) (.t 49) cF),pT 51 42 50] (cD 51 (sR [oP 52 (.build [i0,i0,i0,i0,i0,i0,s0] []),nP (.sto 7 (.t 10) (.t 52)),oP 11 (.mv cF)] .ret) .skip)) (sR [mV 53 13,mV 54 3,mV 55 3,mV 56 4,mV 57 13,oP 58 (.lens (.t 57)),mV 59 3,bN 60 .sub 58 59,oP 61 (.mn (.t 56) (.t 60)),bN 62 .add 55 61,oP 63 (.sls (.t 53) (some (.t 54)) (some (.t 62))),fD 64 6 12,nP (.sto 1 (.t 64) (.t 63))] (sR [lA 65 7 12,nP (.sto 7 (.t 10) (.t 65)),oP 11 (.mv cT)] .ret))))))
theorem dg67:Dg Tryz.prog 67 Tryz.f67 ic67 [(.cell 10 7 true),(.t 11)]:=⟨Tryz.func67,by kernel_rfl,by kernel_rfl⟩
theorem c67 (c:Conv) (up:Bool) (port n m:Int) (h1:c.up.length≤2000000) (h2:c.down.length≤2000000):FnR Tryz.prog G 67 [.agg [.int .i64 c.ins.a,.int .i64 c.ins.p,.int .i64 c.out.a,.int .i64 c.out.p,.str c.up,.str c.down,.int .i64 c.upAck,.int .i64 c.downAck,.str c.upGot,.str c.downGot],.bool up,.int .i64 port,.int .i64 n,.int .i64 m]
 (.tup [.agg (Pk.row ((say c up port n m).getD .zero)),.bool (say c up port n m).isSome]):=by
 refine mF dg67 Tryz.ntmps67 ?_
 simp only[ic67,go_sem]
 cases up<;>simp only[go_sem]
 ·have hno:=λh=>qbi (c:=c) (up:=false) (port:=port) (n:=n) (m:=m) h
  have hyes:=λh1 h2 h3=>q7t (c:=c) (up:=false) (port:=port) (n:=n) (m:=m) h1 h2 h3
  simp only[cond_false,true_and,Bool.false_eq_true,false_or] at hno hyes
  rw[q01 (by omega)]
  refine q0s (c65 n 0 ((c.down.length:Int) - 1)) rfl rfl ?_
  cases hw:q0m n 0 ((c.down.length:Int) - 1)<;>simp only[go_sem]
  ·rw[hno (.inl hw)];simp[Pk.zero,E.zero]
  have hw2:=M.within_iff.1 hw
  have w1:IntKind.i64.wrap ((c.down.length:Int) - n)=c.down.length - n:=q01 (by omega)
  have w2:1≤m→IntKind.i64.wrap (n+min m ((c.down.length:Int) - n))=n+min m ((c.down.length:Int) - n):=λ_=>q01 (by omega)
  with_reducible repeat' (first|refine br ?_ ?_<;>intro h e<;>(try simp only[e,go_sem,w1])<;>clear e|rw[q01 (by omega)]|refine sd ?_<;>try simp only[go_sem,w1]|(first|refine cr (qg8 ..) ?_)<;>try simp only[go_sem,w1]|fail)
  ·rw[hno (.inr (.inl (by assumption)))];simp[Pk.zero,E.zero]
  ·have w2:=w2 (by omega)
   rw[hyes hw (by omega) (by assumption),q28 (by omega) (by omega)]
   simp
  ·rw[hno (.inr (.inr (by assumption)))];simp[Pk.zero,E.zero]
 ·have hno:=λh=>qbi (c:=c) (up:=true) (port:=port) (n:=n) (m:=m) h
  have hyes:=λh1 h2 h3=>q7t (c:=c) (up:=true) (port:=port) (n:=n) (m:=m) h1 h2 h3
  simp only[cond_true,true_or,true_implies,Bool.true_eq_false,false_and,or_false] at hno hyes
  rw[q01 (by omega)]
  refine q0s (c65 n 0 ((c.up.length:Int) - 1)) rfl rfl ?_
  cases hw:q0m n 0 ((c.up.length:Int) - 1)<;>simp only[go_sem]
  ·rw[hno (.inl hw)];simp[Pk.zero,E.zero]
  have hw2:=M.within_iff.1 hw
  have w1:IntKind.i64.wrap ((c.up.length:Int) - n)=c.up.length - n:=q01 (by omega)
  have w2:1≤m→IntKind.i64.wrap (n+min m ((c.up.length:Int) - n))=n+min m ((c.up.length:Int) - n):=λ_=>q01 (by omega)
  with_reducible repeat' (first|refine br ?_ ?_<;>intro h e<;>(try simp only[e,go_sem,w1])<;>clear e|rw[q01 (by omega)]|refine sd ?_<;>try simp only[go_sem,w1]|(first|refine cr (qg8 ..) ?_)<;>try simp only[go_sem,w1]|fail)
  ·rw[hno (.inr (by assumption))];simp[Pk.zero,E.zero]
  ·have w2:=w2 (by omega)
   rw[hyes hw (by omega),q28 (by omega) (by omega)]
   simp
def ic66:IC:=sR [oP 4 (.box 65 (.t 1))] (sR [mV 6 2,mV 7 6,gT 8 7 (.mv (.t 0)),gT 9 7 (.nilc (.t 8)),gT 10 7 (.fad 3 (.t 9)),gT 11 7 (.ld 1 false (.t 10)),gT 12 7 (.len (.t 11)),gT 13 7 (.bin .lss (.t 12) (cI 10)),pF 14 7 13] (cD 14 (.drw [0,0,2,6,14,0,32,126,255,511,1023] [(0,mV 15 0),(1,mV 16 0),(2,oP 17 (.nilc (.t 16))),(3,fD 18 3 17),(4,lD 19 1 18),(5,lA 20 7 4),(6,oP 21 (.bsl 65 7 [.t 20])),(7,oP 22 (.app 65 7 (.t 19) (.t 21))),(8,oP 23 (.nilc (.t 15))),(9,fD 24 3 23),(10,nP (.sto 1 (.t 24) (.t 22)))]) .skip))
theorem dg66:Dg Tryz.prog 66 Tryz.f66 ic66 []:=⟨Tryz.func66,by kernel_rfl,by kernel_rfl⟩
theorem c66 (w:M.World) (p:Pk) (ok:Bool) (hn:w.nets.length≤2000000):FnP Tryz.prog G 66 1 [.var 33 [.own 2 w.convs.length,.sl 3 (w.door.map.map Pair.row),.own 1 w.door.flows.length,.own 3 w.nets.length],.arr 169 8 (w.door.flows.map Flw.row),.arr 69 10 (w.convs.map Conv.row),.arr 65 7 (w.nets.map Pk.row)] [.pv 0 0,.agg [.int .i64 p.kind,.int .i64 p.frm.a,.int .i64 p.frm.p,.int .i64 p.to.a,.int .i64 p.to.p,.int .i64 p.at_,.str p.text],.bool ok] (λr o=>r=.tup []∧∃v,v=q3j w (bif ok then some p else none)∧o=[.var 33 [.own 2 v.convs.length,.sl 3 (v.door.map.map Pair.row),.own 1 v.door.flows.length,.own 3 v.nets.length],.arr 169 8 (v.door.flows.map Flw.row),.arr 69 10 (v.convs.map Conv.row),.arr 65 7 (v.nets.map Pk.row)]):=by
 refine mP dg66 Tryz.ntmps66 ⟨_,_,rfl,_,rfl,rfl⟩ ?_
 simp only[ic66,go_sem]
 have hno:q3j w none=w:=rfl
 have hfull:¬w.nets.length<10→q3j w (some p)=w:=λh=>by simp only[q3j];rw[if_neg h]
 have fin:∀l mm (v:M.World) (o:Option Pk) (n:Nat),q3j w o=v→v.convs=w.convs→v.door=w.door→q09 mm 0=.var 33 [.own 2 w.convs.length,.sl 3 (w.door.map.map Pair.row),.own 1 w.door.flows.length,.own n v.nets.length]→q09 mm 1=.arr 169 8 (w.door.flows.map Flw.row)→q09 mm 2=.arr 69 10 (w.convs.map Conv.row)→q09 mm n=.arr 65 7 (v.nets.map Pk.row)→n≠0→n≠1→n≠2 →
  q50 [] 1 (λr o'=>r=.tup []∧∃v,v=q3j w o∧o'=[.var 33 [.own 2 v.convs.length,.sl 3 (v.door.map.map Pair.row),.own 1 v.door.flows.length,.own 3 v.nets.length],.arr 169 8 (v.door.flows.map Flw.row),.arr 69 10 (v.convs.map Conv.row),.arr 65 7 (v.nets.map Pk.row)]) .normal ⟨q0e l,q09 mm⟩:=λl mm v o n h0 h1 h2 h3 h4 h5 h6 n0 n1 n2=>by
  show q50 _ _ _ .ret _
  refine q0v (.tup []) [.var 33 [.own 2 v.convs.length,.sl 3 (v.door.map.map Pair.row),.own 1 v.door.flows.length,.own 3 v.nets.length],.arr 169 8 (v.door.flows.map Flw.row),.arr 69 10 (v.convs.map Conv.row),.arr 65 7 (v.nets.map Pk.row)] [(3,n)] (by simp only[go_sem,qkm]) ⟨rfl,v,h0.symm,rfl⟩ ?_ ?_ (by simp only[go_sem])
  ·rw[h1,h2];simp only[go_sem,h3,h4,h5,h6]
  ·simp[q0r,q0b];omega
 cases ok<;>simp only[go_sem]
 ·exact fin _ _ w none 3 rfl rfl rfl (by simp only[go_sem]) (by simp only[go_sem]) (by simp only[go_sem]) (by simp only[go_sem]) (by omega) (by omega) (by omega)
 with_reducible repeat' (first|refine br ?_ ?_<;>intro h e<;>(try simp only[e,go_sem])<;>clear e|rw[q01 (by omega)]|refine sd ?_<;>try simp only[go_sem]|fail)
 ·have hx:q3j w (some p)={ w with nets:=w.nets++[p] }:=by simp only[q3j];rw[if_pos (by omega)]
  exact fin _ _ { w with nets:=w.nets++[p] } (some p) 1022 hx rfl rfl (by simp only[go_sem];simp) (by simp only[go_sem]) (by simp only[go_sem]) (by simp only[go_sem];simp[Pk.row]) (by omega) (by omega) (by omega)
 ·exact fin _ _ w (some p) 3 (hfull (by omega)) rfl rfl (by simp only[go_sem]) (by simp only[go_sem]) (by simp only[go_sem]) (by simp only[go_sem]) (by omega) (by omega) (by omega)
def qth:IC:=sR [oP 5 (.box 65 (.t 2)),oP 6 (.alloc 65 [i0,i0,i0,i0,i0,i0,s0]),oP 7 (.mv cF)] (.seq (.drw [0,1,3,0,8,24,0,64,192,448,960,7,2111,8191] [(0,mV 12 0),(1,oP 13 (.nilc (.t 12))),(2,fD 14 8 13),(3,mV 15 0),(4,oP 16 (.nilc (.t 15))),(5,fD 17 7 16),(6,mV 18 0),(7,oP 19 (.nilc (.t 18))),(8,fD 20 5 19),(9,lD 21 1 20),(10,oP 22 (.lens (.t 21))),(11,mV 8 14),(12,mV 9 17),(13,mV 10 22)]) (.seq (.drw [0,1,3,7,15,31,15,79,207,463,1023,2047,4095] [(0,fD 23 1 5),(1,lA 24 2 23),(2,oP 25 (.call 125 [.t 24])),(3,mV 26 25),(4,gT 27 26 (.fad 3 (.t 5))),(5,gT 28 26 (.ld 2 true (.t 27))),(6,gT 29 26 (.mv (.t 0))),(7,gT 30 26 (.nilc (.t 29))),(8,gT 31 26 (.fad 2 (.t 30))),(9,gT 32 26 (.ld 2 true (.t 31))),(10,gT 33 26 (.eqs false [.i,.i] (.t 28) (.t 32))),(11,pF 34 26 33),(12,mV 11 34)]) (.seq (sR [mV 35 1] (cD 35 (.seq (.drw [0,1,3,0,8,24,0,64,192,448,960,7,2111,8191] [(0,mV 36 0),(1,oP 37 (.nilc (.t 36))),(2,fD 38 9 37),(3,mV 39 0),(4,oP 40 (.nilc (.t 39))),(5,fD 41 6 40),(6,mV 42 0),(7,oP 43 (.nilc (.t 42))),(8,fD 44 4 43),(9,lD 45 1 44),(10,oP 46 (.lens (.t 45))),(11,mV 8 38),(12,mV 9 41),(13,mV 10 46)]) (.drw [0,1,0,4,12,28,63,127,255,511,255,1279,3327,7423,16383,32767,65535] [(0,fD 47 1 5),(1,lA 48 2 47),(2,mV 49 0),(3,oP 50 (.nilc (.t 49))),(4,fD 51 2 50),(5,lA 52 2 51),(6,oP 53 (.eqs false [.i,.i] (.t 48) (.t 52))),(7,mV 54 53),(8,gT 55 54 (.fad 3 (.t 5))),(9,gT 56 54 (.ld 2 true (.t 55))),(10,gT 57 54 (.mv (.t 0))),(11,gT 58 54 (.nilc (.t 57))),(12,gT 59 54 (.fad 0 (.t 58))),(13,gT 60 54 (.ld 2 true (.t 59))),(14,gT 61 54 (.eqs false [.i,.i] (.t 56) (.t 60))),(15,pF 62 54 61),(16,mV 11 62)])) .skip)) (.seq (.block 0 (sR [mV 64 11,oP 65 (.un .not (.t 64)),mV 63 65] (cD 63 (sR [oP 66 (.build [i0,i0,i0,i0,i0,i0,s0] []),nP (.sto 7 (.t 6) (.t 66)),oP 7 (.mv cF)] .ret) (sR [fD 68 0 5,lD 69 1 68,oP 70 (.bin .eql (.t 69) (cI 2)),mV 67 70] (cD 67 (.seq (.drw [0,0,2,6,0,16,0,112,254,511,1023] [(0,mV 71 9),(1,mV 72 9),(2,oP 73 (.nilc (.t 72))),(3,lD 74 1 73),(4,fD 75 5 5),(5,lD 76 1 75),(6,mV 77 10),(7,oP 78 (.mn (.t 76) (.t 77))),(8,oP 79 (.mx (.t 74) (.t 78))),(9,oP 80 (.nilc (.t 71))),(10,nP (.sto 1 (.t 80) (.t 79)))]) (sR [oP 81 (.build [i0,i0,i0,i0,i0,i0,s0] []),nP (.sto 7 (.t 6) (.t 81)),oP 7 (.mv cF)] .ret)) .skip))))) (.seq (.drw [0,0,2,6,0,16,0,64,254,510,1022,1022,2047,6143] [(0,mV 83 8),(1,mV 84 8),(2,oP 85 (.nilc (.t 84))),(3,lD 86 1 85),(4,fD 87 5 5),(5,lD 88 1 87),(6,fD 89 6 5),(7,lD 90 1 89),(8,oP 91 (.call 172 [.t 86,.t 88,.t 90])),(9,mV 82 91),(10,eX 92 82 0),(11,eX 93 82 1),(12,oP 94 (.nilc (.t 83))),(13,nP (.sto 1 (.t 94) (.t 92)))]) (.seq (.drw [0,1,0,4,0,16,48,112,255,511,1023] [(0,fD 95 3 5),(1,lA 96 2 95),(2,fD 97 1 5),(3,lA 98 2 97),(4,mV 99 8),(5,oP 100 (.nilc (.t 99))),(6,lD 101 1 100),(7,oP 102 (.lens (.t 101))),(8,oP 103 (.build [i0,i0,i0,i0,i0,i0,s0] [(0,(1,cI 2)),(1,(2,.t 96)),(3,(2,.t 98)),(5,(1,.t 102))])),(9,nP (.sto 7 (.t 6) (.t 103))),(10,oP 7 (.mv cT))]) .ret))))))
theorem dg130:Dg Tryz.prog 130 Tryz.f130 qth [(.cell 6 7 true),(.t 7)]:=⟨Tryz.func130,by kernel_rfl,by kernel_rfl⟩
theorem c130 (cs:List Conv) (k:Nat) (b:Bool) (p:Pk) (hk:k<cs.length) (hc:CvB (cs.getD k default)) (hp:PkP p):FnP Tryz.prog G 130 1 [.arr 69 10 (cs.map Conv.row)] [.pa 0 k 0,.bool b,.agg [.int .i64 p.kind,.int .i64 p.frm.a,.int .i64 p.frm.p,.int .i64 p.to.a,.int .i64 p.to.p,.int .i64 p.at_,.str p.text]]
 (λr o=>∃x,x=q40 (cs.getD k default) b p∧r=.tup [.agg (Pk.row (x.2.getD .zero)),.bool x.2.isSome]∧o=[.arr 69 10 ((cs.set k x.1).map Conv.row)]):=by
 refine mP dg130 Tryz.ntmps130 ⟨_,_,_,rfl,rfl,rfl⟩ ?_
 have h1:=hp.at_
 have h2:=hp.len
 have h3:=hc.upGot
 have h4:=hc.downGot
 generalize hcc:cs.getD k default=c at *
 have g1:=c172 c.upGot p.at_ p.text (by omega) (by omega) (by omega)
 have g2:=c172 c.downGot p.at_ p.text (by omega) (by omega) (by omega)
 have hcc2:c=cs[k]:=by rw[←hcc];simp[List.getD,hk]
 have hset:∀x:Conv,(cs.set k x).map Conv.row=(cs.map Conv.row).set k (Conv.row x):=λx=>List.map_set
 have hsame:cs.set k c=cs:=by rw[hcc2];exact List.set_getElem_self hk
 clear hcc2
 have fin:∀l mm (x:Conv×Option Pk),q40 c b p=x→q0e l 6=.pv 1006 0→q0e l 7=.bool x.2.isSome→q09 mm 1006=.var 65 (Pk.row (x.2.getD .zero))→q09 mm 0=.arr 69 10 ((cs.set k x.1).map Conv.row) →
  q50 [.cell 6 7 true,.t 7] 1 (λr o=>∃x,x=q40 c b p∧r=.tup [.agg (Pk.row (x.2.getD .zero)),.bool x.2.isSome]∧o=[.arr 69 10 ((cs.set k x.1).map Conv.row)]) .ret ⟨q0e l,q09 mm⟩:=λl mm x h1 h2 h3 h4 h5=>by
  refine q0v (.tup [.agg (Pk.row (x.2.getD .zero)),.bool x.2.isSome]) [.arr 69 10 ((cs.set k x.1).map Conv.row)] [] ?_ ⟨x,h1.symm,rfl,rfl⟩ ?_ (by simp[q0r,q0b]) (by simp only[go_sem])
  ·simp only[go_sem,h2,h3,h4]
  ·simp only[go_sem,h5]
 have gs:∀R,((cs.map Conv.row).set k R).getD k []=R:=λR=>by simp[List.getD,hk]
 simp only[qth,go_sem]
 cases b<;>simp only[go_sem,q03 hk,hcc,E.ext_iff']
 all_goals
  with_reducible repeat' (first|refine br ?_ ?_<;>intro h e<;>(try simp only[e,go_sem,q03 hk,hcc,gs,E.ext_iff'])<;>clear e|rw[q01 (by omega)]|refine sd ?_<;>try simp only[go_sem,q03 hk,hcc,gs,E.ext_iff']|(first|refine cr (qg8 ..) ?_|refine cr (g1 ..) ?_|refine cr (g2 ..) ?_)<;>try simp only[go_sem,q03 hk,hcc,gs,E.ext_iff']|fail)
 all_goals clear g1 g2
 all_goals clear gs hset hcc
 all_goals have hset:∀x:Conv,(cs.set k x).map Conv.row=(cs.map Conv.row).set k (Conv.row x):=λx=>List.map_set
 all_goals first
  | (refine fin _ _ (c,none) (by simp[q40, *]) ?_ ?_ ?_ ?_<;>simp only[go_sem,Option.isSome_none,Option.getD_none,Pk.zero,E.zero,hsame];done)
  | (refine fin _ _ ({ c with downAck:=max c.downAck (min p.at_ c.down.length) },none) (by simp[q40, *]) ?_ ?_ ?_ ?_<;>simp only[go_sem,Option.isSome_none,Option.getD_none,Pk.zero,E.zero,hset];done)
  | (refine fin _ _ ({ c with upAck:=max c.upAck (min p.at_ c.up.length) },none) (by simp[q40, *]) ?_ ?_ ?_ ?_<;>simp only[go_sem,Option.isSome_none,Option.getD_none,Pk.zero,E.zero,hset];done)
  | (refine fin _ _ ({ c with upGot:=(q0a c.upGot p.at_ p.text).1 },some ⟨2,p.to,p.frm,(q0a c.upGot p.at_ p.text).1.length,[]⟩) (by simp[q40, *]) ?_ ?_ ?_ ?_<;>simp only[go_sem,Option.isSome_some,Option.getD_some,hset];done)
  | (refine fin _ _ ({ c with downGot:=(q0a c.downGot p.at_ p.text).1 },some ⟨2,p.to,p.frm,(q0a c.downGot p.at_ p.text).1.length,[]⟩) (by simp[q40, *]) ?_ ?_ ?_ ?_<;>simp only[go_sem,Option.isSome_some,Option.getD_some,hset];done)
def ic68:IC:=sR [oP 4 (.mv (.c i0))] (.seq (.drw [0,1,3,7,15,0,32,96,224,0,992,2016,4064,8191,16383] [(0,mV 5 0),(1,oP 6 (.nilc (.t 5))),(2,fD 7 1 6),(3,fD 8 0 7),(4,lD 9 1 8),(5,mV 10 0),(6,oP 11 (.nilc (.t 10))),(7,fD 12 0 11),(8,lD 13 1 12),(9,mV 14 1),(10,oP 15 (.iad 10 (.t 13) (.t 14))),(11,fD 16 0 15),(12,lA 17 2 16),(13,oP 18 (.call 128 [.t 9,.t 17])),(14,mV 4 18)]) .ret)
theorem dg68:Dg Tryz.prog 68 Tryz.f68 ic68 [(.t 4)]:=⟨Tryz.func68,by kernel_rfl,by kernel_rfl⟩
theorem c68 (w:M.World) (k:Nat) (hk:k<w.convs.length) (hm:w.door.map.length≤2000000):FnP Tryz.prog G 68 4 [.var 33 [.own 2 w.convs.length,.sl 3 (w.door.map.map Pair.row),.own 1 w.door.flows.length,.own 3 w.nets.length],.arr 169 8 (w.door.flows.map Flw.row),.arr 69 10 (w.convs.map Conv.row),.arr 65 7 (w.nets.map Pk.row)] [.pv 0 0,.int .i64 (k:Int)] (λr o=>r=.int .i64 (portOf w.door.map (w.convs.getD k default).ins)∧o=[.var 33 [.own 2 w.convs.length,.sl 3 (w.door.map.map Pair.row),.own 1 w.door.flows.length,.own 3 w.nets.length],.arr 169 8 (w.door.flows.map Flw.row),.arr 69 10 (w.convs.map Conv.row),.arr 65 7 (w.nets.map Pk.row)]):=by
 refine mP dg68 Tryz.ntmps68 ⟨_,_,rfl,rfl⟩ ?_
 generalize hc:w.convs.getD k default=c at *
 have f1:=c128 w.door.map c.ins.a c.ins.p hm
 simp only[ic68,go_sem]
 with_reducible repeat' (first|refine br ?_ ?_<;>intro h e<;>(try simp only[e,go_sem,q03 hk,hc])<;>clear e|rw[q01 (by omega)]|refine sd ?_<;>try simp only[go_sem,q03 hk,hc]|(first|refine cr (f1 ..) ?_)<;>try simp only[go_sem,q03 hk,hc]|fail)
 refine q0v _ _ [] ?_ ⟨rfl,rfl⟩ ?_ (by simp[q0r,q0b]) (by simp only[go_sem])
 ·simp only[go_sem]
 ·simp only[go_sem]
def qkj (x:M.World×Option Pk) (r:V) (o:List Hs):Prop:=∃q,r=.tup [.agg (Pk.row q),.bool x.2.isSome]∧(∀q',x.2=some q'→q=q')∧o=[.var 33 [.own 2 x.1.convs.length,.sl 3 (x.1.door.map.map Pair.row),.own 1 x.1.door.flows.length,.own 3 x.1.nets.length],.arr 169 8 (x.1.door.flows.map Flw.row),.arr 69 10 (x.1.convs.map Conv.row),.arr 65 7 (x.1.nets.map Pk.row)]
theorem q4x {x:M.World×Option Pk} {w:M.World} {o:Option Pk} {l:List (Nat×V)} {mm:List (Nat×Hs)} (q:Pk) (n1 n2 n3:Nat) (hx:x=(w,o)) (hq:∀q',o=some q'→q=q') (h4:q0e l 4=.pv 1004 0) (h5:q0e l 5=.bool o.isSome) (m4:q09 mm 1004=.var 65 (Pk.row q))
 (m0:q09 mm 0=.var 33 [.own n2 w.convs.length,.sl 3 (w.door.map.map Pair.row),.own n1 w.door.flows.length,.own n3 w.nets.length])
 (m1:q09 mm n1=.arr 169 8 (w.door.flows.map Flw.row)) (m2:q09 mm n2=.arr 69 10 (w.convs.map Conv.row)) (m3:q09 mm n3=.arr 65 7 (w.nets.map Pk.row))
 (hne:[0,n1,n2,n3].Nodup):q50 [.cell 4 7 true,.t 5] 1 (qkj x) .ret ⟨q0e l,q09 mm⟩:=by
 subst hx
 refine q0v (.tup [.agg (Pk.row q),.bool o.isSome]) [.var 33 [.own 2 w.convs.length,.sl 3 (w.door.map.map Pair.row),.own 1 w.door.flows.length,.own 3 w.nets.length],.arr 169 8 (w.door.flows.map Flw.row),.arr 69 10 (w.convs.map Conv.row),.arr 65 7 (w.nets.map Pk.row)] [(1,n1),(2,n2),(3,n3)] ?_ ⟨q,rfl,hq,rfl⟩ ?_ (by simpa[q0r,q0b] using hne) (by simp only[go_sem])
 ·simp only[go_sem,h4,h5,m4]
 ·simp only[go_sem,m0,m1,m2,m3]
def ic69:IC:=sR [oP 3 (.box 65 (.t 1)),oP 4 (.alloc 65 [i0,i0,i0,i0,i0,i0,s0]),oP 5 (.mv cF)] (.seq (sR [fD 9 3 3,lA 10 2 9,oP 11 (.call 125 [.t 10]),mV 12 11,gF 13 12 (.fad 1 (.t 3)),gF 14 12 (.ld 2 true (.t 13)),gF 15 12 (.call 120 [.t 14]),pT 16 12 15] (cD 16 (.seq (.drw [0,1,3,0,15,31,31,127,255] [(0,mV 17 0),(1,oP 18 (.nilc (.t 17))),(2,fD 19 1 18),(3,lA 20 7 3),(4,oP 21 (.call 129 [.t 19,.t 20])),(5,eX 22 21 0),(6,eX 23 21 1),(7,nP (.sto 7 (.t 4) (.t 22))),(8,mV 5 23)]) .ret) .skip)) (.seq (sR [mV 24 0,oP 25 (.nilc (.t 24)),fD 26 0 25,lD 27 1 26,oP 28 (.len (.t 27)),oP 29 (.mv (.c i0))] (.block 0 (.loop (sR [bN 30 .lss 29 28] (.seq (cD 30 .skip (.exit 0)) (.seq (.block 1 (sR [mV 31 29,mV 6 31] (sR [mV 32 0,oP 33 (.nilc (.t 32)),fD 34 0 33,lD 35 1 34,mV 36 6,oP 37 (.iad 10 (.t 35) (.t 36)),mV 7 37] (.seq (.drw [0,1,0,4,12,28,63,127,255,511,255,1279,3327,7423,16383,32767,65535] [(0,fD 38 3 3),(1,lA 39 2 38),(2,mV 40 7),(3,oP 41 (.nilc (.t 40))),(4,fD 42 0 41),(5,lA 43 2 42),(6,oP 44 (.eqs false [.i,.i] (.t 39) (.t 43))),(7,mV 45 44),(8,gT 46 45 (.fad 1 (.t 3))),(9,gT 47 45 (.ld 2 true (.t 46))),(10,gT 48 45 (.mv (.t 7))),(11,gT 49 45 (.nilc (.t 48))),(12,gT 50 45 (.fad 2 (.t 49))),(13,gT 51 45 (.ld 2 true (.t 50))),(14,gT 52 45 (.eqs false [.i,.i] (.t 47) (.t 51))),(15,pF 53 45 52),(16,mV 8 53)]) (.seq (.drw [0,1,3,7,3,19,51,115,255,511,1023,2047,4095,8191,16383,32767,65535,131071,32767,32767,819199,2097151,4194303,8388607] [(0,mV 54 8),(1,mV 55 54),(2,gF 56 55 (.fad 3 (.t 3))),(3,gF 57 55 (.ld 2 true (.t 56))),(4,gF 58 55 (.mv (.t 7))),(5,gF 59 55 (.nilc (.t 58))),(6,gF 60 55 (.fad 2 (.t 59))),(7,gF 61 55 (.ld 2 true (.t 60))),(8,gF 62 55 (.eqs false [.i,.i] (.t 57) (.t 61))),(9,gF 63 55 (.mv (.t 62))),(10,gT 64 63 (.fad 1 (.t 3))),(11,gT 65 63 (.ld 2 true (.t 64))),(12,gT 66 63 (.call 125 [.t 65])),(13,gF 67 55 (.pick (.t 63) (.t 66) cF)),(14,gF 68 55 (.mv (.t 67))),(15,gT 69 68 (.fad 1 (.t 3))),(16,gT 70 68 (.fad 1 (.t 69))),(17,gT 71 68 (.ld 1 false (.t 70))),(18,gT 72 68 (.mv (.t 0))),(19,gT 73 68 (.mv (.t 6))),(20,gT 74 68 (.call 68 [.t 72,.t 73])),(21,gT 75 68 (.bin .eql (.t 71) (.t 74))),(22,gF 76 55 (.pick (.t 68) (.t 75) cF)),(23,pT 77 55 76)]) (cD 77 (sR [mV 78 7,mV 79 8,lA 80 7 3,oP 81 (.call 130 [.t 78,.t 79,.t 80]),eX 82 81 0,eX 83 81 1,nP (.sto 7 (.t 4) (.t 82)),mV 5 83] .ret) .skip)))))) (.reg [oP 84 (.bin .add (.t 29) (cI 1)),mV 29 84]))))))) (sR [oP 85 (.build [i0,i0,i0,i0,i0,i0,s0] []),nP (.sto 7 (.t 4) (.t 85)),oP 5 (.mv cF)] .ret)))
theorem dg69:Dg Tryz.prog 69 Tryz.f69 ic69 [(.cell 4 7 true),(.t 5)]:=⟨Tryz.func69,by kernel_rfl,by kernel_rfl⟩
set_option maxHeartbeats 1000000 in
theorem x69 {X:List (E×E)} (w:M.World) (p:Pk) (hw:WX X w) (hp:PkP p):FnP Tryz.prog G 69 1 [.var 33 [.own 2 w.convs.length,.sl 3 (w.door.map.map Pair.row),.own 1 w.door.flows.length,.own 3 w.nets.length],.arr 169 8 (w.door.flows.map Flw.row),.arr 69 10 (w.convs.map Conv.row),.arr 65 7 (w.nets.map Pk.row)] [.pv 0 0,.agg [.int .i64 p.kind,.int .i64 p.frm.a,.int .i64 p.frm.p,.int .i64 p.to.a,.int .i64 p.to.p,.int .i64 p.at_,.str p.text]] (qkj (q1y w p)):=by
 refine mP dg69 Tryz.ntmps69 ⟨_,_,(q1y w p).2.getD .zero,rfl,λq' h=>by rw[h];rfl,rfl⟩ ?_
 have hml:=(q0c (q0i.1 hw.door).1).2
 have hcl:=hw.cl
 have hdoor:(p.to.door=true∨p.frm.inside=true)→q1y w p=({ w with door:=(q1a w.door p).1 },(q1a w.door p).2):=λh=>q7g (by simpa using h)
 simp only[ic69,go_sem]
 with_reducible repeat' (first|refine br ?_ ?_<;>intro h e<;>(try simp only[e,go_sem])<;>clear e|rw[q01 (by omega)]|refine sd ?_<;>try simp only[go_sem]|(first|refine cr (qg8 ..) ?_|refine cr (qwj ..) ?_)<;>try simp only[go_sem]|fail)
 ·refine q0f (w129 w w.door p hw.door hp) [0,1,2,3] [] true 21 4 (by simp only[go_sem];first|done|simp) (by simp only[go_sem];first|done|simp) (by simp) (by simp) (by simp) ?_ ?_ ?_
  ·rintro res out ⟨q,rfl,hq,rfl⟩
   exact⟨by simp,by simp,.inl rfl,λi hi=>by obtain rfl:i=0:=(by omega);simp[chH,q07]⟩
  ·intro i hi
   rcases(show i=0∨i=1∨i=2∨i=3 by omega) with rfl|rfl|rfl|rfl<;>simp only[go_sem]
  rintro res out ⟨q,rfl,hq,rfl⟩
  simp only[go_sem]
  with_reducible repeat' (first|refine br ?_ ?_<;>intro h e<;>(try simp only[e,go_sem])<;>clear e|rw[q01 (by omega)]|refine sd ?_<;>try simp only[go_sem]|fail)
  refine q4x (w:={ w with door:=(q1a w.door p).1 }) (o:=(q1a w.door p).2) q 102101 102102 102103 (hdoor (.inl (by assumption))) hq ?_ ?_ ?_ ?_ ?_ ?_ ?_ (by decide)<;>simp only[go_sem]
 ·refine q0f (w129 w w.door p hw.door hp) [0,1,2,3] [] true 21 4 (by simp only[go_sem];first|done|simp) (by simp only[go_sem];first|done|simp) (by simp) (by simp) (by simp) ?_ ?_ ?_
  ·rintro res out ⟨q,rfl,hq,rfl⟩
   exact⟨by simp,by simp,.inl rfl,λi hi=>by obtain rfl:i=0:=(by omega);simp[chH,q07]⟩
  ·intro i hi
   rcases(show i=0∨i=1∨i=2∨i=3 by omega) with rfl|rfl|rfl|rfl<;>simp only[go_sem]
  rintro res out ⟨q,rfl,hq,rfl⟩
  simp only[go_sem]
  with_reducible repeat' (first|refine br ?_ ?_<;>intro h e<;>(try simp only[e,go_sem])<;>clear e|rw[q01 (by omega)]|refine sd ?_<;>try simp only[go_sem]|fail)
  refine q4x (w:={ w with door:=(q1a w.door p).1 }) (o:=(q1a w.door p).2) q 102101 102102 102103 (hdoor (.inr (by assumption))) hq ?_ ?_ ?_ ?_ ?_ ?_ ?_ (by decide)<;>simp only[go_sem]
 rw[q7r (by simp[*])]
 clear hdoor
 refine q0h (λk:Nat=>⟨q0e [(0,.pv 0 0),(3,.pv 1003 0),(4,.pv 1004 0),(28,.int .i64 w.convs.length),(29,.int .i64 (k:Int))],q09 [(0,.var 33 [.own 2 w.convs.length,.sl 3 (w.door.map.map Pair.row),.own 1 w.door.flows.length,.own 3 w.nets.length]),(1,.arr 169 8 (w.door.flows.map Flw.row)),(2,.arr 69 10 (w.convs.map Conv.row)),(3,.arr 65 7 (w.nets.map Pk.row)),(1003,.var 65 [.int .i64 p.kind,.int .i64 p.frm.a,.int .i64 p.frm.p,.int .i64 p.to.a,.int .i64 p.to.p,.int .i64 p.at_,.str p.text]),(1004,.var 65 [.int .i64 0,.int .i64 0,.int .i64 0,.int .i64 0,.int .i64 0,.int .i64 0,.str []])]⟩)
  (λk=>w.convs.length - k) (λk=>k≤w.convs.length∧(w.convs.take k).any (q41 w p)=false) 0 (leQ []) ⟨Nat.zero_le _,by simp⟩ ?_
 intro k ⟨hk,ha⟩
 simp only[go_sem]
 by_cases h:(k:Int)<w.convs.length
 ·have hil:k<w.convs.length:=by omega
  have hg:w.convs.getD k default=w.convs[k]:=by simp[List.getD,hil]
  have hat:=qbr (w:=w) (p:=p) hil ha
  have hstep:=q5y hil ha
  have hB:=q3f (hw.cv _ (List.getElem_mem hil))
  rw[qau] at hat hstep
  have fp:=c68 w k hil (by omega)
  have ft:=c130 w.convs k true p hil (by rw[hg];exact hB) hp
  have ff:=c130 w.convs k false p hil (by rw[hg];exact hB) hp
  rw[hg] at fp ft ff
  simp only[eq_true h,go_sem]
  generalize hc:w.convs[k]=c at *
  generalize hinw:(decide (p.to=c.ins)&&decide (p.frm=c.out))=inw at *
  with_reducible repeat' (first|refine br ?_ ?_<;>intro h e<;>(try simp only[e,go_sem,q03 hil,hg,E.ext_iff'])<;>clear e|rw[q01 (by omega)]|refine sd ?_<;>try simp only[go_sem,q03 hil,hg,E.ext_iff']|(first|refine cr (qg8 ..) ?_)<;>try simp only[go_sem,q03 hil,hg,E.ext_iff']|fail)
  all_goals try(
   refine q0f fp [0,1,2,3] [] true 74 4 (by simp only[go_sem];first|done|simp) (by simp only[go_sem];first|done|simp) (by simp) (by simp) (by simp) ?_ ?_ ?_
   ·rintro _ _ ⟨rfl,rfl⟩
    exact⟨by simp,by simp,.inl rfl,λi hi=>by rcases(show i=0∨i=1∨i=2∨i=3 by omega) with rfl|rfl|rfl|rfl<;>simp[chH,q07]⟩
   ·intro i hi
    rcases(show i=0∨i=1∨i=2∨i=3 by omega) with rfl|rfl|rfl|rfl<;>simp only[go_sem]
   rintro _ _ ⟨rfl,rfl⟩
   simp only[go_sem]
   with_reducible repeat' (first|refine br ?_ ?_<;>intro h e<;>(try simp only[e,go_sem,q03 hil,hg,E.ext_iff'])<;>clear e|rw[q01 (by omega)]|refine sd ?_<;>try simp only[go_sem,q03 hil,hg,E.ext_iff']|(first|refine cr (qg8 ..) ?_)<;>try simp only[go_sem,q03 hil,hg,E.ext_iff']|fail)
   )
  all_goals clear fp
  all_goals first
   | (refine⟨k+1,by omega,⟨by omega,hstep ?_⟩,(leQ [])⟩
      clear ft ff
      simp_all;done)
   | (refine q0f ft [2] [] true 81 1 (by simp only[go_sem];first|done|simp) (by simp only[go_sem];first|done|simp) (by simp) (by simp) (by simp) ?_ ?_ ?_
      ·rintro _ _ ⟨x,rfl,rfl,rfl⟩
       exact⟨by simp,by simp,.inl rfl,λi hi=>by obtain rfl:i=0:=(by omega);simp[chH,q07]⟩
      ·intro i hi;obtain rfl:i=0:=(by omega);simp only[go_sem]
      rintro _ _ ⟨x,hx,rfl,rfl⟩
      clear ft ff
      simp only[go_sem]
      with_reducible repeat' (first|refine br ?_ ?_<;>intro h e<;>(try simp only[e,go_sem])<;>clear e|rw[q01 (by omega)]|refine sd ?_<;>try simp only[go_sem]|fail)
      have hi:inw=true:=by clear hx;simp_all
      have hh:=hat (by clear hx;simp_all)
      rw[hi,←hx] at hh
      refine q4x (w:={ w with convs:=w.convs.set k x.1 }) (o:=x.2) (x.2.getD .zero) 1 2 3 hh (λq' h=>by rw[h];rfl) ?_ ?_ ?_ ?_ ?_ ?_ ?_ (by decide)
      all_goals simp only[go_sem,List.length_set]
      done)
   | (refine q0f ff [2] [] true 81 1 (by simp only[go_sem];first|done|simp) (by simp only[go_sem];first|done|simp) (by simp) (by simp) (by simp) ?_ ?_ ?_
      ·rintro _ _ ⟨x,rfl,rfl,rfl⟩
       exact⟨by simp,by simp,.inl rfl,λi hi=>by obtain rfl:i=0:=(by omega);simp[chH,q07]⟩
      ·intro i hi;obtain rfl:i=0:=(by omega);simp only[go_sem]
      rintro _ _ ⟨x,hx,rfl,rfl⟩
      clear ft ff
      simp only[go_sem]
      with_reducible repeat' (first|refine br ?_ ?_<;>intro h e<;>(try simp only[e,go_sem])<;>clear e|rw[q01 (by omega)]|refine sd ?_<;>try simp only[go_sem]|fail)
      have hi:inw=false:=by clear hx;simp_all
      have hh:=hat (by clear hx;simp_all)
      rw[hi,←hx] at hh
      refine q4x (w:={ w with convs:=w.convs.set k x.1 }) (o:=x.2) (x.2.getD .zero) 1 2 3 hh (λq' h=>by rw[h];rfl) ?_ ?_ ?_ ?_ ?_ ?_ ?_ (by decide)
      all_goals simp only[go_sem,List.length_set]
      done)
 ·simp only[eq_false h,go_sem]
  have:k=w.convs.length:=by omega
  subst this
  rw[List.take_length] at ha
  rw[qbw ha]
  refine q4x .zero 1 2 3 rfl (λq' h=>by cases h) ?_ ?_ ?_ ?_ ?_ ?_ ?_ (by decide)<;>simp only[go_sem,Option.isSome_none,Pk.zero,E.zero]
def ic70:IC:=sR [oP 4 (.alloc 65 [i0,i0,i0,i0,i0,i0,s0])] (sR [mV 6 0,oP 7 (.nilc (.t 6)),fD 8 3 7,lD 9 1 8,mV 10 1,oP 11 (.iad 7 (.t 9) (.t 10)),lA 12 7 11,oP 5 (.alloc 65 [i0,i0,i0,i0,i0,i0,s0]),nP (.sto 7 (.t 5) (.t 12))] (sR [mV 13 0,mV 14 0,oP 15 (.nilc (.t 14)),fD 16 3 15,lD 17 1 16,mV 18 1,mV 19 1,oP 20 (.bin .add (.t 19) (cI 1)),oP 21 (.call 131 [.t 17,.t 18,.t 20]),oP 22 (.nilc (.t 13)),fD 23 3 22,nP (.sto 1 (.t 23) (.t 21))] (sR [lA 24 7 5,nP (.sto 7 (.t 4) (.t 24))] .ret)))
theorem dg70:Dg Tryz.prog 70 Tryz.f70 ic70 [(.cell 4 7 true)]:=⟨Tryz.func70,by kernel_rfl,by kernel_rfl⟩
theorem c70 (w:M.World) (k:Nat) (hk:k<w.nets.length) (hn:w.nets.length≤2000000):FnP Tryz.prog G 70 1 [.var 33 [.own 2 w.convs.length,.sl 3 (w.door.map.map Pair.row),.own 1 w.door.flows.length,.own 3 w.nets.length],.arr 169 8 (w.door.flows.map Flw.row),.arr 69 10 (w.convs.map Conv.row),.arr 65 7 (w.nets.map Pk.row)] [.pv 0 0,.int .i64 (k:Int)] (λr o=>r=.agg (Pk.row (w.nets.getD k default))∧∃v,v={ w with nets:=w.nets.eraseIdx k }∧o=[.var 33 [.own 2 v.convs.length,.sl 3 (v.door.map.map Pair.row),.own 1 v.door.flows.length,.own 3 v.nets.length],.arr 169 8 (v.door.flows.map Flw.row),.arr 69 10 (v.convs.map Conv.row),.arr 65 7 (v.nets.map Pk.row)]):=by
 refine mP dg70 Tryz.ntmps70 ⟨_,_,rfl,_,rfl,rfl⟩ ?_
 have hlen:(w.nets.eraseIdx k).length=w.nets.length - 1:=by rw[List.length_eraseIdx,if_pos hk]
 generalize hp:w.nets.getD k default=p at *
 simp only[ic70,go_sem]
 with_reducible repeat' (first|rw[q01 (by omega)];try simp only[go_sem,q03 hk,hp]|refine br ?_ ?_<;>intro h e<;>(try simp only[e,go_sem,q03 hk,hp])<;>clear e|refine sd ?_<;>try simp only[go_sem,q03 hk,hp]|fail)
 refine q1t (o131 w.nets k hk) [3] [] 21 1 (by simp only[go_sem];first|done|simp) (by simp only[go_sem];first|done|simp) (by simp) (by simp) (by rintro _ _ ⟨rfl,rfl⟩;simp) (by intro i hi;obtain rfl:i=0:=(by omega);simp only[go_sem]) ?_
 rintro _ _ ⟨rfl,rfl⟩
 simp only[go_sem]
 with_reducible repeat' (first|refine br ?_ ?_<;>intro h e<;>(try simp only[e,go_sem])<;>clear e|rw[q01 (by omega)]|refine sd ?_<;>try simp only[go_sem]|fail)
 refine q0v (.agg (Pk.row p)) [.var 33 [.own 2 ({ w with nets:=w.nets.eraseIdx k }:M.World).convs.length,.sl 3 (({ w with nets:=w.nets.eraseIdx k }:M.World).door.map.map Pair.row),.own 1 ({ w with nets:=w.nets.eraseIdx k }:M.World).door.flows.length,.own 3 ({ w with nets:=w.nets.eraseIdx k }:M.World).nets.length],.arr 169 8 (({ w with nets:=w.nets.eraseIdx k }:M.World).door.flows.map Flw.row),.arr 69 10 (({ w with nets:=w.nets.eraseIdx k }:M.World).convs.map Conv.row),.arr 65 7 (({ w with nets:=w.nets.eraseIdx k }:M.World).nets.map Pk.row)] [(3,102100)] ?_ ⟨rfl,_,rfl,rfl⟩ ?_ (by simp[q0r,q0b]) (by simp only[go_sem])
 ·simp only[go_sem]
 ·simp only[go_sem,hlen]
def qla (p:Pk) (c:Conv):Bool:=decide (c.out=p.frm)
def ic72:IC:=sR [oP 2 (.box 69 (.t 0)),oP 3 (.mv cF)] (sR [fD 4 2 2,lA 5 2 4,fD 6 4 1,fD 7 1 6,lA 8 2 7,oP 9 (.eqs false [.i,.i] (.t 5) (.t 8)),mV 3 9] .ret)
theorem dg72:Dg Tryz.prog 72 Tryz.f72 ic72 [(.t 3)]:=⟨Tryz.func72,by kernel_rfl,by kernel_rfl⟩
theorem c72 (c:Conv) (e:Ev):FnR Tryz.prog G 72 [.agg [.int .i64 c.ins.a,.int .i64 c.ins.p,.int .i64 c.out.a,.int .i64 c.out.p,.str c.up,.str c.down,.int .i64 c.upAck,.int .i64 c.downAck,.str c.upGot,.str c.downGot],.iptr [.int .i64 e.kind,.int .i64 e.a,.int .i64 e.b,.int .i64 e.c,.int .i64 e.pkt.kind,.int .i64 e.pkt.frm.a,.int .i64 e.pkt.frm.p,.int .i64 e.pkt.to.a,.int .i64 e.pkt.to.p,.int .i64 e.pkt.at_,.str e.pkt.text] 0] (.bool (qla e.pkt c)):=by
 refine mF dg72 Tryz.ntmps72 ?_
 simp only[ic72,go_sem,E.ext_iff']
 all_goals simp_all[qla]
theorem c132D (l:List Conv) (e:Ev) (hl:l.length≤2000000):FnR Tryz.prog G 132 [.sl 10 (l.map Conv.row),.fn 72 [.iptr [.int .i64 e.kind,.int .i64 e.a,.int .i64 e.b,.int .i64 e.c,.int .i64 e.pkt.kind,.int .i64 e.pkt.frm.a,.int .i64 e.pkt.frm.p,.int .i64 e.pkt.to.a,.int .i64 e.pkt.to.p,.int .i64 e.pkt.at_,.str e.pkt.text] 0]] (.int .i64 (ixI (l.findIdx? (qla e.pkt)))):=by
 refine mF qqw Tryz.ntmps132 ?_
 simp only[qmb,go_sem]
 refine q0h (λk:Nat=>⟨q0e [(0,.sl 10 (l.map Conv.row)),(1,.fn 72 [.iptr [.int .i64 e.kind,.int .i64 e.a,.int .i64 e.b,.int .i64 e.c,.int .i64 e.pkt.kind,.int .i64 e.pkt.frm.a,.int .i64 e.pkt.frm.p,.int .i64 e.pkt.to.a,.int .i64 e.pkt.to.p,.int .i64 e.pkt.at_,.str e.pkt.text] 0]),(7,.int .i64 l.length),(8,.int .i64 (k:Int))],q09 []⟩) (λk=>l.length - k)
  (λk=>k≤l.length∧(l.take k).any (qla e.pkt)=false) 0 (leQ []) ⟨Nat.zero_le _,by simp⟩ ?_
 intro k ⟨hk,ha⟩
 simp only[go_sem]
 by_cases h:(k:Int)<l.length
 ·have hil:k<l.length:=by omega
  have hg:l.getD k default=l[k]:=by simp[List.getD,hil]
  have hy:=q48 hil ha
  have hs:=q5y hil ha
  simp only[eq_true h,go_sem]
  refine effG (by omega) ?_
  simp only[hg,go_sem]
  refine q0s (c72 l[k] e) rfl rfl ?_
  simp only[go_sem]
  with_reducible repeat' (first|refine br ?_ ?_<;>intro h e<;>(try simp only[e,go_sem])<;>clear e|rw[q01 (by omega)]|refine sd ?_<;>try simp only[go_sem]|fail)
  ·rw[hy (by assumption)];rfl
  ·exact⟨k+1,by omega,⟨by omega,hs (by assumption)⟩,(leQ [])⟩
 ·simp only[eq_false h,go_sem]
  have:k=l.length:=by omega
  subst this
  rw[List.take_length] at ha
  rw[q3p ha];rfl
theorem c71D (l:List Conv) (e:Ev) (hl:l.length≤2000000):FnR Tryz.prog G 71 [.sl 10 (l.map Conv.row),.fn 72 [.iptr [.int .i64 e.kind,.int .i64 e.a,.int .i64 e.b,.int .i64 e.c,.int .i64 e.pkt.kind,.int .i64 e.pkt.frm.a,.int .i64 e.pkt.frm.p,.int .i64 e.pkt.to.a,.int .i64 e.pkt.to.p,.int .i64 e.pkt.at_,.str e.pkt.text] 0]] (.bool (l.any (qla e.pkt))):=by
 refine mF dg71 Tryz.ntmps71 ?_
 simp only[ic71,go_sem]
 refine q0s (c132D l e hl) rfl rfl ?_
 simp only[go_sem,qa8]
theorem qck (w:M.World) (p:Pk):q1q w p=(qhi p&&p.inward&&!w.convs.any (qla p)):=rfl
def qct:IC:=sR [oP 3 (.box 67 (.t 1))] (.seq (.drw [0,1,0,4,12,28,60,124,255,0,512,0,2048,6144,14336,30720,63488,131071,262143,524287] [(0,fD 7 1 3),(1,lD 8 1 7),(2,mV 9 0),(3,oP 10 (.nilc (.t 9))),(4,fD 11 0 10),(5,lD 12 1 11),(6,oP 13 (.len (.t 12))),(7,oP 14 (.bin .sub (.t 13) (cI 1))),(8,oP 15 (.call 65 [.t 8,.c i0,.t 14])),(9,fD 16 1 3),(10,lD 17 1 16),(11,mV 18 0),(12,oP 19 (.nilc (.t 18))),(13,fD 20 3 19),(14,lD 21 1 20),(15,oP 22 (.len (.t 21))),(16,oP 23 (.bin .sub (.t 22) (cI 1))),(17,oP 24 (.call 65 [.t 17,.c i0,.t 23])),(18,mV 4 15),(19,mV 5 24)]) (.block 0 (sR [fD 26 0 3,lD 27 1 26,oP 28 (.bin .eql (.t 27) (cI 1)),mV 29 28,gT 30 29 (.mv (.t 4)),pF 31 29 30,mV 25 31] (cD 25 (.drw [0,0,2,6,14,0,32,126,254,0,512,0,2048,8190,16382,16382,65535] [(0,mV 32 0),(1,mV 33 0),(2,oP 34 (.nilc (.t 33))),(3,fD 35 0 34),(4,lD 36 1 35),(5,fD 37 1 3),(6,lD 38 1 37),(7,oP 39 (.iad 10 (.t 36) (.t 38))),(8,lA 40 10 39),(9,fD 41 2 3),(10,lD 42 1 41),(11,fD 43 3 3),(12,lD 44 1 43),(13,oP 45 (.call 67 [.t 40,cT,.c i0,.t 42,.t 44])),(14,eX 46 45 0),(15,eX 47 45 1),(16,oP 48 (.call 66 [.t 32,.t 46,.t 47]))]) (sR [fD 50 0 3,lD 51 1 50,oP 52 (.bin .eql (.t 51) (cI 2)),mV 53 52,gT 54 53 (.mv (.t 4)),pF 55 53 54,mV 49 55] (cD 49 (.drw [0,0,2,6,14,0,32,126,254,0,0,1024,3584,0,8192,0,32768,131070,262142,262142,1048575] [(0,mV 56 0),(1,mV 57 0),(2,oP 58 (.nilc (.t 57))),(3,fD 59 0 58),(4,lD 60 1 59),(5,fD 61 1 3),(6,lD 62 1 61),(7,oP 63 (.iad 10 (.t 60) (.t 62))),(8,lA 64 10 63),(9,mV 65 0),(10,fD 66 1 3),(11,lD 67 1 66),(12,oP 68 (.call 68 [.t 65,.t 67])),(13,fD 69 2 3),(14,lD 70 1 69),(15,fD 71 3 3),(16,lD 72 1 71),(17,oP 73 (.call 67 [.t 64,cF,.t 68,.t 70,.t 72])),(18,eX 74 73 0),(19,eX 75 73 1),(20,oP 76 (.call 66 [.t 56,.t 74,.t 75]))]) (sR [fD 78 0 3,lD 79 1 78,oP 80 (.bin .eql (.t 79) (cI 3)),mV 81 80,gT 82 81 (.mv (.t 5)),pF 83 81 82,mV 77 83] (cD 77 (.reg [mV 84 0,mV 85 0,mV 86 0,fD 87 1 3,lD 88 1 87,oP 89 (.call 70 [.t 86,.t 88]),oP 90 (.call 69 [.t 85,.t 89]),eX 91 90 0,eX 92 90 1,oP 93 (.call 66 [.t 84,.t 91,.t 92])]) (sR [fD 95 0 3,lD 96 1 95,oP 97 (.bin .eql (.t 96) (cI 4)),mV 98 97,gT 99 98 (.mv (.t 5)),pF 100 98 99,mV 94 100] (cD 94 (.reg [mV 101 0,fD 102 1 3,lD 103 1 102,oP 104 (.call 70 [.t 101,.t 103])]) (sR [fD 106 0 3,lD 107 1 106,oP 108 (.bin .eql (.t 107) (cI 5)),mV 109 108,gT 110 109 (.mv (.t 5)),pF 111 109 110,mV 105 111] (cD 105 (.drw [0,0,2,6,14,0,32,126,254,511] [(0,mV 112 0),(1,mV 113 0),(2,oP 114 (.nilc (.t 113))),(3,fD 115 3 114),(4,lD 116 1 115),(5,fD 117 1 3),(6,lD 118 1 117),(7,oP 119 (.iad 7 (.t 116) (.t 118))),(8,lA 120 7 119),(9,oP 121 (.call 66 [.t 112,.t 120,cT]))]) (sR [fD 123 0 3,lD 124 1 123,oP 125 (.bin .eql (.t 124) (cI 6)),mV 122 125] (cD 122 (sR [mV 126 0,oP 127 (.nilc (.t 126)),fD 128 0 127,lD 129 1 128,oP 130 (.mkf 72 [.t 3]),oP 131 (.call 71 [.t 129,.t 130]),oP 132 (.un .not (.t 131)),mV 6 132] (.drw [0,0,2,0,8,24,56,120,248,504,1016,2040,4088,8184,16383] [(0,mV 133 0),(1,fD 134 4 3),(2,lA 135 7 134),(3,fD 136 4 3),(4,lA 137 7 136),(5,oP 138 (.call 73 [.t 137])),(6,mV 139 138),(7,gT 140 139 (.fad 4 (.t 3))),(8,gT 141 139 (.ld 7 true (.t 140))),(9,gT 142 139 (.call 74 [.t 141])),(10,pF 143 139 142),(11,mV 144 143),(12,gT 145 144 (.mv (.t 6))),(13,pF 146 144 145),(14,oP 147 (.call 66 [.t 133,.t 135,.t 146]))])) .skip))))))))))))))
theorem dg28:Dg Tryz.prog 28 Tryz.f28 qct []:=⟨Tryz.func28,by kernel_rfl,by kernel_rfl⟩
set_option maxHeartbeats 1000000 in
theorem x28 {X:List (E×E)} (w:M.World) (e:Ev) (hw:WX X w) (ht:e.pkt.text.length≤2000000):FnP Tryz.prog G 28 1 [.var 33 [.own 2 w.convs.length,.sl 3 (w.door.map.map Pair.row),.own 1 w.door.flows.length,.own 3 w.nets.length],.arr 169 8 (w.door.flows.map Flw.row),.arr 69 10 (w.convs.map Conv.row),.arr 65 7 (w.nets.map Pk.row)] [.pv 0 0,.agg [.int .i64 e.kind,.int .i64 e.a,.int .i64 e.b,.int .i64 e.c,.int .i64 e.pkt.kind,.int .i64 e.pkt.frm.a,.int .i64 e.pkt.frm.p,.int .i64 e.pkt.to.a,.int .i64 e.pkt.to.p,.int .i64 e.pkt.at_,.str e.pkt.text]] (λr o=>r=.tup []∧∃v,v=wDo w e∧o=[.var 33 [.own 2 v.convs.length,.sl 3 (v.door.map.map Pair.row),.own 1 v.door.flows.length,.own 3 v.nets.length],.arr 169 8 (v.door.flows.map Flw.row),.arr 69 10 (v.convs.map Conv.row),.arr 65 7 (v.nets.map Pk.row)]):=by
 refine mP dg28 Tryz.ntmps28 ⟨_,_,rfl,_,rfl,rfl⟩ ?_
 have hnl:=hw.nl
 have hcl:=hw.cl
 have hml:=(q0c (q0i.1 hw.door).1).2
 have fin:∀l mm (v:M.World) (n1 n2 n3:Nat),v=wDo w e→q09 mm 0=.var 33 [.own n2 v.convs.length,.sl 3 (v.door.map.map Pair.row),.own n1 v.door.flows.length,.own n3 v.nets.length]→q09 mm n1=.arr 169 8 (v.door.flows.map Flw.row)→q09 mm n2=.arr 69 10 (v.convs.map Conv.row)→q09 mm n3=.arr 65 7 (v.nets.map Pk.row)→[0,n1,n2,n3].Nodup →
  q50 [] 1 (λr o=>r=.tup []∧∃v,v=wDo w e∧o=[.var 33 [.own 2 v.convs.length,.sl 3 (v.door.map.map Pair.row),.own 1 v.door.flows.length,.own 3 v.nets.length],.arr 169 8 (v.door.flows.map Flw.row),.arr 69 10 (v.convs.map Conv.row),.arr 65 7 (v.nets.map Pk.row)]) .normal ⟨q0e l,q09 mm⟩:=λl mm v n1 n2 n3 h0 h1 h2 h3 h4 h5=>by
  show q50 _ _ _ .ret _
  refine q0v (.tup []) [.var 33 [.own 2 v.convs.length,.sl 3 (v.door.map.map Pair.row),.own 1 v.door.flows.length,.own 3 v.nets.length],.arr 169 8 (v.door.flows.map Flw.row),.arr 69 10 (v.convs.map Conv.row),.arr 65 7 (v.nets.map Pk.row)] [(1,n1),(2,n2),(3,n3)] (by simp only[go_sem,qkm]) ⟨rfl,v,h0,rfl⟩ ?_ (by simpa[q0r,q0b] using h5) (by simp only[go_sem])
  simp only[go_sem,h1,h2,h3,h4]
 have opt_i:∀o:Option Pk,(bif o.isSome then some (o.getD .zero) else none)=o:=λo=>by cases o<;>rfl
 by_cases k1:e.kind=1
 ·have hk:=k1
  cases hbc:q0m e.a 0 ((w.convs.length:Int) - 1)
  ·have hx:wDo w e=w:=by simp[wDo,hk,q6v,hbc,q3j]
   simp only[qct,go_sem,hk]
   with_reducible repeat' (first|rw[q01 (by omega)];try simp only[go_sem,hk,hbc]|refine br ?_ ?_<;>intro h e<;>(try simp only[e,go_sem,hk,hbc])<;>clear e|refine sd ?_<;>try simp only[go_sem,hk,hbc]|(first|refine cr (c65 ..) ?_)<;>try simp only[go_sem,hk,hbc]|fail)
   exact fin _ _ w 1 2 3 hx.symm (by simp only[go_sem]) (by simp only[go_sem]) (by simp only[go_sem]) (by simp only[go_sem]) (by decide)
  have hb2:=M.within_iff.1 hbc
  have hil:e.a.toNat<w.convs.length:=by omega
  have hg0:w.convs.getD e.a.toNat default=w.convs[e.a.toNat]:=by simp[List.getD,hil]
  have hcb:=q3f (hw.cv _ (List.getElem_mem hil))
  have hsw:q6v w true e.a e.b e.c=say w.convs[e.a.toNat] true 0 e.b e.c:=by simp only[q6v,hbc,if_true,zE hil];rfl
  have hx:wDo w e=q3j w (q6v w true e.a e.b e.c):=by simp[wDo,hk]
  have fs:=c67 w.convs[e.a.toNat] true 0 e.b e.c (by have:=hcb.up;omega) (by have:=hcb.down;omega)
  rw[hsw] at hx
  generalize w.convs[e.a.toNat]=cv at *
  simp only[qct,go_sem,hk]
  with_reducible repeat' (first|rw[q01 (by omega)];try simp only[go_sem,hk,hbc,q03 hil,hg0]|refine br ?_ ?_<;>intro h e<;>(try simp only[e,go_sem,hk,hbc,q03 hil,hg0])<;>clear e|refine sd ?_<;>try simp only[go_sem,hk,hbc,q03 hil,hg0]|(first|refine cr (c65 ..) ?_|refine cr (fs ..) ?_)<;>try simp only[go_sem,hk,hbc,q03 hil,hg0]|fail)
  generalize say cv true 0 e.b e.c=o at *
  refine q0f (c66 w (o.getD .zero) o.isSome (by omega)) [0,1,2,3] [] true 48 4 (by simp only[go_sem];first|done|simp) (by simp only[go_sem];first|done|simp) (by simp) (by simp) (by simp) ?_ ?_ ?_
  ·rintro _ _ ⟨rfl,v,hv,rfl⟩
   exact⟨by simp,by simp,.inl rfl,λi hi=>by obtain rfl:i=0:=(by omega);simp[chH,q07]⟩
  ·intro i hi
   rcases(show i=0∨i=1∨i=2∨i=3 by omega) with rfl|rfl|rfl|rfl<;>simp only[go_sem]
  rintro _ _ ⟨rfl,vv,hvv,rfl⟩
  simp only[go_sem]
  with_reducible repeat' (first|refine br ?_ ?_<;>intro h e<;>(try simp only[e,go_sem])<;>clear e|rw[q01 (by omega)]|refine sd ?_<;>try simp only[go_sem]|fail)
  rw[opt_i,←hx] at hvv
  exact fin _ _ vv 104801 104802 104803 hvv (by simp only[go_sem]) (by simp only[go_sem]) (by simp only[go_sem]) (by simp only[go_sem]) (by decide)
 by_cases k2:e.kind=2
 ·have hk:=k2
  cases hbc:q0m e.a 0 ((w.convs.length:Int) - 1)
  ·have hx:wDo w e=w:=by simp[wDo,hk,q6v,hbc,q3j]
   simp only[qct,go_sem,hk]
   with_reducible repeat' (first|rw[q01 (by omega)];try simp only[go_sem,hk,hbc]|refine br ?_ ?_<;>intro h e<;>(try simp only[e,go_sem,hk,hbc])<;>clear e|refine sd ?_<;>try simp only[go_sem,hk,hbc]|(first|refine cr (c65 ..) ?_)<;>try simp only[go_sem,hk,hbc]|fail)
   exact fin _ _ w 1 2 3 hx.symm (by simp only[go_sem]) (by simp only[go_sem]) (by simp only[go_sem]) (by simp only[go_sem]) (by decide)
  have hb2:=M.within_iff.1 hbc
  have hil:e.a.toNat<w.convs.length:=by omega
  have hg0:w.convs.getD e.a.toNat default=w.convs[e.a.toNat]:=by simp[List.getD,hil]
  have hcb:=q3f (hw.cv _ (List.getElem_mem hil))
  have hsw:q6v w false e.a e.b e.c=say w.convs[e.a.toNat] false (portOf w.door.map w.convs[e.a.toNat].ins) e.b e.c:=by simp only[q6v,hbc,if_true,zE hil];rfl
  have hx:wDo w e=q3j w (q6v w false e.a e.b e.c):=by simp[wDo,hk]
  have hA:((e.a.toNat:Nat):Int)=e.a:=by omega
  have fp:=c68 w e.a.toNat hil (by omega)
  rw[hg0,hA] at fp
  have fs:=c67 w.convs[e.a.toNat] false (portOf w.door.map w.convs[e.a.toNat].ins) e.b e.c (by have:=hcb.up;omega) (by have:=hcb.down;omega)
  rw[hsw] at hx
  generalize w.convs[e.a.toNat]=cv at *
  simp only[qct,go_sem,hk]
  with_reducible repeat' (first|rw[q01 (by omega)];try simp only[go_sem,hk,hbc,q03 hil,hg0]|refine br ?_ ?_<;>intro h e<;>(try simp only[e,go_sem,hk,hbc,q03 hil,hg0])<;>clear e|refine sd ?_<;>try simp only[go_sem,hk,hbc,q03 hil,hg0]|(first|refine cr (c65 ..) ?_)<;>try simp only[go_sem,hk,hbc,q03 hil,hg0]|fail)
  refine qvn fp [0,1,2,3] 68 4 (by simp only[go_sem];first|done|simp) (by simp only[go_sem];first|done|simp) (by simp) (by simp) ?_ ?_ ?_ ?_
  ·rintro _ _ ⟨rfl,rfl⟩
   exact⟨by simp,by simp,λi hi=>by rcases(show i=0∨i=1∨i=2∨i=3 by omega) with rfl|rfl|rfl|rfl<;>simp[chH,q07]⟩
  ·intro i hi
   rcases(show i=0∨i=1∨i=2∨i=3 by omega) with rfl|rfl|rfl|rfl<;>simp only[go_sem]
  ·rintro _ _ ⟨rfl,rfl⟩ x hx
   simp only[go_sem,List.drop_succ_cons,List.drop_nil,List.append_nil,List.mem_cons,List.not_mem_nil,or_false] at hx
   rcases hx with rfl|rfl|rfl|rfl<;>simp only[go_sem]
  rintro _ _ ⟨rfl,rfl⟩
  simp only[go_sem]
  with_reducible repeat' (first|refine br ?_ ?_<;>intro h e<;>(try simp only[e,go_sem,hk,q03 hil,hg0])<;>clear e|rw[q01 (by omega)]|refine sd ?_<;>try simp only[go_sem,hk,q03 hil,hg0]|(first|refine cr (fs ..) ?_)<;>try simp only[go_sem,hk,q03 hil,hg0]|fail)
  generalize say cv false (portOf w.door.map cv.ins) e.b e.c=o at *
  refine q0f (c66 w (o.getD .zero) o.isSome (by omega)) [0,1,2,3] [] true 76 4 (by simp only[go_sem];first|done|simp) (by simp only[go_sem];first|done|simp) (by simp) (by simp) (by simp) ?_ ?_ ?_
  ·rintro _ _ ⟨rfl,v,hv,rfl⟩
   exact⟨by simp,by simp,.inl rfl,λi hi=>by obtain rfl:i=0:=(by omega);simp[chH,q07]⟩
  ·intro i hi
   rcases(show i=0∨i=1∨i=2∨i=3 by omega) with rfl|rfl|rfl|rfl<;>simp only[go_sem]
  rintro _ _ ⟨rfl,vv,hvv,rfl⟩
  simp only[go_sem]
  with_reducible repeat' (first|refine br ?_ ?_<;>intro h e<;>(try simp only[e,go_sem])<;>clear e|rw[q01 (by omega)]|refine sd ?_<;>try simp only[go_sem]|fail)
  rw[opt_i,←hx] at hvv
  exact fin _ _ vv 107601 107602 107603 hvv (by simp only[go_sem]) (by simp only[go_sem]) (by simp only[go_sem]) (by simp only[go_sem]) (by decide)
 by_cases k3:e.kind=3
 ·have hk:=k3
  cases hbn:q0m e.a 0 ((w.nets.length:Int) - 1)
  ·have hx:wDo w e=w:=by simp[wDo,hk,hbn]
   simp only[qct,go_sem,hk]
   with_reducible repeat' (first|rw[q01 (by omega)];try simp only[go_sem,hk,hbn]|refine br ?_ ?_<;>intro h e<;>(try simp only[e,go_sem,hk,hbn])<;>clear e|refine sd ?_<;>try simp only[go_sem,hk,hbn]|(first|refine cr (c65 ..) ?_)<;>try simp only[go_sem,hk,hbn]|fail)
   exact fin _ _ w 1 2 3 hx.symm (by simp only[go_sem]) (by simp only[go_sem]) (by simp only[go_sem]) (by simp only[go_sem]) (by decide)
  have hb2:=M.within_iff.1 hbn
  have hil:e.a.toNat<w.nets.length:=by omega
  have hg0:w.nets.getD e.a.toNat default=w.nets[e.a.toNat]:=by simp[List.getD,hil]
  have hg2:w.nets[e.a.toNat]?=some w.nets[e.a.toNat]:=zE hil
  have hA:((e.a.toNat:Nat):Int)=e.a:=by omega
  have hnp:=hw.net _ (List.mem_of_getElem? hg2)
  have hx:wDo w e=q3j (q1y { w with nets:=w.nets.eraseIdx e.a.toNat } w.nets[e.a.toNat]).1 (q1y { w with nets:=w.nets.eraseIdx e.a.toNat } w.nets[e.a.toNat]).2:=by simp[wDo,hk,hbn,hg2]
  have ft:=c70 w e.a.toNat hil (by omega)
  rw[hg0,hA] at ft
  generalize hp:w.nets[e.a.toNat]=p at *
  simp only[qct,go_sem,hk]
  with_reducible repeat' (first|rw[q01 (by omega)];try simp only[go_sem,hk,hbn]|refine br ?_ ?_<;>intro h e<;>(try simp only[e,go_sem,hk,hbn])<;>clear e|refine sd ?_<;>try simp only[go_sem,hk,hbn]|(first|refine cr (c65 ..) ?_)<;>try simp only[go_sem,hk,hbn]|fail)
  refine q0f ft [0,1,2,3] [] true 89 4 (by simp only[go_sem];first|done|simp) (by simp only[go_sem];first|done|simp) (by simp) (by simp) (by simp) ?_ ?_ ?_
  ·rintro _ _ ⟨rfl,v,hv,rfl⟩
   exact⟨by simp,by simp,.inl rfl,λi hi=>by obtain rfl:i=0:=(by omega);simp[chH,q07]⟩
  ·intro i hi
   rcases(show i=0∨i=1∨i=2∨i=3 by omega) with rfl|rfl|rfl|rfl<;>simp only[go_sem]
  rintro _ _ ⟨rfl,v,hv,rfl⟩
  simp only[go_sem]
  with_reducible repeat' (first|refine br ?_ ?_<;>intro h e<;>(try simp only[e,go_sem])<;>clear e|rw[q01 (by omega)]|refine sd ?_<;>try simp only[go_sem]|fail)
  rw[←hv] at hx
  have hwv:WX X v:=by rw[hv];exact hw.erase _
  have hcv:v.convs=w.convs:=by rw[hv]
  have hok:=(qfz hwv (by rw[hcv];exact hnp)).1
  refine q0f (x69 v p hwv hnp.pk) [0,108901,108902,108903] [] true 90 4 (by simp only[go_sem];first|done|simp) (by simp only[go_sem];first|done|simp) (by simp) (by simp) (by simp) ?_ ?_ ?_
  ·rintro _ _ ⟨q,rfl,hq,rfl⟩
   exact⟨by simp,by simp,.inl rfl,λi hi=>by obtain rfl:i=0:=(by omega);simp[chH,q07]⟩
  ·intro i hi
   rcases(show i=0∨i=1∨i=2∨i=3 by omega) with rfl|rfl|rfl|rfl<;>simp only[go_sem]
  rintro _ _ ⟨q,rfl,hq,rfl⟩
  generalize q1y v p=r at *
  obtain⟨v1,o⟩:=r
  simp only at hok hx hq
  have hn1:=hok.nl
  simp only[go_sem]
  with_reducible repeat' (first|refine br ?_ ?_<;>intro h e<;>(try simp only[e,go_sem])<;>clear e|rw[q01 (by omega)]|refine sd ?_<;>try simp only[go_sem]|fail)
  refine q0f (c66 v1 q o.isSome (by omega)) [0,109001,109002,109003] [] true 93 4 (by simp only[go_sem];first|done|simp) (by simp only[go_sem];first|done|simp) (by simp) (by simp) (by simp) ?_ ?_ ?_
  ·rintro _ _ ⟨rfl,v,hv,rfl⟩
   exact⟨by simp,by simp,.inl rfl,λi hi=>by obtain rfl:i=0:=(by omega);simp[chH,q07]⟩
  ·intro i hi
   rcases(show i=0∨i=1∨i=2∨i=3 by omega) with rfl|rfl|rfl|rfl<;>simp only[go_sem]
  rintro _ _ ⟨rfl,vv,hvv,rfl⟩
  simp only[go_sem]
  with_reducible repeat' (first|refine br ?_ ?_<;>intro h e<;>(try simp only[e,go_sem])<;>clear e|rw[q01 (by omega)]|refine sd ?_<;>try simp only[go_sem]|fail)
  have ho:(bif o.isSome then some q else none)=o:=by cases o with
   | none=>rfl
   | some q'=>rw[hq q' rfl];rfl
  rw[ho,←hx] at hvv
  exact fin _ _ vv 109301 109302 109303 hvv (by simp only[go_sem]) (by simp only[go_sem]) (by simp only[go_sem]) (by simp only[go_sem]) (by decide)
 by_cases k4:e.kind=4
 ·have hk:=k4
  cases hbn:q0m e.a 0 ((w.nets.length:Int) - 1)
  ·have hx:wDo w e=w:=by simp[wDo,hk,hbn]
   simp only[qct,go_sem,hk]
   with_reducible repeat' (first|rw[q01 (by omega)];try simp only[go_sem,hk,hbn]|refine br ?_ ?_<;>intro h e<;>(try simp only[e,go_sem,hk,hbn])<;>clear e|refine sd ?_<;>try simp only[go_sem,hk,hbn]|(first|refine cr (c65 ..) ?_)<;>try simp only[go_sem,hk,hbn]|fail)
   exact fin _ _ w 1 2 3 hx.symm (by simp only[go_sem]) (by simp only[go_sem]) (by simp only[go_sem]) (by simp only[go_sem]) (by decide)
  have hb2:=M.within_iff.1 hbn
  have hil:e.a.toNat<w.nets.length:=by omega
  have hg0:w.nets.getD e.a.toNat default=w.nets[e.a.toNat]:=by simp[List.getD,hil]
  have hg2:w.nets[e.a.toNat]?=some w.nets[e.a.toNat]:=zE hil
  have hA:((e.a.toNat:Nat):Int)=e.a:=by omega
  have hnp:=hw.net _ (List.mem_of_getElem? hg2)
  have hx:wDo w e={ w with nets:=w.nets.eraseIdx e.a.toNat }:=by simp[wDo,hk,hbn]
  have ft:=c70 w e.a.toNat hil (by omega)
  rw[hg0,hA] at ft
  generalize hp:w.nets[e.a.toNat]=p at *
  simp only[qct,go_sem,hk]
  with_reducible repeat' (first|rw[q01 (by omega)];try simp only[go_sem,hk,hbn]|refine br ?_ ?_<;>intro h e<;>(try simp only[e,go_sem,hk,hbn])<;>clear e|refine sd ?_<;>try simp only[go_sem,hk,hbn]|(first|refine cr (c65 ..) ?_)<;>try simp only[go_sem,hk,hbn]|fail)
  refine q0f ft [0,1,2,3] [] true 104 4 (by simp only[go_sem];first|done|simp) (by simp only[go_sem];first|done|simp) (by simp) (by simp) (by simp) ?_ ?_ ?_
  ·rintro _ _ ⟨rfl,v,hv,rfl⟩
   exact⟨by simp,by simp,.inl rfl,λi hi=>by obtain rfl:i=0:=(by omega);simp[chH,q07]⟩
  ·intro i hi
   rcases(show i=0∨i=1∨i=2∨i=3 by omega) with rfl|rfl|rfl|rfl<;>simp only[go_sem]
  rintro _ _ ⟨rfl,v,hv,rfl⟩
  simp only[go_sem]
  with_reducible repeat' (first|refine br ?_ ?_<;>intro h e<;>(try simp only[e,go_sem])<;>clear e|rw[q01 (by omega)]|refine sd ?_<;>try simp only[go_sem]|fail)
  rw[←hx] at hv
  exact fin _ _ v 110401 110402 110403 hv (by simp only[go_sem]) (by simp only[go_sem]) (by simp only[go_sem]) (by simp only[go_sem]) (by decide)
 by_cases k5:e.kind=5
 ·have hk:=k5
  cases hbn:q0m e.a 0 ((w.nets.length:Int) - 1)
  ·have hx:wDo w e=w:=by simp[wDo,hk,hbn]
   simp only[qct,go_sem,hk]
   with_reducible repeat' (first|rw[q01 (by omega)];try simp only[go_sem,hk,hbn]|refine br ?_ ?_<;>intro h e<;>(try simp only[e,go_sem,hk,hbn])<;>clear e|refine sd ?_<;>try simp only[go_sem,hk,hbn]|(first|refine cr (c65 ..) ?_)<;>try simp only[go_sem,hk,hbn]|fail)
   exact fin _ _ w 1 2 3 hx.symm (by simp only[go_sem]) (by simp only[go_sem]) (by simp only[go_sem]) (by simp only[go_sem]) (by decide)
  have hb2:=M.within_iff.1 hbn
  have hil:e.a.toNat<w.nets.length:=by omega
  have hg0:w.nets.getD e.a.toNat default=w.nets[e.a.toNat]:=by simp[List.getD,hil]
  have hg2:w.nets[e.a.toNat]?=some w.nets[e.a.toNat]:=zE hil
  have hA:((e.a.toNat:Nat):Int)=e.a:=by omega
  have hnp:=hw.net _ (List.mem_of_getElem? hg2)
  have hx:wDo w e=q3j w (some w.nets[e.a.toNat]):=by simp[wDo,hk,hbn,hg2]
  generalize w.nets[e.a.toNat]=p at *
  simp only[qct,go_sem,hk]
  with_reducible repeat' (first|rw[q01 (by omega)];try simp only[go_sem,hk,hbn,q03 hil,hg0]|refine br ?_ ?_<;>intro h e<;>(try simp only[e,go_sem,hk,hbn,q03 hil,hg0])<;>clear e|refine sd ?_<;>try simp only[go_sem,hk,hbn,q03 hil,hg0]|(first|refine cr (c65 ..) ?_)<;>try simp only[go_sem,hk,hbn,q03 hil,hg0]|fail)
  refine q0f (c66 w p true (by omega)) [0,1,2,3] [] true 121 4 (by simp only[go_sem];first|done|simp) (by simp only[go_sem];first|done|simp) (by simp) (by simp) (by simp) ?_ ?_ ?_
  ·rintro _ _ ⟨rfl,v,hv,rfl⟩
   exact⟨by simp,by simp,.inl rfl,λi hi=>by obtain rfl:i=0:=(by omega);simp[chH,q07]⟩
  ·intro i hi
   rcases(show i=0∨i=1∨i=2∨i=3 by omega) with rfl|rfl|rfl|rfl<;>simp only[go_sem]
  rintro _ _ ⟨rfl,vv,hvv,rfl⟩
  simp only[go_sem]
  with_reducible repeat' (first|refine br ?_ ?_<;>intro h e<;>(try simp only[e,go_sem])<;>clear e|rw[q01 (by omega)]|refine sd ?_<;>try simp only[go_sem]|fail)
  simp only[cond_true] at hvv
  rw[←hx] at hvv
  exact fin _ _ vv 112101 112102 112103 hvv (by simp only[go_sem]) (by simp only[go_sem]) (by simp only[go_sem]) (by simp only[go_sem]) (by decide)
 by_cases k6:e.kind=6
 ·have hk:=k6
  have fc:=c71D w.convs e (by omega)
  simp only[hk] at fc
  have f1:=c73 e.pkt ht
  have f2:=c74 e.pkt
  have hx:wDo w e=q3j w (bif q1q w e.pkt then some e.pkt else none):=by
   simp only[wDo,hk]
   cases q1q w e.pkt<;>simp[q3j]
  rw[qck] at hx
  generalize w.convs.any (qla e.pkt)=ba at *
  generalize qhi e.pkt=bp at *
  generalize e.pkt.inward=bi at *
  simp only[qct,go_sem,hk]
  with_reducible repeat' (first|rw[q01 (by omega)];try simp only[go_sem,hk,q4a]|refine br ?_ ?_<;>intro h e<;>(try simp only[e,go_sem,hk,q4a])<;>clear e|refine sd ?_<;>try simp only[go_sem,hk,q4a]|(first|refine cr (c65 ..) ?_)<;>try simp only[go_sem,hk,q4a]|fail)
  refine q0l fc [2,1003] false (by simp only[go_sem,List.mem_cons,true_or,or_true]) (by simp only[List.mem_cons,List.not_mem_nil,or_false];rintro c (rfl|rfl)<;>simp only[go_sem]) rfl (.inr rfl) ?_
  cases ba<;>cases bp<;>cases bi
  all_goals
   simp only[go_sem]
   with_reducible repeat' (first|refine br ?_ ?_<;>intro h e<;>(try simp only[e,go_sem])<;>clear e|rw[q01 (by omega)]|refine sd ?_<;>try simp only[go_sem]|(first|refine cr (f1 ..) ?_|refine cr (f2 ..) ?_)<;>try simp only[go_sem]|fail)
  all_goals first
   | (
      refine q0f (c66 w e.pkt false (by omega)) [0,1,2,3] [] true 147 4 (by simp only[go_sem];first|done|simp) (by simp only[go_sem];first|done|simp) (by simp) (by simp) (by simp) ?_ ?_ ?_
      ·rintro _ _ ⟨rfl,v,hv,rfl⟩
       exact⟨by simp,by simp,.inl rfl,λi hi=>by obtain rfl:i=0:=(by omega);simp[chH,q07]⟩
      ·intro i hi
       rcases(show i=0∨i=1∨i=2∨i=3 by omega) with rfl|rfl|rfl|rfl<;>simp only[go_sem]
      rintro _ _ ⟨rfl,vv,hvv,rfl⟩
      simp only[go_sem]
      with_reducible repeat' (first|refine br ?_ ?_<;>intro h e<;>(try simp only[e,go_sem])<;>clear e|rw[q01 (by omega)]|refine sd ?_<;>try simp only[go_sem]|fail)
      simp only[Bool.not_true,Bool.not_false,Bool.and_true,Bool.and_false,Bool.true_and,Bool.false_and,Bool.and_self,cond_true,cond_false] at hx hvv
      rw[←hx] at hvv
      exact fin _ _ vv 114701 114702 114703 hvv (by simp only[go_sem]) (by simp only[go_sem]) (by simp only[go_sem]) (by simp only[go_sem]) (by decide)
      done
      )
   | (
      refine q0f (c66 w e.pkt true (by omega)) [0,1,2,3] [] true 147 4 (by simp only[go_sem];first|done|simp) (by simp only[go_sem];first|done|simp) (by simp) (by simp) (by simp) ?_ ?_ ?_
      ·rintro _ _ ⟨rfl,v,hv,rfl⟩
       exact⟨by simp,by simp,.inl rfl,λi hi=>by obtain rfl:i=0:=(by omega);simp[chH,q07]⟩
      ·intro i hi
       rcases(show i=0∨i=1∨i=2∨i=3 by omega) with rfl|rfl|rfl|rfl<;>simp only[go_sem]
      rintro _ _ ⟨rfl,vv,hvv,rfl⟩
      simp only[go_sem]
      with_reducible repeat' (first|refine br ?_ ?_<;>intro h e<;>(try simp only[e,go_sem])<;>clear e|rw[q01 (by omega)]|refine sd ?_<;>try simp only[go_sem]|fail)
      simp only[Bool.not_true,Bool.not_false,Bool.and_true,Bool.and_false,Bool.true_and,Bool.false_and,Bool.and_self,cond_true,cond_false] at hx hvv
      rw[←hx] at hvv
      exact fin _ _ vv 114701 114702 114703 hvv (by simp only[go_sem]) (by simp only[go_sem]) (by simp only[go_sem]) (by simp only[go_sem]) (by decide)
      done
      )
 have hx:wDo w e=w:=by simp[wDo, *]
 simp only[qct,go_sem]
 with_reducible repeat' (first|rw[q01 (by omega)];try simp only[go_sem,eq_false k1,eq_false k2,eq_false k3,eq_false k4,eq_false k5,eq_false k6]|refine br ?_ ?_<;>intro h e<;>(try simp only[e,go_sem,eq_false k1,eq_false k2,eq_false k3,eq_false k4,eq_false k5,eq_false k6])<;>clear e|refine sd ?_<;>try simp only[go_sem,eq_false k1,eq_false k2,eq_false k3,eq_false k4,eq_false k5,eq_false k6]|(first|refine cr (c65 ..) ?_)<;>try simp only[go_sem,eq_false k1,eq_false k2,eq_false k3,eq_false k4,eq_false k5,eq_false k6]|fail)
 exact fin _ _ w 1 2 3 hx.symm (by simp only[go_sem]) (by simp only[go_sem]) (by simp only[go_sem]) (by simp only[go_sem]) (by decide)
theorem c28 (w:M.World) (e:Ev) (hw:WI w) (ht:e.pkt.text.length≤2000000):FnP Tryz.prog G 28 1 [.var 33 [.own 2 w.convs.length,.sl 3 (w.door.map.map Pair.row),.own 1 w.door.flows.length,.own 3 w.nets.length],.arr 169 8 (w.door.flows.map Flw.row),.arr 69 10 (w.convs.map Conv.row),.arr 65 7 (w.nets.map Pk.row)] [.pv 0 0,.agg [.int .i64 e.kind,.int .i64 e.a,.int .i64 e.b,.int .i64 e.c,.int .i64 e.pkt.kind,.int .i64 e.pkt.frm.a,.int .i64 e.pkt.frm.p,.int .i64 e.pkt.to.a,.int .i64 e.pkt.to.p,.int .i64 e.pkt.at_,.str e.pkt.text]] (λr o=>r=.tup []∧∃v,v=wDo w e∧o=[.var 33 [.own 2 v.convs.length,.sl 3 (v.door.map.map Pair.row),.own 1 v.door.flows.length,.own 3 v.nets.length],.arr 169 8 (v.door.flows.map Flw.row),.arr 69 10 (v.convs.map Conv.row),.arr 65 7 (v.nets.map Pk.row)]) :=
 x28 w e hw.x ht
theorem qal {i o:E} {up down:B} {n:Conv} (h:q1f i o up down=some n):n=⟨i,o,up,down,0,0,[],[]⟩:=by
 unfold q1f at h
 split at h<;>cases h
 rfl
theorem q6x (c:Conv) (cs:List Conv):q10 (c::cs)=match q1f c.ins c.out c.up c.down with
 | some n=>(q10 cs).map (n::·)
 | none=>none:=by
 simp only[q10]
 cases q1f c.ins c.out c.up c.down<;>cases q10 cs<;>rfl
def newI (o:Option M.World) (r:V) (out:List Hs):Prop:=(∃w,o=some w∧r=.tup [.agg [.own 0 w.convs.length,.nils,.nils,.nils],.bool true]∧out=[.arr 69 10 (w.convs.map Conv.row)])∨(o=none∧r=.tup [.agg [.nils,.nils,.nils,.nils],.bool false]∧out=[])
theorem qn1 (o:Option M.World):∃r out,newI o r out:=by
 cases o with
 | none=>exact⟨_,_,.inr ⟨rfl,rfl,rfl⟩⟩
 | some w=>exact⟨_,_,.inl ⟨w,rfl,rfl,rfl⟩⟩
def ic27:IC:=sR [oP 2 (.alloc 33 [.nils,.nils,.nils,.nils]),oP 3 (.mv cF)] (sR [mV 9 0,oP 10 (.len (.t 9)),oP 11 (.mks 69 10 (.t 10)),oP 12 (.build [.nils,.nils,.nils,.nils] [(0,(1,.t 11))]),oP 4 (.alloc 33 [.nils,.nils,.nils,.nils]),nP (.sto 4 (.t 4) (.t 12))] (.seq (sR [mV 13 0,oP 14 (.len (.t 13)),oP 15 (.mv (.c i0))] (.block 0 (.loop (sR [bN 16 .lss 15 14] (.seq (cD 16 .skip (.exit 0)) (.seq (.block 1 (sR [oP 17 (.iad 10 (.t 13) (.t 15)),lA 18 10 17,oP 6 (.alloc 69 [i0,i0,i0,i0,s0,s0,i0,i0,s0,s0]),nP (.sto 10 (.t 6) (.t 18))] (sR [fD 20 0 6,lA 21 2 20,fD 22 2 6,lA 23 2 22,fD 24 4 6,lD 25 1 24,fD 26 5 6,lD 27 1 26,oP 28 (.call 63 [.t 21,.t 23,.t 25,.t 27]),mV 19 28,eX 29 19 0,eX 30 19 1,oP 7 (.alloc 69 [i0,i0,i0,i0,s0,s0,i0,i0,s0,s0]),nP (.sto 10 (.t 7) (.t 29)),mV 8 30] (.seq (sR [mV 31 8,oP 32 (.un .not (.t 31))] (cD 32 (sR [oP 33 (.build [.nils,.nils,.nils,.nils] []),nP (.sto 4 (.t 2) (.t 33)),oP 3 (.mv cF)] .ret) .skip)) (.reg [fD 34 0 4,lD 35 1 34,lA 36 10 7,oP 37 (.bsl 69 10 [.t 36]),oP 38 (.app 69 10 (.t 35) (.t 37)),fD 39 0 4,nP (.sto 1 (.t 39) (.t 38))]))))) (.reg [oP 40 (.bin .add (.t 15) (cI 1)),mV 15 40]))))))) (.seq (sR [fD 41 0 4,lD 42 1 41,oP 43 (.call 64 [.t 42]),oP 44 (.un .not (.t 43))] (cD 44 (sR [oP 45 (.build [.nils,.nils,.nils,.nils] []),nP (.sto 4 (.t 2) (.t 45)),oP 3 (.mv cF)] .ret) .skip)) (sR [lA 46 4 4,nP (.sto 4 (.t 2) (.t 46)),oP 3 (.mv cT)] .ret))))
theorem dg27:Dg Tryz.prog 27 Tryz.f27 ic27 [(.cell 2 4 true),(.t 3)]:=⟨Tryz.func27,by kernel_rfl,by kernel_rfl⟩
theorem c27 (cs:List Conv) (hl:cs.length≤1048576) (hB:∀c∈cs,c.up.length≤2000000∧c.down.length≤2000000):FnP Tryz.prog G 27 0 [] [.sl 10 (cs.map Conv.row)] (newI (q17 cs)):=by
 refine mP dg27 Tryz.ntmps27 (qn1 _) ?_
 have none':∀l mm,q17 cs=none→q0e l 2=.pv 1002 0→q0e l 3=.bool false→q09 mm 1002=.var 33 [.nils,.nils,.nils,.nils]→q50 [.cell 2 4 true,.t 3] 0 (newI (q17 cs)) .ret ⟨q0e l,q09 mm⟩:=λl mm h1 h2 h3 h4=>by
  refine q0v (.tup [.agg [.nils,.nils,.nils,.nils],.bool false]) [] [] ?_ (.inr ⟨h1,rfl,rfl⟩) (by simp only[go_sem]) (by simp[q0r]) (by simp only[go_sem])
  simp only[go_sem,h2,h3,h4]
 simp only[ic27,go_sem]
 with_reducible repeat' (first|refine br ?_ ?_<;>intro h e<;>(try simp only[e,go_sem])<;>clear e|rw[q01 (by omega)]|refine sd ?_<;>try simp only[go_sem]|fail)
 refine q0h (λa:Nat×List Conv=>⟨q0e [(2,.pv 1002 0),(4,.pv 1004 0),(13,.sl 10 (cs.map Conv.row)),(14,.int .i64 cs.length),(15,.int .i64 (a.1:Int))],q09 [(1002,.var 33 [.nils,.nils,.nils,.nils]),(1004,.var 33 [.own 1011 a.2.length,.nils,.nils,.nils]),(1011,.arr 69 10 (a.2.map Conv.row))]⟩)
  (λa=>cs.length - a.1) (λa=>a.1≤cs.length∧a.2.length=a.1∧q10 cs=(q10 (cs.drop a.1)).map (a.2++·)∧∀c∈a.2,(c.up.length≤2000000∧c.down.length≤2000000)∧c.upGot.length≤2000000∧c.downGot.length≤2000000) (0,[]) (leQ []) ⟨Nat.zero_le _,rfl,by simp,by simp⟩ ?_
 intro⟨i,ns⟩ ⟨hi,hnl,hnc,hnB⟩
 simp only at hi hnl hnc hnB
 simp only[go_sem]
 by_cases h:(i:Int)<cs.length
 ·have hil:i<cs.length:=by omega
  have hg:cs.getD i default=cs[i]:=by simp[List.getD,hil]
  obtain⟨b1,b2⟩:=hB _ (List.getElem_mem hil)
  rw[List.drop_eq_getElem_cons hil,q6x] at hnc
  have c1:=c63 cs[i].ins cs[i].out cs[i].up cs[i].down b1 b2
  simp only[eq_true h,go_sem]
  with_reducible repeat' (first|refine br ?_ ?_<;>intro h e<;>(try simp only[e,go_sem,hg])<;>clear e|rw[q01 (by omega)]|refine sd ?_<;>try simp only[go_sem,hg]|(first|refine cr (c1 ..) ?_)<;>try simp only[go_sem,hg]|fail)
  ·obtain⟨n,hn⟩:=Option.isSome_iff_exists.1 (by assumption)
   have hni:=qal hn
   simp only[hn,Option.getD_some] at hnc ⊢
   refine⟨(i+1,ns++[n]),by simp only;omega,⟨by simp only;omega,by simp only[zA,zC,zN];omega, ?_, ?_⟩,leN [(1011,1038)] ?_ ?_ (by simp[q0b]) (by simp only[go_sem])⟩
   ·simp only
    rw[hnc]
    cases q10 (cs.drop (i+1))<;>simp
   ·intro c hc
    rcases List.mem_append.1 hc with hc|hc
    ·exact hnB c hc
    ·simp only[List.mem_singleton] at hc
     subst hc
     rw[hni]
     exact⟨⟨b1,b2⟩,by simp,by simp⟩
   ·simp only[go_sem];simp
   ·simp only[go_sem];simp[Conv.row]
  ·have hn:q1f cs[i].ins cs[i].out cs[i].up cs[i].down=none:=by simpa using h
   rw[hn] at hnc
   simp only[Option.map_none] at hnc
   exact none' _ _ (by simp[q17,hnc]) (by simp only[go_sem]) (by simp only[go_sem]) (by simp only[go_sem])
 ·simp only[eq_false h,go_sem]
  have:i=cs.length:=by omega
  subst this
  rw[List.drop_length] at hnc
  simp only[q10,Option.map_some,List.append_nil] at hnc
  refine q0l (c64 ns (by omega) hnB) [1011] false (by simp only[go_sem];first|done|simp[E.row,Pc.row,Pair.row,Part.row,Flw.row,Pk.row,Conv.row]) (by simp only[List.mem_singleton];rintro c rfl;rfl) rfl (.inr rfl) ?_
  simp only[go_sem]
  cases ht:q16 ns<;>simp only[go_sem]
  ·exact none' _ _ (by simp[q17,hnc,ht]) (by simp only[go_sem]) (by simp only[go_sem]) (by simp only[go_sem])
  ·refine q0v (.tup [.agg [.own 0 ns.length,.nils,.nils,.nils],.bool true]) [.arr 69 10 (ns.map Conv.row)] [(0,1011)] ?_ (.inl ⟨⟨ns,.zero,[]⟩,by simp[q17,hnc,ht],rfl,rfl⟩) ?_ (by simp[q0r,q0b]) (by simp only[go_sem])
   ·simp only[go_sem]
   ·simp only[go_sem]
def qv7:IC:=sR [oP 1 (.box 33 (.t 0)),oP 2 (.alloc 33 [.nils,.nils,.nils,.nils])] (.seq (.drw [0,1,3,7,0,16,63,0,128,511,1023,2047,4095] [(0,fD 3 0 1),(1,lD 4 1 3),(2,oP 5 (.call 76 [.t 4])),(3,oP 6 (.call 75 [.t 5])),(4,fD 7 1 1),(5,lA 8 2 7),(6,oP 9 (.call 77 [.t 8])),(7,fD 10 3 1),(8,lD 11 1 10),(9,oP 12 (.call 79 [.t 11])),(10,oP 13 (.call 78 [.t 12])),(11,oP 14 (.build [.nils,.nils,.nils,.nils] [(0,(1,.t 6)),(1,(2,.t 9)),(3,(1,.t 13))])),(12,nP (.sto 4 (.t 2) (.t 14)))]) .ret)
theorem dg29:Dg Tryz.prog 29 Tryz.f29 qv7 [(.cell 2 4 true)]:=⟨Tryz.func29,by kernel_rfl,by kernel_rfl⟩
theorem x29 {X:List (E×E)} (w:M.World) (hw:WX X w):FnR Tryz.prog G 29 [.agg [.sl 10 (w.convs.map Conv.row),.sl 3 (w.door.map.map Pair.row),.sl 8 (w.door.flows.map Flw.row),.sl 7 (w.nets.map Pk.row)]] (.agg [.sl 10 (w.convs.map Conv.row),.sl 3 (w.door.map.map Pair.row),.sl 8 (w.door.flows.map Flw.row),.sl 7 (w.nets.map Pk.row)]):=by
 refine mF dg29 Tryz.ntmps29 ?_
 have hnl:=hw.nl
 have hcl:=hw.cl
 obtain⟨hdm,hdf,_⟩:=q0i.1 hw.door
 have hml:=(q0c hdm).2
 simp only[qv7,go_sem]
 with_reducible repeat' (first|refine br ?_ ?_<;>intro h e<;>(try simp only[e,go_sem])<;>clear e|rw[q01 (by omega)]|refine sd ?_<;>try simp only[go_sem]|fail)
 refine q0t (c76 (w.convs.map Conv.row) (by simp;omega)) [] 5 1 (by simp only[go_sem];first|done|simp) (by simp) (by rintro _ _ ⟨rfl,rfl⟩;simp) (by intro i hi;obtain rfl:i=0:=(by omega);simp only[go_sem]) ?_
 rintro _ _ ⟨rfl,rfl⟩
 simp only[go_sem]
 with_reducible repeat' (first|refine br ?_ ?_<;>intro h e<;>(try simp only[e,go_sem])<;>clear e|rw[q01 (by omega)]|refine sd ?_<;>try simp only[go_sem]|fail)
 refine q1t (o75 (w.convs.map Conv.row) w.convs.length (by simp)) [100500] [] 6 1 (by simp only[go_sem];first|done|simp) (by simp only[go_sem];first|done|simp) (by simp) (by simp) (by rintro _ _ ⟨rfl,rfl⟩;simp) (by intro i hi;obtain rfl:i=0:=(by omega);simp only[go_sem]) ?_
 rintro _ _ ⟨rfl,rfl⟩
 simp only[go_sem]
 with_reducible repeat' (first|refine br ?_ ?_<;>intro h e<;>(try simp only[e,go_sem])<;>clear e|rw[q01 (by omega)]|refine sd ?_<;>try simp only[go_sem]|fail)
 refine q0t (k77 (w.door.map.map Pair.row) w.door.flows (by simp;omega) (by omega) (qgm hw.door)) [] 9 1 (by simp only[go_sem];first|done|simp) (by simp) (by rintro _ _ ⟨rfl,rfl⟩;simp) (by intro i hi;obtain rfl:i=0:=(by omega);simp only[go_sem]) ?_
 rintro _ _ ⟨rfl,rfl⟩
 simp only[go_sem]
 with_reducible repeat' (first|refine br ?_ ?_<;>intro h e<;>(try simp only[e,go_sem])<;>clear e|rw[q01 (by omega)]|refine sd ?_<;>try simp only[go_sem]|fail)
 refine q0t (c79 (w.nets.map Pk.row) (by simp;omega)) [] 12 1 (by simp only[go_sem];first|done|simp) (by simp) (by rintro _ _ ⟨rfl,rfl⟩;simp) (by intro i hi;obtain rfl:i=0:=(by omega);simp only[go_sem]) ?_
 rintro _ _ ⟨rfl,rfl⟩
 simp only[go_sem]
 with_reducible repeat' (first|refine br ?_ ?_<;>intro h e<;>(try simp only[e,go_sem])<;>clear e|rw[q01 (by omega)]|refine sd ?_<;>try simp only[go_sem]|fail)
 refine q1t (o78 (w.nets.map Pk.row) w.nets.length (by simp)) [101200] [] 13 1 (by simp only[go_sem];first|done|simp) (by simp only[go_sem];first|done|simp) (by simp) (by simp) (by rintro _ _ ⟨rfl,rfl⟩;simp) (by intro i hi;obtain rfl:i=0:=(by omega);simp only[go_sem]) ?_
 rintro _ _ ⟨rfl,rfl⟩
 simp only[go_sem]
 with_reducible repeat' (first|refine br ?_ ?_<;>intro h e<;>(try simp only[e,go_sem])<;>clear e|rw[q01 (by omega)]|refine sd ?_<;>try simp only[go_sem]|fail)
theorem c29 (w:M.World) (hw:WI w):FnR Tryz.prog G 29 [.agg [.sl 10 (w.convs.map Conv.row),.sl 3 (w.door.map.map Pair.row),.sl 8 (w.door.flows.map Flw.row),.sl 7 (w.nets.map Pk.row)]] (.agg [.sl 10 (w.convs.map Conv.row),.sl 3 (w.door.map.map Pair.row),.sl 8 (w.door.flows.map Flw.row),.sl 7 (w.nets.map Pk.row)]) :=
 x29 w hw.x
def ic10:IC:=sR [oP 4 (.alloc 33 [.nils,.nils,.nils,.nils]),oP 5 (.mv cF)] (sR [mV 11 0,oP 12 (.call 27 [.t 11]),mV 10 12,eX 13 10 0,eX 14 10 1,oP 6 (.alloc 33 [.nils,.nils,.nils,.nils]),nP (.sto 4 (.t 6) (.t 13)),mV 7 14] (.seq (sR [mV 15 7,oP 16 (.un .not (.t 15)),mV 17 16,gF 18 17 (.mv (.t 1)),gF 19 17 (.len (.t 18)),gF 20 17 (.bin .gtr (.t 19) (cI 60)),pT 21 17 20] (cD 21 (sR [oP 22 (.build [.nils,.nils,.nils,.nils] []),nP (.sto 4 (.t 4) (.t 22)),oP 5 (.mv cF)] .ret) .skip)) (.seq (sR [mV 23 1,oP 24 (.len (.t 23)),oP 25 (.mv (.c i0))] (.block 0 (.loop (sR [bN 26 .lss 25 24] (.seq (cD 26 .skip (.exit 0)) (.seq (.block 1 (sR [oP 27 (.iad 11 (.t 23) (.t 25)),lA 28 11 27,oP 9 (.alloc 67 [i0,i0,i0,i0,i0,i0,i0,i0,i0,i0,s0]),nP (.sto 11 (.t 9) (.t 28))] (.reg [lA 29 11 9,oP 30 (.call 28 [.t 6,.t 29])]))) (.reg [oP 31 (.bin .add (.t 25) (cI 1)),mV 25 31]))))))) (sR [lA 32 4 6,oP 33 (.call 29 [.t 32]),nP (.sto 4 (.t 4) (.t 33)),oP 5 (.mv cT)] .ret))))
theorem dg10:Dg Tryz.prog 10 Tryz.f10 ic10 [(.cell 4 4 true),(.t 5)]:=⟨Tryz.func10,by kernel_rfl,by kernel_rfl⟩
set_option maxHeartbeats 1000000 in
theorem c10 (cs:List Conv) (es:List Ev) (hl:cs.length≤1048576) (hB:∀c∈cs,c.up.length≤2000000∧c.down.length≤2000000) (hel:es.length≤1048576) (heB:∀e∈es,e.pkt.text.length≤2000000) :
 FnR Tryz.prog G 10 [.sl 10 (cs.map Conv.row),.sl 11 (es.map Ev.row)] (.tup [.agg [.sl 10 (((q0d cs es).getD .zero).convs.map Conv.row),.sl 3 (((q0d cs es).getD .zero).door.map.map Pair.row),.sl 8 (((q0d cs es).getD .zero).door.flows.map Flw.row),.sl 7 (((q0d cs es).getD .zero).nets.map Pk.row)],.bool (q0d cs es).isSome]):=by
 refine mF dg10 Tryz.ntmps10 ?_
 simp only[ic10,go_sem]
 refine q0t (c27 cs hl hB) [] 12 1 (by simp only[go_sem];first|done|simp) (by simp) (by rintro _ _ (⟨w,_,rfl,rfl⟩|⟨_,rfl,rfl⟩)<;>simp) (by intro i hi;obtain rfl:i=0:=(by omega);simp only[go_sem]) ?_
 rintro _ _ (⟨w,hw,rfl,rfl⟩|⟨hw,rfl,rfl⟩)
 ·simp only[go_sem]
  have hwi:=q3e hw
  obtain⟨_,_,hz,hn0⟩:=q6d hw
  by_cases h60:es.length≤60
  ·have hpl:q0d cs es=some (es.foldl wDo w):=by simp only[q0d,hw];rw[if_pos h60]
   have h60':¬(60:Int)<es.length:=by omega
   rw[hpl]
   simp only[eq_false h60',go_sem,Option.isSome_some,Option.getD_some]
   with_reducible repeat' (first|refine br ?_ ?_<;>intro h e<;>(try simp only[e,go_sem])<;>clear e|rw[q01 (by omega)]|refine sd ?_<;>try simp only[go_sem]|fail)
   refine q0h (λa:Nat×M.World=>⟨q0e [(4,.pv 1004 0),(6,.pv 1006 0),(23,.sl 11 (es.map Ev.row)),(24,.int .i64 es.length),(25,.int .i64 (a.1:Int))],q09 [(1004,.var 33 [.nils,.nils,.nils,.nils]),(1006,.var 33 [.own 101200 a.2.convs.length,.sl 3 (a.2.door.map.map Pair.row),.own 200001 a.2.door.flows.length,.own 200003 a.2.nets.length]),(200001,.arr 169 8 (a.2.door.flows.map Flw.row)),(101200,.arr 69 10 (a.2.convs.map Conv.row)),(200003,.arr 65 7 (a.2.nets.map Pk.row))]⟩)
    (λa=>es.length - a.1) (λa=>a.1≤es.length∧WI a.2∧es.foldl wDo w=(es.drop a.1).foldl wDo a.2) (0,w)
    (St.le_trans (qaz (row:=[.own 101200 w.convs.length,.nils,.nils,.nils]) 1006 200001 169 8 33 2 (by simp only[go_sem]) (by decide) (by simp only[go_sem]) rfl) (St.le_trans (qaz (row:=[.own 101200 w.convs.length,.nils,.own 200001 0,.nils]) 1006 200003 65 7 33 3 (by simp only[go_sem]) (by decide) (by simp only[go_sem,List.set_cons_succ,List.set_cons_zero]) rfl) (leN [] (by simp only[go_sem]) (by simp only[go_sem,hz,hn0,Door.zero,List.set_cons_succ,List.set_cons_zero]) (by simp[q0b]) (by simp only[go_sem])))) ⟨Nat.zero_le _,hwi,by simp⟩ ?_
   intro⟨k,v⟩ ⟨hk,hv,he⟩
   simp only at hk hv he
   simp only[go_sem]
   by_cases h:(k:Int)<es.length
   ·have hil:k<es.length:=by omega
    have hg:es.getD k default=es[k]:=by simp[List.getD,hil]
    rw[List.drop_eq_getElem_cons hil] at he
    simp only[eq_true h,go_sem]
    with_reducible repeat' (first|refine br ?_ ?_<;>intro h e<;>(try simp only[e,go_sem,hg])<;>clear e|rw[q01 (by omega)]|refine sd ?_<;>try simp only[go_sem,hg]|fail)
    refine q0f (c28 v es[k] hv (heB _ (List.getElem_mem hil))) [1006,200001,101200,200003] [] true 30 4 (by simp only[go_sem];first|done|simp) (by simp only[go_sem];first|done|simp) (by simp) (by simp) (by simp) ?_ ?_ ?_
    ·rintro _ _ ⟨rfl,v',hv',rfl⟩
     exact⟨by simp,by simp,.inl rfl,λi hi=>by obtain rfl:i=0:=(by omega);simp[chH,q07]⟩
    ·intro i hi
     rcases(show i=0∨i=1∨i=2∨i=3 by omega) with rfl|rfl|rfl|rfl<;>simp only[go_sem]
    rintro _ _ ⟨rfl,v',hv',rfl⟩
    simp only[go_sem]
    with_reducible repeat' (first|refine br ?_ ?_<;>intro h e<;>(try simp only[e,go_sem])<;>clear e|rw[q01 (by omega)]|refine sd ?_<;>try simp only[go_sem]|fail)
    exact⟨(k+1,v'),by simp only;omega,⟨by simp only;omega,by rw[hv'];exact qbu hv _,by rw[hv'];exact he⟩,leN [(101200,103002),(200001,103001),(200003,103003)] (by simp only[go_sem];first|done|omega|rfl) (by simp only[go_sem];first|done|omega|rfl) (by simp[q0b]) (by simp only[go_sem])⟩
   ·simp only[eq_false h,go_sem]
    have:k=es.length:=by omega
    subst this
    rw[List.drop_length] at he
    rw[show es.foldl wDo w=v from he]
    refine q0l (c29 v hv) [101200,200001,200003] true (by simp only[go_sem];simp) (by simp only[List.mem_cons,List.not_mem_nil,or_false];rintro c (rfl|rfl|rfl)<;>simp only[go_sem]) rfl (.inl rfl) ?_
    simp only[go_sem]
    with_reducible repeat' (first|refine br ?_ ?_<;>intro h e<;>(try simp only[e,go_sem])<;>clear e|rw[q01 (by omega)]|refine sd ?_<;>try simp only[go_sem]|fail)
  ·have hpl:q0d cs es=none:=by simp only[q0d,hw];rw[if_neg h60]
   have h60':(60:Int)<es.length:=by omega
   rw[hpl]
   simp only[eq_true h60',go_sem]
   with_reducible repeat' (first|refine br ?_ ?_<;>intro h e<;>(try simp only[e,go_sem])<;>clear e|rw[q01 (by omega)]|refine sd ?_<;>try simp only[go_sem]|fail)
   simp[World.zero,Door.zero]
 ·have hpl:q0d cs es=none:=by simp only[q0d,hw]
  rw[hpl]
  simp only[go_sem]
  with_reducible repeat' (first|refine br ?_ ?_<;>intro h e<;>(try simp only[e,go_sem])<;>clear e|rw[q01 (by omega)]|refine sd ?_<;>try simp only[go_sem]|fail)
  simp[World.zero,Door.zero]
end Go.Proofs.YtpnekhiejecipaaGreatDoor.W
namespace Go.Proofs.YtpnekhiejecipaaGreatDoor.W
open Go Go.RowKit Go.Proofs Go.Proofs.YtpnekhiejecipaaGreatDoor.VL Go.Proofs.YtpnekhiejecipaaGreatDoor.M
attribute [local go_sem] qu0 mkn_i qre qsr apn_v qu8 qk2 Nat.reduceLT Nat.reduceMul Int.reduceToNat
theorem q2w (c o n:Nat):q05 (.view c o n)=[.view c o n]:=of_eq_true (eq_self _)
theorem qe0 {F:Nat→Prop} {f:Nat→Nat} {h h':Nat→Hs} {v:V}:Wk1 F f h h' v .undef=True:=by cases v<;>rfl
theorem rep0:List.replicate 0 V.undef=[]:=rfl
theorem rep8:List.replicate 8 V.undef=[.undef,.undef,.undef,.undef,.undef,.undef,.undef,.undef]:=rfl
theorem rep16:List.replicate 16 V.undef=[.undef,.undef,.undef,.undef,.undef,.undef,.undef,.undef,.undef,.undef,.undef,.undef,.undef,.undef,.undef,.undef]:=rfl
attribute [local go_sem] rep0 rep8 rep16 q2w qe0 List.flatMap_cons List.flatMap_nil
theorem n175 (t:B) (rows:List (List V)) (hr:rows.length≤2000000):FnP Tryz.prog G 175 0 [] [.agg [.str t,.sl 2 rows]] (λr o=>r=.agg [.str t,.own 0 rows.length]∧o=[.arr 204 2 rows]):=by
 refine mP qqj Tryz.ntmps175 ⟨_,_,rfl,rfl⟩ ?_
 simp only[qon,go_sem]
 with_reducible repeat' (first|refine br ?_ ?_<;>intro h e<;>(try simp only[e,go_sem])<;>clear e|rw[q01 (by omega)]|refine sd ?_<;>try simp only[go_sem]|fail)
 refine q0t (c210 rows hr) [] 7 1 (by simp only[go_sem];first|done|simp) (by simp) (by rintro _ _ ⟨rfl,rfl⟩;simp) (by intro i hi;obtain rfl:i=0:=(by omega);simp only[go_sem]) ?_
 rintro _ _ ⟨rfl,rfl⟩
 simp only[go_sem]
 with_reducible repeat' (first|refine br ?_ ?_<;>intro h e<;>(try simp only[e,go_sem])<;>clear e|rw[q01 (by omega)]|refine sd ?_<;>try simp only[go_sem]|fail)
 refine q1t (o209 rows rows.length rfl) [100700] [] 8 1 (by simp only[go_sem];first|done|simp) (by simp only[go_sem];first|done|simp) (by simp) (by simp) (by rintro _ _ ⟨rfl,rfl⟩;simp) (by intro i hi;obtain rfl:i=0:=(by omega);simp only[go_sem]) ?_
 rintro _ _ ⟨rfl,rfl⟩
 simp only[go_sem]
 with_reducible repeat' (first|refine br ?_ ?_<;>intro h e<;>(try simp only[e,go_sem])<;>clear e|rw[q01 (by omega)]|refine sd ?_<;>try simp only[go_sem]|fail)
 exact q0v (.agg [.str t,.own 0 rows.length]) [.arr 204 2 rows] [(0,100800)] (by simp only[go_sem]) ⟨rfl,rfl⟩ (by simp only[go_sem]) (by simp[q0r,q0b]) (by simp only[go_sem])
theorem n136 (f:Flw) (h:f.up.parts.length≤2000000∧f.down.parts.length≤2000000):FnP Tryz.prog G 136 0 [] [.agg [.int .i64 f.ins.a,.int .i64 f.ins.p,.int .i64 f.out.a,.int .i64 f.out.p,.str f.up.inn,.sl 2 (f.up.parts.map Part.row),.str f.down.inn,.sl 2 (f.down.parts.map Part.row)]]
 (λr o=>r=.agg [.int .i64 f.ins.a,.int .i64 f.ins.p,.int .i64 f.out.a,.int .i64 f.out.p,.str f.up.inn,.own 0 f.up.parts.length,.str f.down.inn,.own 1 f.down.parts.length]∧o=[.arr 204 2 (f.up.parts.map Part.row),.arr 204 2 (f.down.parts.map Part.row)]):=by
 refine mP quw Tryz.ntmps136 ⟨_,_,rfl,rfl⟩ ?_
 simp only[qmo,go_sem]
 with_reducible repeat' (first|refine br ?_ ?_<;>intro h e<;>(try simp only[e,go_sem])<;>clear e|rw[q01 (by omega)]|refine sd ?_<;>try simp only[go_sem]|fail)
 refine q0t (n175 f.up.inn (f.up.parts.map Part.row) (by simp;omega)) [] 9 1 (by simp only[go_sem];first|done|simp) (by simp) (by rintro _ _ ⟨rfl,rfl⟩;simp) (by intro i hi;obtain rfl:i=0:=(by omega);simp only[go_sem]) ?_
 rintro _ _ ⟨rfl,rfl⟩
 simp only[go_sem,List.length_map]
 with_reducible repeat' (first|refine br ?_ ?_<;>intro h e<;>(try simp only[e,go_sem])<;>clear e|rw[q01 (by omega)]|refine sd ?_<;>try simp only[go_sem]|fail)
 refine q0t (n175 f.down.inn (f.down.parts.map Part.row) (by simp;omega)) [] 12 1 (by simp only[go_sem];first|done|simp) (by simp) (by rintro _ _ ⟨rfl,rfl⟩;simp) (by intro i hi;obtain rfl:i=0:=(by omega);simp only[go_sem]) ?_
 rintro _ _ ⟨rfl,rfl⟩
 simp only[go_sem,List.length_map]
 with_reducible repeat' (first|refine br ?_ ?_<;>intro h e<;>(try simp only[e,go_sem])<;>clear e|rw[q01 (by omega)]|refine sd ?_<;>try simp only[go_sem]|fail)
 exact q0v (.agg [.int .i64 f.ins.a,.int .i64 f.ins.p,.int .i64 f.out.a,.int .i64 f.out.p,.str f.up.inn,.own 0 f.up.parts.length,.str f.down.inn,.own 1 f.down.parts.length]) [.arr 204 2 (f.up.parts.map Part.row),.arr 204 2 (f.down.parts.map Part.row)] [(0,100900),(1,101200)] (by simp only[go_sem]) ⟨rfl,rfl⟩ (by simp only[go_sem]) (by simp[q0r,q0b]) (by simp only[go_sem])
def in77:IC:=sR [oP 1 (.box 30 (.t 0)),oP 2 (.alloc 30 [.nils,.nils])] (.seq (.drw [0,1,3,0,8,24,56,127,0,511] [(0,fD 6 0 1),(1,lD 7 1 6),(2,oP 8 (.call 135 [.t 7])),(3,fD 9 1 1),(4,lD 10 1 9),(5,oP 11 (.len (.t 10))),(6,oP 12 (.mkn 169 8 (.t 11))),(7,oP 13 (.build [.nils,.nils] [(0,(1,.t 8)),(1,(1,.t 12))])),(8,oP 3 (.alloc 30 [.nils,.nils])),(9,nP (.sto 2 (.t 3) (.t 13)))]) (.seq (sR [fD 14 1 1,lD 15 1 14,oP 16 (.len (.t 15)),oP 17 (.mv (.c i0))] (.block 0 (.loop (sR [bN 18 .lss 17 16] (.seq (.cond (.t 18) .skip (.exit 0)) (.seq (.block 1 (sR [oP 19 (.iad 8 (.t 15) (.t 17)),lA 20 8 19,oP 5 (.alloc 169 [i0,i0,i0,i0,s0,.nils,s0,.nils]),nP (.sto 8 (.t 5) (.t 20))] (.drw [0,1,0,4,12,31,63,127] [(0,fD 21 1 3),(1,lD 22 1 21),(2,lA 23 8 5),(3,oP 24 (.call 136 [.t 23])),(4,oP 25 (.bsn 169 8 [.t 24])),(5,oP 26 (.apn 8 (.t 22) (.t 25))),(6,fD 27 1 3),(7,nP (.sto 1 (.t 27) (.t 26)))]))) (.reg [oP 28 (.bin .add (.t 17) (.c (.int .i64 1))),mV 17 28]))))))) (sR [lA 29 2 3,nP (.sto 2 (.t 2) (.t 29))] .ret)))
theorem dn77:DgN Tryz.prog 77 Tryz.f77 in77 [(.cell 2 2 true)]:=⟨Tryz.func77,by kernel_rfl,by kernel_rfl⟩
def hs0 (rows:List (List V)):Nat→List (Nat×Hs)
 | _=>[(1002,.var 30 [.nils,.nils]),(1003,.var 30 [.own 100800 rows.length,.view 1012 0 0]),(100800,.arr 145 3 rows),(1012,.var 169 [])]
set_option maxHeartbeats 2000000 in
theorem n077 (rows:List (List V)) (fs:List Flw) (hr:rows.length≤2000000) (hfs:fs=[]) :
 FnP Tryz.prog G 77 0 [] [.agg [.sl 3 rows,.sl 8 (fs.map Flw.row)]] (λr o=>r=.agg [.own 0 rows.length,.view 1 0 0]∧o=[.arr 145 3 rows,.var 169 []]):=by
 refine mPN dn77 Tryz.ntmps77 ⟨_,_,rfl,rfl⟩ ?_
 have hln:(fs.length:Int)=0:=by rw[hfs];rfl
 simp only[in77,go_sem]
 with_reducible repeat' (first|refine br ?_ ?_<;>intro h e<;>(try simp only[e,go_sem,hln])<;>clear e|rw[q01 (by omega)]|refine sd ?_<;>try simp only[go_sem,hln]|fail)
 refine q0t (qpu rows hr) [] 8 1 (by simp only[go_sem];first|done|simp) (by simp) (by rintro _ _ ⟨rfl,rfl⟩;simp) (by intro i hi;obtain rfl:i=0:=(by omega);simp only[go_sem]) ?_
 rintro _ _ ⟨rfl,rfl⟩
 simp only[go_sem,hln]
 with_reducible repeat' (first|refine br ?_ ?_<;>intro h e<;>(try simp only[e,go_sem,hln])<;>clear e|rw[q01 (by omega)]|refine sd ?_<;>try simp only[go_sem,hln]|fail)
 refine q0h (λk:Nat=>⟨q0e [(2,.pv 1002 0),(3,.pv 1003 0),(15,.sl 8 (fs.map Flw.row)),(16,.int .i64 0),(17,.int .i64 (k:Int))],q09 (hs0 rows k)⟩) (λk=>0 - k) (λk=>k≤0) 0 (leN [] (by simp only[hs0,go_sem];first|done|omega|rfl) (by simp only[hs0,go_sem];first|done|omega|rfl) (by simp[q0b,hs0]) (by simp only[go_sem])) (Nat.zero_le _) ?_
 intro k hk
 obtain rfl:k=0:=by omega
 simp only[hs0,go_sem]
 with_reducible repeat' (first|refine br ?_ ?_<;>intro h e<;>(try simp only[e,go_sem])<;>clear e|rw[q01 (by omega)]|refine sd ?_<;>try simp only[go_sem]|fail)
 exact q0v (.agg [.own 0 rows.length,.view 1 0 0]) [.arr 145 3 rows,.var 169 []] [(0,100800),(1,1012)] (by simp only[go_sem]) ⟨rfl,rfl⟩ (by simp only[go_sem]) (by simp[q0r,q0b]) (by simp only[go_sem])
def hs1 (rows:List (List V)) (f:Flw):Nat→List (Nat×Hs)
 | 0=>[(1002,.var 30 [.nils,.nils]),(1003,.var 30 [.own 100800 rows.length,.view 1012 1 0]),(100800,.arr 145 3 rows),(1012,.var 169 [.undef,.undef,.undef,.undef,.undef,.undef,.undef,.undef])]
 | _=>[(1002,.var 30 [.nils,.nils]),(1003,.var 30 [.own 100800 rows.length,.view 1012 1 1]),(100800,.arr 145 3 rows),(1012,.var 169 [.int .i64 f.ins.a,.int .i64 f.ins.p,.int .i64 f.out.a,.int .i64 f.out.p,.str f.up.inn,.own 2 f.up.parts.length,.str f.down.inn,.own 3 f.down.parts.length]),(2,.arr 204 2 (f.up.parts.map Part.row)),(3,.arr 204 2 (f.down.parts.map Part.row))]
set_option maxHeartbeats 2000000 in
theorem n177 (rows:List (List V)) (fs:List Flw) (f:Flw) (hr:rows.length≤2000000) (hfs:fs=[f]) (bf:f.up.parts.length≤2000000∧f.down.parts.length≤2000000) :
 FnP Tryz.prog G 77 0 [] [.agg [.sl 3 rows,.sl 8 (fs.map Flw.row)]] (λr o=>r=.agg [.own 0 rows.length,.view 1 1 1]∧o=[.arr 145 3 rows,.var 169 [.int .i64 f.ins.a,.int .i64 f.ins.p,.int .i64 f.out.a,.int .i64 f.out.p,.str f.up.inn,.own 2 f.up.parts.length,.str f.down.inn,.own 3 f.down.parts.length],.arr 204 2 (f.up.parts.map Part.row),.arr 204 2 (f.down.parts.map Part.row)]):=by
 refine mPN dn77 Tryz.ntmps77 ⟨_,_,rfl,rfl⟩ ?_
 have hln:(fs.length:Int)=1:=by rw[hfs];rfl
 simp only[in77,go_sem]
 with_reducible repeat' (first|refine br ?_ ?_<;>intro h e<;>(try simp only[e,go_sem,hln])<;>clear e|rw[q01 (by omega)]|refine sd ?_<;>try simp only[go_sem,hln]|fail)
 refine q0t (qpu rows hr) [] 8 1 (by simp only[go_sem];first|done|simp) (by simp) (by rintro _ _ ⟨rfl,rfl⟩;simp) (by intro i hi;obtain rfl:i=0:=(by omega);simp only[go_sem]) ?_
 rintro _ _ ⟨rfl,rfl⟩
 simp only[go_sem,hln]
 with_reducible repeat' (first|refine br ?_ ?_<;>intro h e<;>(try simp only[e,go_sem,hln])<;>clear e|rw[q01 (by omega)]|refine sd ?_<;>try simp only[go_sem,hln]|fail)
 refine q0h (λk:Nat=>⟨q0e [(2,.pv 1002 0),(3,.pv 1003 0),(15,.sl 8 (fs.map Flw.row)),(16,.int .i64 1),(17,.int .i64 (k:Int))],q09 (hs1 rows f k)⟩) (λk=>1 - k) (λk=>k≤1) 0 (leN [] (by simp only[hs1,go_sem];first|done|omega|rfl) (by simp only[hs1,go_sem];first|done|omega|rfl) (by simp[q0b,hs1]) (by simp only[go_sem])) (Nat.zero_le _) ?_
 intro k hk
 by_cases k0:k=0
 ·subst k0
  have hg:fs.getD 0 default=f:=by rw[hfs];rfl
  simp only[hs1,go_sem]
  with_reducible repeat' (first|refine br ?_ ?_<;>intro h e<;>(try simp only[e,go_sem,hg,hln])<;>clear e|rw[q01 (by omega)]|refine sd ?_<;>try simp only[go_sem,hg,hln]|fail)
  refine q0t (n136 f bf) [] 24 2 (by simp only[go_sem];first|done|simp) (by simp) (by rintro _ _ ⟨rfl,rfl⟩;simp) (by intro i hi;rcases(show i=0∨i=1 by omega) with rfl|rfl<;>simp only[go_sem]) ?_
  rintro _ _ ⟨rfl,rfl⟩
  simp only[go_sem]
  with_reducible repeat' (first|refine br ?_ ?_<;>intro h e<;>(try simp only[e,go_sem])<;>clear e|rw[q01 (by omega)]|refine sd ?_<;>try simp only[go_sem]|fail)
  exact⟨1,by omega,by omega,leN [(2,102400),(3,102401)] (by simp only[hs1,go_sem];first|done|omega|rfl) (by simp only[hs1,go_sem];first|done|omega|rfl) (by simp[q0b,hs1]) (by simp only[go_sem])⟩
 obtain rfl:k=1:=by omega
 simp only[hs1,go_sem]
 with_reducible repeat' (first|refine br ?_ ?_<;>intro h e<;>(try simp only[e,go_sem])<;>clear e|rw[q01 (by omega)]|refine sd ?_<;>try simp only[go_sem]|fail)
 exact q0v (.agg [.own 0 rows.length,.view 1 1 1]) [.arr 145 3 rows,.var 169 [.int .i64 f.ins.a,.int .i64 f.ins.p,.int .i64 f.out.a,.int .i64 f.out.p,.str f.up.inn,.own 2 f.up.parts.length,.str f.down.inn,.own 3 f.down.parts.length],.arr 204 2 (f.up.parts.map Part.row),.arr 204 2 (f.down.parts.map Part.row)] [(0,100800),(1,1012),(2,2),(3,3)] (by simp only[go_sem]) ⟨rfl,rfl⟩ (by simp only[go_sem]) (by simp[q0r,q0b]) (by simp only[go_sem])
def hs2 (rows:List (List V)) (f g:Flw):Nat→List (Nat×Hs)
 | 0=>[(1002,.var 30 [.nils,.nils]),(1003,.var 30 [.own 100800 rows.length,.view 1012 2 0]),(100800,.arr 145 3 rows),(1012,.var 169 [.undef,.undef,.undef,.undef,.undef,.undef,.undef,.undef,.undef,.undef,.undef,.undef,.undef,.undef,.undef,.undef])]
 | 1=>[(1002,.var 30 [.nils,.nils]),(1003,.var 30 [.own 100800 rows.length,.view 1012 2 1]),(100800,.arr 145 3 rows),(1012,.var 169 [.int .i64 f.ins.a,.int .i64 f.ins.p,.int .i64 f.out.a,.int .i64 f.out.p,.str f.up.inn,.own 2 f.up.parts.length,.str f.down.inn,.own 3 f.down.parts.length,.undef,.undef,.undef,.undef,.undef,.undef,.undef,.undef]),(2,.arr 204 2 (f.up.parts.map Part.row)),(3,.arr 204 2 (f.down.parts.map Part.row))]
 | _=>[(1002,.var 30 [.nils,.nils]),(1003,.var 30 [.own 100800 rows.length,.view 1012 2 2]),(100800,.arr 145 3 rows),(1012,.var 169 [.int .i64 f.ins.a,.int .i64 f.ins.p,.int .i64 f.out.a,.int .i64 f.out.p,.str f.up.inn,.own 2 f.up.parts.length,.str f.down.inn,.own 3 f.down.parts.length,.int .i64 g.ins.a,.int .i64 g.ins.p,.int .i64 g.out.a,.int .i64 g.out.p,.str g.up.inn,.own 4 g.up.parts.length,.str g.down.inn,.own 5 g.down.parts.length]),(2,.arr 204 2 (f.up.parts.map Part.row)),(3,.arr 204 2 (f.down.parts.map Part.row)),(4,.arr 204 2 (g.up.parts.map Part.row)),(5,.arr 204 2 (g.down.parts.map Part.row))]
set_option maxHeartbeats 2000000 in
theorem n277 (rows:List (List V)) (fs:List Flw) (f g:Flw) (hr:rows.length≤2000000) (hfs:fs=[f,g]) (bf:f.up.parts.length≤2000000∧f.down.parts.length≤2000000) (bg:g.up.parts.length≤2000000∧g.down.parts.length≤2000000) :
 FnP Tryz.prog G 77 0 [] [.agg [.sl 3 rows,.sl 8 (fs.map Flw.row)]] (λr o=>r=.agg [.own 0 rows.length,.view 1 2 2]∧o=[.arr 145 3 rows,.var 169 [.int .i64 f.ins.a,.int .i64 f.ins.p,.int .i64 f.out.a,.int .i64 f.out.p,.str f.up.inn,.own 2 f.up.parts.length,.str f.down.inn,.own 3 f.down.parts.length,.int .i64 g.ins.a,.int .i64 g.ins.p,.int .i64 g.out.a,.int .i64 g.out.p,.str g.up.inn,.own 4 g.up.parts.length,.str g.down.inn,.own 5 g.down.parts.length],.arr 204 2 (f.up.parts.map Part.row),.arr 204 2 (f.down.parts.map Part.row),.arr 204 2 (g.up.parts.map Part.row),.arr 204 2 (g.down.parts.map Part.row)]):=by
 refine mPN dn77 Tryz.ntmps77 ⟨_,_,rfl,rfl⟩ ?_
 have hln:(fs.length:Int)=2:=by rw[hfs];rfl
 simp only[in77,go_sem]
 with_reducible repeat' (first|refine br ?_ ?_<;>intro h e<;>(try simp only[e,go_sem,hln])<;>clear e|rw[q01 (by omega)]|refine sd ?_<;>try simp only[go_sem,hln]|fail)
 refine q0t (qpu rows hr) [] 8 1 (by simp only[go_sem];first|done|simp) (by simp) (by rintro _ _ ⟨rfl,rfl⟩;simp) (by intro i hi;obtain rfl:i=0:=(by omega);simp only[go_sem]) ?_
 rintro _ _ ⟨rfl,rfl⟩
 simp only[go_sem,hln]
 with_reducible repeat' (first|refine br ?_ ?_<;>intro h e<;>(try simp only[e,go_sem,hln])<;>clear e|rw[q01 (by omega)]|refine sd ?_<;>try simp only[go_sem,hln]|fail)
 refine q0h (λk:Nat=>⟨q0e [(2,.pv 1002 0),(3,.pv 1003 0),(15,.sl 8 (fs.map Flw.row)),(16,.int .i64 2),(17,.int .i64 (k:Int))],q09 (hs2 rows f g k)⟩) (λk=>2 - k) (λk=>k≤2) 0 (leN [] (by simp only[hs2,go_sem];first|done|omega|rfl) (by simp only[hs2,go_sem];first|done|omega|rfl) (by simp[q0b,hs2]) (by simp only[go_sem])) (Nat.zero_le _) ?_
 intro k hk
 by_cases k0:k=0
 ·subst k0
  have hg:fs.getD 0 default=f:=by rw[hfs];rfl
  simp only[hs2,go_sem]
  with_reducible repeat' (first|refine br ?_ ?_<;>intro h e<;>(try simp only[e,go_sem,hg,hln])<;>clear e|rw[q01 (by omega)]|refine sd ?_<;>try simp only[go_sem,hg,hln]|fail)
  refine q0t (n136 f bf) [] 24 2 (by simp only[go_sem];first|done|simp) (by simp) (by rintro _ _ ⟨rfl,rfl⟩;simp) (by intro i hi;rcases(show i=0∨i=1 by omega) with rfl|rfl<;>simp only[go_sem]) ?_
  rintro _ _ ⟨rfl,rfl⟩
  simp only[go_sem]
  with_reducible repeat' (first|refine br ?_ ?_<;>intro h e<;>(try simp only[e,go_sem])<;>clear e|rw[q01 (by omega)]|refine sd ?_<;>try simp only[go_sem]|fail)
  exact⟨1,by omega,by omega,leN [(2,102400),(3,102401)] (by simp only[hs2,go_sem];first|done|omega|rfl) (by simp only[hs2,go_sem];first|done|omega|rfl) (by simp[q0b,hs2]) (by simp only[go_sem])⟩
 by_cases k1:k=1
 ·subst k1
  have hg:fs.getD 1 default=g:=by rw[hfs];rfl
  simp only[hs2,go_sem]
  with_reducible repeat' (first|refine br ?_ ?_<;>intro h e<;>(try simp only[e,go_sem,hg,hln])<;>clear e|rw[q01 (by omega)]|refine sd ?_<;>try simp only[go_sem,hg,hln]|fail)
  refine q0t (n136 g bg) [] 24 2 (by simp only[go_sem];first|done|simp) (by simp) (by rintro _ _ ⟨rfl,rfl⟩;simp) (by intro i hi;rcases(show i=0∨i=1 by omega) with rfl|rfl<;>simp only[go_sem]) ?_
  rintro _ _ ⟨rfl,rfl⟩
  simp only[go_sem]
  with_reducible repeat' (first|refine br ?_ ?_<;>intro h e<;>(try simp only[e,go_sem])<;>clear e|rw[q01 (by omega)]|refine sd ?_<;>try simp only[go_sem]|fail)
  exact⟨2,by omega,by omega,leN [(4,102400),(5,102401)] (by simp only[hs2,go_sem];first|done|omega|rfl) (by simp only[hs2,go_sem];first|done|omega|rfl) (by simp[q0b,hs2]) (by simp only[go_sem])⟩
 obtain rfl:k=2:=by omega
 simp only[hs2,go_sem]
 with_reducible repeat' (first|refine br ?_ ?_<;>intro h e<;>(try simp only[e,go_sem])<;>clear e|rw[q01 (by omega)]|refine sd ?_<;>try simp only[go_sem]|fail)
 exact q0v (.agg [.own 0 rows.length,.view 1 2 2]) [.arr 145 3 rows,.var 169 [.int .i64 f.ins.a,.int .i64 f.ins.p,.int .i64 f.out.a,.int .i64 f.out.p,.str f.up.inn,.own 2 f.up.parts.length,.str f.down.inn,.own 3 f.down.parts.length,.int .i64 g.ins.a,.int .i64 g.ins.p,.int .i64 g.out.a,.int .i64 g.out.p,.str g.up.inn,.own 4 g.up.parts.length,.str g.down.inn,.own 5 g.down.parts.length],.arr 204 2 (f.up.parts.map Part.row),.arr 204 2 (f.down.parts.map Part.row),.arr 204 2 (g.up.parts.map Part.row),.arr 204 2 (g.down.parts.map Part.row)] [(0,100800),(1,1012),(2,2),(3,3),(4,4),(5,5)] (by simp only[go_sem]) ⟨rfl,rfl⟩ (by simp only[go_sem]) (by simp[q0r,q0b]) (by simp only[go_sem])
def qwp (w:M.World) (r:V) (o:List Hs):Prop:=r=.agg [.own 0 w.convs.length,.own 1 w.door.map.length,.view 2 0 0,.own 3 w.nets.length]∧o=[.arr 69 10 (w.convs.map Conv.row),.arr 145 3 (w.door.map.map Pair.row),.var 169 [],.arr 65 7 (w.nets.map Pk.row)]
theorem n029 (w:M.World) (hw:WI w) (hfs:w.door.flows=[]):FnP Tryz.prog G 29 0 [] [.agg [.sl 10 (w.convs.map Conv.row),.sl 3 (w.door.map.map Pair.row),.sl 8 (w.door.flows.map Flw.row),.sl 7 (w.nets.map Pk.row)]] (qwp w):=by
 refine mP dg29 Tryz.ntmps29 ⟨_,_,rfl,rfl⟩ ?_
 have hnl:=hw.nl
 have hcl:=hw.cl
 obtain⟨hdm,hdf,_⟩:=q0i.1 hw.door
 have hml:=(q0c hdm).2
 simp only[qv7,go_sem]
 with_reducible repeat' (first|refine br ?_ ?_<;>intro h e<;>(try simp only[e,go_sem])<;>clear e|rw[q01 (by omega)]|refine sd ?_<;>try simp only[go_sem]|fail)
 refine q0t (c76 (w.convs.map Conv.row) (by simp;omega)) [] 5 1 (by simp only[go_sem];first|done|simp) (by simp) (by rintro _ _ ⟨rfl,rfl⟩;simp) (by intro i hi;obtain rfl:i=0:=(by omega);simp only[go_sem]) ?_
 rintro _ _ ⟨rfl,rfl⟩
 simp only[go_sem]
 with_reducible repeat' (first|refine br ?_ ?_<;>intro h e<;>(try simp only[e,go_sem])<;>clear e|rw[q01 (by omega)]|refine sd ?_<;>try simp only[go_sem]|fail)
 refine q1t (o75 (w.convs.map Conv.row) w.convs.length (by simp)) [100500] [] 6 1 (by simp only[go_sem];first|done|simp) (by simp only[go_sem];first|done|simp) (by simp) (by simp) (by rintro _ _ ⟨rfl,rfl⟩;simp) (by intro i hi;obtain rfl:i=0:=(by omega);simp only[go_sem]) ?_
 rintro _ _ ⟨rfl,rfl⟩
 simp only[go_sem]
 with_reducible repeat' (first|refine br ?_ ?_<;>intro h e<;>(try simp only[e,go_sem])<;>clear e|rw[q01 (by omega)]|refine sd ?_<;>try simp only[go_sem]|fail)
 refine q0t (n077 (w.door.map.map Pair.row) w.door.flows (by simp;omega) hfs) [] 9 2 (by simp only[go_sem];first|done|simp) (by simp) (by rintro _ _ ⟨rfl,rfl⟩;simp) (by intro i hi;rcases(show i=0∨i=1 by omega) with rfl|rfl<;>simp only[go_sem]) ?_
 rintro _ _ ⟨rfl,rfl⟩
 simp only[go_sem,List.length_map]
 with_reducible repeat' (first|refine br ?_ ?_<;>intro h e<;>(try simp only[e,go_sem])<;>clear e|rw[q01 (by omega)]|refine sd ?_<;>try simp only[go_sem]|fail)
 refine q0t (c79 (w.nets.map Pk.row) (by simp;omega)) [] 12 1 (by simp only[go_sem];first|done|simp) (by simp) (by rintro _ _ ⟨rfl,rfl⟩;simp) (by intro i hi;obtain rfl:i=0:=(by omega);simp only[go_sem]) ?_
 rintro _ _ ⟨rfl,rfl⟩
 simp only[go_sem]
 with_reducible repeat' (first|refine br ?_ ?_<;>intro h e<;>(try simp only[e,go_sem])<;>clear e|rw[q01 (by omega)]|refine sd ?_<;>try simp only[go_sem]|fail)
 refine q1t (o78 (w.nets.map Pk.row) w.nets.length (by simp)) [101200] [] 13 1 (by simp only[go_sem];first|done|simp) (by simp only[go_sem];first|done|simp) (by simp) (by simp) (by rintro _ _ ⟨rfl,rfl⟩;simp) (by intro i hi;obtain rfl:i=0:=(by omega);simp only[go_sem]) ?_
 rintro _ _ ⟨rfl,rfl⟩
 simp only[go_sem]
 with_reducible repeat' (first|refine br ?_ ?_<;>intro h e<;>(try simp only[e,go_sem])<;>clear e|rw[q01 (by omega)]|refine sd ?_<;>try simp only[go_sem]|fail)
 exact q0v (.agg [.own 0 w.convs.length,.own 1 w.door.map.length,.view 2 0 0,.own 3 w.nets.length]) [.arr 69 10 (w.convs.map Conv.row),.arr 145 3 (w.door.map.map Pair.row),.var 169 [],.arr 65 7 (w.nets.map Pk.row)] [(0,100600),(1,100900),(2,100901),(3,101300)] (by simp only[go_sem]) ⟨rfl,rfl⟩ (by simp only[go_sem]) (by simp[q0r,q0b]) (by simp only[go_sem])
def qs7 (w:M.World) (f:Flw) (r:V) (o:List Hs):Prop:=r=.agg [.own 0 w.convs.length,.own 1 w.door.map.length,.view 2 1 1,.own 3 w.nets.length]∧o=[.arr 69 10 (w.convs.map Conv.row),.arr 145 3 (w.door.map.map Pair.row),.var 169 [.int .i64 f.ins.a,.int .i64 f.ins.p,.int .i64 f.out.a,.int .i64 f.out.p,.str f.up.inn,.own 4 f.up.parts.length,.str f.down.inn,.own 5 f.down.parts.length],.arr 65 7 (w.nets.map Pk.row),.arr 204 2 (f.up.parts.map Part.row),.arr 204 2 (f.down.parts.map Part.row)]
theorem n129 (w:M.World) (f:Flw) (hw:WI w) (hfs:w.door.flows=[f]):FnP Tryz.prog G 29 0 [] [.agg [.sl 10 (w.convs.map Conv.row),.sl 3 (w.door.map.map Pair.row),.sl 8 (w.door.flows.map Flw.row),.sl 7 (w.nets.map Pk.row)]] (qs7 w f):=by
 refine mP dg29 Tryz.ntmps29 ⟨_,_,rfl,rfl⟩ ?_
 have hnl:=hw.nl
 have hcl:=hw.cl
 obtain⟨hdm,hdf,_⟩:=q0i.1 hw.door
 have hml:=(q0c hdm).2
 simp only[qv7,go_sem]
 with_reducible repeat' (first|refine br ?_ ?_<;>intro h e<;>(try simp only[e,go_sem])<;>clear e|rw[q01 (by omega)]|refine sd ?_<;>try simp only[go_sem]|fail)
 refine q0t (c76 (w.convs.map Conv.row) (by simp;omega)) [] 5 1 (by simp only[go_sem];first|done|simp) (by simp) (by rintro _ _ ⟨rfl,rfl⟩;simp) (by intro i hi;obtain rfl:i=0:=(by omega);simp only[go_sem]) ?_
 rintro _ _ ⟨rfl,rfl⟩
 simp only[go_sem]
 with_reducible repeat' (first|refine br ?_ ?_<;>intro h e<;>(try simp only[e,go_sem])<;>clear e|rw[q01 (by omega)]|refine sd ?_<;>try simp only[go_sem]|fail)
 refine q1t (o75 (w.convs.map Conv.row) w.convs.length (by simp)) [100500] [] 6 1 (by simp only[go_sem];first|done|simp) (by simp only[go_sem];first|done|simp) (by simp) (by simp) (by rintro _ _ ⟨rfl,rfl⟩;simp) (by intro i hi;obtain rfl:i=0:=(by omega);simp only[go_sem]) ?_
 rintro _ _ ⟨rfl,rfl⟩
 simp only[go_sem]
 with_reducible repeat' (first|refine br ?_ ?_<;>intro h e<;>(try simp only[e,go_sem])<;>clear e|rw[q01 (by omega)]|refine sd ?_<;>try simp only[go_sem]|fail)
 refine q0t (n177 (w.door.map.map Pair.row) w.door.flows f (by simp;omega) hfs (qgm hw.door f (by rw[hfs];simp))) [] 9 4 (by simp only[go_sem];first|done|simp) (by simp) (by rintro _ _ ⟨rfl,rfl⟩;simp) (by intro i hi;rcases(show i=0∨i=1∨i=2∨i=3 by omega) with rfl|rfl|rfl|rfl<;>simp only[go_sem]) ?_
 rintro _ _ ⟨rfl,rfl⟩
 simp only[go_sem,List.length_map]
 with_reducible repeat' (first|refine br ?_ ?_<;>intro h e<;>(try simp only[e,go_sem])<;>clear e|rw[q01 (by omega)]|refine sd ?_<;>try simp only[go_sem]|fail)
 refine q0t (c79 (w.nets.map Pk.row) (by simp;omega)) [] 12 1 (by simp only[go_sem];first|done|simp) (by simp) (by rintro _ _ ⟨rfl,rfl⟩;simp) (by intro i hi;obtain rfl:i=0:=(by omega);simp only[go_sem]) ?_
 rintro _ _ ⟨rfl,rfl⟩
 simp only[go_sem]
 with_reducible repeat' (first|refine br ?_ ?_<;>intro h e<;>(try simp only[e,go_sem])<;>clear e|rw[q01 (by omega)]|refine sd ?_<;>try simp only[go_sem]|fail)
 refine q1t (o78 (w.nets.map Pk.row) w.nets.length (by simp)) [101200] [] 13 1 (by simp only[go_sem];first|done|simp) (by simp only[go_sem];first|done|simp) (by simp) (by simp) (by rintro _ _ ⟨rfl,rfl⟩;simp) (by intro i hi;obtain rfl:i=0:=(by omega);simp only[go_sem]) ?_
 rintro _ _ ⟨rfl,rfl⟩
 simp only[go_sem]
 with_reducible repeat' (first|refine br ?_ ?_<;>intro h e<;>(try simp only[e,go_sem])<;>clear e|rw[q01 (by omega)]|refine sd ?_<;>try simp only[go_sem]|fail)
 exact q0v (.agg [.own 0 w.convs.length,.own 1 w.door.map.length,.view 2 1 1,.own 3 w.nets.length]) [.arr 69 10 (w.convs.map Conv.row),.arr 145 3 (w.door.map.map Pair.row),.var 169 [.int .i64 f.ins.a,.int .i64 f.ins.p,.int .i64 f.out.a,.int .i64 f.out.p,.str f.up.inn,.own 4 f.up.parts.length,.str f.down.inn,.own 5 f.down.parts.length],.arr 65 7 (w.nets.map Pk.row),.arr 204 2 (f.up.parts.map Part.row),.arr 204 2 (f.down.parts.map Part.row)] [(0,100600),(1,100900),(2,100901),(3,101300),(4,100902),(5,100903)] (by simp only[go_sem]) ⟨rfl,rfl⟩ (by simp only[go_sem]) (by simp[q0r,q0b]) (by simp only[go_sem])
def qwz (w:M.World) (f g:Flw) (r:V) (o:List Hs):Prop:=r=.agg [.own 0 w.convs.length,.own 1 w.door.map.length,.view 2 2 2,.own 3 w.nets.length]∧o=[.arr 69 10 (w.convs.map Conv.row),.arr 145 3 (w.door.map.map Pair.row),.var 169 [.int .i64 f.ins.a,.int .i64 f.ins.p,.int .i64 f.out.a,.int .i64 f.out.p,.str f.up.inn,.own 4 f.up.parts.length,.str f.down.inn,.own 5 f.down.parts.length,.int .i64 g.ins.a,.int .i64 g.ins.p,.int .i64 g.out.a,.int .i64 g.out.p,.str g.up.inn,.own 6 g.up.parts.length,.str g.down.inn,.own 7 g.down.parts.length],.arr 65 7 (w.nets.map Pk.row),.arr 204 2 (f.up.parts.map Part.row),.arr 204 2 (f.down.parts.map Part.row),.arr 204 2 (g.up.parts.map Part.row),.arr 204 2 (g.down.parts.map Part.row)]
theorem n229 (w:M.World) (f g:Flw) (hw:WI w) (hfs:w.door.flows=[f,g]):FnP Tryz.prog G 29 0 [] [.agg [.sl 10 (w.convs.map Conv.row),.sl 3 (w.door.map.map Pair.row),.sl 8 (w.door.flows.map Flw.row),.sl 7 (w.nets.map Pk.row)]] (qwz w f g):=by
 refine mP dg29 Tryz.ntmps29 ⟨_,_,rfl,rfl⟩ ?_
 have hnl:=hw.nl
 have hcl:=hw.cl
 obtain⟨hdm,hdf,_⟩:=q0i.1 hw.door
 have hml:=(q0c hdm).2
 simp only[qv7,go_sem]
 with_reducible repeat' (first|refine br ?_ ?_<;>intro h e<;>(try simp only[e,go_sem])<;>clear e|rw[q01 (by omega)]|refine sd ?_<;>try simp only[go_sem]|fail)
 refine q0t (c76 (w.convs.map Conv.row) (by simp;omega)) [] 5 1 (by simp only[go_sem];first|done|simp) (by simp) (by rintro _ _ ⟨rfl,rfl⟩;simp) (by intro i hi;obtain rfl:i=0:=(by omega);simp only[go_sem]) ?_
 rintro _ _ ⟨rfl,rfl⟩
 simp only[go_sem]
 with_reducible repeat' (first|refine br ?_ ?_<;>intro h e<;>(try simp only[e,go_sem])<;>clear e|rw[q01 (by omega)]|refine sd ?_<;>try simp only[go_sem]|fail)
 refine q1t (o75 (w.convs.map Conv.row) w.convs.length (by simp)) [100500] [] 6 1 (by simp only[go_sem];first|done|simp) (by simp only[go_sem];first|done|simp) (by simp) (by simp) (by rintro _ _ ⟨rfl,rfl⟩;simp) (by intro i hi;obtain rfl:i=0:=(by omega);simp only[go_sem]) ?_
 rintro _ _ ⟨rfl,rfl⟩
 simp only[go_sem]
 with_reducible repeat' (first|refine br ?_ ?_<;>intro h e<;>(try simp only[e,go_sem])<;>clear e|rw[q01 (by omega)]|refine sd ?_<;>try simp only[go_sem]|fail)
 refine q0t (n277 (w.door.map.map Pair.row) w.door.flows f g (by simp;omega) hfs (qgm hw.door f (by rw[hfs];simp)) (qgm hw.door g (by rw[hfs];simp))) [] 9 6 (by simp only[go_sem];first|done|simp) (by simp) (by rintro _ _ ⟨rfl,rfl⟩;simp) (by intro i hi;rcases(show i=0∨i=1∨i=2∨i=3∨i=4∨i=5 by omega) with rfl|rfl|rfl|rfl|rfl|rfl<;>simp only[go_sem]) ?_
 rintro _ _ ⟨rfl,rfl⟩
 simp only[go_sem,List.length_map]
 with_reducible repeat' (first|refine br ?_ ?_<;>intro h e<;>(try simp only[e,go_sem])<;>clear e|rw[q01 (by omega)]|refine sd ?_<;>try simp only[go_sem]|fail)
 refine q0t (c79 (w.nets.map Pk.row) (by simp;omega)) [] 12 1 (by simp only[go_sem];first|done|simp) (by simp) (by rintro _ _ ⟨rfl,rfl⟩;simp) (by intro i hi;obtain rfl:i=0:=(by omega);simp only[go_sem]) ?_
 rintro _ _ ⟨rfl,rfl⟩
 simp only[go_sem]
 with_reducible repeat' (first|refine br ?_ ?_<;>intro h e<;>(try simp only[e,go_sem])<;>clear e|rw[q01 (by omega)]|refine sd ?_<;>try simp only[go_sem]|fail)
 refine q1t (o78 (w.nets.map Pk.row) w.nets.length (by simp)) [101200] [] 13 1 (by simp only[go_sem];first|done|simp) (by simp only[go_sem];first|done|simp) (by simp) (by simp) (by rintro _ _ ⟨rfl,rfl⟩;simp) (by intro i hi;obtain rfl:i=0:=(by omega);simp only[go_sem]) ?_
 rintro _ _ ⟨rfl,rfl⟩
 simp only[go_sem]
 with_reducible repeat' (first|refine br ?_ ?_<;>intro h e<;>(try simp only[e,go_sem])<;>clear e|rw[q01 (by omega)]|refine sd ?_<;>try simp only[go_sem]|fail)
 exact q0v (.agg [.own 0 w.convs.length,.own 1 w.door.map.length,.view 2 2 2,.own 3 w.nets.length]) [.arr 69 10 (w.convs.map Conv.row),.arr 145 3 (w.door.map.map Pair.row),.var 169 [.int .i64 f.ins.a,.int .i64 f.ins.p,.int .i64 f.out.a,.int .i64 f.out.p,.str f.up.inn,.own 4 f.up.parts.length,.str f.down.inn,.own 5 f.down.parts.length,.int .i64 g.ins.a,.int .i64 g.ins.p,.int .i64 g.out.a,.int .i64 g.out.p,.str g.up.inn,.own 6 g.up.parts.length,.str g.down.inn,.own 7 g.down.parts.length],.arr 65 7 (w.nets.map Pk.row),.arr 204 2 (f.up.parts.map Part.row),.arr 204 2 (f.down.parts.map Part.row),.arr 204 2 (g.up.parts.map Part.row),.arr 204 2 (g.down.parts.map Part.row)] [(0,100600),(1,100900),(2,100901),(3,101300),(4,100902),(5,100903),(6,100904),(7,100905)] (by simp only[go_sem]) ⟨rfl,rfl⟩ (by simp only[go_sem]) (by simp[q0r,q0b]) (by simp only[go_sem])
end Go.Proofs.YtpnekhiejecipaaGreatDoor.W
