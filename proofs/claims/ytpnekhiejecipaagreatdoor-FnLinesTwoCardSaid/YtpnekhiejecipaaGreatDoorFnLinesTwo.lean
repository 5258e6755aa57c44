/- FnLinesTwo: a calm behind a calm changes nothing. Conditions: those of the row alone. -/
import Derived.Test.YtpnekhiejecipaaGreatDoorT06
import Derived.Test.YtpnekhiejecipaaGreatDoorT07
import Derived.Test.YtpnekhiejecipaaGreatDoorT04
import Derived.Lay
import Derived.Test.YtpnekhiejecipaaGreatDoorCards
import Derived.Test.YtpnekhiejecipaaGreatDoorTie
set_option linter.all false
namespace Go.Proofs.YtpnekhiejecipaaGreatDoor.W
open Go Go.RowKit Go.Proofs Go.Proofs.YtpnekhiejecipaaGreatDoor.VL Go.Proofs.YtpnekhiejecipaaGreatDoor.M
def ic4:IC:=sR [oP 2 (.mv cF)] (.seq (sR [mV 7 0,oP 8 (.len (.t 7)),oP 9 (.bin .gtr (.t 8) (cI 1048576))] (cD 9 (sR [oP 2 (.mv cT)] .ret) .skip)) (sR [mV 11 0,oP 12 (.call 18 [.t 11]),mV 10 12,eX 13 10 0,eX 14 10 1,eX 15 10 2,mV 3 13,mV 4 14,mV 5 15] (sR [mV 16 3,mV 17 4,mV 18 5,oP 19 (.call 19 [.t 16,.t 17,.t 18]),mV 6 19] (.seq (sR [mV 20 6,mV 21 3,mV 22 4,mV 23 5,oP 24 (.call 20 [.t 21,.t 22,.t 23]),bN 25 .neq 20 24,mV 26 25,gF 27 26 (.mv (.t 5)),gF 28 26 (.lens (.t 27)),gF 29 26 (.bin .gtr (.t 28) (cI 580)),pT 30 26 29] (cD 30 (sR [mV 31 6,mV 32 3,mV 33 4,mV 34 5,oP 35 (.call 20 [.t 32,.t 33,.t 34]),bN 36 .eql 31 35,mV 2 36] .ret) .skip)) (sR [mV 37 3,mV 38 4,mV 39 5,oP 40 (.bin .add (.t 39) (.c (.str [99,97,108,109,10,99,97,108,109,10,99,97,108,109,10]))),oP 41 (.call 19 [.t 37,.t 38,.t 40]),mV 42 3,mV 43 4,mV 44 5,oP 45 (.bin .add (.t 44) (.c (.str [99,97,108,109,10,99,97,108,109,10]))),oP 46 (.call 19 [.t 42,.t 43,.t 45]),bN 47 .eql 41 46,mV 2 47] .ret)))))
theorem dg4:Dg Tryz.prog 4 Tryz.f4 ic4 [(.t 2)]:=⟨Tryz.func4,by kernel_rfl,by kernel_rfl⟩
set_option maxHeartbeats 2000000 in
theorem c4 (code:B):FnR Tryz.prog G 4 [.sl 1 (code.map byR)] (.bool true):=by
 refine mF dg4 Tryz.ntmps4 ?_
 simp only[ic4,go_sem]
 by_cases hc:(1048576:Int)<code.length
 ·simp only[eq_true hc,go_sem]
 simp only[eq_false hc,go_sem]
 refine q5b (c18 code (by omega)) [] 12 0 (by simp only[go_sem];first|done|simp) (by simp) (by rintro _ _ ⟨_,_,_,_,rfl,rfl⟩;simp) (by intro i hi;omega) ?_
 rintro _ _ ⟨up,down,text,⟨⟨hu,hd⟩,ht,hte⟩,rfl,rfl⟩
 simp only[go_sem]
 have f1:=c19 up down text (by omega) (by omega) (by omega)
 have f2:=c20 up down text (by omega) (by omega) (by omega)
 by_cases h5:(580:Int)<text.length
 ·generalize q10 up down text=s at *
  with_reducible repeat' (first|refine br ?_ ?_<;>intro h e<;>(try simp only[e,go_sem,h5])<;>clear e|rw[q01 (by omega)]|refine sd ?_<;>try simp only[go_sem,h5]|(first|refine cr (f1 ..) ?_|refine cr (f2 ..) ?_)<;>try simp only[go_sem,h5]|fail)
 have f3:=c19 up down (text++[99,97,108,109,10,99,97,108,109,10,99,97,108,109,10]) (by omega) (by omega) (by simp only[zA,zC,zN];omega)
 have f4:=c19 up down (text++[99,97,108,109,10,99,97,108,109,10]) (by omega) (by omega) (by simp only[zA,zC,zN];omega)
 have e:q10 up down (text++[99,97,108,109,10,99,97,108,109,10,99,97,108,109,10])=q10 up down (text++[99,97,108,109,10,99,97,108,109,10]):=by
  cases hw:q0z [q1j up down] with
  | none=>rw[q98 hw,q98 hw]
  | some w=>exact qr8 hw hte (by omega)
 rw[e] at f3
 generalize q10 up down (text++[99,97,108,109,10,99,97,108,109,10])=r at *
 generalize q10 up down text=s at *
 with_reducible repeat' (first|refine br ?_ ?_<;>intro h e<;>(try simp only[e,go_sem,h5])<;>clear e|rw[q01 (by omega)]|refine sd ?_<;>try simp only[go_sem,h5]|(first|refine cr (f1 ..) ?_|refine cr (f2 ..) ?_|refine cr (f3 ..) ?_|refine cr (f4 ..) ?_)<;>try simp only[go_sem,h5]|fail)
end Go.Proofs.YtpnekhiejecipaaGreatDoor.W
namespace Go.Proofs.YtpnekhiejecipaaGreatDoor.fnLinesTwo
open Go Go.ChangeShapes Go.WideShapes Go.ChangeAt Go.RowKit Go.Proofs.YtpnekhiejecipaaGreatDoor.W
theorem qah {H:Type} {enc:TypeId×Value→H} {C:Checked} {os:Os} {f:FuncId} {fn:Func} {s:OpenSpec} {conds:List PathCond} {apart:Bool} {laid:List (String×DataW Unit)} (w0:World) (args:Array Value) (hos:w0.os=os)
 (hsh:(w0.forCall (λ_ _=>0) ⟨#[],args,[]⟩).Shaped C.prog) (hok:Input.okWideB C.prog (w0.forCall (λ_ _=>0) ⟨#[],args,[]⟩) f ⟨#[],args,[]⟩=true)
 (hrow:s.preRow enc C.prog fn conds apart laid (w0.forCall (λ_ _=>0) ⟨#[],args,[]⟩).memory args) :
 ∃(w:World) (tape:Tape) (i:Input),w.os=os∧(w.forCall tape i).Shaped C.prog∧i.vars=[]∧Input.okWide C.prog (w.forCall tape i) .any w.heap.size f i ∧
  s.preRow enc C.prog fn conds apart laid (w.forCall tape i).memory i.args∧({ modest:=false }:Assume).holds C.prog (lone (Frame.enter C.prog f i.args .normal) [] (w.forCall tape i)) :=
 ⟨w0,λ_ _=>0,⟨#[],args,[]⟩,hos,hsh,(Input.okWide_of_okWideB (base:=0) hok).1,(Input.okWide_of_okWideB hok).2,hrow,by
   simp only[Assume.holds]
   exact⟨by simp,by simp,by simp,by simp,by simp⟩⟩
theorem walk (v0:Value) (W:World) (hs:W.ShapedOpen Tryz.prog) (hL:laidMetH Tryz.prog Rows.fnLinesTwoRow.laid W) (hv0:∃code:M.B,VL.Den W noO noρ noH (.sl 1 (code.map M.byR)) v0) :
 Calls Tryz.prog 4 #[v0] W λe W'=>e=.returned (.bool true)∧Below W.heap.size W W':=by
 obtain⟨code,hdv0⟩:=hv0
 have:=Go.Proofs.YtpnekhiejecipaaGreatDoor.W.FnR.calls (c4 code) (us:=[v0]) (gOk1 rfl hL hs) ⟨rfl,λj a b ha hb=>by
  match j,ha,hb with
  | 0,ha,hb=>cases ha;cases hb;exact hdv0
  | j+1,ha,hb=>simp at ha⟩
 exact this
set_option maxRecDepth 100000 in
theorem contract (H:Type) (enc:TypeId×Value→H) (W:World) (base:Nat) (args:Array Value) (ds gs:List (DataW H)) (before:List MemPlace)
 (hval:∀(j:Nat) t v,Tryz.f4.params[j]?=some t→args[j]?=some v→Value.okWide Tryz.prog W .any base t v)
 (hW:DataW.Whole enc Tryz.prog Tryz.f4.params.toList Rows.fnLinesTwoSpec.vars false W args.toList ds gs before) (hL:laidMetH Tryz.prog Rows.fnLinesTwoRow.laid W) (hs:W.ShapedOpen Tryz.prog) :
 Calls Tryz.prog 4 args W λe W'=>∃v,e=.returned v∧Rows.fnLinesTwoSpec.post enc Tryz.prog Tryz.f4 false true false false W args v W':=by
 have hW':=hW
 obtain⟨p,q,hA0,hV,rfl,hfz,hnd⟩:=hW
 have hA:DataW.TrodAll enc Tryz.prog W 0 (λ_=>true) true Tryz.f4.params.toList args.toList ds p:=hA0
 rw[Tryz.params4] at hA hval
 obtain⟨v0,r0s,d0,d0s,p0,q0,hargs0,rfl,rfl,h0,r0⟩:=trodAll_cons hA
 obtain⟨e1,e2,e3⟩:=trodAll_nil r0
 subst e1 e2 e3
 obtain rfl:args=#[v0]:=by cases args;simp_all
 obtain⟨rfl,rfl⟩:=trodVars_none hV
 obtain⟨a0,len0,cap0,hv0⟩:=okWide_slice Tryz.underlying46 (hval 0 46 v0 rfl rfl)
 have k0:=h0
 have lt0:∀x∈p0,x.block<W.heap.size:=by obtain⟨m,hm⟩:=k0;exact DataW.trod_lt m _ _ _ hm
 have hc0:=ql5 h0 ⟨a0,len0,cap0,hv0⟩
 clear hA0
 refine(walk v0 W hs hL hc0).mono λe W' ⟨he,bel⟩=>?_
 subst he
 exact⟨_,rfl,_,_,_,[],_,[],hW',trodAll_mk1 (shut_bool Tryz.underlying4 _),(trodAll_cons_mk (Below.trod qlb (by kernel_rfl) (of_decide_eq_true (by kernel_rfl)) k0 bel lt0) trodAll_mk0),rfl,bel.frame _,λh=>by cases h⟩
theorem inP:(Rows.fnLinesTwoRow.inPlace==Tryz.prog.inPlace 4)=true:=by kernel_rfl
theorem unf:(Rows.fnLinesTwoRow.unfollowed==Tryz.prog.unfollowed 4)=true:=by kernel_rfl
theorem rcs:(Rows.fnLinesTwoRow.recurses==Tryz.prog.recurses 4)=true:=by kernel_rfl
theorem nam:(Rows.fnLinesTwoRow.named==Tryz.prog.varsNamed 4)=true:=by kernel_rfl
theorem lif:(Rows.fnLinesTwoRow.lifted==Tryz.prog.liftsFinal)=true:=lifF
theorem pke:(Rows.fnLinesTwoRow.plainKeys==Tryz.prog.plainKeys)=true:=pkeF
theorem mak:(Tryz.prog.make==some Rows.fnLinesTwoRow.make)=true:=makF
theorem closed0:joinedFacts Tryz.prog 4 Tryz.f4 Rows.fnLinesTwoSpec Rows.fnLinesTwoRow=true:=by
 unfold joinedFacts
 rw[qlb,mapF,inP,unf,rcs,nam,pke,stoF,mayF,lif,mak]
 kernel_rfl
theorem closed:joinedFacts Tryz.pinned.checked.prog 4 Tryz.f4 (OpenSpec.ofChange Rows.fnLinesTwoSpec).bare Rows.fnLinesTwoRow=true :=
 (show joinedFacts Tryz.pinned.checked.prog 4 Tryz.f4 (OpenSpec.ofChange Rows.fnLinesTwoSpec).bare Rows.fnLinesTwoRow=joinedFacts Tryz.prog 4 Tryz.f4 Rows.fnLinesTwoSpec Rows.fnLinesTwoRow by kernel_rfl).trans closed0
theorem door_met (os:Os) (args:Array Value):laidMetH Tryz.prog Rows.fnLinesTwoRow.laid ((World.laidAll Tryz.prog os Rows.fnLinesTwoRow.laid).forCall (λ_ _=>0) ⟨#[],args,[]⟩).memory :=
 by rw[MakeChecks.laidMetH_plain _ _ _ (by kernel_rfl)];exact laidMet_laidAll _ (by kernel_rfl) (by kernel_rfl)
theorem reads (os:Os) {H:Type} (enc:TypeId×Value→H):∃places,DataW.whole enc Tryz.prog ((World.laidAll Tryz.prog os Rows.fnLinesTwoRow.laid).forCall (λ_ _=>0) ⟨#[],#[.slice none 0 0],[]⟩).memory Tryz.f4.params.toList Rows.fnLinesTwoSpec.vars false #[Value.slice none 0 0].toList 8=some ([.nil],[],places) :=
 ⟨[],by kernel_rfl⟩
set_option maxRecDepth 100000 in
theorem lifted (os:Os) (started:os.Started) (H:Type) (enc:TypeId×Value→H) (F:Stop.Interp) :
 ReturnsInHanded {} Tryz.checked os 4 .any ((OpenSpec.ofChange Rows.fnLinesTwoSpec).preRow enc Tryz.prog Tryz.f4 Rows.fnLinesTwoRow.domain false Rows.fnLinesTwoRow.laid) (((OpenSpec.ofChange Rows.fnLinesTwoSpec).at F).post enc Tryz.prog Tryz.f4 false true false false):=by
 obtain⟨places,hx⟩:=reads os enc
 refine returnsInHanded_of_row (C:=Tryz.checked) (s:=OpenSpec.ofChange Rows.fnLinesTwoSpec) own started (by kernel_rfl) Tryz.func4
  (qah (enc:=enc) (C:=Tryz.checked) (World.laidAll Tryz.prog os Rows.fnLinesTwoRow.laid) #[.slice none 0 0] (World.laidAll_os _ _ _) (World.shaped_of_ZipB (by kernel_rfl) (by kernel_rfl)) (by kernel_rfl)
    (OpenSpec.preRow_of_cond 8 hx (by kernel_rfl) (λk hk=>by cases hk) (by kernel_rfl) (door_met os _))) ?_
 intro W base args ds gs before hval hW _ _ _ hL hs _
 exact contract H enc W base args ds gs before hval hW hL hs
theorem said:Rows.FnLinesTwoSaid :=
 OpenClaim.holds_of_cond 4 Tryz.f4 rfl rfl rfl rfl rfl rfl rfl ⟨rfl,rfl,rfl,rfl,rfl⟩ rfl rfl rfl rfl rfl (by kernel_rfl) Tryz.func4 closed
  (of_decide_eq_true (by kernel_rfl)) (by unfold Func.isWrapper;first|(rw[if_pos (by decide +kernel)];kernel_rfl)|(rw[if_neg (by decide +kernel)];exact⟨rfl,rfl⟩))
  (λos started H enc _ F=>by rw[OpenClaim.pre_eq_preRow];exact lifted os started H enc F)
theorem plain (f:FuncId) (fn:Func) (hf:Tryz.pinned.checked.prog.funcNamed "loop.example/ostiary/laws.FnLinesTwo"=some f) (hfn:Tryz.pinned.checked.prog.funcs[f]?=some fn) :
 true=Tryz.pinned.checked.prog.looks []∧∀(j:Nat) t,fn.params[j]?=some t→Tryz.pinned.checked.prog.wantsStandIn t=false:=by
 obtain rfl:f=4:=Option.some.inj ((show Tryz.prog.funcNamed "loop.example/ostiary/laws.FnLinesTwo"=some 4 by kernel_rfl).symm.trans hf) |>.symm
 obtain rfl:fn=Tryz.f4:=(Option.some.inj (Tryz.func4.symm.trans hfn)).symm
 refine⟨by kernel_rfl,λj t ht=>?_⟩
 rw[Tryz.params4] at ht
 obtain rfl:t=46:=by simpa using Array.mem_of_getElem? ht
 exact(show Tryz.prog.wantsStandIn 46=false by kernel_rfl)
theorem card:Rows.FnLinesTwoCardSaid :=
 Claim7.holds_tied_plain_at .later [] _ _ _ _ said (λ_ h=>by cases h) (by kernel_rfl) (λ_ h=>by cases h) fnLinesTwo_row_tie rfl ⟨rfl,rfl⟩ (by kernel_rfl) rfl plain (by kernel_rfl)
end Go.Proofs.YtpnekhiejecipaaGreatDoor.fnLinesTwo
