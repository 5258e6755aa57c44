/- FnLinesSteps: in lines, what is said in two is written anew as one. Conditions: those of the row alone. -/
import Derived.Test.YtiegngjdjheebaaGreatDoorY06
import Derived.Test.YtiegngjdjheebaaGreatDoorY04
import Derived.Lay
import Derived.Test.YtiegngjdjheebaaGreatDoorCards
import Derived.Test.YtiegngjdjheebaaGreatDoorTie
set_option linter.all false
namespace Go.Proofs.YtiegngjdjheebaaGreatDoor.W
open Go Go.RowKit Go.Proofs Go.Proofs.YtiegngjdjheebaaGreatDoor.VL Go.Proofs.YtiegngjdjheebaaGreatDoor.M
def ic12:IC:=sR [oP 2 (.mv (.c (.bool false)))] (.seq (sR [mV 10 0,oP 11 (.len (.t 10)),oP 12 (.bin .gtr (.t 11) (.c (.int .i64 1048576)))] (.cond (.t 12) (sR [oP 2 (.mv (.c (.bool true)))] .ret) .skip)) (sR [mV 14 0,oP 15 (.call 14 [.t 14]),mV 13 15,eX 16 13 0,eX 17 13 1,eX 18 13 2,mV 3 16,mV 4 17,mV 5 18] (sR [mV 19 3,mV 20 4,mV 21 5,oP 22 (.call 15 [.t 19,.t 20,.t 21]),mV 6 22] (.seq (sR [mV 23 6,mV 24 3,mV 25 4,mV 26 5,oP 27 (.call 16 [.t 24,.t 25,.t 26]),bN 28 .neq 23 27] (.cond (.t 28) (sR [oP 2 (.mv (.c (.bool false)))] .ret) .skip)) (sR [oP 7 (.mv (.c (.str [117,112,32,48,32,52,10,98,114,105,110,103,32,48,10,110,101,116,115,10])))] (sR [oP 8 (.mv (.c (.str [117,112,32,52,32,52,10,98,114,105,110,103,32,48,10,110,101,116,115,10,98,114,105,110,103,32,48,10,98,114,105,110,103,32,48,10,98,114,105,110,103,32,48,10,110,101,116,115,10,98,114,105,110,103,32,48,10])))] (sR [oP 9 (.mv (.c (.str [48,10,117,112,32,48,32,10,100,111,119,110,32,48,32,10])))] (sR [oP 29 (.call 15 [.c (.str [64,51,58,55,59,101,110,100]),.c s0,.c (.str [117,112,32,48,32,52,10,98,114,105,110,103,32,48,10,110,101,116,115,10])]),mV 30 9,bN 31 .eql 29 30,mV 32 31,⟨some 33,some (32,true),.mv (.t 7)⟩,⟨some 34,some (32,true),.mv (.t 8)⟩,⟨some 35,some (32,true),.bin .add (.t 33) (.t 34)⟩,⟨some 36,some (32,true),.call 15 [.c (.str [64,51,58,55,59,101,110,100]),.c s0,.t 35]⟩,⟨some 37,some (32,true),.bin .eql (.t 36) (.c (.str [48,10,100,97,116,97,32,57,58,49,48,32,52,58,52,32,48,32,64,57,58,49,49,59,101,110,100,10,49,10,48,10,117,112,32,56,32,64,57,58,49,49,59,101,110,100,10,100,111,119,110,32,48,32,10]))⟩,oP 38 (.pick (.t 32) (.t 37) (.c (.bool false))),mV 2 38] .ret))))))))
theorem dg12:Dg Tryz.prog 12 Tryz.f12 ic12 [(.t 2)]:=⟨Tryz.func12,by kernel_rfl,by kernel_rfl⟩
set_option maxHeartbeats 2000000 in
theorem c12 (code:B):FnR Tryz.prog G 12 [.sl 1 (code.map byR)] (.bool true):=by
 refine mF dg12 Tryz.ntmps12 ?_
 simp only[ic12,go_sem]
 by_cases hc:(1048576:Int)<code.length
 ·simp only[eq_true hc,go_sem]
 simp only[eq_false hc,go_sem]
 refine callO (c14 code (by omega)) [] 15 0 (by simp only[go_sem];first|done|simp) (by simp) (by rintro _ _ ⟨_,_,_,_,rfl,rfl⟩;simp) (by intro i hi;omega) ?_
 rintro _ _ ⟨up,down,text,⟨⟨hu,hd⟩,ht,hte⟩,rfl,rfl⟩
 simp only[go_sem]
 have f1:=c15 up down text (by omega) (by omega) (by omega)
 have f2:=c16 up down text (by omega) (by omega) (by omega)
 generalize linesRun up down text=s at *
 have g0:=c15 [64,51,58,55,59,101,110,100] [] [117,112,32,48,32,52,10,98,114,105,110,103,32,48,10,110,101,116,115,10] (by simp) (by simp) (by simp)
 rw[lines_steps0] at g0
 have g1:=c15 [64,51,58,55,59,101,110,100] [] [117,112,32,48,32,52,10,98,114,105,110,103,32,48,10,110,101,116,115,10,117,112,32,52,32,52,10,98,114,105,110,103,32,48,10,110,101,116,115,10,98,114,105,110,103,32,48,10,98,114,105,110,103,32,48,10,98,114,105,110,103,32,48,10,110,101,116,115,10,98,114,105,110,103,32,48,10] (by simp) (by simp) (by simp)
 rw[lines_steps1] at g1
 with_reducible repeat' (first|refine br ?_ ?_<;>intro h e<;>(try simp only[e,go_sem,List.append_assoc,List.cons_append,List.nil_append])<;>clear e|rw[i64w (by omega)]|refine sd ?_<;>try simp only[go_sem,List.append_assoc,List.cons_append,List.nil_append]|(first|refine cr (f1 ..) ?_|refine cr (f2 ..) ?_|refine cr (g0 ..) ?_|refine cr (g1 ..) ?_)<;>try simp only[go_sem,List.append_assoc,List.cons_append,List.nil_append]|fail)
end Go.Proofs.YtiegngjdjheebaaGreatDoor.W
namespace Go.Proofs.YtiegngjdjheebaaGreatDoor.fnLinesSteps
open Go Go.ChangeShapes Go.WideShapes Go.ChangeAt Go.RowKit Go.Proofs.YtiegngjdjheebaaGreatDoor.W
theorem witnessZip {H:Type} {enc:TypeId×Value→H} {C:Checked} {os:Os} {f:FuncId} {fn:Func} {s:OpenSpec} {conds:List PathCond} {apart:Bool} {laid:List (String×DataW Unit)} (w0:World) (args:Array Value) (hos:w0.os=os)
 (hsh:(w0.forCall (fun _ _=>0) ⟨#[],args,[]⟩).Shaped C.prog) (hok:Input.okWideB C.prog (w0.forCall (fun _ _=>0) ⟨#[],args,[]⟩) f ⟨#[],args,[]⟩=true)
 (hrow:s.preRow enc C.prog fn conds apart laid (w0.forCall (fun _ _=>0) ⟨#[],args,[]⟩).memory args) :
 ∃(w:World) (tape:Tape) (i:Input),w.os=os∧(w.forCall tape i).Shaped C.prog∧i.vars=[]∧Input.okWide C.prog (w.forCall tape i) .any w.heap.size f i ∧
  s.preRow enc C.prog fn conds apart laid (w.forCall tape i).memory i.args∧({ modest:=false }:Assume).holds C.prog (lone (Frame.enter C.prog f i.args .normal) [] (w.forCall tape i)) :=
 ⟨w0,fun _ _=>0,⟨#[],args,[]⟩,hos,hsh,(Input.okWide_of_okWideB (base:=0) hok).1,(Input.okWide_of_okWideB hok).2,hrow,by
   simp only[Assume.holds]
   exact⟨by simp,by simp,by simp,by simp,by simp⟩⟩
theorem walk (v0:Value) (W:World) (hs:W.ShapedOpen Tryz.prog) (hL:laidMetH Tryz.prog Rows.fnLinesStepsRow.laid W) (hv0:∃code:M.B,VL.Den W noO noρ noH (.sl 1 (code.map M.byR)) v0) :
 Calls Tryz.prog 12 #[v0] W fun e W'=>e=.returned (.bool true)∧Below W.heap.size W W':=by
 obtain⟨code,hdv0⟩:=hv0
 have:=Go.Proofs.YtiegngjdjheebaaGreatDoor.W.FnR.calls (c12 code) (us:=[v0]) (gOk rfl hL hs) ⟨rfl,fun j a b ha hb=>by
  match j,ha,hb with
  | 0,ha,hb=>cases ha;cases hb;exact hdv0
  | j+1,ha,hb=>simp at ha⟩
 exact this
set_option maxRecDepth 100000 in
theorem contract (H:Type) (enc:TypeId×Value→H) (W:World) (base:Nat) (args:Array Value) (ds gs:List (DataW H)) (before:List MemPlace)
 (hval:∀(j:Nat) t v,Tryz.f12.params[j]?=some t→args[j]?=some v→Value.okWide Tryz.prog W .any base t v)
 (hW:DataW.Whole enc Tryz.prog Tryz.f12.params.toList Rows.fnLinesStepsSpec.vars false W args.toList ds gs before) (hL:laidMetH Tryz.prog Rows.fnLinesStepsRow.laid W) (hs:W.ShapedOpen Tryz.prog) :
 Calls Tryz.prog 12 args W fun e W'=>∃v,e=.returned v∧Rows.fnLinesStepsSpec.post enc Tryz.prog Tryz.f12 false true false false W args v W':=by
 have hW':=hW
 obtain⟨p,q,hA0,hV,rfl,hfz,hnd⟩:=hW
 have hA:DataW.TrodAll enc Tryz.prog W 0 (fun _=>true) true Tryz.f12.params.toList args.toList ds p:=hA0
 rw[Tryz.params12] at hA hval
 obtain⟨v0,r0s,d0,d0s,p0,q0,hargs0,rfl,rfl,h0,r0⟩:=trodAll_cons hA
 obtain⟨e1,e2,e3⟩:=trodAll_nil r0
 subst e1 e2 e3
 obtain rfl:args=#[v0]:=by cases args;simp_all
 obtain⟨rfl,rfl⟩:=trodVars_none hV
 obtain⟨a0,len0,cap0,hv0⟩:=okWide_slice Tryz.underlying22 (hval 0 22 v0 rfl rfl)
 have k0:=h0
 have lt0:∀x∈p0,x.block<W.heap.size:=by obtain⟨m,hm⟩:=k0;exact DataW.trod_lt m _ _ _ hm
 have hc0:=open_code h0 ⟨a0,len0,cap0,hv0⟩
 clear hA0
 refine(walk v0 W hs hL hc0).mono fun e W' ⟨he,bel⟩=>?_
 subst he
 exact⟨_,rfl,_,_,_,[],_,[],hW',trodAll_mk1 (shut_bool Tryz.underlying4 _),(trodAll_cons_mk (Below.trod laidOut (by kernel_rfl) (of_decide_eq_true (by kernel_rfl)) k0 bel lt0) trodAll_mk0),rfl,bel.frame _,fun h=>by cases h⟩
theorem inP:(Rows.fnLinesStepsRow.inPlace==Tryz.prog.inPlace 12)=true:=by kernel_rfl
theorem unf:(Rows.fnLinesStepsRow.unfollowed==Tryz.prog.unfollowed 12)=true:=by kernel_rfl
theorem rcs:(Rows.fnLinesStepsRow.recurses==Tryz.prog.recurses 12)=true:=by kernel_rfl
theorem nam:(Rows.fnLinesStepsRow.named==Tryz.prog.varsNamed 12)=true:=by kernel_rfl
theorem lif:(Rows.fnLinesStepsRow.lifted==Tryz.prog.liftsFinal)=true:=lifF
theorem pke:(Rows.fnLinesStepsRow.plainKeys==Tryz.prog.plainKeys)=true:=pkeF
theorem mak:(Tryz.prog.make==some Rows.fnLinesStepsRow.make)=true:=makF
theorem closed0:joinedFacts Tryz.prog 12 Tryz.f12 Rows.fnLinesStepsSpec Rows.fnLinesStepsRow=true:=by
 unfold joinedFacts
 rw[laidOut,mapF,inP,unf,rcs,nam,pke,stoF,mayF,lif,mak]
 kernel_rfl
theorem closed:joinedFacts Tryz.pinned.checked.prog 12 Tryz.f12 (OpenSpec.ofChange Rows.fnLinesStepsSpec).bare Rows.fnLinesStepsRow=true :=
 (show joinedFacts Tryz.pinned.checked.prog 12 Tryz.f12 (OpenSpec.ofChange Rows.fnLinesStepsSpec).bare Rows.fnLinesStepsRow=joinedFacts Tryz.prog 12 Tryz.f12 Rows.fnLinesStepsSpec Rows.fnLinesStepsRow by kernel_rfl).trans closed0
theorem door_met (os:Os) (args:Array Value):laidMetH Tryz.prog Rows.fnLinesStepsRow.laid ((World.laidAll Tryz.prog os Rows.fnLinesStepsRow.laid).forCall (fun _ _=>0) ⟨#[],args,[]⟩).memory :=
 by rw[MakeChecks.laidMetH_plain _ _ _ (by kernel_rfl)];exact laidMet_laidAll _ (by kernel_rfl) (by kernel_rfl)
theorem reads (os:Os) {H:Type} (enc:TypeId×Value→H):∃places,DataW.whole enc Tryz.prog ((World.laidAll Tryz.prog os Rows.fnLinesStepsRow.laid).forCall (fun _ _=>0) ⟨#[],#[.slice none 0 0],[]⟩).memory Tryz.f12.params.toList Rows.fnLinesStepsSpec.vars false #[Value.slice none 0 0].toList 8=some ([.nil],[],places) :=
 ⟨[],by kernel_rfl⟩
set_option maxRecDepth 100000 in
theorem lifted (os:Os) (started:os.Started) (H:Type) (enc:TypeId×Value→H) (F:Stop.Interp) :
 ReturnsInHanded {} Tryz.checked os 12 .any ((OpenSpec.ofChange Rows.fnLinesStepsSpec).preRow enc Tryz.prog Tryz.f12 Rows.fnLinesStepsRow.domain false Rows.fnLinesStepsRow.laid) (((OpenSpec.ofChange Rows.fnLinesStepsSpec).at F).post enc Tryz.prog Tryz.f12 false true false false):=by
 obtain⟨places,hx⟩:=reads os enc
 refine returnsInHanded_of_row (C:=Tryz.checked) (s:=OpenSpec.ofChange Rows.fnLinesStepsSpec) own started (by kernel_rfl) Tryz.func12
  (witnessZip (enc:=enc) (C:=Tryz.checked) (World.laidAll Tryz.prog os Rows.fnLinesStepsRow.laid) #[.slice none 0 0] (World.laidAll_os _ _ _) (World.shaped_of_ZipB (by kernel_rfl) (by kernel_rfl)) (by kernel_rfl)
    (OpenSpec.preRow_of_cond 8 hx (by kernel_rfl) (fun k hk=>by cases hk) (by kernel_rfl) (door_met os _))) ?_
 intro W base args ds gs before hval hW _ _ _ hL hs _
 exact contract H enc W base args ds gs before hval hW hL hs
theorem said:Rows.FnLinesStepsSaid :=
 OpenClaim.holds_of_cond 12 Tryz.f12 rfl rfl rfl rfl rfl rfl rfl ⟨rfl,rfl,rfl,rfl,rfl⟩ rfl rfl rfl rfl rfl (by kernel_rfl) Tryz.func12 closed
  (of_decide_eq_true (by kernel_rfl)) (by unfold Func.isWrapper;first|(rw[if_pos (by decide +kernel)];kernel_rfl)|(rw[if_neg (by decide +kernel)];exact⟨rfl,rfl⟩))
  (fun os started H enc _ F=>by rw[OpenClaim.pre_eq_preRow];exact lifted os started H enc F)
theorem plain (f:FuncId) (fn:Func) (hf:Tryz.pinned.checked.prog.funcNamed "loop.example/ostiary/laws.FnLinesSteps"=some f) (hfn:Tryz.pinned.checked.prog.funcs[f]?=some fn) :
 true=Tryz.pinned.checked.prog.looks []∧∀(j:Nat) t,fn.params[j]?=some t→Tryz.pinned.checked.prog.wantsStandIn t=false:=by
 obtain rfl:f=12:=Option.some.inj ((show Tryz.prog.funcNamed "loop.example/ostiary/laws.FnLinesSteps"=some 12 by kernel_rfl).symm.trans hf) |>.symm
 obtain rfl:fn=Tryz.f12:=(Option.some.inj (Tryz.func12.symm.trans hfn)).symm
 refine⟨by kernel_rfl,fun j t ht=>?_⟩
 rw[Tryz.params12] at ht
 obtain rfl:t=22:=by simpa using Array.mem_of_getElem? ht
 exact(show Tryz.prog.wantsStandIn 22=false by kernel_rfl)
theorem card:Rows.FnLinesStepsCardSaid :=
 Claim7.holds_tied_plain_at .later [] _ _ _ _ said (fun _ h=>by cases h) (by kernel_rfl) (fun _ h=>by cases h) fnLinesSteps_row_tie rfl ⟨rfl,rfl⟩ (by kernel_rfl) rfl plain (by kernel_rfl)
end Go.Proofs.YtiegngjdjheebaaGreatDoor.fnLinesSteps
