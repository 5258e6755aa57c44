/- FnLinesLost: in lines, what is lost is said again. Conditions: those of the row alone. -/
import Derived.Test.YtiegngjdjheebaaGreatDoorY06
import Derived.Test.YtiegngjdjheebaaGreatDoorY04
import Derived.Lay
import Derived.Test.YtiegngjdjheebaaGreatDoorCards
import Derived.Test.YtiegngjdjheebaaGreatDoorTie
set_option linter.all false
namespace Go.Proofs.YtiegngjdjheebaaGreatDoor.W
open Go Go.RowKit Go.Proofs Go.Proofs.YtiegngjdjheebaaGreatDoor.VL Go.Proofs.YtiegngjdjheebaaGreatDoor.M
def ic7:IC:=sR [oP 2 (.mv (.c (.bool false)))] (.seq (sR [mV 8 0,oP 9 (.len (.t 8)),oP 10 (.bin .gtr (.t 9) (.c (.int .i64 1048576)))] (.cond (.t 10) (sR [oP 2 (.mv (.c (.bool true)))] .ret) .skip)) (sR [mV 12 0,oP 13 (.call 14 [.t 12]),mV 11 13,eX 14 11 0,eX 15 11 1,eX 16 11 2,mV 3 14,mV 4 15,mV 5 16] (sR [mV 17 3,mV 18 4,mV 19 5,oP 20 (.call 15 [.t 17,.t 18,.t 19]),mV 6 20] (.seq (sR [mV 21 6,mV 22 3,mV 23 4,mV 24 5,oP 25 (.call 16 [.t 22,.t 23,.t 24]),bN 26 .neq 21 25] (.cond (.t 26) (sR [oP 2 (.mv (.c (.bool false)))] .ret) .skip)) (sR [oP 7 (.mv (.c (.str [117,112,32,55,32,64,57,58,49,49,59,97,98,10,100,111,119,110,32,48,32,10])))] (sR [oP 27 (.call 15 [.c (.str [64,50,58,50,59,97,98]),.c s0,.c (.str [117,112,32,48,32,57,10,108,111,115,101,32,48,10,99,97,108,109,10])]),mV 28 7,bN 29 .eql 27 28,mV 30 29,⟨some 31,some (30,true),.call 15 [.c (.str [64,50,58,50,59,97,98]),.c s0,.c (.str [117,112,32,48,32,57,10,98,114,105,110,103,32,48,10,108,111,115,101,32,48,10,99,97,108,109,10])]⟩,⟨some 32,some (30,true),.mv (.t 7)⟩,⟨some 33,some (30,true),.bin .eql (.t 31) (.t 32)⟩,oP 34 (.pick (.t 30) (.t 33) (.c (.bool false))),mV 35 34,⟨some 36,some (35,true),.call 15 [.c (.str [64,50,58,50,59,97,98]),.c s0,.c (.str [117,112,32,48,32,57,10,98,114,105,110,103,32,48,10,98,114,105,110,103,32,48,10,108,111,115,101,32,48,10,99,97,108,109,10])]⟩,⟨some 37,some (35,true),.mv (.t 7)⟩,⟨some 38,some (35,true),.bin .eql (.t 36) (.t 37)⟩,oP 39 (.pick (.t 35) (.t 38) (.c (.bool false))),mV 40 39,⟨some 41,some (40,true),.call 15 [.c (.str [64,50,58,50,59,97,98]),.c s0,.c (.str [117,112,32,48,32,57,10,98,114,105,110,103,32,48,10,98,114,105,110,103,32,48,10,98,114,105,110,103,32,48,10,108,111,115,101,32,48,10,99,97,108,109,10])]⟩,⟨some 42,some (40,true),.mv (.t 7)⟩,⟨some 43,some (40,true),.bin .eql (.t 41) (.t 42)⟩,oP 44 (.pick (.t 40) (.t 43) (.c (.bool false))),mV 2 44] .ret))))))
theorem dg7:Dg Tryz.prog 7 Tryz.f7 ic7 [(.t 2)]:=⟨Tryz.func7,by kernel_rfl,by kernel_rfl⟩
set_option maxHeartbeats 2000000 in
theorem c7 (code:B):FnR Tryz.prog G 7 [.sl 1 (code.map byR)] (.bool true):=by
 refine mF dg7 Tryz.ntmps7 ?_
 simp only[ic7,go_sem]
 by_cases hc:(1048576:Int)<code.length
 ·simp only[eq_true hc,go_sem]
 simp only[eq_false hc,go_sem]
 refine callO (c14 code (by omega)) [] 13 0 (by simp only[go_sem];first|done|simp) (by simp) (by rintro _ _ ⟨_,_,_,_,rfl,rfl⟩;simp) (by intro i hi;omega) ?_
 rintro _ _ ⟨up,down,text,⟨⟨hu,hd⟩,ht,hte⟩,rfl,rfl⟩
 simp only[go_sem]
 have f1:=c15 up down text (by omega) (by omega) (by omega)
 have f2:=c16 up down text (by omega) (by omega) (by omega)
 generalize linesRun up down text=s at *
 have g0:=c15 [64,50,58,50,59,97,98] [] [117,112,32,48,32,57,10,108,111,115,101,32,48,10,99,97,108,109,10] (by simp) (by simp) (by simp)
 rw[lines_lost0] at g0
 have g1:=c15 [64,50,58,50,59,97,98] [] [117,112,32,48,32,57,10,98,114,105,110,103,32,48,10,108,111,115,101,32,48,10,99,97,108,109,10] (by simp) (by simp) (by simp)
 rw[lines_lost1] at g1
 have g2:=c15 [64,50,58,50,59,97,98] [] [117,112,32,48,32,57,10,98,114,105,110,103,32,48,10,98,114,105,110,103,32,48,10,108,111,115,101,32,48,10,99,97,108,109,10] (by simp) (by simp) (by simp)
 rw[lines_lost2] at g2
 have g3:=c15 [64,50,58,50,59,97,98] [] [117,112,32,48,32,57,10,98,114,105,110,103,32,48,10,98,114,105,110,103,32,48,10,98,114,105,110,103,32,48,10,108,111,115,101,32,48,10,99,97,108,109,10] (by simp) (by simp) (by simp)
 rw[lines_lost3] at g3
 with_reducible repeat' (first|refine br ?_ ?_<;>intro h e<;>(try simp only[e,go_sem,List.append_assoc,List.cons_append,List.nil_append])<;>clear e|rw[i64w (by omega)]|refine sd ?_<;>try simp only[go_sem,List.append_assoc,List.cons_append,List.nil_append]|(first|refine cr (f1 ..) ?_|refine cr (f2 ..) ?_|refine cr (g0 ..) ?_|refine cr (g1 ..) ?_|refine cr (g2 ..) ?_|refine cr (g3 ..) ?_)<;>try simp only[go_sem,List.append_assoc,List.cons_append,List.nil_append]|fail)
end Go.Proofs.YtiegngjdjheebaaGreatDoor.W
namespace Go.Proofs.YtiegngjdjheebaaGreatDoor.fnLinesLost
open Go Go.ChangeShapes Go.WideShapes Go.ChangeAt Go.RowKit Go.Proofs.YtiegngjdjheebaaGreatDoor.W
theorem witnessZip {H:Type} {enc:TypeId×Value→H} {C:Checked} {os:Os} {f:FuncId} {fn:Func} {s:OpenSpec} {conds:List PathCond} {apart:Bool} {laid:List (String×DataW Unit)} (w0:World) (args:Array Value) (hos:w0.os=os)
 (hsh:(w0.forCall (fun _ _=>0) ⟨#[],args,[]⟩).Shaped C.prog) (hok:Input.okWideB C.prog (w0.forCall (fun _ _=>0) ⟨#[],args,[]⟩) f ⟨#[],args,[]⟩=true)
 (hrow:s.preRow enc C.prog fn conds apart laid (w0.forCall (fun _ _=>0) ⟨#[],args,[]⟩).memory args) :
 ∃(w:World) (tape:Tape) (i:Input),w.os=os∧(w.forCall tape i).Shaped C.prog∧i.vars=[]∧Input.okWide C.prog (w.forCall tape i) .any w.heap.size f i ∧
  s.preRow enc C.prog fn conds apart laid (w.forCall tape i).memory i.args∧({ modest:=false }:Assume).holds C.prog (lone (Frame.enter C.prog f i.args .normal) [] (w.forCall tape i)) :=
 ⟨w0,fun _ _=>0,⟨#[],args,[]⟩,hos,hsh,(Input.okWide_of_okWideB (base:=0) hok).1,(Input.okWide_of_okWideB hok).2,hrow,by
   simp only[Assume.holds]
   exact⟨by simp,by simp,by simp,by simp,by simp⟩⟩
theorem walk (v0:Value) (W:World) (hs:W.ShapedOpen Tryz.prog) (hL:laidMetH Tryz.prog Rows.fnLinesLostRow.laid W) (hv0:∃code:M.B,VL.Den W noO noρ noH (.sl 1 (code.map M.byR)) v0) :
 Calls Tryz.prog 7 #[v0] W fun e W'=>e=.returned (.bool true)∧Below W.heap.size W W':=by
 obtain⟨code,hdv0⟩:=hv0
 have:=Go.Proofs.YtiegngjdjheebaaGreatDoor.W.FnR.calls (c7 code) (us:=[v0]) (gOk rfl hL hs) ⟨rfl,fun j a b ha hb=>by
  match j,ha,hb with
  | 0,ha,hb=>cases ha;cases hb;exact hdv0
  | j+1,ha,hb=>simp at ha⟩
 exact this
set_option maxRecDepth 100000 in
theorem contract (H:Type) (enc:TypeId×Value→H) (W:World) (base:Nat) (args:Array Value) (ds gs:List (DataW H)) (before:List MemPlace)
 (hval:∀(j:Nat) t v,Tryz.f7.params[j]?=some t→args[j]?=some v→Value.okWide Tryz.prog W .any base t v)
 (hW:DataW.Whole enc Tryz.prog Tryz.f7.params.toList Rows.fnLinesLostSpec.vars false W args.toList ds gs before) (hL:laidMetH Tryz.prog Rows.fnLinesLostRow.laid W) (hs:W.ShapedOpen Tryz.prog) :
 Calls Tryz.prog 7 args W fun e W'=>∃v,e=.returned v∧Rows.fnLinesLostSpec.post enc Tryz.prog Tryz.f7 false true false false W args v W':=by
 have hW':=hW
 obtain⟨p,q,hA0,hV,rfl,hfz,hnd⟩:=hW
 have hA:DataW.TrodAll enc Tryz.prog W 0 (fun _=>true) true Tryz.f7.params.toList args.toList ds p:=hA0
 rw[Tryz.params7] at hA hval
 obtain⟨v0,r0s,d0,d0s,p0,q0,hargs0,rfl,rfl,h0,r0⟩:=trodAll_cons hA
 obtain⟨e1,e2,e3⟩:=trodAll_nil r0
 subst e1 e2 e3
 obtain rfl:args=#[v0]:=by cases args;simp_all
 obtain⟨rfl,rfl⟩:=trodVars_none hV
 obtain⟨a0,len0,cap0,hv0⟩:=okWide_slice Tryz.underlying22 (hval 0 22 v0 rfl rfl)
 have k0:=h0
 have lt0:∀x∈p0,x.block<W.heap.size:=by obtain⟨m,hm⟩:=k0;exact DataW.trod_lt m _ _ _ hm
 have hc0:=open_code h0 ⟨a0,len0,cap0,hv0⟩
 clear hA0
 refine(walk v0 W hs hL hc0).mono fun e W' ⟨he,bel⟩=>?_
 subst he
 exact⟨_,rfl,_,_,_,[],_,[],hW',trodAll_mk1 (shut_bool Tryz.underlying4 _),(trodAll_cons_mk (Below.trod laidOut (by kernel_rfl) (of_decide_eq_true (by kernel_rfl)) k0 bel lt0) trodAll_mk0),rfl,bel.frame _,fun h=>by cases h⟩
theorem inP:(Rows.fnLinesLostRow.inPlace==Tryz.prog.inPlace 7)=true:=by kernel_rfl
theorem unf:(Rows.fnLinesLostRow.unfollowed==Tryz.prog.unfollowed 7)=true:=by kernel_rfl
theorem rcs:(Rows.fnLinesLostRow.recurses==Tryz.prog.recurses 7)=true:=by kernel_rfl
theorem nam:(Rows.fnLinesLostRow.named==Tryz.prog.varsNamed 7)=true:=by kernel_rfl
theorem lif:(Rows.fnLinesLostRow.lifted==Tryz.prog.liftsFinal)=true:=lifF
theorem pke:(Rows.fnLinesLostRow.plainKeys==Tryz.prog.plainKeys)=true:=pkeF
theorem mak:(Tryz.prog.make==some Rows.fnLinesLostRow.make)=true:=makF
theorem closed0:joinedFacts Tryz.prog 7 Tryz.f7 Rows.fnLinesLostSpec Rows.fnLinesLostRow=true:=by
 unfold joinedFacts
 rw[laidOut,mapF,inP,unf,rcs,nam,pke,stoF,mayF,lif,mak]
 kernel_rfl
theorem closed:joinedFacts Tryz.pinned.checked.prog 7 Tryz.f7 (OpenSpec.ofChange Rows.fnLinesLostSpec).bare Rows.fnLinesLostRow=true :=
 (show joinedFacts Tryz.pinned.checked.prog 7 Tryz.f7 (OpenSpec.ofChange Rows.fnLinesLostSpec).bare Rows.fnLinesLostRow=joinedFacts Tryz.prog 7 Tryz.f7 Rows.fnLinesLostSpec Rows.fnLinesLostRow by kernel_rfl).trans closed0
theorem door_met (os:Os) (args:Array Value):laidMetH Tryz.prog Rows.fnLinesLostRow.laid ((World.laidAll Tryz.prog os Rows.fnLinesLostRow.laid).forCall (fun _ _=>0) ⟨#[],args,[]⟩).memory :=
 by rw[MakeChecks.laidMetH_plain _ _ _ (by kernel_rfl)];exact laidMet_laidAll _ (by kernel_rfl) (by kernel_rfl)
theorem reads (os:Os) {H:Type} (enc:TypeId×Value→H):∃places,DataW.whole enc Tryz.prog ((World.laidAll Tryz.prog os Rows.fnLinesLostRow.laid).forCall (fun _ _=>0) ⟨#[],#[.slice none 0 0],[]⟩).memory Tryz.f7.params.toList Rows.fnLinesLostSpec.vars false #[Value.slice none 0 0].toList 8=some ([.nil],[],places) :=
 ⟨[],by kernel_rfl⟩
set_option maxRecDepth 100000 in
theorem lifted (os:Os) (started:os.Started) (H:Type) (enc:TypeId×Value→H) (F:Stop.Interp) :
 ReturnsInHanded {} Tryz.checked os 7 .any ((OpenSpec.ofChange Rows.fnLinesLostSpec).preRow enc Tryz.prog Tryz.f7 Rows.fnLinesLostRow.domain false Rows.fnLinesLostRow.laid) (((OpenSpec.ofChange Rows.fnLinesLostSpec).at F).post enc Tryz.prog Tryz.f7 false true false false):=by
 obtain⟨places,hx⟩:=reads os enc
 refine returnsInHanded_of_row (C:=Tryz.checked) (s:=OpenSpec.ofChange Rows.fnLinesLostSpec) own started (by kernel_rfl) Tryz.func7
  (witnessZip (enc:=enc) (C:=Tryz.checked) (World.laidAll Tryz.prog os Rows.fnLinesLostRow.laid) #[.slice none 0 0] (World.laidAll_os _ _ _) (World.shaped_of_ZipB (by kernel_rfl) (by kernel_rfl)) (by kernel_rfl)
    (OpenSpec.preRow_of_cond 8 hx (by kernel_rfl) (fun k hk=>by cases hk) (by kernel_rfl) (door_met os _))) ?_
 intro W base args ds gs before hval hW _ _ _ hL hs _
 exact contract H enc W base args ds gs before hval hW hL hs
theorem said:Rows.FnLinesLostSaid :=
 OpenClaim.holds_of_cond 7 Tryz.f7 rfl rfl rfl rfl rfl rfl rfl ⟨rfl,rfl,rfl,rfl,rfl⟩ rfl rfl rfl rfl rfl (by kernel_rfl) Tryz.func7 closed
  (of_decide_eq_true (by kernel_rfl)) (by unfold Func.isWrapper;first|(rw[if_pos (by decide +kernel)];kernel_rfl)|(rw[if_neg (by decide +kernel)];exact⟨rfl,rfl⟩))
  (fun os started H enc _ F=>by rw[OpenClaim.pre_eq_preRow];exact lifted os started H enc F)
theorem plain (f:FuncId) (fn:Func) (hf:Tryz.pinned.checked.prog.funcNamed "loop.example/ostiary/laws.FnLinesLost"=some f) (hfn:Tryz.pinned.checked.prog.funcs[f]?=some fn) :
 true=Tryz.pinned.checked.prog.looks []∧∀(j:Nat) t,fn.params[j]?=some t→Tryz.pinned.checked.prog.wantsStandIn t=false:=by
 obtain rfl:f=7:=Option.some.inj ((show Tryz.prog.funcNamed "loop.example/ostiary/laws.FnLinesLost"=some 7 by kernel_rfl).symm.trans hf) |>.symm
 obtain rfl:fn=Tryz.f7:=(Option.some.inj (Tryz.func7.symm.trans hfn)).symm
 refine⟨by kernel_rfl,fun j t ht=>?_⟩
 rw[Tryz.params7] at ht
 obtain rfl:t=22:=by simpa using Array.mem_of_getElem? ht
 exact(show Tryz.prog.wantsStandIn 22=false by kernel_rfl)
theorem card:Rows.FnLinesLostCardSaid :=
 Claim7.holds_tied_plain_at .later [] _ _ _ _ said (fun _ h=>by cases h) (by kernel_rfl) (fun _ h=>by cases h) fnLinesLost_row_tie rfl ⟨rfl,rfl⟩ (by kernel_rfl) rfl plain (by kernel_rfl)
end Go.Proofs.YtiegngjdjheebaaGreatDoor.fnLinesLost
