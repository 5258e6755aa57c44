/- FnLinesNone: what is no line says so. Conditions: those of the row alone. -/
import Derived.Test.YtiegngjdjheebaaGreatDoorZ06
import Derived.Test.YtiegngjdjheebaaGreatDoorZ04
import Derived.Lay
import Derived.Test.YtiegngjdjheebaaGreatDoorCards
import Derived.Test.YtiegngjdjheebaaGreatDoorTie
set_option linter.all false
namespace Go.Proofs.YtiegngjdjheebaaGreatDoor.W
open Go Go.RowKit Go.Proofs Go.Proofs.YtiegngjdjheebaaGreatDoor.VL Go.Proofs.YtiegngjdjheebaaGreatDoor.M
def ic9:IC:=sR [oP 2 (.mv (.c (.bool false)))] (.seq (sR [mV 9 0,oP 10 (.len (.t 9)),oP 11 (.bin .gtr (.t 10) (.c (.int .i64 1048576)))] (.cond (.t 11) (sR [oP 2 (.mv (.c (.bool true)))] .ret) .skip)) (sR [mV 13 0,oP 14 (.call 14 [.t 13]),mV 12 14,eX 15 12 0,eX 16 12 1,eX 17 12 2,mV 3 15,mV 4 16,mV 5 17] (sR [mV 18 3,mV 19 4,mV 20 5,oP 21 (.call 15 [.t 18,.t 19,.t 20]),mV 6 21] (.seq (sR [mV 22 6,mV 23 3,mV 24 4,mV 25 5,oP 26 (.call 16 [.t 23,.t 24,.t 25]),bN 27 .neq 22 26,mV 28 27,⟨some 29,some (28,false),.mv (.t 6)⟩,⟨some 30,some (28,false),.bin .eql (.t 29) (.c (.str [110,111,32,119,111,114,108,100,10]))⟩,oP 31 (.pick (.t 28) (.c (.bool true)) (.t 30))] (.cond (.t 31) (sR [mV 32 6,mV 33 3,mV 34 4,mV 35 5,oP 36 (.call 16 [.t 33,.t 34,.t 35]),bN 37 .eql 32 36,mV 2 37] .ret) .skip)) (sR [mV 38 5,mV 7 38] (.seq (.block 0 (.loop (.seq (sR [mV 39 7,oP 40 (.lens (.t 39)),oP 41 (.bin .leq (.t 40) (.c (.int .i64 600)))] (.cond (.t 41) .skip (.exit 0))) (.block 1 (.reg [mV 42 7,oP 43 (.bin .add (.t 42) (.c (.str [110,111,116,104,105,110,103,32,97,116,32,97,108,108,10]))),mV 7 43]))))) (sR [mV 44 3,mV 45 4,oP 46 (.call 15 [.t 44,.t 45,.c s0]),mV 8 46] (sR [mV 47 3,mV 48 4,oP 49 (.call 15 [.t 47,.t 48,.c (.str [119,104,97,116,10,109,97,112,10,110,101,116,115,10])]),mV 50 8,oP 51 (.bin .add (.c (.str [119,104,97,116,10,48,10,48,10])) (.t 50)),bN 52 .eql 49 51,mV 53 52,⟨some 54,some (53,true),.mv (.t 8)⟩,⟨some 55,some (53,true),.bin .eql (.t 54) (.c (.str [117,112,32,48,32,10,100,111,119,110,32,48,32,10]))⟩,oP 56 (.pick (.t 53) (.t 55) (.c (.bool false))),mV 57 56,⟨some 58,some (57,true),.mv (.t 3)⟩,⟨some 59,some (57,true),.mv (.t 4)⟩,⟨some 60,some (57,true),.mv (.t 7)⟩,⟨some 61,some (57,true),.call 15 [.t 58,.t 59,.t 60]⟩,⟨some 62,some (57,true),.bin .eql (.t 61) (.c (.str [116,111,111,32,108,111,110,103,10]))⟩,oP 63 (.pick (.t 57) (.t 62) (.c (.bool false))),mV 64 63,⟨some 65,some (64,true),.call 15 [.c (.str [64,49]),.c s0,.c s0]⟩,⟨some 66,some (64,true),.bin .eql (.t 65) (.c (.str [110,111,32,119,111,114,108,100,10]))⟩,oP 67 (.pick (.t 64) (.t 66) (.c (.bool false))),mV 68 67,⟨some 69,some (68,true),.call 15 [.c (.str [64,57,58,49,48,59]),.c s0,.c s0]⟩,⟨some 70,some (68,true),.bin .eql (.t 69) (.c (.str [110,111,32,119,111,114,108,100,10]))⟩,oP 71 (.pick (.t 68) (.t 70) (.c (.bool false))),mV 2 71] .ret))))))))
theorem dg9:Dg Tryz.prog 9 Tryz.f9 ic9 [(.t 2)]:=⟨Tryz.func9,by kernel_rfl,by kernel_rfl⟩
set_option maxHeartbeats 2000000 in
theorem c9 (code:B):FnR Tryz.prog G 9 [.sl 1 (code.map byR)] (.bool true):=by
 refine mF dg9 Tryz.ntmps9 ?_
 simp only[ic9,go_sem]
 by_cases hc:(1048576:Int)<code.length
 ·simp only[eq_true hc,go_sem]
 simp only[eq_false hc,go_sem]
 refine callO (c14 code (by omega)) [] 14 0 (by simp only[go_sem];first|done|simp) (by simp) (by rintro _ _ ⟨_,_,_,_,rfl,rfl⟩;simp) (by intro i hi;omega) ?_
 rintro _ _ ⟨up,down,text,⟨⟨hu,hd⟩,ht,hte⟩,rfl,rfl⟩
 simp only[go_sem]
 have f1:=c15 up down text (by omega) (by omega) (by omega)
 have f2:=c16 up down text (by omega) (by omega) (by omega)
 by_cases hno:linesRun up down text=[110,111,32,119,111,114,108,100,10]
 ·rw[hno] at f1 f2
  with_reducible repeat' (first|refine br ?_ ?_<;>intro h e<;>(try simp only[e,go_sem])<;>clear e|rw[i64w (by omega)]|refine sd ?_<;>try simp only[go_sem]|(first|refine cr (f1 ..) ?_|refine cr (f2 ..) ?_)<;>try simp only[go_sem]|fail)
 obtain⟨w,hw⟩:∃w,worldNew [lineConv up down]=some w:=by
  cases hw:worldNew [lineConv up down] with
  | none=>exact absurd (linesRun_no hw text) hno
  | some w=>exact⟨w,rfl⟩
 have f3:=c15 up down [] (by omega) (by omega) (by simp)
 have f4:=c15 up down [119,104,97,116,10,109,97,112,10,110,101,116,115,10] (by omega) (by omega) (by simp)
 have g0:=c15 [64,49] [] [] (by simp) (by simp) (by simp)
 have g1:=c15 [64,57,58,49,48,59] [] [] (by simp) (by simp) (by simp)
 rw[lines_none0] at g0
 rw[lines_none1] at g1
 obtain⟨l1,l2⟩:=law_none hw
 rw[l1] at f3
 rw[l2] at f4
 generalize linesRun up down text=s at *
 with_reducible repeat' (first|refine br ?_ ?_<;>intro h e<;>(try simp only[e,go_sem,hno])<;>clear e|rw[i64w (by omega)]|refine sd ?_<;>try simp only[go_sem,hno]|(first|refine cr (f1 ..) ?_|refine cr (f2 ..) ?_)<;>try simp only[go_sem,hno]|fail)
 refine loopN (fun a:B=>⟨getL [(3,.str up),(4,.str down),(7,.str a)],getH []⟩) (fun a=>601 - a.length) (fun a=>a.length≤6000) text (leQ []) (by omega) ?_
 intro a ha
 simp only[go_sem]
 by_cases h6:(a.length:Int)≤600
 ·simp only[eq_true h6,go_sem]
  with_reducible repeat' (first|refine br ?_ ?_<;>intro h e<;>(try simp only[e,go_sem])<;>clear e|rw[i64w (by omega)]|refine sd ?_<;>try simp only[go_sem]|fail)
  exact⟨a++[110,111,116,104,105,110,103,32,97,116,32,97,108,108,10],by simp only[zA,zC,zN];omega,by simp only[zA,zC,zN];omega,(leQ [])⟩
 simp only[eq_false h6,go_sem]
 have f5:=c15 up down a (by omega) (by omega) (by omega)
 rw[linesRun_long hw (by omega)] at f5
 with_reducible repeat' (first|refine br ?_ ?_<;>intro h e<;>(try simp only[e,go_sem,List.append_assoc,List.cons_append,List.nil_append])<;>clear e|rw[i64w (by omega)]|refine sd ?_<;>try simp only[go_sem,List.append_assoc,List.cons_append,List.nil_append]|(first|refine cr (f3 ..) ?_|refine cr (f4 ..) ?_|refine cr (f5 ..) ?_|refine cr (g0 ..) ?_|refine cr (g1 ..) ?_)<;>try simp only[go_sem,List.append_assoc,List.cons_append,List.nil_append]|fail)
end Go.Proofs.YtiegngjdjheebaaGreatDoor.W
namespace Go.Proofs.YtiegngjdjheebaaGreatDoor.fnLinesNone
open Go Go.ChangeShapes Go.WideShapes Go.ChangeAt Go.RowKit Go.Proofs.YtiegngjdjheebaaGreatDoor.W
theorem witnessZip {H:Type} {enc:TypeId×Value→H} {C:Checked} {os:Os} {f:FuncId} {fn:Func} {s:OpenSpec} {conds:List PathCond} {apart:Bool} {laid:List (String×DataW Unit)} (w0:World) (args:Array Value) (hos:w0.os=os)
 (hsh:(w0.forCall (fun _ _=>0) ⟨#[],args,[]⟩).Shaped C.prog) (hok:Input.okWideB C.prog (w0.forCall (fun _ _=>0) ⟨#[],args,[]⟩) f ⟨#[],args,[]⟩=true)
 (hrow:s.preRow enc C.prog fn conds apart laid (w0.forCall (fun _ _=>0) ⟨#[],args,[]⟩).memory args) :
 ∃(w:World) (tape:Tape) (i:Input),w.os=os∧(w.forCall tape i).Shaped C.prog∧i.vars=[]∧Input.okWide C.prog (w.forCall tape i) .any w.heap.size f i ∧
  s.preRow enc C.prog fn conds apart laid (w.forCall tape i).memory i.args∧({ modest:=false }:Assume).holds C.prog (lone (Frame.enter C.prog f i.args .normal) [] (w.forCall tape i)) :=
 ⟨w0,fun _ _=>0,⟨#[],args,[]⟩,hos,hsh,(Input.okWide_of_okWideB (base:=0) hok).1,(Input.okWide_of_okWideB hok).2,hrow,by
   simp only[Assume.holds]
   exact⟨by simp,by simp,by simp,by simp,by simp⟩⟩
theorem walk (v0:Value) (W:World) (hs:W.ShapedOpen Tryz.prog) (hL:laidMetH Tryz.prog Rows.fnLinesNoneRow.laid W) (hv0:∃code:M.B,VL.Den W noO noρ noH (.sl 1 (code.map M.byR)) v0) :
 Calls Tryz.prog 9 #[v0] W fun e W'=>e=.returned (.bool true)∧Below W.heap.size W W':=by
 obtain⟨code,hdv0⟩:=hv0
 have:=Go.Proofs.YtiegngjdjheebaaGreatDoor.W.FnR.calls (c9 code) (us:=[v0]) (gOk rfl hL hs) ⟨rfl,fun j a b ha hb=>by
  match j,ha,hb with
  | 0,ha,hb=>cases ha;cases hb;exact hdv0
  | j+1,ha,hb=>simp at ha⟩
 exact this
set_option maxRecDepth 100000 in
theorem contract (H:Type) (enc:TypeId×Value→H) (W:World) (base:Nat) (args:Array Value) (ds gs:List (DataW H)) (before:List MemPlace)
 (hval:∀(j:Nat) t v,Tryz.f9.params[j]?=some t→args[j]?=some v→Value.okWide Tryz.prog W .any base t v)
 (hW:DataW.Whole enc Tryz.prog Tryz.f9.params.toList Rows.fnLinesNoneSpec.vars false W args.toList ds gs before) (hL:laidMetH Tryz.prog Rows.fnLinesNoneRow.laid W) (hs:W.ShapedOpen Tryz.prog) :
 Calls Tryz.prog 9 args W fun e W'=>∃v,e=.returned v∧Rows.fnLinesNoneSpec.post enc Tryz.prog Tryz.f9 false true false false W args v W':=by
 have hW':=hW
 obtain⟨p,q,hA0,hV,rfl,hfz,hnd⟩:=hW
 have hA:DataW.TrodAll enc Tryz.prog W 0 (fun _=>true) true Tryz.f9.params.toList args.toList ds p:=hA0
 rw[Tryz.params9] at hA hval
 obtain⟨v0,r0s,d0,d0s,p0,q0,hargs0,rfl,rfl,h0,r0⟩:=trodAll_cons hA
 obtain⟨e1,e2,e3⟩:=trodAll_nil r0
 subst e1 e2 e3
 obtain rfl:args=#[v0]:=by cases args;simp_all
 obtain⟨rfl,rfl⟩:=trodVars_none hV
 obtain⟨a0,len0,cap0,hv0⟩:=okWide_slice Tryz.underlying22 (hval 0 22 v0 rfl rfl)
 have k0:=h0
 have lt0:∀x∈p0,x.block<W.heap.size:=by obtain⟨m,hm⟩:=k0;exact DataW.trod_lt m _ _ _ hm
 have hc0:=open_code h0 ⟨a0,len0,cap0,hv0⟩
 clear hA0
 refine(walk v0 W hs hL hc0).mono fun e W' ⟨he,bel⟩=>?_
 subst he
 exact⟨_,rfl,_,_,_,[],_,[],hW',trodAll_mk1 (shut_bool Tryz.underlying4 _),(trodAll_cons_mk (Below.trod laidOut (by kernel_rfl) (of_decide_eq_true (by kernel_rfl)) k0 bel lt0) trodAll_mk0),rfl,bel.frame _,fun h=>by cases h⟩
theorem inP:(Rows.fnLinesNoneRow.inPlace==Tryz.prog.inPlace 9)=true:=by kernel_rfl
theorem unf:(Rows.fnLinesNoneRow.unfollowed==Tryz.prog.unfollowed 9)=true:=by kernel_rfl
theorem rcs:(Rows.fnLinesNoneRow.recurses==Tryz.prog.recurses 9)=true:=by kernel_rfl
theorem nam:(Rows.fnLinesNoneRow.named==Tryz.prog.varsNamed 9)=true:=by kernel_rfl
theorem lif:(Rows.fnLinesNoneRow.lifted==Tryz.prog.liftsFinal)=true:=lifF
theorem pke:(Rows.fnLinesNoneRow.plainKeys==Tryz.prog.plainKeys)=true:=pkeF
theorem mak:(Tryz.prog.make==some Rows.fnLinesNoneRow.make)=true:=makF
theorem closed0:joinedFacts Tryz.prog 9 Tryz.f9 Rows.fnLinesNoneSpec Rows.fnLinesNoneRow=true:=by
 unfold joinedFacts
 rw[laidOut,mapF,inP,unf,rcs,nam,pke,stoF,mayF,lif,mak]
 kernel_rfl
theorem closed:joinedFacts Tryz.pinned.checked.prog 9 Tryz.f9 (OpenSpec.ofChange Rows.fnLinesNoneSpec).bare Rows.fnLinesNoneRow=true :=
 (show joinedFacts Tryz.pinned.checked.prog 9 Tryz.f9 (OpenSpec.ofChange Rows.fnLinesNoneSpec).bare Rows.fnLinesNoneRow=joinedFacts Tryz.prog 9 Tryz.f9 Rows.fnLinesNoneSpec Rows.fnLinesNoneRow by kernel_rfl).trans closed0
theorem door_met (os:Os) (args:Array Value):laidMetH Tryz.prog Rows.fnLinesNoneRow.laid ((World.laidAll Tryz.prog os Rows.fnLinesNoneRow.laid).forCall (fun _ _=>0) ⟨#[],args,[]⟩).memory :=
 by rw[MakeChecks.laidMetH_plain _ _ _ (by kernel_rfl)];exact laidMet_laidAll _ (by kernel_rfl) (by kernel_rfl)
theorem reads (os:Os) {H:Type} (enc:TypeId×Value→H):∃places,DataW.whole enc Tryz.prog ((World.laidAll Tryz.prog os Rows.fnLinesNoneRow.laid).forCall (fun _ _=>0) ⟨#[],#[.slice none 0 0],[]⟩).memory Tryz.f9.params.toList Rows.fnLinesNoneSpec.vars false #[Value.slice none 0 0].toList 8=some ([.nil],[],places) :=
 ⟨[],by kernel_rfl⟩
set_option maxRecDepth 100000 in
theorem lifted (os:Os) (started:os.Started) (H:Type) (enc:TypeId×Value→H) (F:Stop.Interp) :
 ReturnsInHanded {} Tryz.checked os 9 .any ((OpenSpec.ofChange Rows.fnLinesNoneSpec).preRow enc Tryz.prog Tryz.f9 Rows.fnLinesNoneRow.domain false Rows.fnLinesNoneRow.laid) (((OpenSpec.ofChange Rows.fnLinesNoneSpec).at F).post enc Tryz.prog Tryz.f9 false true false false):=by
 obtain⟨places,hx⟩:=reads os enc
 refine returnsInHanded_of_row (C:=Tryz.checked) (s:=OpenSpec.ofChange Rows.fnLinesNoneSpec) own started (by kernel_rfl) Tryz.func9
  (witnessZip (enc:=enc) (C:=Tryz.checked) (World.laidAll Tryz.prog os Rows.fnLinesNoneRow.laid) #[.slice none 0 0] (World.laidAll_os _ _ _) (World.shaped_of_ZipB (by kernel_rfl) (by kernel_rfl)) (by kernel_rfl)
    (OpenSpec.preRow_of_cond 8 hx (by kernel_rfl) (fun k hk=>by cases hk) (by kernel_rfl) (door_met os _))) ?_
 intro W base args ds gs before hval hW _ _ _ hL hs _
 exact contract H enc W base args ds gs before hval hW hL hs
theorem said:Rows.FnLinesNoneSaid :=
 OpenClaim.holds_of_cond 9 Tryz.f9 rfl rfl rfl rfl rfl rfl rfl ⟨rfl,rfl,rfl,rfl,rfl⟩ rfl rfl rfl rfl rfl (by kernel_rfl) Tryz.func9 closed
  (of_decide_eq_true (by kernel_rfl)) (by unfold Func.isWrapper;first|(rw[if_pos (by decide +kernel)];kernel_rfl)|(rw[if_neg (by decide +kernel)];exact⟨rfl,rfl⟩))
  (fun os started H enc _ F=>by rw[OpenClaim.pre_eq_preRow];exact lifted os started H enc F)
theorem plain (f:FuncId) (fn:Func) (hf:Tryz.pinned.checked.prog.funcNamed "loop.example/ostiary/laws.FnLinesNone"=some f) (hfn:Tryz.pinned.checked.prog.funcs[f]?=some fn) :
 true=Tryz.pinned.checked.prog.looks []∧∀(j:Nat) t,fn.params[j]?=some t→Tryz.pinned.checked.prog.wantsStandIn t=false:=by
 obtain rfl:f=9:=Option.some.inj ((show Tryz.prog.funcNamed "loop.example/ostiary/laws.FnLinesNone"=some 9 by kernel_rfl).symm.trans hf) |>.symm
 obtain rfl:fn=Tryz.f9:=(Option.some.inj (Tryz.func9.symm.trans hfn)).symm
 refine⟨by kernel_rfl,fun j t ht=>?_⟩
 rw[Tryz.params9] at ht
 obtain rfl:t=22:=by simpa using Array.mem_of_getElem? ht
 exact(show Tryz.prog.wantsStandIn 22=false by kernel_rfl)
theorem card:Rows.FnLinesNoneCardSaid :=
 Claim7.holds_tied_plain_at .later [] _ _ _ _ said (fun _ h=>by cases h) (by kernel_rfl) (fun _ h=>by cases h) fnLinesNone_row_tie rfl ⟨rfl,rfl⟩ (by kernel_rfl) rfl plain (by kernel_rfl)
end Go.Proofs.YtiegngjdjheebaaGreatDoor.fnLinesNone
