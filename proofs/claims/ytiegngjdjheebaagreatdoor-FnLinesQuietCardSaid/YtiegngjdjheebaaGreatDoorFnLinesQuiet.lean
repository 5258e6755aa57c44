/- FnLinesQuiet: what is asked changes nothing. Conditions: those of the row alone. -/
import Derived.Test.YtiegngjdjheebaaGreatDoorZ06
import Derived.Test.YtiegngjdjheebaaGreatDoorZ04
import Derived.Lay
import Derived.Test.YtiegngjdjheebaaGreatDoorCards
import Derived.Test.YtiegngjdjheebaaGreatDoorTie
set_option linter.all false
namespace Go.Proofs.YtiegngjdjheebaaGreatDoor.W
open Go Go.RowKit Go.Proofs Go.Proofs.YtiegngjdjheebaaGreatDoor.VL Go.Proofs.YtiegngjdjheebaaGreatDoor.M
def ic10:IC:=sR [oP 2 (.mv (.c (.bool false)))] (.seq (sR [mV 9 0,oP 10 (.len (.t 9)),oP 11 (.bin .gtr (.t 10) (.c (.int .i64 1048576)))] (.cond (.t 11) (sR [oP 2 (.mv (.c (.bool true)))] .ret) .skip)) (sR [mV 13 0,oP 14 (.call 14 [.t 13]),mV 12 14,eX 15 12 0,eX 16 12 1,eX 17 12 2,mV 3 15,mV 4 16,mV 5 17] (sR [mV 18 3,mV 19 4,mV 20 5,oP 21 (.call 15 [.t 18,.t 19,.t 20]),mV 6 21] (.seq (sR [mV 22 6,mV 23 3,mV 24 4,mV 25 5,oP 26 (.call 16 [.t 23,.t 24,.t 25]),bN 27 .neq 22 26,mV 28 27,⟨some 29,some (28,false),.mv (.t 5)⟩,⟨some 30,some (28,false),.lens (.t 29)⟩,⟨some 31,some (28,false),.bin .gtr (.t 30) (.c (.int .i64 580))⟩,oP 32 (.pick (.t 28) (.c (.bool true)) (.t 31)),mV 33 32,⟨some 34,some (33,false),.mv (.t 6)⟩,⟨some 35,some (33,false),.bin .eql (.t 34) (.c (.str [110,111,32,119,111,114,108,100,10]))⟩,oP 36 (.pick (.t 33) (.c (.bool true)) (.t 35))] (.cond (.t 36) (sR [mV 37 6,mV 38 3,mV 39 4,mV 40 5,oP 41 (.call 16 [.t 38,.t 39,.t 40]),bN 42 .eql 37 41,mV 2 42] .ret) .skip)) (sR [mV 43 3,mV 44 4,mV 45 5,oP 46 (.bin .add (.t 45) (.c (.str [119,104,97,116,10]))),oP 47 (.call 15 [.t 43,.t 44,.t 46]),mV 7 47] (sR [mV 48 3,mV 49 4,mV 50 5,oP 51 (.bin .add (.t 50) (.c (.str [110,101,116,115,10,119,104,97,116,10]))),oP 52 (.call 15 [.t 48,.t 49,.t 51]),mV 8 52] (sR [mV 53 7,oP 54 (.lens (.t 53)),mV 55 6,oP 56 (.lens (.t 55)),oP 57 (.bin .add (.t 56) (.c (.int .i64 5))),bN 58 .eql 54 57,mV 59 58,⟨some 60,some (59,true),.mv (.t 8)⟩,⟨some 61,some (59,true),.lens (.t 60)⟩,⟨some 62,some (59,true),.mv (.t 7)⟩,⟨some 63,some (59,true),.lens (.t 62)⟩,⟨some 64,some (59,true),.bin .gtr (.t 61) (.t 63)⟩,oP 65 (.pick (.t 59) (.t 64) (.c (.bool false))),mV 66 65,⟨some 67,some (66,true),.mv (.t 3)⟩,⟨some 68,some (66,true),.mv (.t 4)⟩,⟨some 69,some (66,true),.mv (.t 5)⟩,⟨some 70,some (66,true),.bin .add (.t 69) (.c (.str [109,97,112,10,109,97,112,10]))⟩,⟨some 71,some (66,true),.call 15 [.t 67,.t 68,.t 70]⟩,⟨some 72,some (66,true),.mv (.t 6)⟩,⟨some 73,some (66,true),.bin .neq (.t 71) (.t 72)⟩,oP 74 (.pick (.t 66) (.t 73) (.c (.bool false))),mV 2 74] .ret)))))))
theorem dg10:Dg Tryz.prog 10 Tryz.f10 ic10 [(.t 2)]:=⟨Tryz.func10,by kernel_rfl,by kernel_rfl⟩
set_option maxHeartbeats 2000000 in
theorem c10 (code:B):FnR Tryz.prog G 10 [.sl 1 (code.map byR)] (.bool true):=by
 refine mF dg10 Tryz.ntmps10 ?_
 simp only[ic10,go_sem]
 by_cases hc:(1048576:Int)<code.length
 ·simp only[eq_true hc,go_sem]
 simp only[eq_false hc,go_sem]
 refine callO (c14 code (by omega)) [] 14 0 (by simp only[go_sem];first|done|simp) (by simp) (by rintro _ _ ⟨_,_,_,_,rfl,rfl⟩;simp) (by intro i hi;omega) ?_
 rintro _ _ ⟨up,down,text,⟨⟨hu,hd⟩,ht,hte⟩,rfl,rfl⟩
 simp only[go_sem]
 have f1:=c15 up down text (by omega) (by omega) (by omega)
 have f2:=c16 up down text (by omega) (by omega) (by omega)
 by_cases h5:(580:Int)<text.length
 ·generalize linesRun up down text=s at *
  with_reducible repeat' (first|refine br ?_ ?_<;>intro h e<;>(try simp only[e,go_sem,h5])<;>clear e|rw[i64w (by omega)]|refine sd ?_<;>try simp only[go_sem,h5]|(first|refine cr (f1 ..) ?_|refine cr (f2 ..) ?_)<;>try simp only[go_sem,h5]|fail)
 by_cases hno:linesRun up down text=[110,111,32,119,111,114,108,100,10]
 ·rw[hno] at f1 f2
  with_reducible repeat' (first|refine br ?_ ?_<;>intro h e<;>(try simp only[e,go_sem,h5])<;>clear e|rw[i64w (by omega)]|refine sd ?_<;>try simp only[go_sem,h5]|(first|refine cr (f1 ..) ?_|refine cr (f2 ..) ?_)<;>try simp only[go_sem,h5]|fail)
 obtain⟨w,hw⟩:∃w,worldNew [lineConv up down]=some w:=by
  cases hw:worldNew [lineConv up down] with
  | none=>exact absurd (linesRun_no hw text) hno
  | some w=>exact⟨w,rfl⟩
 have f3:=c15 up down (text++[119,104,97,116,10]) (by omega) (by omega) (by simp only[zA,zC,zN];omega)
 have f4:=c15 up down (text++[110,101,116,115,10,119,104,97,116,10]) (by omega) (by omega) (by simp only[zA,zC,zN];omega)
 have f5:=c15 up down (text++[109,97,112,10,109,97,112,10]) (by omega) (by omega) (by simp only[zA,zC,zN];omega)
 obtain⟨l1,l2,l3⟩:=law_quiet hw hte (show text.length≤580 by omega)
 have sl:(linesRun up down text).length≤100000000:=linesRun_len up down text
 generalize linesRun up down (text++[119,104,97,116,10])=r1 at *
 generalize linesRun up down (text++[110,101,116,115,10,119,104,97,116,10])=r2 at *
 generalize linesRun up down (text++[109,97,112,10,109,97,112,10])=r3 at *
 generalize linesRun up down text=s at *
 have w1:IntKind.i64.wrap ((s.length:Int)+5)=s.length+5:=i64w (by omega)
 have k1:((r1.length:Int)=s.length+5)=True:=eq_true (by omega)
 have k2:((r1.length:Int)<r2.length)=True:=eq_true (by omega)
 with_reducible repeat' (first|refine br ?_ ?_<;>intro h e<;>(try simp only[e,go_sem,h5,hno,w1,k1,k2,l3])<;>clear e|rw[i64w (by omega)]|refine sd ?_<;>try simp only[go_sem,h5,hno,w1,k1,k2,l3]|(first|refine cr (f1 ..) ?_|refine cr (f2 ..) ?_|refine cr (f3 ..) ?_|refine cr (f4 ..) ?_|refine cr (f5 ..) ?_)<;>try simp only[go_sem,h5,hno,w1,k1,k2,l3]|fail)
end Go.Proofs.YtiegngjdjheebaaGreatDoor.W
namespace Go.Proofs.YtiegngjdjheebaaGreatDoor.fnLinesQuiet
open Go Go.ChangeShapes Go.WideShapes Go.ChangeAt Go.RowKit Go.Proofs.YtiegngjdjheebaaGreatDoor.W
theorem witnessZip {H:Type} {enc:TypeId×Value→H} {C:Checked} {os:Os} {f:FuncId} {fn:Func} {s:OpenSpec} {conds:List PathCond} {apart:Bool} {laid:List (String×DataW Unit)} (w0:World) (args:Array Value) (hos:w0.os=os)
 (hsh:(w0.forCall (fun _ _=>0) ⟨#[],args,[]⟩).Shaped C.prog) (hok:Input.okWideB C.prog (w0.forCall (fun _ _=>0) ⟨#[],args,[]⟩) f ⟨#[],args,[]⟩=true)
 (hrow:s.preRow enc C.prog fn conds apart laid (w0.forCall (fun _ _=>0) ⟨#[],args,[]⟩).memory args) :
 ∃(w:World) (tape:Tape) (i:Input),w.os=os∧(w.forCall tape i).Shaped C.prog∧i.vars=[]∧Input.okWide C.prog (w.forCall tape i) .any w.heap.size f i ∧
  s.preRow enc C.prog fn conds apart laid (w.forCall tape i).memory i.args∧({ modest:=false }:Assume).holds C.prog (lone (Frame.enter C.prog f i.args .normal) [] (w.forCall tape i)) :=
 ⟨w0,fun _ _=>0,⟨#[],args,[]⟩,hos,hsh,(Input.okWide_of_okWideB (base:=0) hok).1,(Input.okWide_of_okWideB hok).2,hrow,by
   simp only[Assume.holds]
   exact⟨by simp,by simp,by simp,by simp,by simp⟩⟩
theorem walk (v0:Value) (W:World) (hs:W.ShapedOpen Tryz.prog) (hL:laidMetH Tryz.prog Rows.fnLinesQuietRow.laid W) (hv0:∃code:M.B,VL.Den W noO noρ noH (.sl 1 (code.map M.byR)) v0) :
 Calls Tryz.prog 10 #[v0] W fun e W'=>e=.returned (.bool true)∧Below W.heap.size W W':=by
 obtain⟨code,hdv0⟩:=hv0
 have:=Go.Proofs.YtiegngjdjheebaaGreatDoor.W.FnR.calls (c10 code) (us:=[v0]) (gOk rfl hL hs) ⟨rfl,fun j a b ha hb=>by
  match j,ha,hb with
  | 0,ha,hb=>cases ha;cases hb;exact hdv0
  | j+1,ha,hb=>simp at ha⟩
 exact this
set_option maxRecDepth 100000 in
theorem contract (H:Type) (enc:TypeId×Value→H) (W:World) (base:Nat) (args:Array Value) (ds gs:List (DataW H)) (before:List MemPlace)
 (hval:∀(j:Nat) t v,Tryz.f10.params[j]?=some t→args[j]?=some v→Value.okWide Tryz.prog W .any base t v)
 (hW:DataW.Whole enc Tryz.prog Tryz.f10.params.toList Rows.fnLinesQuietSpec.vars false W args.toList ds gs before) (hL:laidMetH Tryz.prog Rows.fnLinesQuietRow.laid W) (hs:W.ShapedOpen Tryz.prog) :
 Calls Tryz.prog 10 args W fun e W'=>∃v,e=.returned v∧Rows.fnLinesQuietSpec.post enc Tryz.prog Tryz.f10 false true false false W args v W':=by
 have hW':=hW
 obtain⟨p,q,hA0,hV,rfl,hfz,hnd⟩:=hW
 have hA:DataW.TrodAll enc Tryz.prog W 0 (fun _=>true) true Tryz.f10.params.toList args.toList ds p:=hA0
 rw[Tryz.params10] at hA hval
 obtain⟨v0,r0s,d0,d0s,p0,q0,hargs0,rfl,rfl,h0,r0⟩:=trodAll_cons hA
 obtain⟨e1,e2,e3⟩:=trodAll_nil r0
 subst e1 e2 e3
 obtain rfl:args=#[v0]:=by cases args;simp_all
 obtain⟨rfl,rfl⟩:=trodVars_none hV
 obtain⟨a0,len0,cap0,hv0⟩:=okWide_slice Tryz.underlying22 (hval 0 22 v0 rfl rfl)
 have k0:=h0
 have lt0:∀x∈p0,x.block<W.heap.size:=by obtain⟨m,hm⟩:=k0;exact DataW.trod_lt m _ _ _ hm
 have hc0:=open_code h0 ⟨a0,len0,cap0,hv0⟩
 clear hA0
 refine(walk v0 W hs hL hc0).mono fun e W' ⟨he,bel⟩=>?_
 subst he
 exact⟨_,rfl,_,_,_,[],_,[],hW',trodAll_mk1 (shut_bool Tryz.underlying4 _),(trodAll_cons_mk (Below.trod laidOut (by kernel_rfl) (of_decide_eq_true (by kernel_rfl)) k0 bel lt0) trodAll_mk0),rfl,bel.frame _,fun h=>by cases h⟩
theorem inP:(Rows.fnLinesQuietRow.inPlace==Tryz.prog.inPlace 10)=true:=by kernel_rfl
theorem unf:(Rows.fnLinesQuietRow.unfollowed==Tryz.prog.unfollowed 10)=true:=by kernel_rfl
theorem rcs:(Rows.fnLinesQuietRow.recurses==Tryz.prog.recurses 10)=true:=by kernel_rfl
theorem nam:(Rows.fnLinesQuietRow.named==Tryz.prog.varsNamed 10)=true:=by kernel_rfl
theorem lif:(Rows.fnLinesQuietRow.lifted==Tryz.prog.liftsFinal)=true:=lifF
theorem pke:(Rows.fnLinesQuietRow.plainKeys==Tryz.prog.plainKeys)=true:=pkeF
theorem mak:(Tryz.prog.make==some Rows.fnLinesQuietRow.make)=true:=makF
theorem closed0:joinedFacts Tryz.prog 10 Tryz.f10 Rows.fnLinesQuietSpec Rows.fnLinesQuietRow=true:=by
 unfold joinedFacts
 rw[laidOut,mapF,inP,unf,rcs,nam,pke,stoF,mayF,lif,mak]
 kernel_rfl
theorem closed:joinedFacts Tryz.pinned.checked.prog 10 Tryz.f10 (OpenSpec.ofChange Rows.fnLinesQuietSpec).bare Rows.fnLinesQuietRow=true :=
 (show joinedFacts Tryz.pinned.checked.prog 10 Tryz.f10 (OpenSpec.ofChange Rows.fnLinesQuietSpec).bare Rows.fnLinesQuietRow=joinedFacts Tryz.prog 10 Tryz.f10 Rows.fnLinesQuietSpec Rows.fnLinesQuietRow by kernel_rfl).trans closed0
theorem door_met (os:Os) (args:Array Value):laidMetH Tryz.prog Rows.fnLinesQuietRow.laid ((World.laidAll Tryz.prog os Rows.fnLinesQuietRow.laid).forCall (fun _ _=>0) ⟨#[],args,[]⟩).memory :=
 by rw[MakeChecks.laidMetH_plain _ _ _ (by kernel_rfl)];exact laidMet_laidAll _ (by kernel_rfl) (by kernel_rfl)
theorem reads (os:Os) {H:Type} (enc:TypeId×Value→H):∃places,DataW.whole enc Tryz.prog ((World.laidAll Tryz.prog os Rows.fnLinesQuietRow.laid).forCall (fun _ _=>0) ⟨#[],#[.slice none 0 0],[]⟩).memory Tryz.f10.params.toList Rows.fnLinesQuietSpec.vars false #[Value.slice none 0 0].toList 8=some ([.nil],[],places) :=
 ⟨[],by kernel_rfl⟩
set_option maxRecDepth 100000 in
theorem lifted (os:Os) (started:os.Started) (H:Type) (enc:TypeId×Value→H) (F:Stop.Interp) :
 ReturnsInHanded {} Tryz.checked os 10 .any ((OpenSpec.ofChange Rows.fnLinesQuietSpec).preRow enc Tryz.prog Tryz.f10 Rows.fnLinesQuietRow.domain false Rows.fnLinesQuietRow.laid) (((OpenSpec.ofChange Rows.fnLinesQuietSpec).at F).post enc Tryz.prog Tryz.f10 false true false false):=by
 obtain⟨places,hx⟩:=reads os enc
 refine returnsInHanded_of_row (C:=Tryz.checked) (s:=OpenSpec.ofChange Rows.fnLinesQuietSpec) own started (by kernel_rfl) Tryz.func10
  (witnessZip (enc:=enc) (C:=Tryz.checked) (World.laidAll Tryz.prog os Rows.fnLinesQuietRow.laid) #[.slice none 0 0] (World.laidAll_os _ _ _) (World.shaped_of_ZipB (by kernel_rfl) (by kernel_rfl)) (by kernel_rfl)
    (OpenSpec.preRow_of_cond 8 hx (by kernel_rfl) (fun k hk=>by cases hk) (by kernel_rfl) (door_met os _))) ?_
 intro W base args ds gs before hval hW _ _ _ hL hs _
 exact contract H enc W base args ds gs before hval hW hL hs
theorem said:Rows.FnLinesQuietSaid :=
 OpenClaim.holds_of_cond 10 Tryz.f10 rfl rfl rfl rfl rfl rfl rfl ⟨rfl,rfl,rfl,rfl,rfl⟩ rfl rfl rfl rfl rfl (by kernel_rfl) Tryz.func10 closed
  (of_decide_eq_true (by kernel_rfl)) (by unfold Func.isWrapper;first|(rw[if_pos (by decide +kernel)];kernel_rfl)|(rw[if_neg (by decide +kernel)];exact⟨rfl,rfl⟩))
  (fun os started H enc _ F=>by rw[OpenClaim.pre_eq_preRow];exact lifted os started H enc F)
theorem plain (f:FuncId) (fn:Func) (hf:Tryz.pinned.checked.prog.funcNamed "loop.example/ostiary/laws.FnLinesQuiet"=some f) (hfn:Tryz.pinned.checked.prog.funcs[f]?=some fn) :
 true=Tryz.pinned.checked.prog.looks []∧∀(j:Nat) t,fn.params[j]?=some t→Tryz.pinned.checked.prog.wantsStandIn t=false:=by
 obtain rfl:f=10:=Option.some.inj ((show Tryz.prog.funcNamed "loop.example/ostiary/laws.FnLinesQuiet"=some 10 by kernel_rfl).symm.trans hf) |>.symm
 obtain rfl:fn=Tryz.f10:=(Option.some.inj (Tryz.func10.symm.trans hfn)).symm
 refine⟨by kernel_rfl,fun j t ht=>?_⟩
 rw[Tryz.params10] at ht
 obtain rfl:t=22:=by simpa using Array.mem_of_getElem? ht
 exact(show Tryz.prog.wantsStandIn 22=false by kernel_rfl)
theorem card:Rows.FnLinesQuietCardSaid :=
 Claim7.holds_tied_plain_at .later [] _ _ _ _ said (fun _ h=>by cases h) (by kernel_rfl) (fun _ h=>by cases h) fnLinesQuiet_row_tie rfl ⟨rfl,rfl⟩ (by kernel_rfl) rfl plain (by kernel_rfl)
end Go.Proofs.YtiegngjdjheebaaGreatDoor.fnLinesQuiet
