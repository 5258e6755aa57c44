/- FnLinesRun: lines are done, and what came is told. Conditions: those of the row alone. -/
import Derived.Test.YtiegngjdjheebaaGreatDoorZ06
import Derived.Test.YtiegngjdjheebaaGreatDoorZ04
import Derived.Lay
import Derived.Test.YtiegngjdjheebaaGreatDoorCards
import Derived.Test.YtiegngjdjheebaaGreatDoorTie
set_option linter.all false
namespace Go.Proofs.YtiegngjdjheebaaGreatDoor.W
open Go Go.RowKit Go.Proofs Go.Proofs.YtiegngjdjheebaaGreatDoor.VL Go.Proofs.YtiegngjdjheebaaGreatDoor.M
theorem at_left {x y:B} {i:Nat} (h:i<x.length):(x++y).getD i 0=x.getD i 0:=by
 simp only[List.getD,List.getElem?_append_left h]
theorem not_ten {z:B} (h:(10:UInt8)∉z) {i:Nat} (hi:i<z.length):¬z.getD i 0=10:=by
 intro e
 apply h
 have:z.getD i 0=z[i]:=by simp[List.getD,hi]
 rw[this] at e
 rw[←e]
 exact List.getElem_mem hi
theorem u8_ten (b:UInt8):(((b.toNat:Nat):Int)=10)=(b=10):=u8_eq b 10
def ic11:IC:=sR [oP 2 (.mv (.c (.bool false)))] (.seq (sR [mV 8 0,oP 9 (.len (.t 8)),oP 10 (.bin .gtr (.t 9) (.c (.int .i64 1048576)))] (.cond (.t 10) (sR [oP 2 (.mv (.c (.bool true)))] .ret) .skip)) (sR [mV 12 0,oP 13 (.call 14 [.t 12]),mV 11 13,eX 14 11 0,eX 15 11 1,eX 16 11 2,mV 3 14,mV 4 15,mV 5 16] (sR [mV 17 3,mV 18 4,mV 19 5,oP 20 (.call 15 [.t 17,.t 18,.t 19]),mV 6 20] (.seq (sR [mV 21 6,mV 22 3,mV 23 4,mV 24 5,oP 25 (.call 16 [.t 22,.t 23,.t 24]),bN 26 .neq 21 25] (.cond (.t 26) (sR [oP 2 (.mv (.c (.bool false)))] .ret) .skip)) (.seq (sR [mV 27 6,oP 28 (.bin .eql (.t 27) (.c (.str [110,111,32,119,111,114,108,100,10]))),mV 29 28,⟨some 30,some (29,false),.mv (.t 5)⟩,⟨some 31,some (29,false),.lens (.t 30)⟩,⟨some 32,some (29,false),.bin .gtr (.t 31) (.c (.int .i64 600))⟩,oP 33 (.pick (.t 29) (.c (.bool true)) (.t 32))] (.cond (.t 33) (sR [mV 34 6,oP 35 (.bin .eql (.t 34) (.c (.str [110,111,32,119,111,114,108,100,10]))),mV 36 35,⟨some 37,some (36,false),.mv (.t 6)⟩,⟨some 38,some (36,false),.bin .eql (.t 37) (.c (.str [116,111,111,32,108,111,110,103,10]))⟩,oP 39 (.pick (.t 36) (.c (.bool true)) (.t 38)),mV 2 39] .ret) .skip)) (sR [mV 40 6,oP 41 (.lens (.t 40)),oP 42 (.bin .sub (.t 41) (.c (.int .i64 1))),mV 7 42] (.seq (.block 0 (.loop (.seq (sR [mV 43 7,oP 44 (.bin .gtr (.t 43) (.c i0)),mV 45 44,⟨some 46,some (45,true),.mv (.t 6)⟩,⟨some 47,some (45,true),.mv (.t 7)⟩,⟨some 48,some (45,true),.bin .sub (.t 47) (.c (.int .i64 1))⟩,⟨some 49,some (45,true),.idx (.t 46) (.t 48)⟩,⟨some 50,some (45,true),.bin .neq (.t 49) (.c (.int .u8 10))⟩,oP 51 (.pick (.t 45) (.t 50) (.c (.bool false)))] (.cond (.t 51) .skip (.exit 0))) (.block 1 (.reg [mV 52 7,oP 53 (.bin .sub (.t 52) (.c (.int .i64 1))),mV 7 53]))))) (sR [mV 54 6,oP 55 (.lens (.t 54)),oP 56 (.bin .gtr (.t 55) (.c (.int .i64 8))),mV 57 56,⟨some 58,some (57,true),.mv (.t 6)⟩,⟨some 59,some (57,true),.mv (.t 6)⟩,⟨some 60,some (57,true),.lens (.t 59)⟩,⟨some 61,some (57,true),.bin .sub (.t 60) (.c (.int .i64 1))⟩,⟨some 62,some (57,true),.idx (.t 58) (.t 61)⟩,⟨some 63,some (57,true),.bin .eql (.t 62) (.c (.int .u8 10))⟩,oP 64 (.pick (.t 57) (.t 63) (.c (.bool false))),mV 65 64,⟨some 66,some (65,true),.mv (.t 6)⟩,⟨some 67,some (65,true),.mv (.t 7)⟩,⟨some 68,some (65,true),.mv (.t 7)⟩,⟨some 69,some (65,true),.bin .add (.t 68) (.c (.int .i64 4))⟩,⟨some 70,some (65,true),.sls (.t 66) (some (.t 67)) (some (.t 69))⟩,⟨some 71,some (65,true),.bin .eql (.t 70) (.c (.str [100,111,119,110]))⟩,oP 72 (.pick (.t 65) (.t 71) (.c (.bool false))),mV 2 72] .ret))))))))
theorem dg11:Dg Tryz.prog 11 Tryz.f11 ic11 [(.t 2)]:=⟨Tryz.func11,by kernel_rfl,by kernel_rfl⟩
set_option maxHeartbeats 2000000 in
theorem c11 (code:B):FnR Tryz.prog G 11 [.sl 1 (code.map byR)] (.bool true):=by
 refine mF dg11 Tryz.ntmps11 ?_
 simp only[ic11,go_sem]
 by_cases hc:(1048576:Int)<code.length
 ·simp only[eq_true hc,go_sem]
 simp only[eq_false hc,go_sem]
 refine callO (c14 code (by omega)) [] 13 0 (by simp only[go_sem];first|done|simp) (by simp) (by rintro _ _ ⟨_,_,_,_,rfl,rfl⟩;simp) (by intro i hi;omega) ?_
 rintro _ _ ⟨up,down,text,⟨⟨hu,hd⟩,ht,hte⟩,rfl,rfl⟩
 simp only[go_sem]
 have f1:=c15 up down text (by omega) (by omega) (by omega)
 have f2:=c16 up down text (by omega) (by omega) (by omega)
 by_cases h6:(600:Int)<text.length
 ·cases hw:worldNew [lineConv up down] with
  | none =>
    rw[linesRun_no hw] at f1 f2
    with_reducible repeat' (first|refine br ?_ ?_<;>intro h e<;>(try simp only[e,go_sem])<;>clear e|rw[i64w (by omega)]|refine sd ?_<;>try simp only[go_sem]|(first|refine cr (f1 ..) ?_|refine cr (f2 ..) ?_)<;>try simp only[go_sem]|fail)
  | some w =>
    rw[linesRun_long hw (by omega)] at f1 f2
    with_reducible repeat' (first|refine br ?_ ?_<;>intro h e<;>(try simp only[e,go_sem,h6])<;>clear e|rw[i64w (by omega)]|refine sd ?_<;>try simp only[go_sem,h6]|(first|refine cr (f1 ..) ?_|refine cr (f2 ..) ?_)<;>try simp only[go_sem,h6]|fail)
 by_cases hno:linesRun up down text=[110,111,32,119,111,114,108,100,10]
 ·rw[hno] at f1 f2
  with_reducible repeat' (first|refine br ?_ ?_<;>intro h e<;>(try simp only[e,go_sem])<;>clear e|rw[i64w (by omega)]|refine sd ?_<;>try simp only[go_sem]|(first|refine cr (f1 ..) ?_|refine cr (f2 ..) ?_)<;>try simp only[go_sem]|fail)
 obtain⟨w,hw⟩:∃w,worldNew [lineConv up down]=some w:=by
  cases hw:worldNew [lineConv up down] with
  | none=>exact absurd (linesRun_no hw text) hno
  | some w=>exact⟨w,rfl⟩
 obtain⟨x,y,l1,l2,l3⟩:=law_lines hw (show text.length≤600 by omega)
 have sl:(linesRun up down text).length≤100000000:=linesRun_len up down text
 generalize linesRun up down text=s at *
 obtain⟨z,hz⟩:∃z,z=[100,111,119,110]++y:=⟨_,rfl⟩
 rw[←hz] at l1 l2
 have hzl:4≤z.length:=by rw[hz];simp
 have hz4:z.take 4=[100,111,119,110]:=by rw[hz];rfl
 have sll:s.length=x.length+z.length+2:=by rw[l1];simp;omega
 have w1:IntKind.i64.wrap ((s.length:Int) - 1)=((x.length+1+z.length:Nat):Int):=by rw[i64w (by omega)];omega
 have hat:∀i,i<z.length→s.getD (x.length+1+i) 0=z.getD i 0:=fun i hi=>by
  rw[l1]
  simp only[List.getD]
  rw[List.getElem?_append_right (by omega),show x.length+1+i - x.length=i+1 by omega,List.getElem?_cons_succ,List.getElem?_append_left hi]
 have h10:s.getD x.length 0=10:=by
  rw[l1]
  simp[List.getD]
 have hend:s.getD (x.length+1+z.length) 0=10:=by
  rw[show x.length+1+z.length=x.length+(z.length+1) by omega,l1]
  simp only[List.getD]
  rw[List.getElem?_append_right (by omega),show x.length+(z.length+1) - x.length=z.length+1 by omega,List.getElem?_cons_succ,List.getElem?_append_right (by omega)]
  simp
 with_reducible repeat' (first|refine br ?_ ?_<;>intro h e<;>(try simp only[e,go_sem,hno,h6,w1])<;>clear e|rw[i64w (by omega)]|refine sd ?_<;>try simp only[go_sem,hno,h6,w1]|(first|refine cr (f1 ..) ?_|refine cr (f2 ..) ?_)<;>try simp only[go_sem,hno,h6,w1]|fail)
 refine loopN (fun a:Nat=>⟨getL [(6,.str s),(7,.int .i64 ((x.length+1+a:Nat):Int))],getH []⟩) (fun a=>a) (fun a=>a≤z.length) z.length (leQ []) (Nat.le_refl _) ?_
 intro a ha
 have p1:((0:Int)<((x.length+1+a:Nat):Int))=True:=eq_true (by omega)
 by_cases h0:a=0
 rotate_left
 ·obtain⟨b,rfl⟩:∃b,a=b+1:=⟨a - 1,by omega⟩
  have w2:IntKind.i64.wrap (((x.length+1+(b+1):Nat):Int) - 1)=((x.length+1+b:Nat):Int):=by rw[i64w (by omega)];omega
  have p2:(0:Int)≤((x.length+1+b:Nat):Int)∧((x.length+1+b:Nat):Int)<(s.length:Int):=⟨by omega,by omega⟩
  have p3:((x.length+1+b:Nat):Int).toNat=x.length+1+b:=Int.toNat_natCast _
  have hne:¬s.getD (x.length+1+b) 0=10:=by
   rw[hat _ (by omega)]
   exact not_ten l2 (by omega)
  simp only[go_sem,w2,p1]
  with_reducible repeat' (first|refine br ?_ ?_<;>intro h e<;>(try simp only[e,go_sem,w2,p1,p2,p3,u8_ten,hne])<;>clear e|rw[i64w (by omega)]|refine sd ?_<;>try simp only[go_sem,w2,p1,p2,p3,u8_ten,hne]|fail)
  exact⟨b,Nat.lt_succ_self b,by omega,(leQ [])⟩
 subst h0
 rw[Nat.add_zero] at p1
 have w2:IntKind.i64.wrap (((x.length+1:Nat):Int) - 1)=((x.length:Nat):Int):=by rw[i64w (by omega)];omega
 have p2:(0:Int)≤((x.length:Nat):Int)∧((x.length:Nat):Int)<(s.length:Int):=⟨by omega,by omega⟩
 have p3:((x.length:Nat):Int).toNat=x.length:=Int.toNat_natCast _
 have p5:(0:Int)≤((x.length+1+z.length:Nat):Int)∧((x.length+1+z.length:Nat):Int)<(s.length:Int):=⟨by omega,by omega⟩
 have p6:((x.length+1+z.length:Nat):Int).toNat=x.length+1+z.length:=Int.toNat_natCast _
 have hdn:(s.take (((x.length+1:Nat):Int)+4).toNat).drop (x.length+1)=[100,111,119,110]:=by
  rw[show(((x.length+1:Nat):Int)+4).toNat=x.length+1+4 by omega,List.drop_take,l1]
  rw[show x++10::(z++[10])=(x++[10])++(z++[10]) by simp,List.drop_left' (by simp),show x.length+1+4 - (x.length+1)=4 by omega,List.take_append_of_le_length hzl,hz4]
 have w3:IntKind.i64.wrap (((x.length+1:Nat):Int)+4)=((x.length+1:Nat):Int)+4:=i64w (by omega)
 have p4:((8:Int)<(s.length:Int))=True:=eq_true (by omega)
 simp only[Nat.add_zero,go_sem,w2,p1]
 with_reducible repeat' (first|refine br ?_ ?_<;>intro h e<;>(try simp only[e,go_sem,w1,w2,w3,p1,p2,p3,p4,p5,p6,u8_ten,h10,hend,hdn])<;>clear e|rw[i64w (by omega)]|refine sd ?_<;>try simp only[go_sem,w1,w2,w3,p1,p2,p3,p4,p5,p6,u8_ten,h10,hend,hdn]|fail)
end Go.Proofs.YtiegngjdjheebaaGreatDoor.W
namespace Go.Proofs.YtiegngjdjheebaaGreatDoor.fnLinesRun
open Go Go.ChangeShapes Go.WideShapes Go.ChangeAt Go.RowKit Go.Proofs.YtiegngjdjheebaaGreatDoor.W
theorem walk (v0:Value) (W:World) (hs:W.ShapedOpen Tryz.prog) (hL:laidMetH Tryz.prog Rows.fnLinesRunRow.laid W) (hv0:∃code:M.B,VL.Den W noO noρ noH (.sl 1 (code.map M.byR)) v0) :
 Calls Tryz.prog 11 #[v0] W fun e W'=>e=.returned (.bool true)∧Below W.heap.size W W':=by
 obtain⟨code,hdv0⟩:=hv0
 have:=Go.Proofs.YtiegngjdjheebaaGreatDoor.W.FnR.calls (c11 code) (us:=[v0]) (gOk rfl hL hs) ⟨rfl,fun j a b ha hb=>by
  match j,ha,hb with
  | 0,ha,hb=>cases ha;cases hb;exact hdv0
  | j+1,ha,hb=>simp at ha⟩
 exact this
set_option maxRecDepth 100000 in
theorem contract (H:Type) (enc:TypeId×Value→H) (W:World) (base:Nat) (args:Array Value) (ds gs:List (DataW H)) (before:List MemPlace)
 (hval:∀(j:Nat) t v,Tryz.f11.params[j]?=some t→args[j]?=some v→Value.okWide Tryz.prog W .any base t v)
 (hW:DataW.Whole enc Tryz.prog Tryz.f11.params.toList Rows.fnLinesRunSpec.vars false W args.toList ds gs before) (hL:laidMetH Tryz.prog Rows.fnLinesRunRow.laid W) (hs:W.ShapedOpen Tryz.prog) :
 Calls Tryz.prog 11 args W fun e W'=>∃v,e=.returned v∧Rows.fnLinesRunSpec.post enc Tryz.prog Tryz.f11 false true false false W args v W':=by
 have hW':=hW
 obtain⟨p,q,hA0,hV,rfl,hfz,hnd⟩:=hW
 have hA:DataW.TrodAll enc Tryz.prog W 0 (fun _=>true) true Tryz.f11.params.toList args.toList ds p:=hA0
 rw[Tryz.params11] at hA hval
 obtain⟨v0,r0s,d0,d0s,p0,q0,hargs0,rfl,rfl,h0,r0⟩:=trodAll_cons hA
 obtain⟨e1,e2,e3⟩:=trodAll_nil r0
 subst e1 e2 e3
 obtain rfl:args=#[v0]:=by cases args;simp_all
 obtain⟨rfl,rfl⟩:=trodVars_none hV
 obtain⟨a0,len0,cap0,hv0⟩:=okWide_slice Tryz.underlying22 (hval 0 22 v0 rfl rfl)
 have k0:=h0
 have lt0:∀x∈p0,x.block<W.heap.size:=by obtain⟨m,hm⟩:=k0;exact DataW.trod_lt m _ _ _ hm
 have hc0:=open_code h0 ⟨a0,len0,cap0,hv0⟩
 clear hA0
 refine(walk v0 W hs hL hc0).mono fun e W' ⟨he,bel⟩=>?_
 subst he
 exact⟨_,rfl,_,_,_,[],_,[],hW',trodAll_mk1 (shut_bool Tryz.underlying4 _),(trodAll_cons_mk (Below.trod laidOut (by kernel_rfl) (of_decide_eq_true (by kernel_rfl)) k0 bel lt0) trodAll_mk0),rfl,bel.frame _,fun h=>by cases h⟩
theorem inP:(Rows.fnLinesRunRow.inPlace==Tryz.prog.inPlace 11)=true:=by kernel_rfl
theorem unf:(Rows.fnLinesRunRow.unfollowed==Tryz.prog.unfollowed 11)=true:=by kernel_rfl
theorem rcs:(Rows.fnLinesRunRow.recurses==Tryz.prog.recurses 11)=true:=by kernel_rfl
theorem nam:(Rows.fnLinesRunRow.named==Tryz.prog.varsNamed 11)=true:=by kernel_rfl
theorem lif:(Rows.fnLinesRunRow.lifted==Tryz.prog.liftsFinal)=true:=lifF
theorem pke:(Rows.fnLinesRunRow.plainKeys==Tryz.prog.plainKeys)=true:=pkeF
theorem mak:(Tryz.prog.make==some Rows.fnLinesRunRow.make)=true:=makF
theorem closed0:joinedFacts Tryz.prog 11 Tryz.f11 Rows.fnLinesRunSpec Rows.fnLinesRunRow=true:=by
 unfold joinedFacts
 rw[laidOut,mapF,inP,unf,rcs,nam,pke,stoF,mayF,lif,mak]
 kernel_rfl
theorem closed:joinedFacts Tryz.pinned.checked.prog 11 Tryz.f11 (OpenSpec.ofChange Rows.fnLinesRunSpec).bare Rows.fnLinesRunRow=true :=
 (show joinedFacts Tryz.pinned.checked.prog 11 Tryz.f11 (OpenSpec.ofChange Rows.fnLinesRunSpec).bare Rows.fnLinesRunRow=joinedFacts Tryz.prog 11 Tryz.f11 Rows.fnLinesRunSpec Rows.fnLinesRunRow by kernel_rfl).trans closed0
theorem door_met (os:Os) (args:Array Value):laidMetH Tryz.prog Rows.fnLinesRunRow.laid ((World.laidAll Tryz.prog os Rows.fnLinesRunRow.laid).forCall (fun _ _=>0) ⟨#[],args,[]⟩).memory :=
 by rw[MakeChecks.laidMetH_plain _ _ _ (by kernel_rfl)];exact laidMet_laidAll _ (by kernel_rfl) (by kernel_rfl)
theorem reads (os:Os) {H:Type} (enc:TypeId×Value→H):∃places,DataW.whole enc Tryz.prog ((World.laidAll Tryz.prog os Rows.fnLinesRunRow.laid).forCall (fun _ _=>0) ⟨#[],#[.slice none 0 0],[]⟩).memory Tryz.f11.params.toList Rows.fnLinesRunSpec.vars false #[Value.slice none 0 0].toList 8=some ([.nil],[],places) :=
 ⟨[],by kernel_rfl⟩
set_option maxRecDepth 100000 in
theorem lifted (os:Os) (started:os.Started) (H:Type) (enc:TypeId×Value→H) (F:Stop.Interp) :
 ReturnsInHanded {} Tryz.checked os 11 .any ((OpenSpec.ofChange Rows.fnLinesRunSpec).preRow enc Tryz.prog Tryz.f11 Rows.fnLinesRunRow.domain false Rows.fnLinesRunRow.laid) (((OpenSpec.ofChange Rows.fnLinesRunSpec).at F).post enc Tryz.prog Tryz.f11 false true false false):=by
 obtain⟨places,hx⟩:=reads os enc
 refine returnsInHanded_of_row (C:=Tryz.checked) (s:=OpenSpec.ofChange Rows.fnLinesRunSpec) own started (by kernel_rfl) Tryz.func11
  ⟨World.laidAll Tryz.prog os Rows.fnLinesRunRow.laid,fun _ _=>0,⟨#[],#[.slice none 0 0],[]⟩,World.laidAll_os _ _ _,World.shaped_of_ZipB (by kernel_rfl) (by kernel_rfl),rfl,(Input.okWide_of_okWideB (by kernel_rfl)).2,(OpenSpec.preRow_of_cond 8 hx (by kernel_rfl) (fun k hk=>by cases hk) (by kernel_rfl) (door_met os _)),by
    simp only[Assume.holds]
    exact⟨by simp,by simp,by simp,by simp,by simp⟩⟩ ?_
 intro W base args ds gs before hval hW _ _ _ hL hs _
 exact contract H enc W base args ds gs before hval hW hL hs
theorem said:Rows.FnLinesRunSaid :=
 OpenClaim.holds_of_cond 11 Tryz.f11 rfl rfl rfl rfl rfl rfl rfl ⟨rfl,rfl,rfl,rfl,rfl⟩ rfl rfl rfl rfl rfl (by kernel_rfl) Tryz.func11 closed
  (of_decide_eq_true (by kernel_rfl)) (by unfold Func.isWrapper;first|(rw[if_pos (by decide +kernel)];kernel_rfl)|(rw[if_neg (by decide +kernel)];exact⟨rfl,rfl⟩))
  (fun os started H enc _ F=>by rw[OpenClaim.pre_eq_preRow];exact lifted os started H enc F)
theorem plain (f:FuncId) (fn:Func) (hf:Tryz.pinned.checked.prog.funcNamed "loop.example/ostiary/laws.FnLinesRun"=some f) (hfn:Tryz.pinned.checked.prog.funcs[f]?=some fn) :
 true=Tryz.pinned.checked.prog.looks []∧∀(j:Nat) t,fn.params[j]?=some t→Tryz.pinned.checked.prog.wantsStandIn t=false:=by
 obtain rfl:f=11:=Option.some.inj ((show Tryz.prog.funcNamed "loop.example/ostiary/laws.FnLinesRun"=some 11 by kernel_rfl).symm.trans hf) |>.symm
 obtain rfl:fn=Tryz.f11:=(Option.some.inj (Tryz.func11.symm.trans hfn)).symm
 refine⟨by kernel_rfl,fun j t ht=>?_⟩
 rw[Tryz.params11] at ht
 obtain rfl:t=22:=by simpa using Array.mem_of_getElem? ht
 exact(show Tryz.prog.wantsStandIn 22=false by kernel_rfl)
theorem card:Rows.FnLinesRunCardSaid :=
 Claim7.holds_tied_plain_at .later [] _ _ _ _ said (fun _ h=>by cases h) (by kernel_rfl) (fun _ h=>by cases h) fnLinesRun_row_tie rfl ⟨rfl,rfl⟩ (by kernel_rfl) rfl plain (by kernel_rfl)
end Go.Proofs.YtiegngjdjheebaaGreatDoor.fnLinesRun
