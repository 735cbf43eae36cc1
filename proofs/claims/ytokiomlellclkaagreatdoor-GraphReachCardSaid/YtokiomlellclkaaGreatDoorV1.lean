/- The law GraphReach returns true for every input: the cells that are reached are as the reference says, from any cells. No conditions beyond the given row's. -/
import Derived.Test.YtokiomlellclkaaGreatDoorC4
import Derived.Test.YtokiomlellclkaaGreatDoorC5
set_option linter.unusedSimpArgs false
set_option linter.unusedVariables false
set_option maxRecDepth 100000
open Go AM Go.ChangeShapes Go.WideShapes Go.ChangeAt Go.RowKit
namespace Go.Proofs.YtokiomlellclkaaGreatDoor.reachs
open Go.Proofs.Tryz
theorem aaK (os:Os):laidMet Tryz.prog Rows.graphReachRow.laid ((acy os).forCall (fun _ _=>0) ⟨#[],#[.slice none 0 0,.agg #[.int .i64 0,.int .i64 0,.int .i64 0],.slice none 0 0],[]⟩).memory:=
 laidMet_of_run' 8 (by kernel_rfl) (by kernel_rfl)
theorem abB (os:Os) {H:Type} (enc:TypeId × Value→H):∃ places,DataW.whole enc Tryz.prog ((acy os).forCall (fun _ _=>0) ⟨#[],#[.slice none 0 0,.agg #[.int .i64 0,.int .i64 0,.int .i64 0],.slice none 0 0],[]⟩).memory Tryz.f5.params.toList Rows.graphReachSpec.vars false [.slice none 0 0,.agg #[.int .i64 0,.int .i64 0,.int .i64 0],.slice none 0 0] 8=some ([.nil,.agg [.lit (.int .i64 0),.lit (.int .i64 0),.lit (.int .i64 0)],.nil],[],places):=
 ⟨[],by kernel_rfl⟩
theorem aai {a b:Bool} (h:a=true) (c:b=true):(a && b)=true:=by rw [h,c];rfl
theorem lk:true=Tryz.prog.looks []:=by kernel_rfl
theorem k0:Rows.graphReachRow.wf (OpenSpec.ofChange (OpenSpec.ofChange Rows.graphReachSpec).bare)=true:=by kernel_rfl
theorem k1:laidOutB Tryz.prog=true:=by kernel_rfl
theorem k2:mapsRowed Tryz.prog=true:=by kernel_rfl
theorem k3:Tryz.f5.params.all (Tryz.prog.readableRec ·)=true:=by kernel_rfl
theorem k4:namedTie Tryz.prog Rows.graphReachRow.named (OpenSpec.ofChange Rows.graphReachSpec).bare.vars=true:=by kernel_rfl
theorem k5:(Rows.graphReachRow.stops== [])=true:=by kernel_rfl
theorem k6:(Tryz.prog.stops== [])=true:=by kernel_rfl
theorem k7:(Rows.graphReachRow.knobs== [])=true:=by kernel_rfl
theorem k8:(Tryz.prog.stopKnobs== [])=true:=by kernel_rfl
theorem k9:(Rows.graphReachRow.inPlace==Tryz.prog.inPlace 5)=true:=by kernel_rfl
theorem k10:(Rows.graphReachRow.unfollowed==Tryz.prog.unfollowed 5)=true:=by kernel_rfl
theorem k11:(Rows.graphReachRow.recurses==Tryz.prog.recurses 5)=true:=by kernel_rfl
theorem k12:(Rows.graphReachRow.named==Tryz.prog.varsNamed 5)=true:=by kernel_rfl
theorem k13:(Rows.graphReachRow.maps==(Tryz.f5.params.toList++(OpenSpec.ofChange Rows.graphReachSpec).bare.plain.varTypes Tryz.prog).any (Tryz.prog.mapsRec ·))=true:=by kernel_rfl
theorem k14:(Rows.graphReachRow.ifaces==(Tryz.f5.params.toList++(OpenSpec.ofChange Rows.graphReachSpec).bare.plain.varTypes Tryz.prog).any (Tryz.prog.ifacesRec ·))=true:=by kernel_rfl
theorem k15:(Rows.graphReachRow.mapsOut==Tryz.prog.mapsAmong Tryz.f5.resultTypes.toList)=true:=by kernel_rfl
theorem k16:(Rows.graphReachRow.loops==(Tryz.f5.params.toList++(OpenSpec.ofChange Rows.graphReachSpec).bare.plain.varTypes Tryz.prog).any (Tryz.prog.loopsFrom ·))=true:=by kernel_rfl
theorem k17:(Rows.graphReachRow.wideKeys==(Tryz.f5.params.toList++(OpenSpec.ofChange Rows.graphReachSpec).bare.plain.varTypes Tryz.prog++Tryz.f5.resultTypes.toList).any (Tryz.prog.wideKeysFrom ·))=true:=by kernel_rfl
theorem k18:(OpenSpec.ofChange Rows.graphReachSpec).bare.vars.all (Tryz.prog.varReadable ·)=true:=by kernel_rfl
theorem k19:Tryz.f5.resultTypes.all (fun t=>Tryz.prog.readableRec t && decide (t<Tryz.prog.types.size))=true:=by kernel_rfl
theorem k20:(Rows.graphReachRow.ifacesOut==Tryz.f5.resultTypes.toList.any (Tryz.prog.ifacesRec ·))=true:=by kernel_rfl
theorem k21:(Rows.graphReachRow.loopsOut==Tryz.f5.resultTypes.toList.any (Tryz.prog.loopsFrom ·))=true:=by kernel_rfl
theorem k22:(Rows.graphReachRow.plainKeys==Tryz.prog.plainKeys)=true:=by kernel_rfl
theorem k23:Rows.graphReachRow.shortTexts.isNone=true:=by kernel_rfl
theorem k24:Tryz.prog.stopsHeard=true:=by kernel_rfl
theorem k25:Tryz.prog.mayEnter=true:=by kernel_rfl
theorem k26:(Rows.graphReachRow.lifted==Tryz.prog.liftsFinal)=true:=by kernel_rfl
theorem k27:(Tryz.prog.make==some Rows.graphReachRow.make)=true:=by kernel_rfl
theorem k28:(Rows.graphReachRow.kinds==(if Rows.graphReachRow.domain.isEmpty then [] else Tryz.f5.params.toList.map fun t=>match Tryz.prog.underlying t with|some (.int k)=>some k|_=>none))=true:=by kernel_rfl
theorem k29:(Rows.graphReachRow.pinned==Rows.graphReachRow.pinnedBy)=true:=by kernel_rfl
theorem k30:(Rows.graphReachRow.veiled==(Tryz.f5.params.toList++(OpenSpec.ofChange Rows.graphReachSpec).bare.plain.varTypes Tryz.prog++Tryz.f5.resultTypes.toList).any (Tryz.prog.veiledRec ·))=true:=by kernel_rfl
theorem k31:Rows.graphReachRow.veiledFits Tryz.prog Tryz.f5.params.toList (Tryz.f5.params.toList++(OpenSpec.ofChange Rows.graphReachSpec).bare.plain.varTypes Tryz.prog++Tryz.f5.resultTypes.toList)=true:=by kernel_rfl
theorem abb:joinedFacts Tryz.prog 5 Tryz.f5 (OpenSpec.ofChange Rows.graphReachSpec).bare Rows.graphReachRow=true:=(aai (aai (aai (aai (aai (aai (aai (aai (aai (aai (aai (aai (aai (aai (aai (aai (aai (aai (aai (aai (aai (aai (aai (aai (aai (aai (aai (aai (aai (aai (aai k0 k1) k2) k3) k4) k5) k6) k7) k8) k9) k10) k11) k12) k13) k14) k15) k16) k17) k18) k19) k20) k21) k22) k23) k24) k25) k26) k27) k28) k29) k30) k31)
theorem aaj (H:Type) (enc:TypeId × Value→H) (W:World) (base:Nat) (args:Array Value) (p y:List (DataW H)) (before:List MemPlace)
  (hval:∀ (j:Nat) t v,Tryz.f5.params[j]? =some t→args[j]? =some v→Value.okWide Tryz.prog W .any base t v)
  (hW:DataW.Whole enc Tryz.prog Tryz.f5.params.toList Rows.graphReachSpec.vars false W args.toList p y before) (hL:laidMetH Tryz.prog Rows.graphReachRow.laid W):
  Calls Tryz.prog 5 args W fun e W'=> ∃ v,e= .returned v∧Rows.graphReachSpec.post enc Tryz.prog Tryz.f5 false true false false W args v W':=by
 have b:=hW;obtain ⟨pp,G,a,r,rfl,w,x⟩:=hW;have k:DataW.TrodAll enc Tryz.prog W 0 (fun _=>true) true Tryz.f5.params.toList args.toList p pp:=a;obtain ⟨K⟩:=args;simp only at k b hval ⊢;rw [Tryz.params5] at k hval;obtain ⟨v0,C,M,B,E,q0,rfl,rfl,rfl,h0,a⟩:=trodAll_cons k;obtain ⟨o,D,I,u,N,f,rfl,rfl,rfl,L,c⟩:=trodAll_cons a;obtain ⟨v2,A,F,s,J,m,rfl,rfl,rfl,z,g⟩:=trodAll_cons c;obtain ⟨rfl,rfl,rfl⟩:=trodAll_nil g;obtain ⟨rfl,rfl⟩:=trodVars_none r;obtain ⟨l,h⟩:=aib (hval 0 22 v0 rfl rfl) h0;obtain ⟨q0,f,m,i⟩:=aia (by kernel_rfl) (by kernel_rfl) (by kernel_rfl) (hval 1 23 o rfl rfl);obtain ⟨d,n⟩:=ajO (hval 2 43 v2 rfl rfl) z;have q:bu (iG W) [.sl (kL l) l.length false,.agg [.int .i64 q0,.int .i64 f,.int .i64 m],.sl (bL d) d.length false] [v0,o,v2]:=by
  simp only [bu,and_true];exact ⟨h,i,n⟩
 refine (aaW (acw acC l false q0 f m d false) (adf hL) q).mono fun e W' ⟨he,hb⟩=> ?_
 subst he;exact ⟨_,rfl,ael ah8 (by kernel_rfl) b rfl (tb:=4) rfl (by kernel_rfl) rfl hb⟩
theorem lifted (os:Os) (started:os.Started) (H:Type) (enc:TypeId × Value→H) (F:Stop.Interp):
  ReturnsInHanded {} Tryz.checked os 5 .any ((OpenSpec.ofChange Rows.graphReachSpec).preRow enc Tryz.prog Tryz.f5 Rows.graphReachRow.domain false Rows.graphReachRow.laid) (((OpenSpec.ofChange Rows.graphReachSpec).at F).post enc Tryz.prog Tryz.f5 false true false false):=by
 obtain ⟨places,c⟩:=abB os enc;refine returnsInHanded_of_row (C:=Tryz.checked) (s:=OpenSpec.ofChange Rows.graphReachSpec) own started (by kernel_rfl) Tryz.func5
  (witness_row_at (enc:=enc) (C:=Tryz.checked) false (acy os) #[.slice none 0 0,.agg #[.int .i64 0,.int .i64 0,.int .i64 0],.slice none 0 0] rfl (by kernel_rfl) (by kernel_rfl) (by kernel_rfl)
   (OpenSpec.preRow_of_cond 8 c (by kernel_rfl) (fun k e=>by cases e) (by kernel_rfl) (aaK os))) ?_
 intro W base args d f before a g _ _ _ b _ _;exact aaj H enc W base args d f before a g b
theorem aa4:Tryz.prog.funcNamed Rows.graphReachRow.func=some 5:=by kernel_rfl
theorem abY:Rows.GraphReachSaid:=
 OpenClaim.holds_of_cond 5 Tryz.f5 rfl rfl rfl rfl rfl rfl rfl ⟨rfl,rfl,rfl,rfl,rfl⟩ rfl rfl rfl rfl rfl aa4 Tryz.func5 abb
  (of_decide_eq_true (by kernel_rfl)) (by unfold Func.isWrapper;first|(rw [if_pos (by decide+kernel)];kernel_rfl)|(rw [if_neg (by decide+kernel)];exact ⟨rfl,rfl⟩))
  (fun os started H enc _ F=>by rw [OpenClaim.pre_eq_preRow];exact lifted os started H enc F)
theorem plain (f:FuncId) (b:Func) (e:Tryz.pinned.checked.prog.funcNamed Rows.graphReachRow.func=some f) (c:Tryz.pinned.checked.prog.funcs[f]? =some b):
  true=Tryz.pinned.checked.prog.looks []∧∀ (j:Nat) t,b.params[j]? =some t→Tryz.pinned.checked.prog.wantsStandIn t=false:=by
 obtain rfl:f=5:=Option.some.inj (aa4.symm.trans e)|>.symm
 obtain rfl:b=Tryz.f5:=(Option.some.inj (Tryz.func5.symm.trans c)).symm;refine ⟨lk,fun j t d=> ?_⟩;have a:Tryz.f5.params.toList.all (fun t=> !Tryz.prog.wantsStandIn t)=true:=by kernel_rfl
 have:=List.all_eq_true.1 a t (by simpa using Array.mem_of_getElem? d);show Tryz.prog.wantsStandIn t=false;simpa using this
theorem wft:Rows.graphReachRow.wfByText (OpenSpec.ofChange Rows.graphReachSpec)=true:=by kernel_rfl
theorem mn:Tryz.prog.mainIs=some (Rows.graphReachCard.stood.harness.1,Rows.graphReachCard.stood.harness.2.toList):=by kernel_rfl
theorem gby:false=Rows.graphReachRow.goesBy Tryz.prog:=by kernel_rfl
theorem card:Rows.GraphReachCardSaid:=
 Claim7.holds_tied_plain_at .later [] _ _ _ _ abY (fun _ h=>by cases h) wft (fun _ h=>by cases h) graphReach_row_tie rfl ⟨rfl,rfl⟩ mn rfl plain gby
end Go.Proofs.YtokiomlellclkaaGreatDoor.reachs
