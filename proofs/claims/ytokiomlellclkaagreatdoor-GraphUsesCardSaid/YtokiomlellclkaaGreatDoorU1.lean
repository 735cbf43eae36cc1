/- The law GraphUses returns true for every input: what cells use is as the reference says, for laws that are right and such with a change, and for cells that there are not. No conditions beyond the given row's. -/
import Derived.Test.YtokiomlellclkaaGreatDoorC3
import Derived.Test.YtokiomlellclkaaGreatDoorC4
set_option linter.unusedSimpArgs false
set_option linter.unusedVariables false
set_option maxRecDepth 100000
open Go AM Go.ChangeShapes Go.WideShapes Go.ChangeAt Go.RowKit
namespace Go.Proofs.YtokiomlellclkaaGreatDoor.usess
open Go.Proofs.Tryz
theorem abC (a:Os):laidMet Tryz.prog Rows.graphUsesRow.laid ((ZZ a).forCall (fun _ _=>0) ⟨#[],#[.slice none 0 0,.agg #[.int .i64 0,.int .i64 0,.int .i64 0],.agg #[.int .i64 0,.int .i64 0]],[]⟩).memory:=
 laidMet_of_run' 8 (by kernel_rfl) (by kernel_rfl)
theorem abL (a:Os) {H:Type} (enc:TypeId × Value→H):∃ places,DataW.whole enc Tryz.prog ((ZZ a).forCall (fun _ _=>0) ⟨#[],#[.slice none 0 0,.agg #[.int .i64 0,.int .i64 0,.int .i64 0],.agg #[.int .i64 0,.int .i64 0]],[]⟩).memory Tryz.f3.params.toList Rows.graphUsesSpec.vars false [.slice none 0 0,.agg #[.int .i64 0,.int .i64 0,.int .i64 0],.agg #[.int .i64 0,.int .i64 0]] 8=some ([.nil,.agg [.lit (.int .i64 0),.lit (.int .i64 0),.lit (.int .i64 0)],.agg [.lit (.int .i64 0),.lit (.int .i64 0)]],[],places):=
 ⟨[],by kernel_rfl⟩
theorem aaC {a b:Bool} (h:a=true) (c:b=true):(a && b)=true:=by rw [h,c];rfl
theorem lk:true=Tryz.prog.looks []:=by kernel_rfl
theorem k0:Rows.graphUsesRow.wf (OpenSpec.ofChange (OpenSpec.ofChange Rows.graphUsesSpec).bare)=true:=by kernel_rfl
theorem k1:laidOutB Tryz.prog=true:=by kernel_rfl
theorem k2:mapsRowed Tryz.prog=true:=by kernel_rfl
theorem k3:Tryz.f3.params.all (Tryz.prog.readableRec ·)=true:=by kernel_rfl
theorem k4:namedTie Tryz.prog Rows.graphUsesRow.named (OpenSpec.ofChange Rows.graphUsesSpec).bare.vars=true:=by kernel_rfl
theorem k5:(Rows.graphUsesRow.stops== [])=true:=by kernel_rfl
theorem k6:(Tryz.prog.stops== [])=true:=by kernel_rfl
theorem k7:(Rows.graphUsesRow.knobs== [])=true:=by kernel_rfl
theorem k8:(Tryz.prog.stopKnobs== [])=true:=by kernel_rfl
theorem k9:(Rows.graphUsesRow.inPlace==Tryz.prog.inPlace 3)=true:=by kernel_rfl
theorem k10:(Rows.graphUsesRow.unfollowed==Tryz.prog.unfollowed 3)=true:=by kernel_rfl
theorem k11:(Rows.graphUsesRow.recurses==Tryz.prog.recurses 3)=true:=by kernel_rfl
theorem k12:(Rows.graphUsesRow.named==Tryz.prog.varsNamed 3)=true:=by kernel_rfl
theorem k13:(Rows.graphUsesRow.maps==(Tryz.f3.params.toList++(OpenSpec.ofChange Rows.graphUsesSpec).bare.plain.varTypes Tryz.prog).any (Tryz.prog.mapsRec ·))=true:=by kernel_rfl
theorem k14:(Rows.graphUsesRow.ifaces==(Tryz.f3.params.toList++(OpenSpec.ofChange Rows.graphUsesSpec).bare.plain.varTypes Tryz.prog).any (Tryz.prog.ifacesRec ·))=true:=by kernel_rfl
theorem k15:(Rows.graphUsesRow.mapsOut==Tryz.prog.mapsAmong Tryz.f3.resultTypes.toList)=true:=by kernel_rfl
theorem k16:(Rows.graphUsesRow.loops==(Tryz.f3.params.toList++(OpenSpec.ofChange Rows.graphUsesSpec).bare.plain.varTypes Tryz.prog).any (Tryz.prog.loopsFrom ·))=true:=by kernel_rfl
theorem k17:(Rows.graphUsesRow.wideKeys==(Tryz.f3.params.toList++(OpenSpec.ofChange Rows.graphUsesSpec).bare.plain.varTypes Tryz.prog++Tryz.f3.resultTypes.toList).any (Tryz.prog.wideKeysFrom ·))=true:=by kernel_rfl
theorem k18:(OpenSpec.ofChange Rows.graphUsesSpec).bare.vars.all (Tryz.prog.varReadable ·)=true:=by kernel_rfl
theorem k19:Tryz.f3.resultTypes.all (fun t=>Tryz.prog.readableRec t && decide (t<Tryz.prog.types.size))=true:=by kernel_rfl
theorem k20:(Rows.graphUsesRow.ifacesOut==Tryz.f3.resultTypes.toList.any (Tryz.prog.ifacesRec ·))=true:=by kernel_rfl
theorem k21:(Rows.graphUsesRow.loopsOut==Tryz.f3.resultTypes.toList.any (Tryz.prog.loopsFrom ·))=true:=by kernel_rfl
theorem k22:(Rows.graphUsesRow.plainKeys==Tryz.prog.plainKeys)=true:=by kernel_rfl
theorem k23:Rows.graphUsesRow.shortTexts.isNone=true:=by kernel_rfl
theorem k24:Tryz.prog.stopsHeard=true:=by kernel_rfl
theorem k25:Tryz.prog.mayEnter=true:=by kernel_rfl
theorem k26:(Rows.graphUsesRow.lifted==Tryz.prog.liftsFinal)=true:=by kernel_rfl
theorem k27:(Tryz.prog.make==some Rows.graphUsesRow.make)=true:=by kernel_rfl
theorem k28:(Rows.graphUsesRow.kinds==(if Rows.graphUsesRow.domain.isEmpty then [] else Tryz.f3.params.toList.map fun t=>match Tryz.prog.underlying t with|some (.int k)=>some k|_=>none))=true:=by kernel_rfl
theorem k29:(Rows.graphUsesRow.pinned==Rows.graphUsesRow.pinnedBy)=true:=by kernel_rfl
theorem k30:(Rows.graphUsesRow.veiled==(Tryz.f3.params.toList++(OpenSpec.ofChange Rows.graphUsesSpec).bare.plain.varTypes Tryz.prog++Tryz.f3.resultTypes.toList).any (Tryz.prog.veiledRec ·))=true:=by kernel_rfl
theorem k31:Rows.graphUsesRow.veiledFits Tryz.prog Tryz.f3.params.toList (Tryz.f3.params.toList++(OpenSpec.ofChange Rows.graphUsesSpec).bare.plain.varTypes Tryz.prog++Tryz.f3.resultTypes.toList)=true:=by kernel_rfl
theorem abH:joinedFacts Tryz.prog 3 Tryz.f3 (OpenSpec.ofChange Rows.graphUsesSpec).bare Rows.graphUsesRow=true:=(aaC (aaC (aaC (aaC (aaC (aaC (aaC (aaC (aaC (aaC (aaC (aaC (aaC (aaC (aaC (aaC (aaC (aaC (aaC (aaC (aaC (aaC (aaC (aaC (aaC (aaC (aaC (aaC (aaC (aaC (aaC k0 k1) k2) k3) k4) k5) k6) k7) k8) k9) k10) k11) k12) k13) k14) k15) k16) k17) k18) k19) k20) k21) k22) k23) k24) k25) k26) k27) k28) k29) k30) k31)
theorem abB (H:Type) (enc:TypeId × Value→H) (W:World) (base:Nat) (args:Array Value) (p x:List (DataW H)) (before:List MemPlace)
  (hval:∀ (j:Nat) t v,Tryz.f3.params[j]? =some t→args[j]? =some v→Value.okWide Tryz.prog W .any base t v)
  (hW:DataW.Whole enc Tryz.prog Tryz.f3.params.toList Rows.graphUsesSpec.vars false W args.toList p x before) (hL:laidMetH Tryz.prog Rows.graphUsesRow.laid W):
  Calls Tryz.prog 3 args W fun e W'=> ∃ v,e= .returned v∧Rows.graphUsesSpec.post enc Tryz.prog Tryz.f3 false true false false W args v W':=by
 have b:=hW;obtain ⟨pp,I,a,D,rfl,r,s⟩:=hW;have c:DataW.TrodAll enc Tryz.prog W 0 (fun _=>true) true Tryz.f3.params.toList args.toList p pp:=a;obtain ⟨J⟩:=args;simp only at c b hval ⊢;rw [Tryz.params3] at c hval;obtain ⟨q,C,P,z,K,q0,rfl,rfl,rfl,h0,a⟩:=trodAll_cons c;obtain ⟨o,B,F,E,L,i,rfl,rfl,rfl,G,d⟩:=trodAll_cons a;obtain ⟨n,y,O,A,M,m,rfl,rfl,rfl,N,f⟩:=trodAll_cons d;obtain ⟨rfl,rfl,rfl⟩:=trodAll_nil f;obtain ⟨rfl,rfl⟩:=trodVars_none D;obtain ⟨l,k⟩:=afE (hval 0 22 q rfl rfl) h0;obtain ⟨q0,i,m,g⟩:=afD (by kernel_rfl) (by kernel_rfl) (by kernel_rfl) (hval 1 23 o rfl rfl);obtain ⟨w,h⟩:=afC (by kernel_rfl) (by kernel_rfl) (by kernel_rfl) (hval 2 25 n rfl rfl);have u:bi (gI W) [.sl (jT l) l.length false,.agg [.int .i64 q0,.int .i64 i,.int .i64 m],cA w] [q,o,n]:=by
  simp only [bi,and_true];exact ⟨k,g,h⟩
 refine (YB (abE Z4 l false q0 i m w) (aaG hL) u).mono fun e W' ⟨he,hb⟩=> ?_
 subst he;exact ⟨_,rfl,abP afB (by kernel_rfl) b rfl (tb:=4) rfl (by kernel_rfl) rfl hb⟩
theorem lifted (b:Os) (started:b.Started) (H:Type) (enc:TypeId × Value→H) (F:Stop.Interp):
  ReturnsInHanded {} Tryz.checked b 3 .any ((OpenSpec.ofChange Rows.graphUsesSpec).preRow enc Tryz.prog Tryz.f3 Rows.graphUsesRow.domain false Rows.graphUsesRow.laid) (((OpenSpec.ofChange Rows.graphUsesSpec).at F).post enc Tryz.prog Tryz.f3 false true false false):=by
 obtain ⟨places,f⟩:=abL b enc;refine returnsInHanded_of_row (C:=Tryz.checked) (s:=OpenSpec.ofChange Rows.graphUsesSpec) own started (by kernel_rfl) Tryz.func3
  (witness_row_at (enc:=enc) (C:=Tryz.checked) false (ZZ b) #[.slice none 0 0,.agg #[.int .i64 0,.int .i64 0,.int .i64 0],.agg #[.int .i64 0,.int .i64 0]] rfl (by kernel_rfl) (by kernel_rfl) (by kernel_rfl)
   (OpenSpec.preRow_of_cond 8 f (by kernel_rfl) (fun k d=>by cases d) (by kernel_rfl) (abC b))) ?_
 intro W base args h g before a e _ _ _ c _ _;exact abB H enc W base args h g before a e c
theorem abG:Tryz.prog.funcNamed Rows.graphUsesRow.func=some 3:=by kernel_rfl
theorem abW:Rows.GraphUsesSaid:=
 OpenClaim.holds_of_cond 3 Tryz.f3 rfl rfl rfl rfl rfl rfl rfl ⟨rfl,rfl,rfl,rfl,rfl⟩ rfl rfl rfl rfl rfl abG Tryz.func3 abH
  (of_decide_eq_true (by kernel_rfl)) (by unfold Func.isWrapper;first|(rw [if_pos (by decide+kernel)];kernel_rfl)|(rw [if_neg (by decide+kernel)];exact ⟨rfl,rfl⟩))
  (fun a started H enc _ F=>by rw [OpenClaim.pre_eq_preRow];exact lifted a started H enc F)
theorem plain (f:FuncId) (b:Func) (e:Tryz.pinned.checked.prog.funcNamed Rows.graphUsesRow.func=some f) (c:Tryz.pinned.checked.prog.funcs[f]? =some b):
  true=Tryz.pinned.checked.prog.looks []∧∀ (j:Nat) t,b.params[j]? =some t→Tryz.pinned.checked.prog.wantsStandIn t=false:=by
 obtain rfl:f=3:=Option.some.inj (abG.symm.trans e)|>.symm
 obtain rfl:b=Tryz.f3:=(Option.some.inj (Tryz.func3.symm.trans c)).symm;refine ⟨lk,fun j t d=> ?_⟩;have a:Tryz.f3.params.toList.all (fun t=> !Tryz.prog.wantsStandIn t)=true:=by kernel_rfl
 have:=List.all_eq_true.1 a t (by simpa using Array.mem_of_getElem? d);show Tryz.prog.wantsStandIn t=false;simpa using this
theorem wft:Rows.graphUsesRow.wfByText (OpenSpec.ofChange Rows.graphUsesSpec)=true:=by kernel_rfl
theorem mn:Tryz.prog.mainIs=some (Rows.graphUsesCard.stood.harness.1,Rows.graphUsesCard.stood.harness.2.toList):=by kernel_rfl
theorem gby:false=Rows.graphUsesRow.goesBy Tryz.prog:=by kernel_rfl
theorem card:Rows.GraphUsesCardSaid:=
 Claim7.holds_tied_plain_at .later [] _ _ _ _ abW (fun _ h=>by cases h) wft (fun _ h=>by cases h) graphUses_row_tie rfl ⟨rfl,rfl⟩ mn rfl plain gby
end Go.Proofs.YtokiomlellclkaaGreatDoor.usess
