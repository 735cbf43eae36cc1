/- The law GraphClosed returns true for every input: what is reached contains, with a cell, all that use it; reaching on gives nothing more; two lists together reach the cells of both. No conditions beyond the given row's. -/
import Derived.Test.YtokiomlellclkaaGreatDoorC2
import Derived.Test.YtokiomlellclkaaGreatDoorC3
set_option linter.unusedSimpArgs false
set_option linter.unusedVariables false
set_option maxRecDepth 100000
open Go AM Go.ChangeShapes Go.WideShapes Go.ChangeAt Go.RowKit
namespace Go.Proofs.YtokiomlellclkaaGreatDoor.closeds
open Go.Proofs.Tryz
theorem abh (os:Os):laidMet Tryz.prog Rows.graphClosedRow.laid ((Ui os).forCall (fun _ _=>0) ⟨#[],#[.slice none 0 0,.slice none 0 0,.slice none 0 0],[]⟩).memory:=
 laidMet_of_run' 8 (by kernel_rfl) (by kernel_rfl)
theorem abl (os:Os) {H:Type} (enc:TypeId × Value→H):∃ places,DataW.whole enc Tryz.prog ((Ui os).forCall (fun _ _=>0) ⟨#[],#[.slice none 0 0,.slice none 0 0,.slice none 0 0],[]⟩).memory Tryz.f9.params.toList Rows.graphClosedSpec.vars false [.slice none 0 0,.slice none 0 0,.slice none 0 0] 8=some ([.nil,.nil,.nil],[],places):=
 ⟨[],by kernel_rfl⟩
theorem aaQ {a b:Bool} (h:a=true) (c:b=true):(a && b)=true:=by rw [h,c];rfl
theorem lk:true=Tryz.prog.looks []:=by kernel_rfl
theorem k0:Rows.graphClosedRow.wf (OpenSpec.ofChange (OpenSpec.ofChange Rows.graphClosedSpec).bare)=true:=by kernel_rfl
theorem k1:laidOutB Tryz.prog=true:=by kernel_rfl
theorem k2:mapsRowed Tryz.prog=true:=by kernel_rfl
theorem k3:Tryz.f9.params.all (Tryz.prog.readableRec ·)=true:=by kernel_rfl
theorem k4:namedTie Tryz.prog Rows.graphClosedRow.named (OpenSpec.ofChange Rows.graphClosedSpec).bare.vars=true:=by kernel_rfl
theorem k5:(Rows.graphClosedRow.stops== [])=true:=by kernel_rfl
theorem k6:(Tryz.prog.stops== [])=true:=by kernel_rfl
theorem k7:(Rows.graphClosedRow.knobs== [])=true:=by kernel_rfl
theorem k8:(Tryz.prog.stopKnobs== [])=true:=by kernel_rfl
theorem k9:(Rows.graphClosedRow.inPlace==Tryz.prog.inPlace 9)=true:=by kernel_rfl
theorem k10:(Rows.graphClosedRow.unfollowed==Tryz.prog.unfollowed 9)=true:=by kernel_rfl
theorem k11:(Rows.graphClosedRow.recurses==Tryz.prog.recurses 9)=true:=by kernel_rfl
theorem k12:(Rows.graphClosedRow.named==Tryz.prog.varsNamed 9)=true:=by kernel_rfl
theorem k13:(Rows.graphClosedRow.maps==(Tryz.f9.params.toList++(OpenSpec.ofChange Rows.graphClosedSpec).bare.plain.varTypes Tryz.prog).any (Tryz.prog.mapsRec ·))=true:=by kernel_rfl
theorem k14:(Rows.graphClosedRow.ifaces==(Tryz.f9.params.toList++(OpenSpec.ofChange Rows.graphClosedSpec).bare.plain.varTypes Tryz.prog).any (Tryz.prog.ifacesRec ·))=true:=by kernel_rfl
theorem k15:(Rows.graphClosedRow.mapsOut==Tryz.prog.mapsAmong Tryz.f9.resultTypes.toList)=true:=by kernel_rfl
theorem k16:(Rows.graphClosedRow.loops==(Tryz.f9.params.toList++(OpenSpec.ofChange Rows.graphClosedSpec).bare.plain.varTypes Tryz.prog).any (Tryz.prog.loopsFrom ·))=true:=by kernel_rfl
theorem k17:(Rows.graphClosedRow.wideKeys==(Tryz.f9.params.toList++(OpenSpec.ofChange Rows.graphClosedSpec).bare.plain.varTypes Tryz.prog++Tryz.f9.resultTypes.toList).any (Tryz.prog.wideKeysFrom ·))=true:=by kernel_rfl
theorem k18:(OpenSpec.ofChange Rows.graphClosedSpec).bare.vars.all (Tryz.prog.varReadable ·)=true:=by kernel_rfl
theorem k19:Tryz.f9.resultTypes.all (fun t=>Tryz.prog.readableRec t && decide (t<Tryz.prog.types.size))=true:=by kernel_rfl
theorem k20:(Rows.graphClosedRow.ifacesOut==Tryz.f9.resultTypes.toList.any (Tryz.prog.ifacesRec ·))=true:=by kernel_rfl
theorem k21:(Rows.graphClosedRow.loopsOut==Tryz.f9.resultTypes.toList.any (Tryz.prog.loopsFrom ·))=true:=by kernel_rfl
theorem k22:(Rows.graphClosedRow.plainKeys==Tryz.prog.plainKeys)=true:=by kernel_rfl
theorem k23:Rows.graphClosedRow.shortTexts.isNone=true:=by kernel_rfl
theorem k24:Tryz.prog.stopsHeard=true:=by kernel_rfl
theorem k25:Tryz.prog.mayEnter=true:=by kernel_rfl
theorem k26:(Rows.graphClosedRow.lifted==Tryz.prog.liftsFinal)=true:=by kernel_rfl
theorem k27:(Tryz.prog.make==some Rows.graphClosedRow.make)=true:=by kernel_rfl
theorem k28:(Rows.graphClosedRow.kinds==(if Rows.graphClosedRow.domain.isEmpty then [] else Tryz.f9.params.toList.map fun t=>match Tryz.prog.underlying t with|some (.int k)=>some k|_=>none))=true:=by kernel_rfl
theorem k29:(Rows.graphClosedRow.pinned==Rows.graphClosedRow.pinnedBy)=true:=by kernel_rfl
theorem k30:(Rows.graphClosedRow.veiled==(Tryz.f9.params.toList++(OpenSpec.ofChange Rows.graphClosedSpec).bare.plain.varTypes Tryz.prog++Tryz.f9.resultTypes.toList).any (Tryz.prog.veiledRec ·))=true:=by kernel_rfl
theorem k31:Rows.graphClosedRow.veiledFits Tryz.prog Tryz.f9.params.toList (Tryz.f9.params.toList++(OpenSpec.ofChange Rows.graphClosedSpec).bare.plain.varTypes Tryz.prog++Tryz.f9.resultTypes.toList)=true:=by kernel_rfl
theorem abk:joinedFacts Tryz.prog 9 Tryz.f9 (OpenSpec.ofChange Rows.graphClosedSpec).bare Rows.graphClosedRow=true:=(aaQ (aaQ (aaQ (aaQ (aaQ (aaQ (aaQ (aaQ (aaQ (aaQ (aaQ (aaQ (aaQ (aaQ (aaQ (aaQ (aaQ (aaQ (aaQ (aaQ (aaQ (aaQ (aaQ (aaQ (aaQ (aaQ (aaQ (aaQ (aaQ (aaQ (aaQ k0 k1) k2) k3) k4) k5) k6) k7) k8) k9) k10) k11) k12) k13) k14) k15) k16) k17) k18) k19) k20) k21) k22) k23) k24) k25) k26) k27) k28) k29) k30) k31)
theorem abg (H:Type) (enc:TypeId × Value→H) (W:World) (base:Nat) (args:Array Value) (o x:List (DataW H)) (before:List MemPlace)
  (hval:∀ (j:Nat) t v,Tryz.f9.params[j]? =some t→args[j]? =some v→Value.okWide Tryz.prog W .any base t v)
  (hW:DataW.Whole enc Tryz.prog Tryz.f9.params.toList Rows.graphClosedSpec.vars false W args.toList o x before) (hL:laidMetH Tryz.prog Rows.graphClosedRow.laid W):
  Calls Tryz.prog 9 args W fun e W'=> ∃ v,e= .returned v∧Rows.graphClosedSpec.post enc Tryz.prog Tryz.f9 false true false false W args v W':=by
 have b:=hW
 obtain ⟨pp,M,a,A,rfl,E,s⟩:=hW
 have k:DataW.TrodAll enc Tryz.prog W 0 (fun _=>true) true Tryz.f9.params.toList args.toList o pp:=a
 obtain ⟨I⟩:=args
 simp only at k b hval ⊢
 rw [Tryz.params9] at k hval
 obtain ⟨q,F,Q,z,R,G,rfl,rfl,rfl,h0,a⟩:=trodAll_cons k
 obtain ⟨p,w,N,u,P,J,rfl,rfl,rfl,r,m⟩:=trodAll_cons a
 obtain ⟨n,B,O,C,L,K,rfl,rfl,rfl,D,i⟩:=trodAll_cons m
 obtain ⟨rfl,rfl,rfl⟩:=trodAll_nil i
 obtain ⟨rfl,rfl⟩:=trodVars_none A
 obtain ⟨l,g⟩:=ZO (hval 0 22 q rfl rfl) h0
 obtain ⟨d,c⟩:=abn (hval 1 43 p rfl rfl) r
 obtain ⟨f,h⟩:=abn (hval 2 43 n rfl rfl) D
 have y:aZ (fQ W) [.sl (iM l) l.length false,.sl (bL d) d.length false,.sl (bL f) f.length false] [q,p,n]:=by
  simp only [aZ,and_true]
  exact ⟨g,c,h⟩
 refine (RN (Az Uj l false d f false false) (UU hL) y).mono fun e W' ⟨he,hb⟩=> ?_
 subst he
 exact ⟨_,rfl,V5 ZM (by kernel_rfl) b rfl (tb:=4) rfl (by kernel_rfl) rfl hb⟩
theorem lifted (os:Os) (started:os.Started) (H:Type) (enc:TypeId × Value→H) (F:Stop.Interp):
  ReturnsInHanded {} Tryz.checked os 9 .any ((OpenSpec.ofChange Rows.graphClosedSpec).preRow enc Tryz.prog Tryz.f9 Rows.graphClosedRow.domain false Rows.graphClosedRow.laid) (((OpenSpec.ofChange Rows.graphClosedSpec).at F).post enc Tryz.prog Tryz.f9 false true false false):=by
 obtain ⟨places,f⟩:=abl os enc
 refine returnsInHanded_of_row (C:=Tryz.checked) (s:=OpenSpec.ofChange Rows.graphClosedSpec) own started (by kernel_rfl) Tryz.func9
  (witness_row_at (enc:=enc) (C:=Tryz.checked) false (Ui os) #[.slice none 0 0,.slice none 0 0,.slice none 0 0] rfl (by kernel_rfl) (by kernel_rfl) (by kernel_rfl)
   (OpenSpec.preRow_of_cond 8 f (by kernel_rfl) (fun k c=>by cases c) (by kernel_rfl) (abh os))) ?_
 intro W base args e g before a d _ _ _ b _ _
 exact abg H enc W base args e g before a d b
theorem abj:Tryz.prog.funcNamed Rows.graphClosedRow.func=some 9:=by kernel_rfl
theorem abm:Rows.GraphClosedSaid:=
 OpenClaim.holds_of_cond 9 Tryz.f9 rfl rfl rfl rfl rfl rfl rfl ⟨rfl,rfl,rfl,rfl,rfl⟩ rfl rfl rfl rfl rfl abj Tryz.func9 abk
  (of_decide_eq_true (by kernel_rfl)) (by unfold Func.isWrapper;first|(rw [if_pos (by decide+kernel)];kernel_rfl)|(rw [if_neg (by decide+kernel)];exact ⟨rfl,rfl⟩))
  (fun os started H enc _ F=>by rw [OpenClaim.pre_eq_preRow];exact lifted os started H enc F)
theorem plain (f:FuncId) (c:Func) (e:Tryz.pinned.checked.prog.funcNamed Rows.graphClosedRow.func=some f) (b:Tryz.pinned.checked.prog.funcs[f]? =some c):
  true=Tryz.pinned.checked.prog.looks []∧∀ (j:Nat) t,c.params[j]? =some t→Tryz.pinned.checked.prog.wantsStandIn t=false:=by
 obtain rfl:f=9:=Option.some.inj (abj.symm.trans e)|>.symm
 obtain rfl:c=Tryz.f9:=(Option.some.inj (Tryz.func9.symm.trans b)).symm
 refine ⟨lk,fun j t d=> ?_⟩
 have a:Tryz.f9.params.toList.all (fun t=> !Tryz.prog.wantsStandIn t)=true:=by kernel_rfl
 have:=List.all_eq_true.1 a t (by simpa using Array.mem_of_getElem? d)
 show Tryz.prog.wantsStandIn t=false
 simpa using this
theorem wft:Rows.graphClosedRow.wfByText (OpenSpec.ofChange Rows.graphClosedSpec)=true:=by kernel_rfl
theorem mn:Tryz.prog.mainIs=some (Rows.graphClosedCard.stood.harness.1,Rows.graphClosedCard.stood.harness.2.toList):=by kernel_rfl
theorem gby:false=Rows.graphClosedRow.goesBy Tryz.prog:=by kernel_rfl
theorem card:Rows.GraphClosedCardSaid:=
 Claim7.holds_tied_plain_at .later [] _ _ _ _ abm (fun _ h=>by cases h) wft (fun _ h=>by cases h) graphClosed_row_tie rfl ⟨rfl,rfl⟩ mn rfl plain gby
end Go.Proofs.YtokiomlellclkaaGreatDoor.closeds
