/- The law GraphGroups returns true for every input: each cell of a circular step reaches all others, and itself through others; a cell that is in none is reached by none of those that it uses. No conditions beyond the given row's. -/
import Derived.Test.YtokiomlellclkaaGreatDoorC3
import Derived.Test.YtokiomlellclkaaGreatDoorC4
set_option linter.unusedSimpArgs false
set_option linter.unusedVariables false
set_option maxRecDepth 100000
open Go AM Go.ChangeShapes Go.WideShapes Go.ChangeAt Go.RowKit
namespace Go.Proofs.YtokiomlellclkaaGreatDoor.groups
open Go.Proofs.Tryz
theorem aau (os:Os):laidMet Tryz.prog Rows.graphGroupsRow.laid ((ab1 os).forCall (fun _ _=>0) ⟨#[],#[.slice none 0 0,.bool false],[]⟩).memory:=
 laidMet_of_run' 8 (by kernel_rfl) (by kernel_rfl)
theorem aaH (os:Os) {H:Type} (enc:TypeId × Value→H):∃ places,DataW.whole enc Tryz.prog ((ab1 os).forCall (fun _ _=>0) ⟨#[],#[.slice none 0 0,.bool false],[]⟩).memory Tryz.f8.params.toList Rows.graphGroupsSpec.vars false [.slice none 0 0,.bool false] 8=some ([.nil,.lit (.bool false)],[],places):=
 ⟨[],by kernel_rfl⟩
theorem aam {a b:Bool} (h:a=true) (c:b=true):(a && b)=true:=by rw [h,c];rfl
theorem lk:true=Tryz.prog.looks []:=by kernel_rfl
theorem k0:Rows.graphGroupsRow.wf (OpenSpec.ofChange (OpenSpec.ofChange Rows.graphGroupsSpec).bare)=true:=by kernel_rfl
theorem k1:laidOutB Tryz.prog=true:=by kernel_rfl
theorem k2:mapsRowed Tryz.prog=true:=by kernel_rfl
theorem k3:Tryz.f8.params.all (Tryz.prog.readableRec ·)=true:=by kernel_rfl
theorem k4:namedTie Tryz.prog Rows.graphGroupsRow.named (OpenSpec.ofChange Rows.graphGroupsSpec).bare.vars=true:=by kernel_rfl
theorem k5:(Rows.graphGroupsRow.stops== [])=true:=by kernel_rfl
theorem k6:(Tryz.prog.stops== [])=true:=by kernel_rfl
theorem k7:(Rows.graphGroupsRow.knobs== [])=true:=by kernel_rfl
theorem k8:(Tryz.prog.stopKnobs== [])=true:=by kernel_rfl
theorem k9:(Rows.graphGroupsRow.inPlace==Tryz.prog.inPlace 8)=true:=by kernel_rfl
theorem k10:(Rows.graphGroupsRow.unfollowed==Tryz.prog.unfollowed 8)=true:=by kernel_rfl
theorem k11:(Rows.graphGroupsRow.recurses==Tryz.prog.recurses 8)=true:=by kernel_rfl
theorem k12:(Rows.graphGroupsRow.named==Tryz.prog.varsNamed 8)=true:=by kernel_rfl
theorem k13:(Rows.graphGroupsRow.maps==(Tryz.f8.params.toList++(OpenSpec.ofChange Rows.graphGroupsSpec).bare.plain.varTypes Tryz.prog).any (Tryz.prog.mapsRec ·))=true:=by kernel_rfl
theorem k14:(Rows.graphGroupsRow.ifaces==(Tryz.f8.params.toList++(OpenSpec.ofChange Rows.graphGroupsSpec).bare.plain.varTypes Tryz.prog).any (Tryz.prog.ifacesRec ·))=true:=by kernel_rfl
theorem k15:(Rows.graphGroupsRow.mapsOut==Tryz.prog.mapsAmong Tryz.f8.resultTypes.toList)=true:=by kernel_rfl
theorem k16:(Rows.graphGroupsRow.loops==(Tryz.f8.params.toList++(OpenSpec.ofChange Rows.graphGroupsSpec).bare.plain.varTypes Tryz.prog).any (Tryz.prog.loopsFrom ·))=true:=by kernel_rfl
theorem k17:(Rows.graphGroupsRow.wideKeys==(Tryz.f8.params.toList++(OpenSpec.ofChange Rows.graphGroupsSpec).bare.plain.varTypes Tryz.prog++Tryz.f8.resultTypes.toList).any (Tryz.prog.wideKeysFrom ·))=true:=by kernel_rfl
theorem k18:(OpenSpec.ofChange Rows.graphGroupsSpec).bare.vars.all (Tryz.prog.varReadable ·)=true:=by kernel_rfl
theorem k19:Tryz.f8.resultTypes.all (fun t=>Tryz.prog.readableRec t && decide (t<Tryz.prog.types.size))=true:=by kernel_rfl
theorem k20:(Rows.graphGroupsRow.ifacesOut==Tryz.f8.resultTypes.toList.any (Tryz.prog.ifacesRec ·))=true:=by kernel_rfl
theorem k21:(Rows.graphGroupsRow.loopsOut==Tryz.f8.resultTypes.toList.any (Tryz.prog.loopsFrom ·))=true:=by kernel_rfl
theorem k22:(Rows.graphGroupsRow.plainKeys==Tryz.prog.plainKeys)=true:=by kernel_rfl
theorem k23:Rows.graphGroupsRow.shortTexts.isNone=true:=by kernel_rfl
theorem k24:Tryz.prog.stopsHeard=true:=by kernel_rfl
theorem k25:Tryz.prog.mayEnter=true:=by kernel_rfl
theorem k26:(Rows.graphGroupsRow.lifted==Tryz.prog.liftsFinal)=true:=by kernel_rfl
theorem k27:(Tryz.prog.make==some Rows.graphGroupsRow.make)=true:=by kernel_rfl
theorem k28:(Rows.graphGroupsRow.kinds==(if Rows.graphGroupsRow.domain.isEmpty then [] else Tryz.f8.params.toList.map fun t=>match Tryz.prog.underlying t with|some (.int k)=>some k|_=>none))=true:=by kernel_rfl
theorem k29:(Rows.graphGroupsRow.pinned==Rows.graphGroupsRow.pinnedBy)=true:=by kernel_rfl
theorem k30:(Rows.graphGroupsRow.veiled==(Tryz.f8.params.toList++(OpenSpec.ofChange Rows.graphGroupsSpec).bare.plain.varTypes Tryz.prog++Tryz.f8.resultTypes.toList).any (Tryz.prog.veiledRec ·))=true:=by kernel_rfl
theorem k31:Rows.graphGroupsRow.veiledFits Tryz.prog Tryz.f8.params.toList (Tryz.f8.params.toList++(OpenSpec.ofChange Rows.graphGroupsSpec).bare.plain.varTypes Tryz.prog++Tryz.f8.resultTypes.toList)=true:=by kernel_rfl
theorem aaF:joinedFacts Tryz.prog 8 Tryz.f8 (OpenSpec.ofChange Rows.graphGroupsSpec).bare Rows.graphGroupsRow=true:=(aam (aam (aam (aam (aam (aam (aam (aam (aam (aam (aam (aam (aam (aam (aam (aam (aam (aam (aam (aam (aam (aam (aam (aam (aam (aam (aam (aam (aam (aam (aam k0 k1) k2) k3) k4) k5) k6) k7) k8) k9) k10) k11) k12) k13) k14) k15) k16) k17) k18) k19) k20) k21) k22) k23) k24) k25) k26) k27) k28) k29) k30) k31)
theorem aat (H:Type) (enc:TypeId × Value→H) (W:World) (base:Nat) (args:Array Value) (i p:List (DataW H)) (before:List MemPlace)
  (hval:∀ (j:Nat) t v,Tryz.f8.params[j]? =some t→args[j]? =some v→Value.okWide Tryz.prog W .any base t v)
  (hW:DataW.Whole enc Tryz.prog Tryz.f8.params.toList Rows.graphGroupsSpec.vars false W args.toList i p before) (hL:laidMetH Tryz.prog Rows.graphGroupsRow.laid W):
  Calls Tryz.prog 8 args W fun e W'=> ∃ v,e= .returned v∧Rows.graphGroupsSpec.post enc Tryz.prog Tryz.f8 false true false false W args v W':=by
 have c:=hW
 obtain ⟨pp,x,a,u,rfl,o,n⟩:=hW
 have h:DataW.TrodAll enc Tryz.prog W 0 (fun _=>true) true Tryz.f8.params.toList args.toList i pp:=a
 obtain ⟨C⟩:=args
 simp only at h c hval ⊢
 rw [Tryz.params8] at h hval
 obtain ⟨v0,w,A,m,F,E,rfl,rfl,rfl,h0,a⟩:=trodAll_cons h
 obtain ⟨k,q,B,s,y,z,rfl,rfl,rfl,D,d⟩:=trodAll_cons a
 obtain ⟨rfl,rfl,rfl⟩:=trodAll_nil d
 obtain ⟨rfl,rfl⟩:=trodVars_none u
 obtain ⟨l,f⟩:=ahP (hval 0 22 v0 rfl rfl) h0
 obtain ⟨b,g⟩:=ab5 (hval 1 4 k rfl rfl)
 have r:a_ (iF W) [.sl (kW l) l.length false,.bool b] [v0,k]:=by
  simp only [a_,and_true]
  exact ⟨f,g⟩
 refine (aad (aaz ab7 l false b) (acZ hL) r).mono fun e W' ⟨he,hb⟩=> ?_
 subst he
 exact ⟨_,rfl,ad7 ahK (by kernel_rfl) c rfl (tb:=4) rfl (by kernel_rfl) rfl hb⟩
theorem lifted (os:Os) (started:os.Started) (H:Type) (enc:TypeId × Value→H) (F:Stop.Interp):
  ReturnsInHanded {} Tryz.checked os 8 .any ((OpenSpec.ofChange Rows.graphGroupsSpec).preRow enc Tryz.prog Tryz.f8 Rows.graphGroupsRow.domain false Rows.graphGroupsRow.laid) (((OpenSpec.ofChange Rows.graphGroupsSpec).at F).post enc Tryz.prog Tryz.f8 false true false false):=by
 obtain ⟨places,f⟩:=aaH os enc
 refine returnsInHanded_of_row (C:=Tryz.checked) (s:=OpenSpec.ofChange Rows.graphGroupsSpec) own started (by kernel_rfl) Tryz.func8
  (witness_row_at (enc:=enc) (C:=Tryz.checked) false (ab1 os) #[.slice none 0 0,.bool false] rfl (by kernel_rfl) (by kernel_rfl) (by kernel_rfl)
   (OpenSpec.preRow_of_cond 8 f (by kernel_rfl) (fun k d=>by cases d) (by kernel_rfl) (aau os))) ?_
 intro W base args e b before a c _ _ _ g _ _
 exact aat H enc W base args e b before a c g
theorem aav:Tryz.prog.funcNamed Rows.graphGroupsRow.func=some 8:=by kernel_rfl
theorem aaL:Rows.GraphGroupsSaid:=
 OpenClaim.holds_of_cond 8 Tryz.f8 rfl rfl rfl rfl rfl rfl rfl ⟨rfl,rfl,rfl,rfl,rfl⟩ rfl rfl rfl rfl rfl aav Tryz.func8 aaF
  (of_decide_eq_true (by kernel_rfl)) (by unfold Func.isWrapper;first|(rw [if_pos (by decide+kernel)];kernel_rfl)|(rw [if_neg (by decide+kernel)];exact ⟨rfl,rfl⟩))
  (fun os started H enc _ F=>by rw [OpenClaim.pre_eq_preRow];exact lifted os started H enc F)
theorem plain (f:FuncId) (b:Func) (d:Tryz.pinned.checked.prog.funcNamed Rows.graphGroupsRow.func=some f) (c:Tryz.pinned.checked.prog.funcs[f]? =some b):
  true=Tryz.pinned.checked.prog.looks []∧∀ (j:Nat) t,b.params[j]? =some t→Tryz.pinned.checked.prog.wantsStandIn t=false:=by
 obtain rfl:f=8:=Option.some.inj (aav.symm.trans d)|>.symm
 obtain rfl:b=Tryz.f8:=(Option.some.inj (Tryz.func8.symm.trans c)).symm
 refine ⟨lk,fun j t e=> ?_⟩
 have a:Tryz.f8.params.toList.all (fun t=> !Tryz.prog.wantsStandIn t)=true:=by kernel_rfl
 have:=List.all_eq_true.1 a t (by simpa using Array.mem_of_getElem? e)
 show Tryz.prog.wantsStandIn t=false
 simpa using this
theorem wft:Rows.graphGroupsRow.wfByText (OpenSpec.ofChange Rows.graphGroupsSpec)=true:=by kernel_rfl
theorem mn:Tryz.prog.mainIs=some (Rows.graphGroupsCard.stood.harness.1,Rows.graphGroupsCard.stood.harness.2.toList):=by kernel_rfl
theorem gby:false=Rows.graphGroupsRow.goesBy Tryz.prog:=by kernel_rfl
theorem card:Rows.GraphGroupsCardSaid:=
 Claim7.holds_tied_plain_at .later [] _ _ _ _ aaL (fun _ h=>by cases h) wft (fun _ h=>by cases h) graphGroups_row_tie rfl ⟨rfl,rfl⟩ mn rfl plain gby
end Go.Proofs.YtokiomlellclkaaGreatDoor.groups
