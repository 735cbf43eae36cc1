/- MonoSenses returns true for every input: both implementations of the senses answer the same. No conditions beyond the given row's. -/
import Derived.Test.YtcjindbblhcopaaGreatDoorC4
set_option linter.unusedSimpArgs false
set_option linter.unusedVariables false
set_option maxRecDepth 100000
open Go AM Go.ChangeShapes Go.WideShapes Go.ChangeAt Go.RowKit
namespace Go.Proofs.YtcjindbblhcopaaGreatDoor.senses
open Go.Proofs.Tryz
theorem aao (a:Os):laidMet Tryz.prog Rows.monoSensesRow.laid ((adK a).forCall (fun _ _=>0) ⟨#[],#[.slice none 0 0,.slice none 0 0],[]⟩).memory:=
 laidMet_of_run' 8 (by kernel_rfl) (by kernel_rfl)
theorem adn (a:Os) {H:Type} (enc:TypeId × Value→H):∃ places,DataW.whole enc Tryz.prog ((adK a).forCall (fun _ _=>0) ⟨#[],#[.slice none 0 0,.slice none 0 0],[]⟩).memory Tryz.f3.params.toList Rows.monoSensesSpec.vars false [.slice none 0 0,.slice none 0 0] 8=some ([.nil,.nil],[],places):=
 ⟨[],by kernel_rfl⟩
theorem aab (H:Type) (enc:TypeId × Value→H) (W:World) (base:Nat) (args:Array Value) (m w:List (DataW H)) (before:List MemPlace)
  (hval:∀ (j:Nat) t v,Tryz.f3.params[j]? =some t→args[j]? =some v→Value.okWide Tryz.prog W .any base t v)
  (hW:DataW.Whole enc Tryz.prog Tryz.f3.params.toList Rows.monoSensesSpec.vars false W args.toList m w before) (hL:laidMetH Tryz.prog Rows.monoSensesRow.laid W):
  Calls Tryz.prog 3 args W fun e W'=> ∃ v,e= .returned v∧Rows.monoSensesSpec.post enc Tryz.prog Tryz.f3 false true false false W args v W':=by
 have d:=hW
 obtain ⟨pp,K,b,z,rfl,E,A⟩:=hW
 have l:DataW.TrodAll enc Tryz.prog W 0 (fun _=>true) true Tryz.f3.params.toList args.toList m pp:=b
 obtain ⟨M⟩:=args
 simp only at l d hval ⊢
 rw [Tryz.params3] at l hval
 obtain ⟨v0,u,Q,D,N,q0,rfl,rfl,rfl,h0,b⟩:=trodAll_cons l
 obtain ⟨v1,o,J,B,P,O,rfl,rfl,rfl,I,i⟩:=trodAll_cons b
 obtain ⟨rfl,rfl,rfl⟩:=trodAll_nil i
 obtain ⟨rfl,rfl⟩:=trodVars_none z
 obtain ⟨L0,G,c⟩:=akY (t:=22) (e:=3) (n:=4) (ks:= [.int .i64]) (by kernel_rfl) (by kernel_rfl) (by kernel_rfl) (hval 0 22 v0 rfl rfl) h0
 obtain ⟨k,s,p⟩:=adH (fun a:Int=> [AV.int .i64 a]) (L:=L0) (fun x g=>auF (G x g))
 rw [s,p,anp] at c
 obtain ⟨L1,F,f⟩:=akY (t:=23) (e:=51) (n:=4) (ks:= [.int .i64,.int .i64,.int .i64]) (by kernel_rfl) (by kernel_rfl) (by kernel_rfl) (hval 1 23 v1 rfl rfl) I
 obtain ⟨h,r,C⟩:=adH (fun q:Int × Int × Int=> [AV.int .i64 q.1,.int .i64 q.2.1,.int .i64 q.2.2]) (L:=L1) (fun x g=>au1 (F x g))
 rw [r,C] at f
 have y:dK (pV W) [.sl (iL k) k.length false,.sl (tL h) h.length false] [v0,v1]:=by
  simp only [dK,and_true]
  exact ⟨c,f⟩
 refine (aaQ (adN k h false false) (ajv hL) y).mono fun e W' ⟨he,hb⟩=> ?_
 subst he
 exact ⟨_,rfl,akf anx (by kernel_rfl) d rfl (tb:=4) rfl (by kernel_rfl) rfl hb⟩
theorem aap (a:Os) (started:a.Started) (H:Type) (enc:TypeId × Value→H) (F:Stop.Interp):
  ReturnsInHanded {} Tryz.checked a 3 .any ((OpenSpec.ofChange Rows.monoSensesSpec).preRow enc Tryz.prog Tryz.f3 Rows.monoSensesRow.domain false Rows.monoSensesRow.laid) (((OpenSpec.ofChange Rows.monoSensesSpec).at F).post enc Tryz.prog Tryz.f3 false true false false):=by
 obtain ⟨places,e⟩:=adn a enc
 refine returnsInHanded_of_row (C:=Tryz.checked) (s:=OpenSpec.ofChange Rows.monoSensesSpec) own started (by kernel_rfl) Tryz.func3
  (witness_row_at (enc:=enc) (C:=Tryz.checked) false (adK a) #[.slice none 0 0,.slice none 0 0] rfl (by kernel_rfl) (by kernel_rfl) (by kernel_rfl)
   (OpenSpec.preRow_of_cond 8 e (by kernel_rfl) (fun k f=>by cases f) (by kernel_rfl) (aao a))) ?_
 intro W base args h g before b d _ _ _ c _ _
 exact aab H enc W base args h g before b d c
theorem adE:Rows.MonoSensesSaid:=
 OpenClaim.holds_of_cond 3 Tryz.f3 rfl rfl rfl rfl rfl rfl rfl ⟨rfl,rfl,rfl,rfl,rfl⟩ rfl rfl rfl rfl rfl (by kernel_rfl) Tryz.func3 (by kernel_rfl)
  (of_decide_eq_true (by kernel_rfl)) (by unfold Func.isWrapper;first|(rw [if_pos (by decide+kernel)];kernel_rfl)|(rw [if_neg (by decide+kernel)];exact ⟨rfl,rfl⟩))
  (fun a started H enc _ F=>by rw [OpenClaim.pre_eq_preRow];exact aap a started H enc F)
theorem abr (f:FuncId) (b:Func) (d:Tryz.pinned.checked.prog.funcNamed Rows.monoSensesRow.func=some f) (c:Tryz.pinned.checked.prog.funcs[f]? =some b):
  false=Tryz.pinned.checked.prog.looks []∧∀ (j:Nat) t,b.params[j]? =some t→Tryz.pinned.checked.prog.wantsStandIn t=false:=by
 obtain rfl:f=3:=Option.some.inj ((show Tryz.prog.funcNamed Rows.monoSensesRow.func=some 3 by kernel_rfl).symm.trans d)|>.symm
 obtain rfl:b=Tryz.f3:=(Option.some.inj (Tryz.func3.symm.trans c)).symm
 refine ⟨by kernel_rfl,fun j t e=> ?_⟩
 have a:Tryz.f3.params.toList.all (fun t=> !Tryz.prog.wantsStandIn t)=true:=by kernel_rfl
 have:=List.all_eq_true.1 a t (by simpa using Array.mem_of_getElem? e)
 show Tryz.prog.wantsStandIn t=false
 simpa using this
theorem card:Rows.MonoSensesCardSaid:=
 Claim7.holds_tied_plain_at .later [] _ _ _ _ adE (fun _ h=>by cases h) (by kernel_rfl) (fun _ h=>by cases h) monoSenses_row_tie rfl ⟨rfl,rfl⟩ (by kernel_rfl) rfl abr (by kernel_rfl)
end Go.Proofs.YtcjindbblhcopaaGreatDoor.senses
