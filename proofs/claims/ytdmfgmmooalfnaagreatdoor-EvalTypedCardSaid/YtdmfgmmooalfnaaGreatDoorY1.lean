/- The law EvalTyped returns true for every input. No conditions beyond the given row's. -/
import Derived.Test.YtdmfgmmooalfnaaGreatDoorC4
set_option linter.unusedSimpArgs false
set_option linter.unusedVariables false
set_option maxRecDepth 100000
open Go AM Go.ChangeShapes Go.WideShapes Go.ChangeAt Go.RowKit
namespace Go.Proofs.YtdmfgmmooalfnaaGreatDoor.typed
open Go.Proofs.Tryz
theorem aai (a:Os):laidMet Tryz.prog Rows.evalTypedRow.laid ((ahJ a).forCall (fun _ _=>0) ⟨#[],#[.agg #[.slice none 0 0,.slice none 0 0],.int .u8 0],[]⟩).memory:=
 laidMet_of_run' 8 (by kernel_rfl) (by kernel_rfl)
theorem abl (a:Os) {H:Type} (enc:TypeId × Value→H):∃ places,DataW.whole enc Tryz.prog ((ahJ a).forCall (fun _ _=>0) ⟨#[],#[.agg #[.slice none 0 0,.slice none 0 0],.int .u8 0],[]⟩).memory Tryz.f12.params.toList Rows.evalTypedSpec.vars false [.agg #[.slice none 0 0,.slice none 0 0],.int .u8 0] 8=some ([.agg [.nil,.nil],.lit (.int .u8 0)],[],places):=
 ⟨[],by kernel_rfl⟩
theorem aah (H:Type) (enc:TypeId × Value→H) (W:World) (base:Nat) (args:Array Value) (m z:List (DataW H)) (before:List MemPlace)
  (hval:∀ (j:Nat) t v,Tryz.f12.params[j]? =some t→args[j]? =some v→Value.okWide Tryz.prog W .any base t v)
  (hW:DataW.Whole enc Tryz.prog Tryz.f12.params.toList Rows.evalTypedSpec.vars false W args.toList m z before) (hL:laidMetH Tryz.prog Rows.evalTypedRow.laid W):
  Calls Tryz.prog 12 args W fun e W'=> ∃ v,e= .returned v∧Rows.evalTypedSpec.post enc Tryz.prog Tryz.f12 false true false false W args v W':=by
 have b:=hW;obtain ⟨pp,F,a,q,rfl,o,p⟩:=hW;have c:DataW.TrodAll enc Tryz.prog W 0 (fun _=>true) true Tryz.f12.params.toList args.toList m pp:=a;obtain ⟨I⟩:=args;simp only at c b hval ⊢;rw [Tryz.params12] at c hval;obtain ⟨v0,u,C,r,D,q0,rfl,rfl,rfl,s,a⟩:=trodAll_cons c;obtain ⟨v1,n,G,A,E,J,rfl,rfl,rfl,x,h⟩:=trodAll_cons a;obtain ⟨rfl,rfl,rfl⟩:=trodAll_nil h;obtain ⟨rfl,rfl⟩:=trodVars_none q;obtain ⟨l,i,f,g,d⟩:=am7 (t:=46) (by kernel_rfl) (by kernel_rfl) (by kernel_rfl) (hval 0 46 v0 rfl rfl) s;obtain ⟨w,rfl,_,_,B⟩:=open_int (k:= .u8) (by kernel_rfl) (hval 1 5 v1 rfl rfl) x;have y:eG (mf W) [a2A l i,.int .u8 w] [v0,.int .u8 w]:=by
  simp only [eG,and_true];exact ⟨d,by simp only [PR]⟩
 refine (aeN (ahH l i w f g) (aj9 hL) y).mono fun e W' ⟨he,hb⟩=> ?_
 subst he;exact ⟨_,rfl,akj am3 (by kernel_rfl) b rfl (tb:=4) rfl (by kernel_rfl) rfl hb⟩
theorem aaz (a:Os) (started:a.Started) (H:Type) (enc:TypeId × Value→H) (F:Stop.Interp):
  ReturnsInHanded {} Tryz.checked a 12 .any ((OpenSpec.ofChange Rows.evalTypedSpec).preRow enc Tryz.prog Tryz.f12 Rows.evalTypedRow.domain false Rows.evalTypedRow.laid) (((OpenSpec.ofChange Rows.evalTypedSpec).at F).post enc Tryz.prog Tryz.f12 false true false false):=by
 obtain ⟨places,f⟩:=abl a enc;refine returnsInHanded_of_row (C:=Tryz.checked) (s:=OpenSpec.ofChange Rows.evalTypedSpec) own started (by kernel_rfl) Tryz.func12
  (witness_row_at (enc:=enc) (C:=Tryz.checked) false (ahJ a) #[.agg #[.slice none 0 0,.slice none 0 0],.int .u8 0] rfl (by kernel_rfl) (by kernel_rfl) (by kernel_rfl)
   (OpenSpec.preRow_of_cond 8 f (by kernel_rfl) (fun k g=>by cases g) (by kernel_rfl) (aai a))) ?_
 intro W base args h d before b e _ _ _ c _ _;exact aah H enc W base args h d before b e c
theorem abt:Rows.EvalTypedSaid:=
 OpenClaim.holds_of_cond 12 Tryz.f12 rfl rfl rfl rfl rfl rfl rfl ⟨rfl,rfl,rfl,rfl,rfl⟩ rfl rfl rfl rfl rfl (by kernel_rfl) Tryz.func12 (by kernel_rfl)
  (of_decide_eq_true (by kernel_rfl)) (by unfold Func.isWrapper;first|(rw [if_pos (by decide+kernel)];kernel_rfl)|(rw [if_neg (by decide+kernel)];exact ⟨rfl,rfl⟩))
  (fun a started H enc _ F=>by rw [OpenClaim.pre_eq_preRow];exact aaz a started H enc F)
theorem abk (f:FuncId) (c:Func) (d:Tryz.pinned.checked.prog.funcNamed Rows.evalTypedRow.func=some f) (b:Tryz.pinned.checked.prog.funcs[f]? =some c):
  true=Tryz.pinned.checked.prog.looks []∧∀ (j:Nat) t,c.params[j]? =some t→Tryz.pinned.checked.prog.wantsStandIn t=false:=by
 obtain rfl:f=12:=Option.some.inj ((show Tryz.prog.funcNamed Rows.evalTypedRow.func=some 12 by kernel_rfl).symm.trans d)|>.symm
 obtain rfl:c=Tryz.f12:=(Option.some.inj (Tryz.func12.symm.trans b)).symm;refine ⟨by kernel_rfl,fun j t e=> ?_⟩;have a:Tryz.f12.params.toList.all (fun t=> !Tryz.prog.wantsStandIn t)=true:=by kernel_rfl
 have:=List.all_eq_true.1 a t (by simpa using Array.mem_of_getElem? e);show Tryz.prog.wantsStandIn t=false;simpa using this
theorem card:Rows.EvalTypedCardSaid:=
 Claim7.holds_tied_plain_at .later [] _ _ _ _ abt (fun _ h=>by cases h) (by kernel_rfl) (fun _ h=>by cases h) evalTyped_row_tie rfl ⟨rfl,rfl⟩ (by kernel_rfl) rfl abk (by kernel_rfl)
end Go.Proofs.YtdmfgmmooalfnaaGreatDoor.typed
