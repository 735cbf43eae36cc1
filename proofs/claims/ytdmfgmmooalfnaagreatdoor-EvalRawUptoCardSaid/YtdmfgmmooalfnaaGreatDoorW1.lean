/- The law returns true for every input of the size that the given row tells. No conditions beyond the given row's. -/
import Derived.Test.YtdmfgmmooalfnaaGreatDoorC4
set_option linter.unusedSimpArgs false
set_option linter.unusedVariables false
set_option maxRecDepth 100000
open Go AM Go.ChangeShapes Go.WideShapes Go.ChangeAt Go.RowKit
namespace Go.Proofs.YtdmfgmmooalfnaaGreatDoor.raws
open Go.Proofs.Tryz
theorem acg (a:Os):laidMet Tryz.prog Rows.evalRawUptoRow.laid ((agq a).forCall (fun _ _=>0) ⟨#[],#[.slice none 0 0,.agg #[.slice none 0 0,.slice none 0 0]],[]⟩).memory:=
 laidMet_of_run' 8 (by kernel_rfl) (by kernel_rfl)
theorem acH (a:Os) {H:Type} (enc:TypeId × Value→H):∃ places,DataW.whole enc Tryz.prog ((agq a).forCall (fun _ _=>0) ⟨#[],#[.slice none 0 0,.agg #[.slice none 0 0,.slice none 0 0]],[]⟩).memory Tryz.f4.params.toList Rows.evalRawSpec.vars false [.slice none 0 0,.agg #[.slice none 0 0,.slice none 0 0]] 8=some ([.nil,.agg [.nil,.nil]],[],places):=
 ⟨[],by kernel_rfl⟩
theorem ab7 (H:Type) (enc:TypeId × Value→H) (W:World) (base:Nat) (args:Array Value) (c k:List (DataW H)) (before:List MemPlace)
  (hval:∀ (j:Nat) t v,Tryz.f4.params[j]? =some t→args[j]? =some v→Value.okWide Tryz.prog W .any base t v)
  (hW:DataW.Whole enc Tryz.prog Tryz.f4.params.toList Rows.evalRawSpec.vars false W args.toList c k before) (hL:laidMetH Tryz.prog Rows.evalRawUptoRow.laid W) (hcond:Rows.uptoSmall H (c++k)=true):
  Calls Tryz.prog 4 args W fun e W'=> ∃ v,e= .returned v∧Rows.evalRawSpec.post enc Tryz.prog Tryz.f4 false true false false W args v W':=by
 have b:=hW;obtain ⟨pp,I,a,A,rfl,o,l⟩:=hW;have d:DataW.TrodAll enc Tryz.prog W 0 (fun _=>true) true Tryz.f4.params.toList args.toList c pp:=a;obtain ⟨F⟩:=args;simp only at d b hval ⊢;rw [Tryz.params4] at d hval;obtain ⟨v0,q,G,u,D,q0,rfl,rfl,rfl,s,a⟩:=trodAll_cons d;obtain ⟨v1,r,C,m,J,B,rfl,rfl,rfl,y,g⟩:=trodAll_cons a;obtain ⟨rfl,rfl,rfl⟩:=trodAll_nil g;obtain ⟨rfl,rfl⟩:=trodVars_none A;obtain ⟨e,n,f⟩:=aiZ (hval 0 40 v0 rfl rfl) s;obtain ⟨E,z,h⟩:=aiY (hval 1 31 v1 rfl rfl) y;have i:=of_decide_eq_true hcond;simp only [List.cons_append,List.nil_append,List.append_nil,Rows.uptoBulkAll] at i;have p:dY (jq W) [.sl (aV e) e.length false,zG E false false] [v0,v1]:=by
  simp only [dY,and_true];exact ⟨f,h⟩
 refine (adl (alQ e E (fun x w=>by have:=n x w;exact ⟨by omega,by omega⟩) (ajZ (by omega) z)) (aib hL) p).mono fun e W' ⟨he,i⟩=> ?_
 subst he;exact ⟨_,rfl,aig alS (by kernel_rfl) b rfl (tb:=4) rfl (by kernel_rfl) rfl i⟩
theorem acu (b:Os) (started:b.Started) (H:Type) (enc:TypeId × Value→H) (F:Stop.Interp):
  ReturnsInHanded {} Tryz.checked b 4 .any ((Rows.OpenSpec.upto Rows.evalRawSpec).preRow enc Tryz.prog Tryz.f4 Rows.evalRawUptoRow.domain false Rows.evalRawUptoRow.laid) (((Rows.OpenSpec.upto Rows.evalRawSpec).at F).post enc Tryz.prog Tryz.f4 false true false false):=by
 obtain ⟨places,f⟩:=acH b enc;refine returnsInHanded_of_row (C:=Tryz.checked) (s:=Rows.OpenSpec.upto Rows.evalRawSpec) own started (by kernel_rfl) Tryz.func4
  (witness_row_at (enc:=enc) (C:=Tryz.checked) false (agq b) #[.slice none 0 0,.agg #[.slice none 0 0,.slice none 0 0]] rfl (by kernel_rfl) (by kernel_rfl) (by kernel_rfl)
   (OpenSpec.preRow_of_cond 8 f (by kernel_rfl) (fun k e=>by cases e;kernel_rfl) (by kernel_rfl) (acg b))) ?_
 intro W base args c d before a g _ hcond _ h _ _;exact ab7 H enc W base args c d before a g h (hcond _ rfl)
theorem acP:Rows.EvalRawUptoSaid:=
 OpenClaim.holds_of_cond 4 Tryz.f4 rfl rfl rfl rfl rfl rfl rfl ⟨rfl,rfl,rfl,rfl,rfl⟩ rfl rfl rfl rfl rfl (by kernel_rfl) Tryz.func4 (by kernel_rfl)
  (of_decide_eq_true (by kernel_rfl)) (by unfold Func.isWrapper;first|(rw [if_pos (by decide+kernel)];kernel_rfl)|(rw [if_neg (by decide+kernel)];exact ⟨rfl,rfl⟩))
  (fun a started H enc _ F=>by rw [OpenClaim.pre_eq_preRow];exact acu a started H enc F)
theorem acG (f:FuncId) (c:Func) (d:Tryz.pinned.checked.prog.funcNamed Rows.evalRawUptoRow.func=some f) (b:Tryz.pinned.checked.prog.funcs[f]? =some c):
  true=Tryz.pinned.checked.prog.looks []∧∀ (j:Nat) t,c.params[j]? =some t→Tryz.pinned.checked.prog.wantsStandIn t=false:=by
 obtain rfl:f=4:=Option.some.inj ((show Tryz.prog.funcNamed Rows.evalRawUptoRow.func=some 4 by kernel_rfl).symm.trans d)|>.symm
 obtain rfl:c=Tryz.f4:=(Option.some.inj (Tryz.func4.symm.trans b)).symm;refine ⟨by kernel_rfl,fun j t e=> ?_⟩;have a:Tryz.f4.params.toList.all (fun t=> !Tryz.prog.wantsStandIn t)=true:=by kernel_rfl
 have:=List.all_eq_true.1 a t (by simpa using Array.mem_of_getElem? e);show Tryz.prog.wantsStandIn t=false;simpa using this
theorem card:Rows.EvalRawUptoCardSaid:=
 Claim7.holds_tied_plain_at .later [] _ _ _ _ acP (fun _ h=>by cases h) (by kernel_rfl) (fun _ h=>by cases h) evalRawUpto_row_tie rfl ⟨rfl,rfl⟩ (by kernel_rfl) rfl acG (by kernel_rfl)
end Go.Proofs.YtdmfgmmooalfnaaGreatDoor.raws
