/- The law returns true for every input of the size that the given row tells. No conditions beyond the given row's. -/
import Derived.Test.YtdmfgmmooalfnaaGreatDoorC4
set_option linter.unusedSimpArgs false
set_option linter.unusedVariables false
set_option maxRecDepth 100000
open Go AM Go.ChangeShapes Go.WideShapes Go.ChangeAt Go.RowKit
namespace Go.Proofs.YtdmfgmmooalfnaaGreatDoor.ops
open Go.Proofs.Tryz
theorem abI (a:Os):laidMet Tryz.prog Rows.evalOpsUptoRow.laid ((afG a).forCall (fun _ _=>0) ⟨#[],#[.agg #[.int .i64 0,.bool false,.string ⟨#[]⟩,.string ⟨#[]⟩,.string ⟨#[]⟩],.slice none 0 0,.agg #[.slice none 0 0,.slice none 0 0]],[]⟩).memory:=
 laidMet_of_run' 8 (by kernel_rfl) (by kernel_rfl)
theorem ab_ (a:Os) {H:Type} (enc:TypeId × Value→H):∃ places,DataW.whole enc Tryz.prog ((afG a).forCall (fun _ _=>0) ⟨#[],#[.agg #[.int .i64 0,.bool false,.string ⟨#[]⟩,.string ⟨#[]⟩,.string ⟨#[]⟩],.slice none 0 0,.agg #[.slice none 0 0,.slice none 0 0]],[]⟩).memory Tryz.f3.params.toList Rows.evalOpsSpec.vars false [.agg #[.int .i64 0,.bool false,.string ⟨#[]⟩,.string ⟨#[]⟩,.string ⟨#[]⟩],.slice none 0 0,.agg #[.slice none 0 0,.slice none 0 0]] 8=some ([.agg [.lit (.int .i64 0),.agg [.lit (.bool false),.lit (.string []),.lit (.string [])],.lit (.string [])],.nil,.agg [.nil,.nil]],[],places):=
 ⟨[],by kernel_rfl⟩
theorem aby (H:Type) (enc:TypeId × Value→H) (W:World) (base:Nat) (args:Array Value) (g m:List (DataW H)) (before:List MemPlace)
  (hval:∀ (j:Nat) t v,Tryz.f3.params[j]? =some t→args[j]? =some v→Value.okWide Tryz.prog W .any base t v)
  (hW:DataW.Whole enc Tryz.prog Tryz.f3.params.toList Rows.evalOpsSpec.vars false W args.toList g m before) (hL:laidMetH Tryz.prog Rows.evalOpsUptoRow.laid W) (hcond:Rows.uptoSmall H (g++m)=true):
  Calls Tryz.prog 3 args W fun e W'=> ∃ v,e= .returned v∧Rows.evalOpsSpec.post enc Tryz.prog Tryz.f3 false true false false W args v W':=by
 have b:=hW;obtain ⟨pp,U,a,J,rfl,C,w⟩:=hW;have k:DataW.TrodAll enc Tryz.prog W 0 (fun _=>true) true Tryz.f3.params.toList args.toList g pp:=a;obtain ⟨L⟩:=args;simp only at k b hval ⊢;rw [Tryz.params3] at k hval;obtain ⟨v0,s,V,r,K,q0,rfl,rfl,rfl,D,a⟩:=trodAll_cons k;obtain ⟨v1,F,P,G,M,N,rfl,rfl,rfl,B,d⟩:=trodAll_cons a;obtain ⟨n,p,O,u,R,T,rfl,rfl,rfl,q,l⟩:=trodAll_cons d;obtain ⟨rfl,rfl,rfl⟩:=trodAll_nil l;obtain ⟨rfl,rfl⟩:=trodVars_none J;obtain ⟨y,Q,S,i⟩:=ak_ (hval 0 26 v0 rfl rfl) D;obtain ⟨ar,z,h⟩:=aij (hval 1 27 v1 rfl rfl) B;obtain ⟨E,A,f⟩:=aii (hval 2 31 n rfl rfl) q;have c:=of_decide_eq_true hcond;simp only [List.cons_append,List.nil_append,List.append_nil,Rows.uptoBulkAll] at c;have o:dO (iW W) [.agg (rU y),.sl (lg ar) ar.length false,Il E false false] [v0,v1,n]:=by
  simp only [dO,and_true];exact ⟨i,h,f⟩
 refine (acP (ak3 y ar E ⟨by omega,by omega⟩ (fun x I=>by have:=z x I;omega) (ajg (by omega) A)) (ahu hL) o).mono fun e W' ⟨he,c⟩=> ?_
 subst he;exact ⟨_,rfl,ahz ak7 (by kernel_rfl) b rfl (tb:=4) rfl (by kernel_rfl) rfl c⟩
theorem abV (a:Os) (started:a.Started) (H:Type) (enc:TypeId × Value→H) (F:Stop.Interp):
  ReturnsInHanded {} Tryz.checked a 3 .any ((Rows.OpenSpec.upto Rows.evalOpsSpec).preRow enc Tryz.prog Tryz.f3 Rows.evalOpsUptoRow.domain false Rows.evalOpsUptoRow.laid) (((Rows.OpenSpec.upto Rows.evalOpsSpec).at F).post enc Tryz.prog Tryz.f3 false true false false):=by
 obtain ⟨places,f⟩:=ab_ a enc;refine returnsInHanded_of_row (C:=Tryz.checked) (s:=Rows.OpenSpec.upto Rows.evalOpsSpec) own started (by kernel_rfl) Tryz.func3
  (witness_row_at (enc:=enc) (C:=Tryz.checked) false (afG a) #[.agg #[.int .i64 0,.bool false,.string ⟨#[]⟩,.string ⟨#[]⟩,.string ⟨#[]⟩],.slice none 0 0,.agg #[.slice none 0 0,.slice none 0 0]] rfl (by kernel_rfl) (by kernel_rfl) (by kernel_rfl)
   (OpenSpec.preRow_of_cond 8 f (by kernel_rfl) (fun k g=>by cases g;kernel_rfl) (by kernel_rfl) (abI a))) ?_
 intro W base args c d before b e _ hcond _ h _ _;exact aby H enc W base args c d before b e h (hcond _ rfl)
theorem aci:Rows.EvalOpsUptoSaid:=
 OpenClaim.holds_of_cond 3 Tryz.f3 rfl rfl rfl rfl rfl rfl rfl ⟨rfl,rfl,rfl,rfl,rfl⟩ rfl rfl rfl rfl rfl (by kernel_rfl) Tryz.func3 (by kernel_rfl)
  (of_decide_eq_true (by kernel_rfl)) (by unfold Func.isWrapper;first|(rw [if_pos (by decide+kernel)];kernel_rfl)|(rw [if_neg (by decide+kernel)];exact ⟨rfl,rfl⟩))
  (fun a started H enc _ F=>by rw [OpenClaim.pre_eq_preRow];exact abV a started H enc F)
theorem ab9 (f:FuncId) (b:Func) (e:Tryz.pinned.checked.prog.funcNamed Rows.evalOpsUptoRow.func=some f) (c:Tryz.pinned.checked.prog.funcs[f]? =some b):
  true=Tryz.pinned.checked.prog.looks []∧∀ (j:Nat) t,b.params[j]? =some t→Tryz.pinned.checked.prog.wantsStandIn t=false:=by
 obtain rfl:f=3:=Option.some.inj ((show Tryz.prog.funcNamed Rows.evalOpsUptoRow.func=some 3 by kernel_rfl).symm.trans e)|>.symm
 obtain rfl:b=Tryz.f3:=(Option.some.inj (Tryz.func3.symm.trans c)).symm;refine ⟨by kernel_rfl,fun j t d=> ?_⟩;have a:Tryz.f3.params.toList.all (fun t=> !Tryz.prog.wantsStandIn t)=true:=by kernel_rfl
 have:=List.all_eq_true.1 a t (by simpa using Array.mem_of_getElem? d);show Tryz.prog.wantsStandIn t=false;simpa using this
theorem card:Rows.EvalOpsUptoCardSaid:=
 Claim7.holds_tied_plain_at .later [] _ _ _ _ aci (fun _ h=>by cases h) (by kernel_rfl) (fun _ h=>by cases h) evalOpsUpto_row_tie rfl ⟨rfl,rfl⟩ (by kernel_rfl) rfl ab9 (by kernel_rfl)
end Go.Proofs.YtdmfgmmooalfnaaGreatDoor.ops
