/- The law EvalTraces returns true for every input. No conditions beyond the given row's. -/
import Derived.Test.YtdmfgmmooalfnaaGreatDoorC5
set_option linter.unusedSimpArgs false
set_option linter.unusedVariables false
set_option maxRecDepth 100000
open Go AM Go.ChangeShapes Go.WideShapes Go.ChangeAt Go.RowKit
namespace Go.Proofs.YtdmfgmmooalfnaaGreatDoor.traces
open Go.Proofs.Tryz
theorem aaf (a:Os):laidMet Tryz.prog Rows.evalTracesRow.laid ((ajd a).forCall (λ_ _=>0) ⟨#[],#[.agg #[.slice none 0 0,.slice none 0 0],.int .u8 0,.agg #[.int .u8 0,.int .u8 0]],[]⟩).memory:=
 laidMet_of_run' 8 (by kernel_rfl) (by kernel_rfl)
theorem aai (a:Os) {H:Type} (enc:TypeId × Value->H):∃ places,DataW.whole enc Tryz.prog ((ajd a).forCall (λ_ _=>0) ⟨#[],#[.agg #[.slice none 0 0,.slice none 0 0],.int .u8 0,.agg #[.int .u8 0,.int .u8 0]],[]⟩).memory Tryz.f5.params.toList Rows.evalTracesSpec.vars false [.agg #[.slice none 0 0,.slice none 0 0],.int .u8 0,.agg #[.int .u8 0,.int .u8 0]] 8=some ([.agg [.nil,.nil],.lit (.int .u8 0),.agg [.lit (.int .u8 0),.lit (.int .u8 0)]],[],places):=
 ⟨[],by kernel_rfl⟩
theorem aae (H:Type) (enc:TypeId × Value->H) (W:World) (base:Nat) (args:Array Value) (q A:List (DataW H)) (before:List MemPlace)
  (hval:∀ (j:Nat) t v,Tryz.f5.params[j]? =some t->args[j]? =some v->Value.okWide Tryz.prog W .any base t v)
  (hW:DataW.Whole enc Tryz.prog Tryz.f5.params.toList Rows.evalTracesSpec.vars false W args.toList q A before) (hL:laidMetH Tryz.prog Rows.evalTracesRow.laid W):
  Calls Tryz.prog 5 args W λe W'=> ∃ v,e= .returned v/\Rows.evalTracesSpec.post enc Tryz.prog Tryz.f5 false true false false W args v W':=by
 have c:=hW;obtain ⟨pp,O,a,x,rfl,B,z⟩:=hW;have d:DataW.TrodAll enc Tryz.prog W 0 (λ_=>true) true Tryz.f5.params.toList args.toList q pp:=a;obtain ⟨Q⟩:=args;simp only at d c hval ⊢;rw [Tryz.params5] at d hval;obtain ⟨v0,K,P,G,L,q0,rfl,rfl,rfl,s,a⟩:=trodAll_cons d;obtain ⟨v1,D,N,F,R,b,rfl,rfl,rfl,y,i⟩:=trodAll_cons a;obtain ⟨I,C,T,E,S,M,rfl,rfl,rfl,r,g⟩:=trodAll_cons i;obtain ⟨rfl,rfl,rfl⟩:=trodAll_nil g;obtain ⟨rfl,rfl⟩:=trodVars_none x;obtain ⟨o,p,l,h,f⟩:=ao4 (t:=46) (by kernel_rfl) (by kernel_rfl) (by kernel_rfl) (hval 0 46 v0 rfl rfl) s;obtain ⟨w,rfl,_,_,u⟩:=open_int (k:= .u8) (by kernel_rfl) (hval 1 5 v1 rfl rfl) y;obtain ⟨q0,b,rfl,m,n⟩:=ao5 (hval 2 47 I rfl rfl) r;have J:eY (mW W) [a2A o p,.int .u8 w,.agg [.int .u8 q0,.int .u8 b]] [v0,.int .u8 w,.agg #[.int .u8 q0,.int .u8 b]]:=by
  simp only [eY,and_true];refine ⟨f,by simp only [PR], ?_⟩;simp only [PR];exact ⟨[.int .u8 q0,.int .u8 b],rfl,by simp [eY,PR]⟩
 refine (afS (agI o p w q0 b l h m n) (ak7 hL) J).mono λe W' ⟨he,hb⟩=> ?_
 subst he;exact ⟨_,rfl,alh ao0 (by kernel_rfl) c rfl (tb:=4) rfl (by kernel_rfl) rfl hb⟩
theorem aag (a:Os) (started:a.Started) (H:Type) (enc:TypeId × Value->H) (F:Stop.Interp):
  ReturnsInHanded {} Tryz.checked a 5 .any ((OpenSpec.ofChange Rows.evalTracesSpec).preRow enc Tryz.prog Tryz.f5 Rows.evalTracesRow.domain false Rows.evalTracesRow.laid) (((OpenSpec.ofChange Rows.evalTracesSpec).at F).post enc Tryz.prog Tryz.f5 false true false false):=by
 obtain ⟨places,e⟩:=aai a enc;refine returnsInHanded_of_row (C:=Tryz.checked) (s:=OpenSpec.ofChange Rows.evalTracesSpec) own started (by kernel_rfl) Tryz.func5
  (witness_row_at (enc:=enc) (C:=Tryz.checked) false (ajd a) #[.agg #[.slice none 0 0,.slice none 0 0],.int .u8 0,.agg #[.int .u8 0,.int .u8 0]] rfl (by kernel_rfl) (by kernel_rfl) (by kernel_rfl)
   (OpenSpec.preRow_of_cond 8 e (by kernel_rfl) (λk h=>by cases h) (by kernel_rfl) (aaf a))) ?_
 intro W base args g d before b f _ _ _ c _ _;exact aae H enc W base args g d before b f c
theorem aaj:Rows.EvalTracesSaid:=
 OpenClaim.holds_of_cond 5 Tryz.f5 rfl rfl rfl rfl rfl rfl rfl ⟨rfl,rfl,rfl,rfl,rfl⟩ rfl rfl rfl rfl rfl (by kernel_rfl) Tryz.func5 (by kernel_rfl)
  (of_decide_eq_true (by kernel_rfl)) (by unfold Func.isWrapper;first|(rw [if_pos (by decide+kernel)];kernel_rfl)|(rw [if_neg (by decide+kernel)];exact ⟨rfl,rfl⟩))
  (λa started H enc _ F=>by rw [OpenClaim.pre_eq_preRow];exact aag a started H enc F)
theorem aah (f:FuncId) (c:Func) (d:Tryz.pinned.checked.prog.funcNamed Rows.evalTracesRow.func=some f) (b:Tryz.pinned.checked.prog.funcs[f]? =some c):
  true=Tryz.pinned.checked.prog.looks []/\∀ (j:Nat) t,c.params[j]? =some t->Tryz.pinned.checked.prog.wantsStandIn t=false:=by
 obtain rfl:f=5:=Option.some.inj ((show Tryz.prog.funcNamed Rows.evalTracesRow.func=some 5 by kernel_rfl).symm.trans d)|>.symm
 obtain rfl:c=Tryz.f5:=(Option.some.inj (Tryz.func5.symm.trans b)).symm;refine ⟨by kernel_rfl,λj t e=> ?_⟩;have a:Tryz.f5.params.toList.all (λt=> !Tryz.prog.wantsStandIn t)=true:=by kernel_rfl
 have:=List.all_eq_true.1 a t (by simpa using Array.mem_of_getElem? e);show Tryz.prog.wantsStandIn t=false;simpa using this
theorem card:Rows.EvalTracesCardSaid:=
 Claim7.holds_tied_plain_at .later [] _ _ _ _ aaj (λ_ h=>by cases h) (by kernel_rfl) (λ_ h=>by cases h) evalTraces_row_tie rfl ⟨rfl,rfl⟩ (by kernel_rfl) rfl aah (by kernel_rfl)
end Go.Proofs.YtdmfgmmooalfnaaGreatDoor.traces
