/- The law EvalTaken returns true for every input. No conditions. -/
import Derived.Test.YtdmfgmmooalfnaaGreatDoorC4
set_option linter.unusedSimpArgs false
set_option linter.unusedVariables false
set_option maxRecDepth 100000
open Go AM Go.ChangeShapes Go.WideShapes Go.ChangeAt Go.RowKit
namespace Go.Proofs.YtdmfgmmooalfnaaGreatDoor.taken
open Go.Proofs.Tryz
theorem aae (a:Os):laidMet Tryz.prog Rows.evalTakenRow.laid ((ahe a).forCall (fun _ _=>0) ⟨#[],#[.agg #[.slice none 0 0,.slice none 0 0,.slice none 0 0],.int .u8 0,.int .i64 0],[]⟩).memory:=
 laidMet_of_run' 8 (by kernel_rfl) (by kernel_rfl)
theorem acW (a:Os) {H:Type} (enc:TypeId × Value→H):∃ places,DataW.whole enc Tryz.prog ((ahe a).forCall (fun _ _=>0) ⟨#[],#[.agg #[.slice none 0 0,.slice none 0 0,.slice none 0 0],.int .u8 0,.int .i64 0],[]⟩).memory Tryz.f8.params.toList Rows.evalTakenSpec.vars false [.agg #[.slice none 0 0,.slice none 0 0,.slice none 0 0],.int .u8 0,.int .i64 0] 8=some ([.agg [.nil,.nil,.nil],.lit (.int .u8 0),.lit (.int .i64 0)],[],places):=
 ⟨[],by kernel_rfl⟩
theorem aac (H:Type) (enc:TypeId × Value→H) (W:World) (base:Nat) (args:Array Value) (q A:List (DataW H)) (before:List MemPlace)
  (hval:∀ (j:Nat) t v,Tryz.f8.params[j]? =some t→args[j]? =some v→Value.okWide Tryz.prog W .any base t v)
  (hW:DataW.Whole enc Tryz.prog Tryz.f8.params.toList Rows.evalTakenSpec.vars false W args.toList q A before) (hL:laidMetH Tryz.prog Rows.evalTakenRow.laid W):
  Calls Tryz.prog 8 args W fun e W'=> ∃ v,e= .returned v∧Rows.evalTakenSpec.post enc Tryz.prog Tryz.f8 false true false false W args v W':=by
 have c:=hW
 obtain ⟨pp,T,a,s,rfl,K,G⟩:=hW
 have d:DataW.TrodAll enc Tryz.prog W 0 (fun _=>true) true Tryz.f8.params.toList args.toList q pp:=a
 obtain ⟨X⟩:=args
 simp only at d c hval ⊢
 rw [Tryz.params8] at d hval
 obtain ⟨v0,C,O,D,Q,q0,rfl,rfl,rfl,N,a⟩:=trodAll_cons d
 obtain ⟨v1,I,P,B,R,S,rfl,rfl,rfl,F,m⟩:=trodAll_cons a
 obtain ⟨J,E,V,u,U,Y,rfl,rfl,rfl,L,n⟩:=trodAll_cons m
 obtain ⟨rfl,rfl,rfl⟩:=trodAll_nil n
 obtain ⟨rfl,rfl⟩:=trodVars_none s
 obtain ⟨r,p,o,l,f,g,h⟩:=alX (t:=63) (by kernel_rfl) (by kernel_rfl) (by kernel_rfl) (hval 0 63 v0 rfl rfl) N
 obtain ⟨w,rfl,_,_,x⟩:=open_int (k:= .u8) (by kernel_rfl) (hval 1 5 v1 rfl rfl) F
 obtain ⟨i,rfl,M,z,b⟩:=open_int (k:= .i64) (by kernel_rfl) (hval 2 3 J rfl rfl) L
 have y:dV (lL W) [a3A r p o,.int .u8 w,.int .i64 i] [v0,.int .u8 w,.int .i64 i]:=by
  simp only [dV,and_true]
  exact ⟨h,by simp only [PR],by simp only [PR]⟩
 refine (ael (alq r p o w i (amM b) (amL b) l f g) (ai0 hL) y).mono fun e W' ⟨he,hb⟩=> ?_
 subst he
 exact ⟨_,rfl,ajc alR (by kernel_rfl) c rfl (tb:=4) rfl (by kernel_rfl) rfl hb⟩
theorem aaf (b:Os) (started:b.Started) (H:Type) (enc:TypeId × Value→H) (F:Stop.Interp):
  ReturnsInHanded {} Tryz.checked b 8 .any ((OpenSpec.ofChange Rows.evalTakenSpec).preRow enc Tryz.prog Tryz.f8 Rows.evalTakenRow.domain false Rows.evalTakenRow.laid) (((OpenSpec.ofChange Rows.evalTakenSpec).at F).post enc Tryz.prog Tryz.f8 false true false false):=by
 obtain ⟨places,e⟩:=acW b enc
 refine returnsInHanded_of_row (C:=Tryz.checked) (s:=OpenSpec.ofChange Rows.evalTakenSpec) own started (by kernel_rfl) Tryz.func8
  (witness_row_at (enc:=enc) (C:=Tryz.checked) false (ahe b) #[.agg #[.slice none 0 0,.slice none 0 0,.slice none 0 0],.int .u8 0,.int .i64 0] rfl (by kernel_rfl) (by kernel_rfl) (by kernel_rfl)
   (OpenSpec.preRow_of_cond 8 e (by kernel_rfl) (fun k h=>by cases h) (by kernel_rfl) (aae b))) ?_
 intro W base args f g before a c _ _ _ d _ _
 exact aac H enc W base args f g before a c d
theorem acY:Rows.EvalTakenSaid:=
 OpenClaim.holds_of_cond 8 Tryz.f8 rfl rfl rfl rfl rfl rfl rfl ⟨rfl,rfl,rfl,rfl,rfl⟩ rfl rfl rfl rfl rfl (by kernel_rfl) Tryz.func8 (by kernel_rfl)
  (of_decide_eq_true (by kernel_rfl)) (by unfold Func.isWrapper;first|(rw [if_pos (by decide+kernel)];kernel_rfl)|(rw [if_neg (by decide+kernel)];exact ⟨rfl,rfl⟩))
  (fun a started H enc _ F=>by rw [OpenClaim.pre_eq_preRow];exact aaf a started H enc F)
theorem aaD (f:FuncId) (c:Func) (d:Tryz.pinned.checked.prog.funcNamed Rows.evalTakenRow.func=some f) (b:Tryz.pinned.checked.prog.funcs[f]? =some c):
  true=Tryz.pinned.checked.prog.looks []∧∀ (j:Nat) t,c.params[j]? =some t→Tryz.pinned.checked.prog.wantsStandIn t=false:=by
 obtain rfl:f=8:=Option.some.inj ((show Tryz.prog.funcNamed Rows.evalTakenRow.func=some 8 by kernel_rfl).symm.trans d)|>.symm
 obtain rfl:c=Tryz.f8:=(Option.some.inj (Tryz.func8.symm.trans b)).symm
 refine ⟨by kernel_rfl,fun j t e=> ?_⟩
 have a:Tryz.f8.params.toList.all (fun t=> !Tryz.prog.wantsStandIn t)=true:=by kernel_rfl
 have:=List.all_eq_true.1 a t (by simpa using Array.mem_of_getElem? e)
 show Tryz.prog.wantsStandIn t=false
 simpa using this
theorem card:Rows.EvalTakenCardSaid:=
 Claim7.holds_tied_plain_at .later [] _ _ _ _ acY (fun _ h=>by cases h) (by kernel_rfl) (fun _ h=>by cases h) evalTaken_row_tie rfl ⟨rfl,rfl⟩ (by kernel_rfl) rfl aaD (by kernel_rfl)
end Go.Proofs.YtdmfgmmooalfnaaGreatDoor.taken
