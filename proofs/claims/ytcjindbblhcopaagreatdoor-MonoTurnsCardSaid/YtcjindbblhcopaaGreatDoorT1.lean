/- The law MonoTurns returns true for every input. No conditions beyond the given row's. -/
import Derived.Test.YtcjindbblhcopaaGreatDoorC3
set_option linter.unusedSimpArgs false
set_option linter.unusedVariables false
set_option maxRecDepth 100000
open Go AM Go.ChangeShapes Go.WideShapes Go.ChangeAt Go.RowKit
namespace Go.Proofs.YtcjindbblhcopaaGreatDoor.turns
open Go.Proofs.Tryz
theorem adM (os:Os):laidMet Tryz.prog Rows.monoTurnsRow.laid ((Q5 os).forCall (fun _ _=>0) ⟨#[],#[.slice none 0 0,.slice none 0 0,.agg #[.int .i64 0,.int .i64 0,.int .i64 0]],[]⟩).memory:=
 laidMet_of_run' 8 (by kernel_rfl) (by kernel_rfl)
theorem adP (os:Os) {H:Type} (enc:TypeId × Value→H):∃ places,DataW.whole enc Tryz.prog ((Q5 os).forCall (fun _ _=>0) ⟨#[],#[.slice none 0 0,.slice none 0 0,.agg #[.int .i64 0,.int .i64 0,.int .i64 0]],[]⟩).memory Tryz.f6.params.toList Rows.monoTurnsSpec.vars false [.slice none 0 0,.slice none 0 0,.agg #[.int .i64 0,.int .i64 0,.int .i64 0]] 8=some ([.nil,.nil,.agg [.lit (.int .i64 0),.lit (.int .i64 0),.lit (.int .i64 0)]],[],places):=
 ⟨[],by kernel_rfl⟩
theorem adL (H:Type) (enc:TypeId × Value→H) (W:World) (base:Nat) (args:Array Value) (ds gs:List (DataW H)) (before:List MemPlace)
  (hval:∀ (j:Nat) t v,Tryz.f6.params[j]? =some t→args[j]? =some v→Value.okWide Tryz.prog W .any base t v)
  (hW:DataW.Whole enc Tryz.prog Tryz.f6.params.toList Rows.monoTurnsSpec.vars false W args.toList ds gs before) (hL:laidMetH Tryz.prog Rows.monoTurnsRow.laid W):
  Calls Tryz.prog 6 args W fun e W'=> ∃ v,e= .returned v∧Rows.monoTurnsSpec.post enc Tryz.prog Tryz.f6 false true false false W args v W':=by
 have hW':=hW
 obtain ⟨pp,qq,hA0,hV,rfl,hfz,hnd⟩:=hW
 have hA:DataW.TrodAll enc Tryz.prog W 0 (fun _=>true) true Tryz.f6.params.toList args.toList ds pp:=hA0
 obtain ⟨al⟩:=args
 simp only at hA hW' hval ⊢
 rw [Tryz.params6] at hA hval
 obtain ⟨v0,vs0,d0,ds0,p0,q0,rfl,rfl,rfl,h0,hA0⟩:=trodAll_cons hA
 obtain ⟨v1,vs1,d1,ds1,p1,q1,rfl,rfl,rfl,h1,hA1⟩:=trodAll_cons hA0
 obtain ⟨v2,vs2,d2,ds2,p2,q2,rfl,rfl,rfl,h2,hA2⟩:=trodAll_cons hA1
 obtain ⟨rfl,rfl,rfl⟩:=trodAll_nil hA2
 obtain ⟨rfl,rfl⟩:=trodVars_none hV
 obtain ⟨L0,f0,pr0⟩:=VS (t:=22) (e:=3) (n:=4) (ks:= [.int .i64]) (by kernel_rfl) (by kernel_rfl) (by kernel_rfl) (hval 0 22 v0 rfl rfl) h0
 obtain ⟨xs,e0,n0⟩:=Q0 (fun a:Int=> [AV.int .i64 a]) (L:=L0) (fun x hx=>aeF (f0 x hx))
 rw [e0,n0,XR] at pr0
 obtain ⟨L1,f1,pr1⟩:=VS (t:=23) (e:=51) (n:=4) (ks:= [.int .i64,.int .i64,.int .i64]) (by kernel_rfl) (by kernel_rfl) (by kernel_rfl) (hval 1 23 v1 rfl rfl) h1
 obtain ⟨ts,e1,n1⟩:=Q0 (fun q:Int × Int × Int=> [AV.int .i64 q.1,.int .i64 q.2.1,.int .i64 q.2.2]) (L:=L1) (fun x hx=>ae3 (f1 x hx))
 rw [e1,n1] at pr1
 have g2:=Q6 (n:=4) (ks:= [.int .i64,.int .i64,.int .i64]) (by kernel_rfl) h2
 generalize hc2:v2.cells.toList=c2 at g2
 rcases g2 with _|@⟨_,q0,_,_,g2⟩|_|_
 rcases g2 with _|@⟨_,q1,_,_,g2⟩|_|_
 rcases g2 with _|@⟨_,q2,_,_,g2⟩|_|_
 cases g2
 rw [Kc hc2 (by simp)] at hW' ⊢
 have hv:bP (jS W) [.sl (iL xs) xs.length false,.sl (tL ts) ts.length false,.agg [.int .i64 q0,.int .i64 q1,.int .i64 q2]] [v0,v1,.agg #[.int .i64 q0,.int .i64 q1,.int .i64 q2]]:=by
  simp only [bP,and_true]
  refine ⟨pr0,pr1, ?_⟩
  simp only [PR]
  exact ⟨[.int .i64 q0,.int .i64 q1,.int .i64 q2],rfl,by simp [bP,PR]⟩
 refine (Ox (Xw xs ts q0 q1 q2 false false) (Um hL) hv).mono fun e W' ⟨he,hb⟩=> ?_
 subst he
 exact ⟨_,rfl,Va XY (by kernel_rfl) hW' rfl (tb:=4) rfl (by kernel_rfl) rfl hb⟩
theorem adN (os:Os) (started:os.Started) (H:Type) (enc:TypeId × Value→H) (F:Stop.Interp):
  ReturnsInHanded {} Tryz.checked os 6 .any ((OpenSpec.ofChange Rows.monoTurnsSpec).preRow enc Tryz.prog Tryz.f6 Rows.monoTurnsRow.domain false Rows.monoTurnsRow.laid) (((OpenSpec.ofChange Rows.monoTurnsSpec).at F).post enc Tryz.prog Tryz.f6 false true false false):=by
 obtain ⟨places,hx⟩:=adP os enc
 refine returnsInHanded_of_row (C:=Tryz.checked) (s:=OpenSpec.ofChange Rows.monoTurnsSpec) own started (by kernel_rfl) Tryz.func6
  (witness_row_at (enc:=enc) (C:=Tryz.checked) false (Q5 os) #[.slice none 0 0,.slice none 0 0,.agg #[.int .i64 0,.int .i64 0,.int .i64 0]] rfl (by kernel_rfl) (by kernel_rfl) (by kernel_rfl)
   (OpenSpec.preRow_of_cond 8 hx (by kernel_rfl) (fun k hk=>by cases hk) (by kernel_rfl) (adM os))) ?_
 intro W base args ds gs before hval hW _ _ _ hL _ _
 exact adL H enc W base args ds gs before hval hW hL
theorem adQ:Rows.MonoTurnsSaid:=
 OpenClaim.holds_of_cond 6 Tryz.f6 rfl rfl rfl rfl rfl rfl rfl ⟨rfl,rfl,rfl,rfl,rfl⟩ rfl rfl rfl rfl rfl (by kernel_rfl) Tryz.func6 (by kernel_rfl)
  (of_decide_eq_true (by kernel_rfl)) (by unfold Func.isWrapper;first|(rw [if_pos (by decide+kernel)];kernel_rfl)|(rw [if_neg (by decide+kernel)];exact ⟨rfl,rfl⟩))
  (fun os started H enc _ F=>by rw [OpenClaim.pre_eq_preRow];exact adN os started H enc F)
theorem adO (f:FuncId) (fn:Func) (hf:Tryz.pinned.checked.prog.funcNamed Rows.monoTurnsRow.func=some f) (hfn:Tryz.pinned.checked.prog.funcs[f]? =some fn):
  false=Tryz.pinned.checked.prog.looks []∧∀ (j:Nat) t,fn.params[j]? =some t→Tryz.pinned.checked.prog.wantsStandIn t=false:=by
 obtain rfl:f=6:=Option.some.inj ((show Tryz.prog.funcNamed Rows.monoTurnsRow.func=some 6 by kernel_rfl).symm.trans hf)|>.symm
 obtain rfl:fn=Tryz.f6:=(Option.some.inj (Tryz.func6.symm.trans hfn)).symm
 refine ⟨by kernel_rfl,fun j t ht=> ?_⟩
 have hall:Tryz.f6.params.toList.all (fun t=> !Tryz.prog.wantsStandIn t)=true:=by kernel_rfl
 have:=List.all_eq_true.1 hall t (by simpa using Array.mem_of_getElem? ht)
 show Tryz.prog.wantsStandIn t=false
 simpa using this
theorem card:Rows.MonoTurnsCardSaid:=
 Claim7.holds_tied_plain_at .later [] _ _ _ _ adQ (fun _ h=>by cases h) (by kernel_rfl) (fun _ h=>by cases h) monoTurns_row_tie rfl ⟨rfl,rfl⟩ (by kernel_rfl) rfl adO (by kernel_rfl)
end Go.Proofs.YtcjindbblhcopaaGreatDoor.turns
