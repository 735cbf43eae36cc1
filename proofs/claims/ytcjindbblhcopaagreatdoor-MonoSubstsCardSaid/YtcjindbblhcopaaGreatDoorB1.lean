/- the law MonoSubsts returns true for every input -/
import Derived.Test.YtcjindbblhcopaaGreatDoorC3
set_option linter.unusedSimpArgs false
set_option linter.unusedVariables false
set_option maxRecDepth 100000
open Go AM Go.ChangeShapes Go.WideShapes Go.ChangeAt Go.RowKit
namespace Go.Proofs.YtcjindbblhcopaaGreatDoor.substs
open Go.Proofs.Tryz
theorem anW (os:Os):laidMet Tryz.prog Rows.monoSubstsRow.laid ((aWF os).forCall (fun _ _=>0) ⟨#[],#[.slice none 0 0,.slice none 0 0,.slice none 0 0],[]⟩).memory:=
 laidMet_of_run' 8 (by kernel_rfl) (by kernel_rfl)
theorem auY (os:Os) {H:Type} (enc:TypeId × Value→H):∃ places,DataW.whole enc Tryz.prog ((aWF os).forCall (fun _ _=>0) ⟨#[],#[.slice none 0 0,.slice none 0 0,.slice none 0 0],[]⟩).memory Tryz.f8.params.toList Rows.monoSubstsSpec.vars false [.slice none 0 0,.slice none 0 0,.slice none 0 0] 8=some ([.nil,.nil,.nil],[],places):=
 ⟨[],by kernel_rfl⟩
theorem ad_ (H:Type) (enc:TypeId × Value→H) (W:World) (base:Nat) (args:Array Value) (ds gs:List (DataW H)) (before:List MemPlace)
  (hval:∀ (j:Nat) t v,Tryz.f8.params[j]? =some t→args[j]? =some v→Value.okWide Tryz.prog W .any base t v)
  (hW:DataW.Whole enc Tryz.prog Tryz.f8.params.toList Rows.monoSubstsSpec.vars false W args.toList ds gs before) (hL:laidMetH Tryz.prog Rows.monoSubstsRow.laid W):
  Calls Tryz.prog 8 args W fun e W'=> ∃ v,e= .returned v∧Rows.monoSubstsSpec.post enc Tryz.prog Tryz.f8 false true false false W args v W':=by
 have hW':=hW
 obtain ⟨pp,qq,hA0,hV,rfl,hfz,hnd⟩:=hW
 have hA:DataW.TrodAll enc Tryz.prog W 0 (fun _=>true) true Tryz.f8.params.toList args.toList ds pp:=hA0
 obtain ⟨al⟩:=args
 simp only at hA hW' hval ⊢
 rw [Tryz.params8] at hA hval
 obtain ⟨v0,vs0,d0,ds0,p0,q0,rfl,rfl,rfl,h0,hA0⟩:=trodAll_cons hA
 obtain ⟨v1,vs1,d1,ds1,p1,q1,rfl,rfl,rfl,h1,hA1⟩:=trodAll_cons hA0
 obtain ⟨v2,vs2,d2,ds2,p2,q2,rfl,rfl,rfl,h2,hA2⟩:=trodAll_cons hA1
 obtain ⟨rfl,rfl,rfl⟩:=trodAll_nil hA2
 obtain ⟨rfl,rfl⟩:=trodVars_none hV
 obtain ⟨L0,f0,pr0⟩:=a0L (t:=22) (e:=3) (n:=4) (ks:= [.int .i64]) (by kernel_rfl) (by kernel_rfl) (by kernel_rfl) (hval 0 22 v0 rfl rfl) h0
 obtain ⟨xs,e0,n0⟩:=aWC (fun a:Int=> [AV.int .i64 a]) (L:=L0) (fun x hx=>a_O (f0 x hx))
 rw [e0,n0,a2Q] at pr0
 obtain ⟨L1,f1,pr1⟩:=a0L (t:=22) (e:=3) (n:=4) (ks:= [.int .i64]) (by kernel_rfl) (by kernel_rfl) (by kernel_rfl) (hval 1 22 v1 rfl rfl) h1
 obtain ⟨ys,e1,n1⟩:=aWC (fun a:Int=> [AV.int .i64 a]) (L:=L1) (fun x hx=>a_O (f1 x hx))
 rw [e1,n1,a2Q] at pr1
 obtain ⟨L2,f2,pr2⟩:=a0L (t:=23) (e:=51) (n:=4) (ks:= [.int .i64,.int .i64,.int .i64]) (by kernel_rfl) (by kernel_rfl) (by kernel_rfl) (hval 2 23 v2 rfl rfl) h2
 obtain ⟨ts,e2,n2⟩:=aWC (fun q:Int × Int × Int=> [AV.int .i64 q.1,.int .i64 q.2.1,.int .i64 q.2.2]) (L:=L2) (fun x hx=>a__ (f2 x hx))
 rw [e2,n2] at pr2
 have hv:PRL (ayW W) [.sl (iL xs) xs.length false,.sl (iL ys) ys.length false,.sl (tL ts) ts.length false] [v0,v1,v2]:=by
  simp only [PRL,and_true]
  exact ⟨pr0,pr1,pr2⟩
 refine (aUg (aWG xs ys ts false false false) (aZl hL) hv).mono fun e W' ⟨he,hb⟩=> ?_
 subst he
 exact ⟨_,rfl,aZ7 a2X (by kernel_rfl) hW' rfl (tb:=4) rfl (by kernel_rfl) rfl hb⟩
theorem an0 (os:Os) (started:os.Started) (H:Type) (enc:TypeId × Value→H) (F:Stop.Interp):
  ReturnsInHanded {} Tryz.checked os 8 .any ((OpenSpec.ofChange Rows.monoSubstsSpec).preRow enc Tryz.prog Tryz.f8 Rows.monoSubstsRow.domain false Rows.monoSubstsRow.laid) (((OpenSpec.ofChange Rows.monoSubstsSpec).at F).post enc Tryz.prog Tryz.f8 false true false false):=by
 obtain ⟨places,hx⟩:=auY os enc
 refine returnsInHanded_of_row (C:=Tryz.checked) (s:=OpenSpec.ofChange Rows.monoSubstsSpec) own started (by kernel_rfl) Tryz.func8
  (witness_row_at (enc:=enc) (C:=Tryz.checked) false (aWF os) #[.slice none 0 0,.slice none 0 0,.slice none 0 0] rfl (by kernel_rfl) (by kernel_rfl) (by kernel_rfl)
   (OpenSpec.preRow_of_cond 8 hx (by kernel_rfl) (fun k hk=>by cases hk) (by kernel_rfl) (anW os))) ?_
 intro W base args ds gs before hval hW _ _ _ hL _ _
 exact ad_ H enc W base args ds gs before hval hW hL
theorem au1:Rows.MonoSubstsSaid:=
 OpenClaim.holds_of_cond 8 Tryz.f8 rfl rfl rfl rfl rfl rfl rfl ⟨rfl,rfl,rfl,rfl,rfl⟩ rfl rfl rfl rfl rfl (by kernel_rfl) Tryz.func8 (by kernel_rfl)
  (of_decide_eq_true (by kernel_rfl)) (by unfold Func.isWrapper;first|(rw [if_pos (by decide+kernel)];kernel_rfl)|(rw [if_neg (by decide+kernel)];exact ⟨rfl,rfl⟩))
  (fun os started H enc _ F=>by rw [OpenClaim.pre_eq_preRow];exact an0 os started H enc F)
theorem auV (f:FuncId) (fn:Func) (hf:Tryz.pinned.checked.prog.funcNamed Rows.monoSubstsRow.func=some f) (hfn:Tryz.pinned.checked.prog.funcs[f]? =some fn):
  false=Tryz.pinned.checked.prog.looks []∧∀ (j:Nat) t,fn.params[j]? =some t→Tryz.pinned.checked.prog.wantsStandIn t=false:=by
 obtain rfl:f=8:=Option.some.inj ((show Tryz.prog.funcNamed Rows.monoSubstsRow.func=some 8 by kernel_rfl).symm.trans hf)|>.symm
 obtain rfl:fn=Tryz.f8:=(Option.some.inj (Tryz.func8.symm.trans hfn)).symm
 refine ⟨by kernel_rfl,fun j t ht=> ?_⟩
 have hall:Tryz.f8.params.toList.all (fun t=> !Tryz.prog.wantsStandIn t)=true:=by kernel_rfl
 have:=List.all_eq_true.1 hall t (by simpa using Array.mem_of_getElem? ht)
 show Tryz.prog.wantsStandIn t=false
 simpa using this
theorem card:Rows.MonoSubstsCardSaid:=
 Claim7.holds_tied_plain_at .later [] _ _ _ _ au1 (fun _ h=>by cases h) (by kernel_rfl) (fun _ h=>by cases h) monoSubsts_row_tie rfl ⟨rfl,rfl⟩ (by kernel_rfl) rfl auV (by kernel_rfl)
end Go.Proofs.YtcjindbblhcopaaGreatDoor.substs
