/- the law MonoPlain returns true for every input -/
import Derived.Test.YtcjindbblhcopaaGreatDoorC3
set_option linter.unusedSimpArgs false
set_option linter.unusedVariables false
set_option maxRecDepth 100000
open Go AM Go.ChangeShapes Go.WideShapes Go.ChangeAt Go.RowKit
namespace Go.Proofs.YtcjindbblhcopaaGreatDoor.plains
open Go.Proofs.Tryz
theorem anV (os:Os):laidMet Tryz.prog Rows.monoPlainRow.laid ((aWh os).forCall (fun _ _=>0) ⟨#[],#[.slice none 0 0,.slice none 0 0,.int .u8 0],[]⟩).memory:=
 laidMet_of_run' 8 (by kernel_rfl) (by kernel_rfl)
theorem auV (os:Os) {H:Type} (enc:TypeId × Value→H):∃ places,DataW.whole enc Tryz.prog ((aWh os).forCall (fun _ _=>0) ⟨#[],#[.slice none 0 0,.slice none 0 0,.int .u8 0],[]⟩).memory Tryz.f7.params.toList Rows.monoPlainSpec.vars false [.slice none 0 0,.slice none 0 0,.int .u8 0] 8=some ([.nil,.nil,.lit (.int .u8 0)],[],places):=
 ⟨[],by kernel_rfl⟩
theorem aea (H:Type) (enc:TypeId × Value→H) (W:World) (base:Nat) (args:Array Value) (ds gs:List (DataW H)) (before:List MemPlace)
  (hval:∀ (j:Nat) t v,Tryz.f7.params[j]? =some t→args[j]? =some v→Value.okWide Tryz.prog W .any base t v)
  (hW:DataW.Whole enc Tryz.prog Tryz.f7.params.toList Rows.monoPlainSpec.vars false W args.toList ds gs before) (hL:laidMetH Tryz.prog Rows.monoPlainRow.laid W):
  Calls Tryz.prog 7 args W fun e W'=> ∃ v,e= .returned v∧Rows.monoPlainSpec.post enc Tryz.prog Tryz.f7 false true false false W args v W':=by
 have hW':=hW
 obtain ⟨pp,qq,hA0,hV,rfl,hfz,hnd⟩:=hW
 have hA:DataW.TrodAll enc Tryz.prog W 0 (fun _=>true) true Tryz.f7.params.toList args.toList ds pp:=hA0
 obtain ⟨al⟩:=args
 simp only at hA hW' hval ⊢
 rw [Tryz.params7] at hA hval
 obtain ⟨v0,vs0,d0,ds0,p0,q0,rfl,rfl,rfl,h0,hA0⟩:=trodAll_cons hA
 obtain ⟨v1,vs1,d1,ds1,p1,q1,rfl,rfl,rfl,h1,hA1⟩:=trodAll_cons hA0
 obtain ⟨v2,vs2,d2,ds2,p2,q2,rfl,rfl,rfl,h2,hA2⟩:=trodAll_cons hA1
 obtain ⟨rfl,rfl,rfl⟩:=trodAll_nil hA2
 obtain ⟨rfl,rfl⟩:=trodVars_none hV
 obtain ⟨L0,f0,pr0⟩:=a0m (t:=22) (e:=3) (n:=4) (ks:= [.int .i64]) (by kernel_rfl) (by kernel_rfl) (by kernel_rfl) (hval 0 22 v0 rfl rfl) h0
 obtain ⟨xs,e0,n0⟩:=aWe (fun a:Int=> [AV.int .i64 a]) (L:=L0) (fun x hx=>a9O (f0 x hx))
 rw [e0,n0,a2f] at pr0
 obtain ⟨L1,f1,pr1⟩:=a0m (t:=22) (e:=3) (n:=4) (ks:= [.int .i64]) (by kernel_rfl) (by kernel_rfl) (by kernel_rfl) (hval 1 22 v1 rfl rfl) h1
 obtain ⟨ys,e1,n1⟩:=aWe (fun a:Int=> [AV.int .i64 a]) (L:=L1) (fun x hx=>a9O (f1 x hx))
 rw [e1,n1,a2f] at pr1
 obtain ⟨w,rfl,_,_,hw8⟩:=open_int (k:= .u8) (by kernel_rfl) (hval 2 5 v2 rfl rfl) h2
 have hw0:(0:Int)≤w:=by
  have h:=(Bool.and_eq_true _ _ ▸ hw8).1
  exact of_decide_eq_true h
 have hv:PRL (ayP W) [.sl (iL xs) xs.length false,.sl (iL ys) ys.length false,.int .u8 w] [v0,v1,.int .u8 w]:=by
  simp only [PRL,and_true]
  exact ⟨pr0,pr1,by simp only [PR]⟩
 refine (aT2 (a0y xs ys false false w hw0) (aYW hL) hv).mono fun e W' ⟨he,hb⟩=> ?_
 subst he
 exact ⟨_,rfl,aZJ a2m (by kernel_rfl) hW' rfl (tb:=4) rfl (by kernel_rfl) rfl hb⟩
theorem an0 (os:Os) (started:os.Started) (H:Type) (enc:TypeId × Value→H) (F:Stop.Interp):
  ReturnsInHanded {} Tryz.checked os 7 .any ((OpenSpec.ofChange Rows.monoPlainSpec).preRow enc Tryz.prog Tryz.f7 Rows.monoPlainRow.domain false Rows.monoPlainRow.laid) (((OpenSpec.ofChange Rows.monoPlainSpec).at F).post enc Tryz.prog Tryz.f7 false true false false):=by
 obtain ⟨places,hx⟩:=auV os enc
 refine returnsInHanded_of_row (C:=Tryz.checked) (s:=OpenSpec.ofChange Rows.monoPlainSpec) own started (by kernel_rfl) Tryz.func7
  (witness_row_at (enc:=enc) (C:=Tryz.checked) false (aWh os) #[.slice none 0 0,.slice none 0 0,.int .u8 0] rfl (by kernel_rfl) (by kernel_rfl) (by kernel_rfl)
   (OpenSpec.preRow_of_cond 8 hx (by kernel_rfl) (fun k hk=>by cases hk) (by kernel_rfl) (anV os))) ?_
 intro W base args ds gs before hval hW _ _ _ hL _ _
 exact aea H enc W base args ds gs before hval hW hL
theorem auY:Rows.MonoPlainSaid:=
 OpenClaim.holds_of_cond 7 Tryz.f7 rfl rfl rfl rfl rfl rfl rfl ⟨rfl,rfl,rfl,rfl,rfl⟩ rfl rfl rfl rfl rfl (by kernel_rfl) Tryz.func7 (by kernel_rfl)
  (of_decide_eq_true (by kernel_rfl)) (by unfold Func.isWrapper;first|(rw [if_pos (by decide+kernel)];kernel_rfl)|(rw [if_neg (by decide+kernel)];exact ⟨rfl,rfl⟩))
  (fun os started H enc _ F=>by rw [OpenClaim.pre_eq_preRow];exact an0 os started H enc F)
theorem auC (f:FuncId) (fn:Func) (hf:Tryz.pinned.checked.prog.funcNamed Rows.monoPlainRow.func=some f) (hfn:Tryz.pinned.checked.prog.funcs[f]? =some fn):
  false=Tryz.pinned.checked.prog.looks []∧∀ (j:Nat) t,fn.params[j]? =some t→Tryz.pinned.checked.prog.wantsStandIn t=false:=by
 obtain rfl:f=7:=Option.some.inj ((show Tryz.prog.funcNamed Rows.monoPlainRow.func=some 7 by kernel_rfl).symm.trans hf)|>.symm
 obtain rfl:fn=Tryz.f7:=(Option.some.inj (Tryz.func7.symm.trans hfn)).symm
 refine ⟨by kernel_rfl,fun j t ht=> ?_⟩
 have hall:Tryz.f7.params.toList.all (fun t=> !Tryz.prog.wantsStandIn t)=true:=by kernel_rfl
 have:=List.all_eq_true.1 hall t (by simpa using Array.mem_of_getElem? ht)
 show Tryz.prog.wantsStandIn t=false
 simpa using this
theorem card:Rows.MonoPlainCardSaid:=
 Claim7.holds_tied_plain_at .later [] _ _ _ _ auY (fun _ h=>by cases h) (by kernel_rfl) (fun _ h=>by cases h) monoPlain_row_tie rfl ⟨rfl,rfl⟩ (by kernel_rfl) rfl auC (by kernel_rfl)
end Go.Proofs.YtcjindbblhcopaaGreatDoor.plains
