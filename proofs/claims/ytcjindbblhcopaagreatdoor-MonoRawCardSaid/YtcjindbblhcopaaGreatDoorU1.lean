/- The law MonoRaw returns true for every input. Joined by a program of mine. -/
import Derived.Test.YtcjindbblhcopaaGreatDoorC4
set_option linter.unusedSimpArgs false
set_option linter.unusedVariables false
set_option maxRecDepth 100000
open Go AM Go.ChangeShapes Go.WideShapes Go.ChangeAt Go.RowKit
namespace Go.Proofs.YtcjindbblhcopaaGreatDoor.raws
open Go.Proofs.Tryz
theorem aaR (a:Os):laidMet Tryz.prog Rows.monoRawRow.laid ((afh a).forCall (fun _ _=>0) ⟨#[],#[.slice none 0 0,.slice none 0 0,.agg #[.int .i64 0,.string ⟨#[]⟩]],[]⟩).memory:=
 laidMet_of_run' 8 (by kernel_rfl) (by kernel_rfl)
theorem abn (a:Os) {H:Type} (enc:TypeId × Value→H):∃ places,DataW.whole enc Tryz.prog ((afh a).forCall (fun _ _=>0) ⟨#[],#[.slice none 0 0,.slice none 0 0,.agg #[.int .i64 0,.string ⟨#[]⟩]],[]⟩).memory Tryz.f4.params.toList Rows.monoRawSpec.vars false [.slice none 0 0,.slice none 0 0,.agg #[.int .i64 0,.string ⟨#[]⟩]] 8=some ([.nil,.nil,.agg [.lit (.int .i64 0),.lit (.string [])]],[],places):=
 ⟨[],by kernel_rfl⟩
theorem aaP (H:Type) (enc:TypeId × Value→H) (W:World) (base:Nat) (args:Array Value) (m p:List (DataW H)) (before:List MemPlace)
  (hval:∀ (j:Nat) t v,Tryz.f4.params[j]? =some t→args[j]? =some v→Value.okWide Tryz.prog W .any base t v)
  (hW:DataW.Whole enc Tryz.prog Tryz.f4.params.toList Rows.monoRawSpec.vars false W args.toList m p before) (hL:laidMetH Tryz.prog Rows.monoRawRow.laid W):
  Calls Tryz.prog 4 args W fun e W'=> ∃ v,e= .returned v∧Rows.monoRawSpec.post enc Tryz.prog Tryz.f4 false true false false W args v W':=by
 have b:=hW;obtain ⟨pp,E,a,A,rfl,B,w⟩:=hW;have h:DataW.TrodAll enc Tryz.prog W 0 (fun _=>true) true Tryz.f4.params.toList args.toList m pp:=a;obtain ⟨F⟩:=args;simp only at h b hval ⊢;rw [Tryz.params4] at h hval;obtain ⟨v0,q,O,C,N,q0,rfl,rfl,rfl,h0,a⟩:=trodAll_cons h;obtain ⟨v1,s,M,D,G,L,rfl,rfl,rfl,y,i⟩:=trodAll_cons a;obtain ⟨l,z,K,r,I,J,rfl,rfl,rfl,x,f⟩:=trodAll_cons i;obtain ⟨rfl,rfl,rfl⟩:=trodAll_nil f;obtain ⟨rfl,rfl⟩:=trodVars_none A;obtain ⟨k,d⟩:=ahX (hval 0 25 v0 rfl rfl) h0;obtain ⟨qs,g⟩:=akH (hval 1 27 v1 rfl rfl) y;obtain ⟨o,n,c⟩:=ahW (hval 2 34 l rfl rfl) x;have u:dD (je W) [.sl (aH k) k.length false,.sl (bT (qs.map Sq.c)) qs.length false,.agg [.int .i64 o,.str n]] [v0,v1,l]:=by
  simp only [dD,and_true];exact ⟨d,g,c⟩
 refine (acb (akG k false false qs o n) (agA hL) u).mono fun e W' ⟨he,hb⟩=> ?_
 subst he;exact ⟨_,rfl,ahn akF (by kernel_rfl) b rfl (tb:=4) rfl (by kernel_rfl) rfl hb⟩
theorem aa3 (a:Os) (started:a.Started) (H:Type) (enc:TypeId × Value→H) (F:Stop.Interp):
  ReturnsInHanded {} Tryz.checked a 4 .any ((OpenSpec.ofChange Rows.monoRawSpec).preRow enc Tryz.prog Tryz.f4 Rows.monoRawRow.domain false Rows.monoRawRow.laid) (((OpenSpec.ofChange Rows.monoRawSpec).at F).post enc Tryz.prog Tryz.f4 false true false false):=by
 obtain ⟨places,h⟩:=abn a enc;refine returnsInHanded_of_row (C:=Tryz.checked) (s:=OpenSpec.ofChange Rows.monoRawSpec) own started (by kernel_rfl) Tryz.func4
  (witness_row_at (enc:=enc) (C:=Tryz.checked) false (afh a) #[.slice none 0 0,.slice none 0 0,.agg #[.int .i64 0,.string ⟨#[]⟩]] rfl (by kernel_rfl) (by kernel_rfl) (by kernel_rfl)
   (OpenSpec.preRow_of_cond 8 h (by kernel_rfl) (fun k e=>by cases e) (by kernel_rfl) (aaR a))) ?_
 intro W base args f c before b g _ _ _ d _ _;exact aaP H enc W base args f c before b g d
theorem abo:Rows.MonoRawSaid:=
 OpenClaim.holds_of_cond 4 Tryz.f4 rfl rfl rfl rfl rfl rfl rfl ⟨rfl,rfl,rfl,rfl,rfl⟩ rfl rfl rfl rfl rfl (by kernel_rfl) Tryz.func4 (by kernel_rfl)
  (of_decide_eq_true (by kernel_rfl)) (by unfold Func.isWrapper;first|(rw [if_pos (by decide+kernel)];kernel_rfl)|(rw [if_neg (by decide+kernel)];exact ⟨rfl,rfl⟩))
  (fun a started H enc _ F=>by rw [OpenClaim.pre_eq_preRow];exact aa3 a started H enc F)
theorem aa9 (f:FuncId) (b:Func) (e:Tryz.pinned.checked.prog.funcNamed Rows.monoRawRow.func=some f) (c:Tryz.pinned.checked.prog.funcs[f]? =some b):
  false=Tryz.pinned.checked.prog.looks []∧∀ (j:Nat) t,b.params[j]? =some t→Tryz.pinned.checked.prog.wantsStandIn t=false:=by
 obtain rfl:f=4:=Option.some.inj ((show Tryz.prog.funcNamed Rows.monoRawRow.func=some 4 by kernel_rfl).symm.trans e)|>.symm
 obtain rfl:b=Tryz.f4:=(Option.some.inj (Tryz.func4.symm.trans c)).symm;refine ⟨by kernel_rfl,fun j t d=> ?_⟩;have a:Tryz.f4.params.toList.all (fun t=> !Tryz.prog.wantsStandIn t)=true:=by kernel_rfl
 have:=List.all_eq_true.1 a t (by simpa using Array.mem_of_getElem? d);show Tryz.prog.wantsStandIn t=false;simpa using this
theorem card:Rows.MonoRawCardSaid:=
 Claim7.holds_tied_plain_at .later [] _ _ _ _ abo (fun _ h=>by cases h) (by kernel_rfl) (fun _ h=>by cases h) monoRaw_row_tie rfl ⟨rfl,rfl⟩ (by kernel_rfl) rfl aa9 (by kernel_rfl)
end Go.Proofs.YtcjindbblhcopaaGreatDoor.raws
