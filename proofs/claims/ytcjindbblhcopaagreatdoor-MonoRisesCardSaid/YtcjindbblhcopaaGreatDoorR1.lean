/- MonoRises returns true for every input: both implementations of Rising answer the same, and as the senses. No conditions beyond the given row's. -/
import Derived.Test.YtcjindbblhcopaaGreatDoorC4
set_option linter.unusedSimpArgs false
set_option linter.unusedVariables false
set_option maxRecDepth 100000
open Go AM Go.ChangeShapes Go.WideShapes Go.ChangeAt Go.RowKit
namespace Go.Proofs.YtcjindbblhcopaaGreatDoor.rises
open Go.Proofs.Tryz
theorem aar (a:Os):laidMet Tryz.prog Rows.monoRisesRow.laid ((ad3 a).forCall (fun _ _=>0) ⟨#[],#[.slice none 0 0,.slice none 0 0,.int .u8 0],[]⟩).memory:=
 laidMet_of_run' 8 (by kernel_rfl) (by kernel_rfl)
theorem aaI (a:Os) {H:Type} (enc:TypeId × Value→H):∃ places,DataW.whole enc Tryz.prog ((ad3 a).forCall (fun _ _=>0) ⟨#[],#[.slice none 0 0,.slice none 0 0,.int .u8 0],[]⟩).memory Tryz.f5.params.toList Rows.monoRisesSpec.vars false [.slice none 0 0,.slice none 0 0,.int .u8 0] 8=some ([.nil,.nil,.lit (.int .u8 0)],[],places):=
 ⟨[],by kernel_rfl⟩
theorem aaq (H:Type) (enc:TypeId × Value→H) (W:World) (base:Nat) (args:Array Value) (p G:List (DataW H)) (before:List MemPlace)
  (hval:∀ (j:Nat) t v,Tryz.f5.params[j]? =some t→args[j]? =some v→Value.okWide Tryz.prog W .any base t v)
  (hW:DataW.Whole enc Tryz.prog Tryz.f5.params.toList Rows.monoRisesSpec.vars false W args.toList p G before) (hL:laidMetH Tryz.prog Rows.monoRisesRow.laid W):
  Calls Tryz.prog 5 args W fun e W'=> ∃ v,e= .returned v∧Rows.monoRisesSpec.post enc Tryz.prog Tryz.f5 false true false false W args v W':=by
 have c:=hW
 obtain ⟨pp,qq,b,M,rfl,D,Q⟩:=hW
 have h:DataW.TrodAll enc Tryz.prog W 0 (fun _=>true) true Tryz.f5.params.toList args.toList p pp:=b
 obtain ⟨X⟩:=args
 simp only at h c hval ⊢
 rw [Tryz.params5] at h hval
 obtain ⟨v0,z,d0,K,U,q0,rfl,rfl,rfl,h0,b⟩:=trodAll_cons h
 obtain ⟨v1,B,S,F,T,Y,rfl,rfl,rfl,A,o⟩:=trodAll_cons b
 obtain ⟨u,r,R,O,Z,V,rfl,rfl,rfl,N,g⟩:=trodAll_cons o
 obtain ⟨rfl,rfl,rfl⟩:=trodAll_nil g
 obtain ⟨rfl,rfl⟩:=trodVars_none M
 obtain ⟨L0,E,f⟩:=alf (t:=22) (e:=3) (n:=4) (ks:= [.int .i64]) (by kernel_rfl) (by kernel_rfl) (by kernel_rfl) (hval 0 22 v0 rfl rfl) h0
 obtain ⟨i,J,P⟩:=adZ (fun a:Int=> [AV.int .i64 a]) (L:=L0) (fun x m=>avc (E x m))
 rw [J,P,anU] at f
 obtain ⟨L1,I,d⟩:=alf (t:=23) (e:=51) (n:=4) (ks:= [.int .i64,.int .i64,.int .i64]) (by kernel_rfl) (by kernel_rfl) (by kernel_rfl) (hval 1 23 v1 rfl rfl) A
 obtain ⟨l,C,s⟩:=adZ (fun q:Int × Int × Int=> [AV.int .i64 q.1,.int .i64 q.2.1,.int .i64 q.2.2]) (L:=L1) (fun x m=>avA (I x m))
 rw [C,s] at d
 obtain ⟨w,rfl,_,_,_⟩:=open_int (k:= .u8) (by kernel_rfl) (hval 2 5 u rfl rfl) N
 have y:dL (pX W) [.sl (iL i) i.length false,.sl (tL l) l.length false,.int .u8 w] [v0,v1,.int .u8 w]:=by
  simp only [dL,and_true]
  exact ⟨f,d,by simp only [PR]⟩
 refine (aa9 (al6 i l false false w) (ajO hL) y).mono fun e W' ⟨he,hb⟩=> ?_
 subst he
 exact ⟨_,rfl,aky an1 (by kernel_rfl) c rfl (tb:=4) rfl (by kernel_rfl) rfl hb⟩
theorem aat (a:Os) (started:a.Started) (H:Type) (enc:TypeId × Value→H) (F:Stop.Interp):
  ReturnsInHanded {} Tryz.checked a 5 .any ((OpenSpec.ofChange Rows.monoRisesSpec).preRow enc Tryz.prog Tryz.f5 Rows.monoRisesRow.domain false Rows.monoRisesRow.laid) (((OpenSpec.ofChange Rows.monoRisesSpec).at F).post enc Tryz.prog Tryz.f5 false true false false):=by
 obtain ⟨places,f⟩:=aaI a enc
 refine returnsInHanded_of_row (C:=Tryz.checked) (s:=OpenSpec.ofChange Rows.monoRisesSpec) own started (by kernel_rfl) Tryz.func5
  (witness_row_at (enc:=enc) (C:=Tryz.checked) false (ad3 a) #[.slice none 0 0,.slice none 0 0,.int .u8 0] rfl (by kernel_rfl) (by kernel_rfl) (by kernel_rfl)
   (OpenSpec.preRow_of_cond 8 f (by kernel_rfl) (fun k d=>by cases d) (by kernel_rfl) (aar a))) ?_
 intro W base args c e before b g _ _ _ h _ _
 exact aaq H enc W base args c e before b g h
theorem abL:Rows.MonoRisesSaid:=
 OpenClaim.holds_of_cond 5 Tryz.f5 rfl rfl rfl rfl rfl rfl rfl ⟨rfl,rfl,rfl,rfl,rfl⟩ rfl rfl rfl rfl rfl (by kernel_rfl) Tryz.func5 (by kernel_rfl)
  (of_decide_eq_true (by kernel_rfl)) (by unfold Func.isWrapper;first|(rw [if_pos (by decide+kernel)];kernel_rfl)|(rw [if_neg (by decide+kernel)];exact ⟨rfl,rfl⟩))
  (fun a started H enc _ F=>by rw [OpenClaim.pre_eq_preRow];exact aat a started H enc F)
theorem aaH (f:FuncId) (c:Func) (d:Tryz.pinned.checked.prog.funcNamed Rows.monoRisesRow.func=some f) (b:Tryz.pinned.checked.prog.funcs[f]? =some c):
  false=Tryz.pinned.checked.prog.looks []∧∀ (j:Nat) t,c.params[j]? =some t→Tryz.pinned.checked.prog.wantsStandIn t=false:=by
 obtain rfl:f=5:=Option.some.inj ((show Tryz.prog.funcNamed Rows.monoRisesRow.func=some 5 by kernel_rfl).symm.trans d)|>.symm
 obtain rfl:c=Tryz.f5:=(Option.some.inj (Tryz.func5.symm.trans b)).symm
 refine ⟨by kernel_rfl,fun j t e=> ?_⟩
 have a:Tryz.f5.params.toList.all (fun t=> !Tryz.prog.wantsStandIn t)=true:=by kernel_rfl
 have:=List.all_eq_true.1 a t (by simpa using Array.mem_of_getElem? e)
 show Tryz.prog.wantsStandIn t=false
 simpa using this
theorem card:Rows.MonoRisesCardSaid:=
 Claim7.holds_tied_plain_at .later [] _ _ _ _ abL (fun _ h=>by cases h) (by kernel_rfl) (fun _ h=>by cases h) monoRises_row_tie rfl ⟨rfl,rfl⟩ (by kernel_rfl) rfl aaH (by kernel_rfl)
end Go.Proofs.YtcjindbblhcopaaGreatDoor.rises
