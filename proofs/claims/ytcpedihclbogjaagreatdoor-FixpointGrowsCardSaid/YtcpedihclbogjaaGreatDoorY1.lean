/- The law FixpointGrows returns true for every input: if a fact in which all bodies rise becomes greater, the solution does not become smaller. No conditions beyond the given row's. -/
import Derived.Test.YtcpedihclbogjaaGreatDoorC4
set_option linter.unusedSimpArgs false
set_option linter.unusedVariables false
set_option maxRecDepth 100000
open Go AM Go.ChangeShapes Go.WideShapes Go.ChangeAt Go.RowKit
namespace Go.Proofs.YtcpedihclbogjaaGreatDoor.grows
open Go.Proofs.Tryz
theorem ab2 (os:Os):laidMet Tryz.prog Rows.fixpointGrowsRow.laid ((X3 os).forCall (λ_ _=>0) ⟨#[],#[.slice none 0 0,.agg #[.int .i64 0,.int .i64 0,.int .i64 0],.int .u8 0],[]⟩).memory:=
 laidMet_of_run' 8 (by kernel_rfl) (by kernel_rfl)
theorem ach (os:Os) {H:Type} (enc:TypeId × Value->H):∃ places,DataW.whole enc Tryz.prog ((X3 os).forCall (λ_ _=>0) ⟨#[],#[.slice none 0 0,.agg #[.int .i64 0,.int .i64 0,.int .i64 0],.int .u8 0],[]⟩).memory Tryz.f9.params.toList Rows.fixpointGrowsSpec.vars false [.slice none 0 0,.agg #[.int .i64 0,.int .i64 0,.int .i64 0],.int .u8 0] 8=some ([.nil,.agg [.lit (.int .i64 0),.lit (.int .i64 0),.lit (.int .i64 0)],.lit (.int .u8 0)],[],places):=
 ⟨[],by kernel_rfl⟩
theorem aaa (H:Type) (enc:TypeId × Value->H) (W:World) (base:Nat) (args:Array Value) (u F:List (DataW H)) (before:List MemPlace)
  (hval:∀ (j:Nat) t v,Tryz.f9.params[j]? =some t->args[j]? =some v->Value.okWide Tryz.prog W .any base t v)
  (hW:DataW.Whole enc Tryz.prog Tryz.f9.params.toList Rows.fixpointGrowsSpec.vars false W args.toList u F before) (hL:laidMetH Tryz.prog Rows.fixpointGrowsRow.laid W):
  Calls Tryz.prog 9 args W λe W'=> ∃ v,e= .returned v/\Rows.fixpointGrowsSpec.post enc Tryz.prog Tryz.f9 false true false false W args v W':=by
 have c:=hW;obtain ⟨pp,T,a,D,rfl,A,y⟩:=hW;have n:DataW.TrodAll enc Tryz.prog W 0 (λ_=>true) true Tryz.f9.params.toList args.toList u pp:=a;obtain ⟨O⟩:=args;simp only at n c hval ⊢;rw [Tryz.params9] at n hval;obtain ⟨v0,B,R,E,P,q0,rfl,rfl,rfl,h0,a⟩:=trodAll_cons n;obtain ⟨v1,J,S,C,M,K,rfl,rfl,rfl,r,o⟩:=trodAll_cons a;obtain ⟨z,x,N,G,Q,L,rfl,rfl,rfl,s,m⟩:=trodAll_cons o;obtain ⟨rfl,rfl,rfl⟩:=trodAll_nil m;obtain ⟨rfl,rfl⟩:=trodVars_none D;obtain ⟨l,q⟩:=aco (hval 0 22 v0 rfl rfl) h0;obtain ⟨d,f,g,rfl⟩:=acn (hval 1 23 v1 rfl rfl) r;obtain ⟨w,rfl,_,_,p⟩:=open_int (k:= .u8) (by kernel_rfl) (hval 2 5 z rfl rfl) s;obtain ⟨b,rfl,i⟩:∃ b:Nat,w=(b:Int)/\b<256:=by
  have h:=Bool.and_eq_true _ _ ▸ p;have r:(0:Int)<=w:=of_decide_eq_true h.1;have s:w<=255:=of_decide_eq_true h.2;exact ⟨w.toNat,by omega,by omega⟩
 have I:bw (gY W) [.sl (eY l) l.length false,.agg [.int .i64 d,.int .i64 f,.int .i64 g],.int .u8 (b:Int)] [v0,.agg #[.int .i64 d,.int .i64 f,.int .i64 g],.int .u8 (b:Int)]:=by
  simp only [bw,and_true];exact ⟨q,(by simp only [PR];exact ⟨[.int .i64 d,.int .i64 f,.int .i64 g],rfl,by simp [bw,PR]⟩),by simp only [PR]⟩
 refine (Vj (Wd X6 l false d f g b i) (Zp hL) I).mono λe W' ⟨he,hb⟩=> ?_
 subst he;exact ⟨_,rfl,ZA ack (by kernel_rfl) c rfl (tb:=4) rfl (by kernel_rfl) rfl hb⟩
theorem acf (os:Os) (started:os.Started) (H:Type) (enc:TypeId × Value->H) (F:Stop.Interp):
  ReturnsInHanded {} Tryz.checked os 9 .any ((OpenSpec.ofChange Rows.fixpointGrowsSpec).preRow enc Tryz.prog Tryz.f9 Rows.fixpointGrowsRow.domain false Rows.fixpointGrowsRow.laid) (((OpenSpec.ofChange Rows.fixpointGrowsSpec).at F).post enc Tryz.prog Tryz.f9 false true false false):=by
 obtain ⟨places,f⟩:=ach os enc;refine returnsInHanded_of_row (C:=Tryz.checked) (s:=OpenSpec.ofChange Rows.fixpointGrowsSpec) own started (by kernel_rfl) Tryz.func9
  (witness_row_at (enc:=enc) (C:=Tryz.checked) false (X3 os) #[.slice none 0 0,.agg #[.int .i64 0,.int .i64 0,.int .i64 0],.int .u8 0] rfl (by kernel_rfl) (by kernel_rfl) (by kernel_rfl)
   (OpenSpec.preRow_of_cond 8 f (by kernel_rfl) (λk d=>by cases d) (by kernel_rfl) (ab2 os))) ?_
 intro W base args c g before a e _ _ _ b _ _;exact aaa H enc W base args c g before a e b
theorem aci:Rows.FixpointGrowsSaid:=
 OpenClaim.holds_of_cond 9 Tryz.f9 rfl rfl rfl rfl rfl rfl rfl ⟨rfl,rfl,rfl,rfl,rfl⟩ rfl rfl rfl rfl rfl (by kernel_rfl) Tryz.func9 (by kernel_rfl)
  (of_decide_eq_true (by kernel_rfl)) (by unfold Func.isWrapper;first|(rw [if_pos (by decide+kernel)];kernel_rfl)|(rw [if_neg (by decide+kernel)];exact ⟨rfl,rfl⟩))
  (λos started H enc _ F=>by rw [OpenClaim.pre_eq_preRow];exact acf os started H enc F)
theorem acg (f:FuncId) (fn:Func) (c:Tryz.pinned.checked.prog.funcNamed Rows.fixpointGrowsRow.func=some f) (b:Tryz.pinned.checked.prog.funcs[f]? =some fn):
  false=Tryz.pinned.checked.prog.looks []/\∀ (j:Nat) t,fn.params[j]? =some t->Tryz.pinned.checked.prog.wantsStandIn t=false:=by
 obtain rfl:f=9:=Option.some.inj ((show Tryz.prog.funcNamed Rows.fixpointGrowsRow.func=some 9 by kernel_rfl).symm.trans c)|>.symm
 obtain rfl:fn=Tryz.f9:=(Option.some.inj (Tryz.func9.symm.trans b)).symm;refine ⟨by kernel_rfl,λj t d=> ?_⟩;have a:Tryz.f9.params.toList.all (λt=> !Tryz.prog.wantsStandIn t)=true:=by kernel_rfl
 have:=List.all_eq_true.1 a t (by simpa using Array.mem_of_getElem? d);show Tryz.prog.wantsStandIn t=false;simpa using this
theorem card:Rows.FixpointGrowsCardSaid:=
 Claim7.holds_tied_plain_at .later [] _ _ _ _ aci (λ_ h=>by cases h) (by kernel_rfl) (λ_ h=>by cases h) fixpointGrows_row_tie rfl ⟨rfl,rfl⟩ (by kernel_rfl) rfl acg (by kernel_rfl)
end Go.Proofs.YtcpedihclbogjaaGreatDoor.grows
