/- The law MonoSound returns true for every input. No conditions beyond the given row's. -/
import Derived.Test.YtcjindbblhcopaaGreatDoorC4
import Derived.Test.YtcjindbblhcopaaGreatDoorM5
set_option linter.unusedSimpArgs false
set_option linter.unusedVariables false
set_option maxRecDepth 100000
open Go AM Go.ChangeShapes Go.WideShapes Go.ChangeAt Go.RowKit
namespace Go.Proofs.YtcjindbblhcopaaGreatDoor.sounds
open Go.Proofs.Tryz
theorem aa8 (os:Os):laidMet Tryz.prog Rows.monoSoundRow.laid ((YU os).forCall (fun _ _=>0) ⟨#[],#[.slice none 0 0,.slice none 0 0,.agg #[.int .u8 0,.int .i64 0,.int .i64 0,.int .i64 0,.slice none 0 0]],[]⟩).memory:=
 laidMet_of_run' 8 (by kernel_rfl) (by kernel_rfl)
theorem aec (os:Os) {H:Type} (enc:TypeId × Value→H):∃ places,DataW.whole enc Tryz.prog ((YU os).forCall (fun _ _=>0) ⟨#[],#[.slice none 0 0,.slice none 0 0,.agg #[.int .u8 0,.int .i64 0,.int .i64 0,.int .i64 0,.slice none 0 0]],[]⟩).memory Tryz.f9.params.toList Rows.monoSoundSpec.vars false [.slice none 0 0,.slice none 0 0,.agg #[.int .u8 0,.int .i64 0,.int .i64 0,.int .i64 0,.slice none 0 0]] 8=some ([.nil,.nil,.agg [.lit (.int .u8 0),.agg [.lit (.int .i64 0),.lit (.int .i64 0),.lit (.int .i64 0)],.nil]],[],places):=
 ⟨[],by kernel_rfl⟩
theorem aat (H:Type) (enc:TypeId × Value→H) (W:World) (base:Nat) (args:Array Value) (S gs:List (DataW H)) (before:List MemPlace)
  (hval:∀ (j:Nat) t v,Tryz.f9.params[j]? =some t→args[j]? =some v→Value.okWide Tryz.prog W .any base t v)
  (hW:DataW.Whole enc Tryz.prog Tryz.f9.params.toList Rows.monoSoundSpec.vars false W args.toList S gs before) (hL:laidMetH Tryz.prog Rows.monoSoundRow.laid W):
  Calls Tryz.prog 9 args W fun e W'=> ∃ v,e= .returned v∧Rows.monoSoundSpec.post enc Tryz.prog Tryz.f9 false true false false W args v W':=by
 have o:=hW;obtain ⟨pp,qq,f,hV,rfl,hfz,hnd⟩:=hW;have K:DataW.TrodAll enc Tryz.prog W 0 (fun _=>true) true Tryz.f9.params.toList args.toList S pp:=f;obtain ⟨al⟩:=args;simp only at K o hval ⊢;rw [Tryz.params9] at K hval;obtain ⟨v0,vs0,d0,Y,p0,q0,rfl,rfl,rfl,h0,f⟩:=trodAll_cons K;obtain ⟨v1,vs1,d1,Z,p1,l,rfl,rfl,rfl,h1,M⟩:=trodAll_cons f;obtain ⟨v2,vs2,d2,U,p2,p,rfl,rfl,rfl,y,z⟩:=trodAll_cons M;obtain ⟨rfl,rfl,rfl⟩:=trodAll_nil z;obtain ⟨rfl,rfl⟩:=trodVars_none hV;obtain ⟨L0,f0,w⟩:=abY (t:=22) (e:=3) (n:=4) (ks:= [.int .i64]) (by kernel_rfl) (by kernel_rfl) (by kernel_rfl) (hval 0 22 v0 rfl rfl) h0;obtain ⟨I,e0,n0⟩:=YR (fun a:Int=> [AV.int .i64 a]) (L:=L0) (fun x g=>aj_ (f0 x g));rw [e0,n0,aej] at w;obtain ⟨L1,f1,r⟩:=abY (t:=23) (e:=51) (n:=4) (ks:= [.int .i64,.int .i64,.int .i64]) (by kernel_rfl) (by kernel_rfl) (by kernel_rfl) (hval 1 23 v1 rfl rfl) h1;obtain ⟨ts,e1,n1⟩:=YR (fun q:Int × Int × Int=> [AV.int .i64 q.1,.int .i64 q.2.1,.int .i64 q.2.2]) (L:=L1) (fun x g=>aky (f1 x g));rw [e1,n1] at r;have s:=hval 2 61 v2 rfl rfl;have c:Tryz.prog.underlying 61=some (.struct #[{name:= "Which",type:=5,offset:=0,embedded:=false,tag:= "",pkgPath:= "",byteOffset:=0},{name:= "Other",type:=51,offset:=1,embedded:=false,tag:= "",pkgPath:= "",byteOffset:=8},{name:= "Schedules",type:=23,offset:=4,embedded:=false,tag:= "",pkgPath:= "",byteOffset:=32}]):=by kernel_rfl
 obtain ⟨G,rfl,C⟩:=okWide_struct c s;obtain ⟨fuel2,y⟩:=y;obtain ⟨y0,y1,Q,m2,_,T,N,P,R⟩:=Go.Deep.trod_struct3 c y;obtain ⟨cl⟩:=G;have J:cl.length=5:=C.trans (show Tryz.prog.cellsOf 61=5 by kernel_rfl)
 match cl,J with
 | [u0,u1,u2,u3,u4],_=>
 rw [show Tryz.prog.cellsOf 5=1 by kernel_rfl] at N;rw [show Tryz.prog.cellsOf 51=3 by kernel_rfl] at P;rw [show Tryz.prog.cellsOf 23=1 by kernel_rfl] at R;have D:dJ [.int .u8] [u0]:=Kl 4 5 _ (by kernel_rfl) _ _ _ N;have d:dJ [.int .i64,.int .i64,.int .i64] [u1,u2,u3]:=Kl 4 51 _ (by kernel_rfl) _ _ _ P;rcases D with _|@⟨_,b,_,_,D⟩|_|_;cases D;rcases d with _|@⟨_,q0,_,_,d⟩|_|_;rcases d with _|@⟨_,l,_,_,d⟩|_|_;rcases d with _|@⟨_,p,_,_,d⟩|_|_;cases d;have O:0≤b∧b<256:=by
  obtain ⟨n,A,_,B⟩:=DataW.trod_int (k:= .u8) (show Tryz.prog.underlying 5=some (.int .u8) by kernel_rfl) N;have A:[Value.int .u8 b]= [.int .u8 n]:=A;cases A;have h:=Bool.and_eq_true _ _ ▸ B;have y:=of_decide_eq_true h.2;have e8:IntKind.u8.max=255:=rfl;exact ⟨of_decide_eq_true h.1,by omega⟩
 have hs:=YW (u:=23) (e:=51) (by kernel_rfl) (UL (ts:= [5,3,3,3,23]) (u:=23) (.inl ⟨_,c⟩) (by kernel_rfl) s (i:=4) (v:=u4) rfl rfl);have E:DataW.Trod enc Tryz.prog W 0 (fun _=>true) true 23 u4 Q.1 Q.2:=by
  refine ⟨m2, ?_⟩;have hz:=UU (e:=51) (by kernel_rfl) hs;rw [hz];exact R
 obtain ⟨L2,V,m⟩:=abY (t:=23) (e:=51) (n:=4) (ks:= [.int .i64,.int .i64,.int .i64]) (by kernel_rfl) (by kernel_rfl) (by kernel_rfl) hs E;obtain ⟨F,X,n2⟩:=YR (fun q:Int × Int × Int=> [AV.int .i64 q.1,.int .i64 q.2.1,.int .i64 q.2.2]) (L:=L2) (fun x g=>aky (V x g));rw [X,n2] at m;have hv:bZ (lZ W) [.sl (iL I) I.length false,.sl (tL ts) ts.length false,.agg [.int .u8 b,.int .i64 q0,.int .i64 l,.int .i64 p,.sl (tL F) F.length false]] [v0,v1,.agg #[.int .u8 b,.int .i64 q0,.int .i64 l,.int .i64 p,u4]]:=by
  simp only [bZ,and_true];refine ⟨w,r, ?_⟩;simp only [PR];exact ⟨[.int .u8 b,.int .i64 q0,.int .i64 l,.int .i64 p,u4],rfl,by
   rw [bZ,bZ,bZ,bZ,bZ,bZ];exact ⟨by rw [PR],by rw [PR],by rw [PR],by rw [PR],m,trivial⟩⟩
 refine (VC (adq I ts F false false false b q0 l p O) (aap hL) hv).mono fun e W' ⟨he,O⟩=> ?_
 subst he;exact ⟨_,rfl,aa9 aeq (by kernel_rfl) o rfl (tb:=4) rfl (by kernel_rfl) rfl O⟩
theorem ab4 (os:Os) (started:os.Started) (H:Type) (enc:TypeId × Value→H) (F:Stop.Interp):
  ReturnsInHanded {} Tryz.checked os 9 .any ((OpenSpec.ofChange Rows.monoSoundSpec).preRow enc Tryz.prog Tryz.f9 Rows.monoSoundRow.domain false Rows.monoSoundRow.laid) (((OpenSpec.ofChange Rows.monoSoundSpec).at F).post enc Tryz.prog Tryz.f9 false true false false):=by
 obtain ⟨places,g⟩:=aec os enc;refine returnsInHanded_of_row (C:=Tryz.checked) (s:=OpenSpec.ofChange Rows.monoSoundSpec) own started (by kernel_rfl) Tryz.func9
  (witness_row_at (enc:=enc) (C:=Tryz.checked) false (YU os) #[.slice none 0 0,.slice none 0 0,.agg #[.int .u8 0,.int .i64 0,.int .i64 0,.int .i64 0,.slice none 0 0]] rfl (by kernel_rfl) (by kernel_rfl) (by kernel_rfl)
   (OpenSpec.preRow_of_cond 8 g (by kernel_rfl) (fun k c=>by cases c) (by kernel_rfl) (aa8 os))) ?_
 intro W base args b d before a e _ _ _ f _ _;exact aat H enc W base args b d before a e f
theorem aed:Rows.MonoSoundSaid:=
 OpenClaim.holds_of_cond 9 Tryz.f9 rfl rfl rfl rfl rfl rfl rfl ⟨rfl,rfl,rfl,rfl,rfl⟩ rfl rfl rfl rfl rfl (by kernel_rfl) Tryz.func9 (by kernel_rfl)
  (of_decide_eq_true (by kernel_rfl)) (by unfold Func.isWrapper;first|(rw [if_pos (by decide+kernel)];kernel_rfl)|(rw [if_neg (by decide+kernel)];exact ⟨rfl,rfl⟩))
  (fun os started H enc _ F=>by rw [OpenClaim.pre_eq_preRow];exact ab4 os started H enc F)
theorem ad0 (f:FuncId) (c:Func) (d:Tryz.pinned.checked.prog.funcNamed Rows.monoSoundRow.func=some f) (b:Tryz.pinned.checked.prog.funcs[f]? =some c):
  false=Tryz.pinned.checked.prog.looks []∧∀ (j:Nat) t,c.params[j]? =some t→Tryz.pinned.checked.prog.wantsStandIn t=false:=by
 obtain rfl:f=9:=Option.some.inj ((show Tryz.prog.funcNamed Rows.monoSoundRow.func=some 9 by kernel_rfl).symm.trans d)|>.symm
 obtain rfl:c=Tryz.f9:=(Option.some.inj (Tryz.func9.symm.trans b)).symm;refine ⟨by kernel_rfl,fun j t e=> ?_⟩;have a:Tryz.f9.params.toList.all (fun t=> !Tryz.prog.wantsStandIn t)=true:=by kernel_rfl
 have:=List.all_eq_true.1 a t (by simpa using Array.mem_of_getElem? e);show Tryz.prog.wantsStandIn t=false;simpa using this
theorem card:Rows.MonoSoundCardSaid:=
 Claim7.holds_tied_plain_at .later [] _ _ _ _ aed (fun _ h=>by cases h) (by kernel_rfl) (fun _ h=>by cases h) monoSound_row_tie rfl ⟨rfl,rfl⟩ (by kernel_rfl) rfl ad0 (by kernel_rfl)
end Go.Proofs.YtcjindbblhcopaaGreatDoor.sounds
