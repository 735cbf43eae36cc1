/- The law CheckParts returns true for every input: no conditions beyond the given row. -/
import Derived.Test.YtpjkeigmiooooaaGreatDoorC3
set_option linter.unusedSimpArgs false
set_option linter.unusedVariables false
set_option maxRecDepth 100000
open Go AM
namespace Go.Proofs.Tryz
def UR (ll:List (List Nat)) (i:Nat):St:=⟨[(0,.sl (aM ll) ll.length true),(1,.int .i64 (i:Int))],[],.dead,[]⟩
def UI (i:Nat):St:=⟨[(1,.int .i64 (i:Int))],[],.dead,[]⟩
theorem UH {ll:List (List Nat)} {i:Nat} {a:List Nat} (h:ll[i]? =some a):i<ll.length∧(List.drop ((Int.toNat (i:Int))*1) (aM ll))= [tE a]++aM (ll.drop (i+1)):=by
 obtain ⟨hi,rfl⟩:=List.getElem?_eq_some_iff.1 h
 refine ⟨hi, ?_⟩
 rw [aD,Nat.mul_one]
 unfold aM
 rw [← List.map_drop,List.drop_eq_getElem_cons hi];rfl
theorem UV (c:Nat) (q:List Nat):AV.int .i64 (AV.toInt (List.headD (aj (c::q)) .dead))= .int .i64 (c:Int):=rfl
theorem UJ {nt:Nat} (hn:18≤nt) (ll:List (List Nat)) {i b:Nat} (h:I_ ll i b):aA prog ap [] nt (ac 0 (ae f31)) (fun _=> .exit 0) (UR ll) UI i b:=by
 induction h with
 |@z i h=>
  obtain ⟨hi,hd⟩:=UH h
  generalize aM (ll.drop (i+1))=ra at hd
  have h0:decide (((0:Nat):Int)≤(i:Int))=true:=decide_eq_true (by omega)
  have h1:decide ((i:Int)<(ll.length:Int))=true:=decide_eq_true (by omega)
  exact .done (pN 31 [] 1 0 (.k 2 h0 (.c h1 .nil)) (.v 7 (.ppt hd) .nil) hn)
 |@s i c b q h _ _ ih=>
  obtain ⟨hi,hd⟩:=UH h
  generalize aM (ll.drop (i+1))=ra at hd
  have h0:decide (((0:Nat):Int)≤(i:Int))=true:=decide_eq_true (by omega)
  have h1:decide ((i:Int)<(ll.length:Int))=true:=decide_eq_true (by omega)
  have h2:decide (((0:Nat):Int)<(((c::q).length:Nat):Int))=true:=decide_eq_true (by rw [List.length_cons];omega)
  exact .next (pN 31 [] 1 1 (.c rfl (.k 1 h2 (.k 1 h0 (.c h1 (.c (aQ h2) (.k 1 h0 (.c h1 .nil))))))) (.v 16 (.eq (UV c q)) (.v 13 (.ppt hd) (.v 7 (.ppt hd) .nil))) hn) ih
theorem UK (ll:List (List Nat)) {i b:Nat} (h:I_ ll i b):CO 31 [.sl (aM ll) ll.length true,.int .i64 (i:Int)] (.ret (.int .i64 (b:Int))):=by
 have hloop:=fun nt (hn:18≤nt)=>UJ hn ll h
 have l0:=aA.blk (id:=0) (e':= .normal) (s:=UR ll i) (s':=UI b) hloop (by simp) rfl (aF.refl _) (aF.refl _)
 have l1:aC prog ap [] 18 (.block 0 (.loop (ac 0 (ae f31)))) ⟨[(0,.sl (aM ll) ll.length true),(1,.int .i64 (i:Int)),(4,.int .i64 0),(10,.dead)],[],.dead,[]⟩ (.normal) ⟨[(1,.int .i64 (b:Int))],[],.dead,[]⟩:=fun nt hnt=>(l0 nt hnt).weak (aF.of ⟨rfl,rfl,trivial⟩) (aF.refl _)
 exact pK [0] 0 0 .nil (.l l1 .nil)
theorem UO {e:List Nd} {j:Nat} (h:j≤e.length):List.take (j*5) (aw e)=aw (e.take j):=by
 have h1:aw e=aw (e.take j)++aw (e.drop j):=by rw [← qy,List.take_append_drop]
 rw [h1,List.take_left' (by rw [aJ,List.length_take,Nat.min_eq_left h])]
theorem UN {e:List Nd} {j:Nat} (h:j≤e.length):List.drop (j*5) (aw e)=aw (e.drop j):=by
 have h1:aw e=aw (e.take j)++aw (e.drop j):=by rw [← qy,List.take_append_drop]
 rw [h1,List.drop_left' (by rw [aJ,List.length_take,Nat.min_eq_left h])]
theorem UQ (x:List Int) (nn:Bool) (q0 q1:Int):CO 8 [.sl (iL x) x.length nn,.agg [.int .i64 q0,.int .i64 q1]] (.ret (.bool true)):=by
 obtain ⟨t,ht,ck⟩:=RL q0
 have h80:(x.take 80).length<2^62:=by rw [List.length_take];omega
 obtain ⟨e,h1,h2,h3,cm⟩:=QW ht (x.take 80) nn h80
 have hne:0<e.length:=List.length_pos_iff.2 h1.ne
 obtain ⟨us,hul,hus,hp⟩:=h1.parts (by omega)
 obtain ⟨j,hj,cj⟩:=Ej q1 e.length hne (by omega)
 obtain ⟨b,hb,hg,hm⟩:=hp j hj
 have hj2:j<2^62:=by omega
 have ca:=EL e true h2 (h1.check (by omega))
 have ct:=fO aR e true true (by decide) h2
 rw [hus] at ct
 simp only [FD] at ct
 rw [hul] at ct
 rw [← xo e] at ca ct
 have cb:=UK (bE e) hg
 rw [show (bE e).length=e.length from kx e 0 []] at cb
 have hsl:e.length≤13:=h3
 have hs:(List.take (j+1 - b) (List.drop b e)).length=j+1 - b:=by rw [List.length_take,List.length_drop];omega
 have hu:(List.drop ((Int.toNat (j:Int))*3) (bf us))=bC (us.getD j zT)++bf (us.drop (j+1)):=by
  have hj3:j<us.length:=by omega
  rw [aD,List.getD_eq_getElem?_getD,List.getElem?_eq_getElem hj3,Option.getD_some]
  have h5:bf us=bf (us.take j)++bf (us.drop j):=by unfold bf;rw [← List.flatMap_append,List.take_append_drop]
  have h6:(bf (us.take j)).length=j*3:=by
   have:=eT (us.take j);rw [this,List.length_take,Nat.min_eq_left (by omega)]
  rw [h5,← h6,List.drop_left,List.drop_eq_getElem_cons hj3];rfl
 generalize bf (us.drop (j+1))=ru at hu
 have h17:CO 17 [.sl (aW aR) 12 true,.sl (List.take (((Int.toNat (((j+1):Nat):Int)) - (Int.toNat (b:Int)))*5) (List.drop ((0+(Int.toNat (b:Int)))*5) (aw e))) ((Int.toNat (((j+1):Nat):Int)) - (Int.toNat (b:Int))) true,.agg [.bool (us.getD j zT).tr,.int .i64 (us.getD j zT).m,.int .i64 (us.getD j zT).d]] (.ret (.bool true)):=by
  have:=Q0 aR _ true true (us.getD j zT) (by decide) (fun z hz=>h2 z (List.mem_of_mem_drop (List.mem_of_mem_take hz))) (hm.type (by omega))
  rw [hs,← UO (by rw [List.length_drop];omega),← UN (by omega)] at this
  rw [aD,aD,Nat.zero_add]
  exact this
 have k0:decide (((0:Nat):Int)≤(j:Int))=true:=decide_eq_true (by omega)
 have k1:decide ((j:Int)<(e.length:Int))=true:=decide_eq_true (by omega)
 have k2:decide (((0:Nat):Int)≤(b:Int))=true:=decide_eq_true (by omega)
 have k3:decide ((b:Int)≤((j+1:Nat):Int))=true:=decide_eq_true (by omega)
 have k4:decide (((j+1:Nat):Int)≤(e.length:Int))=true:=decide_eq_true (by omega)
 have k5:((e.length:Int)==(e.length:Int))=true:=beq_self_eq_true _
 exact pK [] 5 16 (.k 3 k0 (.c k1 (.c k2 (.c k3 (.c k4 (.k 4 (aG k5) (.c (aG k5) (.k 3 (Tk 80 x.length) (.c (Tl 80 x.length) (.n 3 .nil)))))))))) (.c h17 (.v 71 (.ppt hu) (.v 67 (.eq (zQ hj2)) (.c cb (.c Q9 (.c cj (.c ct (.c Q9 (.c ca (.c cm (.v 21 (.eq (Q_ 80 x nn)) (.v 20 (.eq (R0 80 x.length)) (.c ck (.c Q9 (.c LQ .nil)))))))))))))))
end Go.Proofs.Tryz
set_option maxRecDepth 100000
open Go AM Go.ChangeShapes Go.WideShapes Go.ChangeAt Go.RowKit
namespace Go.Proofs.YtpjkeigmiooooaaGreatDoor.parts
open Go.Proofs.Tryz
theorem UM (os:Os):laidMet Tryz.prog Rows.checkPartsRow.laid ((LM os).forCall (fun _ _=>0) ⟨#[],#[.slice none 0 0,.agg #[.int .i64 0,.int .i64 0]],[]⟩).memory:=
 laidMet_of_run' 8 (by kernel_rfl) (by kernel_rfl)
theorem UU (os:Os) {H:Type} (enc:TypeId × Value→H):∃ places,DataW.whole enc Tryz.prog ((LM os).forCall (fun _ _=>0) ⟨#[],#[.slice none 0 0,.agg #[.int .i64 0,.int .i64 0]],[]⟩).memory Tryz.f8.params.toList Rows.checkPartsSpec.vars false [.slice none 0 0,.agg #[.int .i64 0,.int .i64 0]] 8=some ([.nil,.agg [.lit (.int .i64 0),.lit (.int .i64 0)]],[],places):=
 ⟨[],by kernel_rfl⟩
theorem UL (H:Type) (enc:TypeId × Value→H) (W:World) (base:Nat) (args:Array Value) (ds gs:List (DataW H)) (before:List MemPlace)
  (hval:∀ (j:Nat) t v,Tryz.f8.params[j]? =some t→args[j]? =some v→Value.okWide Tryz.prog W .any base t v)
  (hW:DataW.Whole enc Tryz.prog Tryz.f8.params.toList Rows.checkPartsSpec.vars false W args.toList ds gs before) (hL:laidMetH Tryz.prog Rows.checkPartsRow.laid W):
  Calls Tryz.prog 8 args W fun e W'=> ∃ v,e= .returned v∧Rows.checkPartsSpec.post enc Tryz.prog Tryz.f8 false true false false W args v W':=by
 have hW':=hW
 obtain ⟨pp,qq,hA0,hV,rfl,hfz,hnd⟩:=hW
 have hA:DataW.TrodAll enc Tryz.prog W 0 (fun _=>true) true Tryz.f8.params.toList args.toList ds pp:=hA0
 obtain ⟨al⟩:=args
 simp only at hA hW' hval ⊢
 rw [Tryz.params8] at hA hval
 obtain ⟨v0,vs0,d0,ds0,p0,q0,rfl,rfl,rfl,h0,hA0⟩:=trodAll_cons hA
 obtain ⟨v1,vs1,d1,ds1,p1,q1,rfl,rfl,rfl,h1,hA1⟩:=trodAll_cons hA0
 obtain ⟨rfl,rfl,rfl⟩:=trodAll_nil hA1
 obtain ⟨rfl,rfl⟩:=trodVars_none hV
 obtain ⟨L0,f0,pr0⟩:=OW (t:=34) (e:=3) (n:=4) (ks:= [.int .i64]) (by kernel_rfl) (by kernel_rfl) (by kernel_rfl) (hval 0 34 v0 rfl rfl) h0
 obtain ⟨x,e0,n0⟩:=LL (fun a:Int=> [AV.int .i64 a]) (L:=L0) (fun x hx=>SZ (f0 x hx))
 rw [e0,n0,QZ] at pr0
 have g1:=LN (n:=4) (ks:= [.int .i64,.int .i64]) (by kernel_rfl) h1
 generalize hc1:v1.cells.toList=c1 at g1
 rcases g1 with _|@⟨_,q0,_,_,g1⟩|_|_
 rcases g1 with _|@⟨_,q1,_,_,g1⟩|_|_
 cases g1
 rw [FV hc1 (by simp)] at hW' ⊢
 have hv:cZ (mL W) [.sl (iL x) x.length false,.agg [.int .i64 q0,.int .i64 q1]] [v0,.agg #[.int .i64 q0,.int .i64 q1]]:=by
  simp only [cZ,and_true]
  refine ⟨pr0, ?_⟩
  simp only [PR]
  exact ⟨[.int .i64 q0,.int .i64 q1],rfl,by simp [cZ,PR]⟩
 refine (JD (UQ x false q0 q1) (NP hL) hv).mono fun e W' ⟨he,hb⟩=> ?_
 subst he
 exact ⟨_,rfl,NZ Q4 (by kernel_rfl) hW' rfl (tb:=4) rfl (by kernel_rfl) rfl hb⟩
theorem US (os:Os) (started:os.Started) (H:Type) (enc:TypeId × Value→H) (F:Stop.Interp):
  ReturnsInHanded {} Tryz.checked os 8 .any ((OpenSpec.ofChange Rows.checkPartsSpec).preRow enc Tryz.prog Tryz.f8 Rows.checkPartsRow.domain false Rows.checkPartsRow.laid) (((OpenSpec.ofChange Rows.checkPartsSpec).at F).post enc Tryz.prog Tryz.f8 false true false false):=by
 obtain ⟨places,hx⟩:=UU os enc
 refine returnsInHanded_of_row (C:=Tryz.checked) (s:=OpenSpec.ofChange Rows.checkPartsSpec) own started (by kernel_rfl) Tryz.func8
  (witness_row_at (enc:=enc) (C:=Tryz.checked) false (LM os) #[.slice none 0 0,.agg #[.int .i64 0,.int .i64 0]] rfl (by kernel_rfl) (by kernel_rfl) (by kernel_rfl)
   (OpenSpec.preRow_of_cond 8 hx (by kernel_rfl) (fun k hk=>by cases hk) (by kernel_rfl) (UM os))) ?_
 intro W base args ds gs before hval hW _ _ _ hL _ _
 exact UL H enc W base args ds gs before hval hW hL
theorem UW:Rows.CheckPartsSaid:=
 OpenClaim.holds_of_cond 8 Tryz.f8 rfl rfl rfl rfl rfl rfl rfl ⟨rfl,rfl,rfl,rfl,rfl⟩ rfl rfl rfl rfl rfl (by kernel_rfl) Tryz.func8 (by kernel_rfl)
  (of_decide_eq_true (by kernel_rfl)) (by unfold Func.isWrapper;first|(rw [if_pos (by decide+kernel)];kernel_rfl)|(rw [if_neg (by decide+kernel)];exact ⟨rfl,rfl⟩))
  (fun os started H enc _ F=>by rw [OpenClaim.pre_eq_preRow];exact US os started H enc F)
theorem UT (f:FuncId) (fn:Func) (hf:Tryz.pinned.checked.prog.funcNamed Rows.checkPartsRow.func=some f) (hfn:Tryz.pinned.checked.prog.funcs[f]? =some fn):
  true=Tryz.pinned.checked.prog.looks []∧∀ (j:Nat) t,fn.params[j]? =some t→Tryz.pinned.checked.prog.wantsStandIn t=false:=by
 obtain rfl:f=8:=Option.some.inj ((show Tryz.prog.funcNamed Rows.checkPartsRow.func=some 8 by kernel_rfl).symm.trans hf)|>.symm
 obtain rfl:fn=Tryz.f8:=(Option.some.inj (Tryz.func8.symm.trans hfn)).symm
 refine ⟨by kernel_rfl,fun j t ht=> ?_⟩
 have hall:Tryz.f8.params.toList.all (fun t=> !Tryz.prog.wantsStandIn t)=true:=by kernel_rfl
 have:=List.all_eq_true.1 hall t (by simpa using Array.mem_of_getElem? ht)
 show Tryz.prog.wantsStandIn t=false
 simpa using this
theorem card:Rows.CheckPartsCardSaid:=
 Claim7.holds_tied_plain_at .later [] _ _ _ _ UW (fun _ h=>by cases h) (by kernel_rfl) (fun _ h=>by cases h) checkParts_row_tie rfl ⟨rfl,rfl⟩ (by kernel_rfl) rfl UT (by kernel_rfl)
end Go.Proofs.YtpjkeigmiooooaaGreatDoor.parts
