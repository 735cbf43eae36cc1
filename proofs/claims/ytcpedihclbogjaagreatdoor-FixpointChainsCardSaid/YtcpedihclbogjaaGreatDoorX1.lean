/- The law FixpointChains returns true for every input: chains begin with zeros, rise, and are not longer than the caps have steps. No conditions beyond the given row's. -/
import Derived.Test.YtcpedihclbogjaaGreatDoorC4
set_option linter.unusedSimpArgs false
set_option linter.unusedVariables false
set_option maxRecDepth 100000
set_option linter.unusedVariables false
open Go AM
open IntKind renaming wrap->γ
open Nat renaming le_refl->κ
open List renaming drop->ε,getElem?_eq_getElem->μ,mem_of_getElem?->Xqm
open Int renaming toNat->δ
namespace Go.Proofs.Tryz
theorem w1s {s u:Nat} (hs:s<2^60) (a:u<2^60):AV.int .i64 (γ .i64 ((s:Int)+(u:Int)))= .int .i64 ((s+u:Nat):Int):=by
 rw [show (s:Int)+(u:Int)=((s+u:Nat):Int) by omega,bF (by omega)]
theorem aeS {k:Nat} (h:k<2^62):AV.int .i64 (γ .i64 (((k+1:Nat):Int) - ((1:Nat):Int)))= .int .i64 (k:Int):=by
 rw [show ((k+1:Nat):Int) - ((1:Nat):Int)=(k:Int) by omega,bF (by omega)]
theorem agj {k:Nat} (a:1<=k) (h:k<2^62):AV.int .i64 (γ .i64 ((k:Int) - ((1:Nat):Int)))= .int .i64 ((k - 1:Nat):Int):=by
 rw [show (k:Int) - ((1:Nat):Int)=((k - 1:Nat):Int) by omega,bF (by omega)]
def ad6 (f0 f1 f2:Int) (es:List a_) (ss:List (List Lk)) (v:List Rw) (c:List (List Rw)) (p:Nat × Nat):St:=(aqC (.sl (dF v) v.length false) (.sl (vw c) c.length false) p.2 p.1 [.int .i64 f0,.int .i64 f1,.int .i64 f2] [.sl (bV es) es.length false,.sl (eF ss) ss.length false,.sl [] 0 false])
def afx (f0 f1 f2:Int) (es:List a_) (ss:List (List Lk)) (v:List Rw) (c:List (List Rw)) (s:Nat):St:=(aqD (.sl (dF v) v.length false) (.sl (vw c) c.length false) s [.int .i64 f0,.int .i64 f1,.int .i64 f2] [.sl (bV es) es.length false,.sl (eF ss) ss.length false,.sl [] 0 false])
theorem abT:∀ {a b:List a_},JR (a++b)=JR a+JR b
 | [],b=>(Nat.zero_add _).symm
 |x::a,b=>by
  show (aV x.cp x.st).toNat+JR (a++b)=(aV x.cp x.st).toNat+JR a+JR b;rw [abT (a:=a) (b:=b)];omega
theorem acT (g j i:Int) (es:List a_) (ss:List (List Lk)) (v:List Rw) (c:List (List Rw)) (z:∀ x ∈ es,x.sm) (d:∀ x ∈ es,qJ x) (A:es.length<2^39) {nt:Nat} (w:144<=nt):∀ (r p:List a_),es=p++r->aF prog ap [] nt (af 0 (ax f8)) (λ_=> .exit 0) (ad6 g j i es ss v c) (afx g j i es ss v c) (p.length,1+JR p) (1+JR es):=by
 intro r
 induction r with
 |nil=>
  intro p hp;rw [List.append_nil] at hp;rw [<- hp];refine .done ?_;have b:es.length<=es.length:=κ _;generalize 1+JR es=s;generalize m:es.length=k at b;show ak prog ap [] nt _ (aqC (.sl (dF v) v.length false) (.sl (vw c) c.length false) s k [.int .i64 g,.int .i64 j,.int .i64 i] [.sl (bV es) es.length false,.sl (eF ss) ss.length false,.sl [] 0 false]) _ _;rw [m];exact pN 8 [] 1 0 (.c (az (xG b)) (.n 1 .nil)) (.nil) w
 | cons x r ih=>
  intro p hp;have h:=ih (p++ [x]) (by rw [hp];simp);rw [List.length_append,List.length_singleton,abT] at h;have e:x ∈ es:=by rw [hp];simp
  have D:ε ((δ (p.length:Int))*14) (bV es)=ZL x++bV r:=fD DD hp;have b:p.length<es.length:=by rw [hp];simp
  have m:p.length<2^62:=by omega
  have q:=(d x e).1;have f:=(nG q).2.2.2;have o:=(oW (a:=x.cp) (s:=x.st) (Int.le_of_lt f)).2.2.1;have C:=RF (es:=p) λy B=>(d y (by rw [hp];simp [B])).1
  have t:=Y5 x (d x e).sti (d x e).cti q;obtain ⟨u,l⟩:∃ u:Nat,aV x.cp x.st=(u:Int):=⟨(aV x.cp x.st).toNat,by omega⟩
  have n:JR [x]=u:=by
   show (aV x.cp x.st).toNat+0=u;rw [l];omega
  rw [n,<- Nat.add_assoc] at h;rw [l] at t;have hs:1+JR p<2^60:=by omega
  have l:u<2^60:=by omega
  refine .next ?_ h
  show ak prog ap [] nt _ (ad6 g j i es ss v c (p.length,1+JR p)) .normal (ad6 g j i es ss v c (p.length+1,1+JR p+u));generalize 1+JR p=s at*
  generalize p.length=k at*
  exact pN 8 [] 1 1 (.k 12 (pU k) (.c (aY b) (.k 1 (aA (aY b)) (.n 1 .nil)))) (.v 41 (.eq (pO m)) (.v 54 (.eq (w1s hs l)) (.c t (.v 46 (.ppt D) .nil)))) w
def agm (f0 f1 f2:Int) (es:List a_) (ss:List (List Lk)) (v:List Rw) (c:List (List Rw)) (k:Nat):St:=⟨[(3,.ptr 0 0 0),(5,.bool true),(6,.ptr 1 0 0),(7,.sl (dF v) v.length false),(8,.sl (vw c) c.length false),(14,.int .i64 ((k+1:Nat):Int))],[(0,⟨[.int .i64 f0,.int .i64 f1,.int .i64 f2],0,false,0,0,true⟩),(1,⟨[.sl (bV es) es.length false,.sl (eF ss) ss.length false,.sl [] 0 false],0,false,0,0,true⟩)],.dead,[]⟩
def afZ (f0 f1 f2:Int) (es:List a_) (ss:List (List Lk)) (v:List Rw) (c:List (List Rw)) (_:Nat):St:=(aqE (.sl (dF v) v.length false) (.sl (vw c) c.length false) [.int .i64 f0,.int .i64 f1,.int .i64 f2] [.sl (bV es) es.length false,.sl (eF ss) ss.length false,.sl [] 0 false])
theorem aas {c:List (List Rw)} {k:Nat} {x:List Rw} (h:c[k]? =some x):ε ((δ (k:Int))*1) (vw c)= [fZ x]++vw (c.drop (k+1)):=by
 obtain ⟨b,rfl⟩:=List.getElem?_eq_some_iff.1 h;have a:=fD ch1 (p:=c.take k) (x:=c[k]) (r:=c.drop (k+1)) (l:=c) (by simp);rw [List.length_take,Nat.min_eq_left (Nat.le_of_lt b)] at a;exact a
structure ChK (es:List a_) (ss:List (List Lk)) (c:List (List Rw)):Prop where
 sm:lZ es ss
 vs:∀ x ∈ c,∀ y ∈ x,y.ti
 vl:∀ x ∈ c,x.length<2^40
 len:c.length<2^40
 st:∀ k x y,c[k]? =some x->c[k+1]? =some y->kz ss es x= .inr y/\x ≠ y/\leB x y=true
theorem acU (s u t:Int) (es:List a_) (ss:List (List Lk)) (v:List Rw) (c:List (List Rw)) (h:ChK es ss c) {nt:Nat} (z:144<=nt):∀ (d k:Nat),k+1+d=c.length->aF prog ap [] nt (af 2 (ax f8)) (λ_=> .exit 2) (agm s u t es ss v c) (afZ s u t es ss v c) k 0:=by
 intro d
 induction d with
 |zero=>
  intro k hd;have a:c.length<=k+1:=by omega
  exact .done (pN 8 [] 1 0 (.c (az (xG a)) .nil) (.nil) z)
 |succ d ih=>
  intro k hd;have w:=h.len;have e:k<c.length:=by omega
  have a:k+1<c.length:=by omega
  have r:k<2^62:=by omega
  have p:k+1<2^62:=by omega
  obtain ⟨x,g⟩:∃ x,c[k]? =some x:=⟨_,μ e⟩
  obtain ⟨y,f⟩:∃ y,c[k+1]? =some y:=⟨_,μ a⟩
  have q:=aas g;have l:=aas f;have b:=Xqm g;have m:=Xqm f;obtain ⟨s1,C,B⟩:=h.st k x y g f;have o:∀ y ∈ x,y.sm:=λy l=>(h.vs x b y l).sm
  have A:=YO es ss x false false false h.sm.len h.sm.sm o h.sm.ls λi _=>h.sm.env o i
  rw [s1] at A;have j:=Ji y y false false (h.vl y m);rw [decide_eq_true rfl] at j;have n:=Ji x y false false (h.vl x b);rw [decide_eq_false C] at n;have cl:=aoT x y false false (h.vl x b) (h.vs x b) (h.vs y m);rw [B] at cl;refine .next ?_ (ih (k+1) (by omega))
  exact pN 8 [] 5 1 (.k 2 (pU (k+1)) (.c (aY a) (.k 1 (pU k) (.c (aY e) (.k 2 (pU (k+1)) (.c (aY a) (.k 1 (pU k) (.c (aY e) (.k 2 (pU (k+1)) (.c (aY a) (.k 2 (pU k) (.c (aY e) (.k 3 (aA (aY a)) .nil))))))))))))) (.v 89 (.eq (pO p)) (.c n (.v 132 (.ppt l) (.v 128 (.ppt q) (.v 127 (.eq (aeS r)) (.c cl (.v 119 (.ppt l) (.v 115 (.ppt q) (.v 114 (.eq (aeS r)) (.c j (.v 106 (.ppt l) (.c A (.v 95 (.ppt q) (.v 94 (.eq (aeS r)) .nil)))))))))))))) z
theorem acV (l:List (List Int)) (h:Bool) (a e d:Int) (es:List a_) (ss:List (List Lk)) (v:List Rw) (c:List (List Rw)) (q nz:Nat) (n z:List Rw) (i o:List AV) (j:ε 0 (vw c)= [fZ n]++i) (f:ε ((δ (((c.length - 1):Nat):Int))*1) (vw c)= [fZ v]++o) (b:1<=c.length) (g:c.length<2^62) (k:c.length - 1<c.length) (w:c.length<=q) (cs:CO 10 [] (.ret (.bool true))) (r:CO 11 [.sl (jC l) l.length h,.agg [.int .i64 a,.int .i64 e,.int .i64 d]] (.ret (.agg [.sl (bV es) es.length false,.sl (eF ss) ss.length false,.sl [] 0 false]))) (t:CO 23 [.agg [.sl (bV es) es.length false,.sl (eF ss) ss.length false,.sl [] 0 false]] (.ret (.tup [.sl (dF v) v.length false,.sl (vw c) c.length false,.int .i64 0]))) (u:CO 20 [.agg [.sl (bV es) es.length false,.sl (eF ss) ss.length false,.sl [] 0 false]] (.ret (.own (dF z) nz 3))) (ce0:CO 17 [.sl (dF n) n.length false,.sl (List.take (nz*3) (dF z)) nz true] (.ret (.bool true))) (m:CO 17 [.sl (dF v) v.length false,.sl (dF v) v.length false] (.ret (.bool true))) (s:CO 19 [.agg [.sl (bV es) es.length false,.sl (eF ss) ss.length false,.sl [] 0 false],.sl (dF v) v.length false,.sl (vw c) c.length false] (.ret (.int .i64 0))) (x:LB 144 0 f8 (aqF (.sl (jC l) l.length h) (.agg [.int .i64 a,.int .i64 e,.int .i64 d]) (.bool false) (.sl (dF v) v.length false) (.sl (vw c) c.length false) (.int .i64 0) 1 (.int .i64 0) (.dead) (.bool false) (.dead) [.int .i64 a,.int .i64 e,.int .i64 d] [.sl (bV es) es.length false,.sl (eF ss) ss.length false,.sl [] 0 false]) (.normal) (aqD (.sl (dF v) v.length false) (.sl (vw c) c.length false) q [.int .i64 a,.int .i64 e,.int .i64 d] [.sl (bV es) es.length false,.sl (eF ss) ss.length false,.sl [] 0 false])) (p:LB 144 2 f8 (aqF (.dead) (.dead) (.dead) (.sl (dF v) v.length false) (.sl (vw c) c.length false) (.dead) (q:Int) (.dead) (.int .i64 1) (.dead) (.bool false) [.int .i64 a,.int .i64 e,.int .i64 d] [.sl (bV es) es.length false,.sl (eF ss) ss.length false,.sl [] 0 false]) (.normal) (aqE (.sl (dF v) v.length false) (.sl (vw c) c.length false) [.int .i64 a,.int .i64 e,.int .i64 d] [.sl (bV es) es.length false,.sl (eF ss) ss.length false,.sl [] 0 false])):CO 8 [.sl (jC l) l.length h,.agg [.int .i64 a,.int .i64 e,.int .i64 d]] (.ret (.bool true)):=pK [0,2] 6 32 (.k 6 (pU (c.length - 1)) (.c (aY k) (.k 6 (aY b) (.c (az (xG w)) (.c (az (xG b)) (.n 8 .nil)))))) (.c s (.l p (.c m (.v 78 (.ppt f) (.v 77 (.eq (agj b g)) (.c ce0 (.c u (.v 66 (.ppt j) (.l x (.c t (.c r (.c cs .nil))))))))))))
theorem ad9 (l:List (List Int)) (a:Bool) (c b d:Int) (es:List a_) (ss:List (List Lk)) (e:Int) (g:(e==((0:Nat):Int))=false) (cs:CO 10 [] (.ret (.bool true))) (h:CO 11 [.sl (jC l) l.length a,.agg [.int .i64 c,.int .i64 b,.int .i64 d]] (.ret (.agg [.sl (bV es) es.length false,.sl (eF ss) ss.length false,.sl [] 0 false]))) (f:CO 23 [.agg [.sl (bV es) es.length false,.sl (eF ss) ss.length false,.sl [] 0 false]] (.ret (.tup [.nilS,.nilS,.int .i64 e]))):CO 8 [.sl (jC l) l.length a,.agg [.int .i64 c,.int .i64 b,.int .i64 d]] (.ret (.bool true)):=pK [0,2] 2 3 (.k 1 (dC g) (.n 7 .nil)) (.c f (.c h (.c cs .nil)))
theorem abU (cs:CO 10 [] (.ret (.bool true))) (l:List (List Int)) (s:Bool) (h j i:Int):CO 8 [.sl (jC l) l.length s,.agg [.int .i64 h,.int .i64 j,.int .i64 i]] (.ret (.bool true)):=by
 obtain ⟨es,ss,b,d,O,M,D⟩:=akl l s h j i;rcases alQ b with ⟨e,K,q⟩|⟨c,v,h0,t,o,hlast,H,P,N,q⟩
 .exact ad9 l s h j i es ss e (beq_eq_false_iff_ne.2 K) cs D (OJ es ss false false b q)
 .have F:=OJ es ss false false b q;rw [Ir,hlast,Option.getD_some] at F;obtain ⟨L,p,B,w⟩:=ako b h0 t o;have G:=RF (es:=es) λx m=>(d x m).1
  have g:∀ x ∈ c,x.length<2^40:=λx m=>by have:=(p x m).1.len;omega
  have I:ChK es ss c:=⟨b,λx m=>Qn d (p x m).1,g,by omega,w⟩
  have C:es ≠ []:=(Dx h0 b.sm).2.1;have z:1<=c.length:=by
   cases c with
   |nil=>cases hlast
   |cons a r=>simp
  have f:(tX es).length=es.length:=by simp [tX]
  have ce0:=Ji (tX es) (tX es) false true (by rw [f];omega);rw [decide_eq_true rfl] at ce0;have n:=Ji v v false false (g v (List.mem_of_getLast? hlast));rw [decide_eq_true rfl] at n;have E:=Dq es ss false false false false b v c (by omega) g q;have J:aht ss.length es (.inr c) v c=0:=by
   unfold aht;rw [if_neg (by rw [h0];simp)];exact if_pos ⟨rfl,hlast⟩
  rw [J] at E;have A:=aas (c:=c) (k:=0) (x:=tX es) (by rw [<- List.head?_eq_getElem?];exact B);have u:=aas (c:=c) (k:=c.length - 1) (x:=v) (by rw [<- List.getLast?_eq_getElem?];exact hlast);exact acV l s h j i es ss v c (1+JR es) es.length (tX es) (tX es) _ _ A u z (by omega) (by omega) (by omega) cs D F (acQ es ss false false b.len C)
   (by rw [List.take_of_length_le (by rw [jc,f];exact κ _)];rw [f] at ce0 ⊢;exact ce0) n E
   (aF.blk (λnt y=>acT h j i es ss v c b.sm d b.len y es [] rfl) (by simp) rfl (aK.of (by simp only [UL];exact ⟨rfl,rfl,rfl,rfl,rfl,rfl,rfl,trivial⟩)) (aK.refl _))
   (aF.blk (λnt y=>acU h j i es ss v c I y (c.length - 1) 0 (by omega)) (by simp) rfl (aK.of (by simp only [UL];exact ⟨rfl,rfl,rfl,rfl,rfl,rfl,trivial⟩)) (aK.refl _))
end Go.Proofs.Tryz
set_option maxRecDepth 100000
open Go AM Go.ChangeShapes Go.WideShapes Go.ChangeAt Go.RowKit
namespace Go.Proofs.YtcpedihclbogjaaGreatDoor.chains
open Go.Proofs.Tryz
theorem acS (os:Os):laidMet Tryz.prog Rows.fixpointChainsRow.laid ((akj os).forCall (λ_ _=>0) ⟨#[],#[.slice none 0 0,.agg #[.int .i64 0,.int .i64 0,.int .i64 0]],[]⟩).memory:=
 laidMet_of_run' 8 (by kernel_rfl) (by kernel_rfl)
theorem af7 (os:Os) {H:Type} (enc:TypeId × Value->H):∃ places,DataW.whole enc Tryz.prog ((akj os).forCall (λ_ _=>0) ⟨#[],#[.slice none 0 0,.agg #[.int .i64 0,.int .i64 0,.int .i64 0]],[]⟩).memory Tryz.f8.params.toList Rows.fixpointChainsSpec.vars false [.slice none 0 0,.agg #[.int .i64 0,.int .i64 0,.int .i64 0]] 8=some ([.nil,.agg [.lit (.int .i64 0),.lit (.int .i64 0),.lit (.int .i64 0)]],[],places):=
 ⟨[],by kernel_rfl⟩
theorem acx (H:Type) (enc:TypeId × Value->H) (W:World) (base:Nat) (args:Array Value) (k m:List (DataW H)) (before:List MemPlace)
  (hval:∀ (j:Nat) t v,Tryz.f8.params[j]? =some t->args[j]? =some v->Value.okWide Tryz.prog W .any base t v)
  (hW:DataW.Whole enc Tryz.prog Tryz.f8.params.toList Rows.fixpointChainsSpec.vars false W args.toList k m before) (hL:laidMetH Tryz.prog Rows.fixpointChainsRow.laid W):
  Calls Tryz.prog 8 args W λe W'=> ∃ v,e= .returned v/\Rows.fixpointChainsSpec.post enc Tryz.prog Tryz.f8 false true false false W args v W':=by
 have b:=hW;obtain ⟨pp,C,a,u,rfl,o,q⟩:=hW;have h:DataW.TrodAll enc Tryz.prog W 0 (λ_=>true) true Tryz.f8.params.toList args.toList k pp:=a;obtain ⟨B⟩:=args;simp only at h b hval ⊢;rw [Tryz.params8] at h hval;obtain ⟨v0,x,E,n,A,q0,rfl,rfl,rfl,h0,a⟩:=trodAll_cons h;obtain ⟨v1,r,D,s,z,y,rfl,rfl,rfl,w,g⟩:=trodAll_cons a;obtain ⟨rfl,rfl,rfl⟩:=trodAll_nil g;obtain ⟨rfl,rfl⟩:=trodVars_none u;obtain ⟨l,i⟩:=aoX (hval 0 22 v0 rfl rfl) h0;obtain ⟨c,f,d,rfl⟩:=aoW (hval 1 23 v1 rfl rfl) w;have p:bT (jT W) [.sl (jC l) l.length false,.agg [.int .i64 c,.int .i64 f,.int .i64 d]] [v0,.agg #[.int .i64 c,.int .i64 f,.int .i64 d]]:=by
  simp only [bT,and_true];exact ⟨i,(by simp only [PR];exact ⟨[.int .i64 c,.int .i64 f,.int .i64 d],rfl,by simp [bT,PR]⟩)⟩
 refine (ahN (abU akp l false c f d) (alI hL) p).mono λe W' ⟨he,hb⟩=> ?_
 subst he;exact ⟨_,rfl,alP aoS (by kernel_rfl) b rfl (tb:=4) rfl (by kernel_rfl) rfl hb⟩
theorem aeR (os:Os) (started:os.Started) (H:Type) (enc:TypeId × Value->H) (F:Stop.Interp):
  ReturnsInHanded {} Tryz.checked os 8 .any ((OpenSpec.ofChange Rows.fixpointChainsSpec).preRow enc Tryz.prog Tryz.f8 Rows.fixpointChainsRow.domain false Rows.fixpointChainsRow.laid) (((OpenSpec.ofChange Rows.fixpointChainsSpec).at F).post enc Tryz.prog Tryz.f8 false true false false):=by
 obtain ⟨places,d⟩:=af7 os enc;refine returnsInHanded_of_row (C:=Tryz.checked) (s:=OpenSpec.ofChange Rows.fixpointChainsSpec) own started (by kernel_rfl) Tryz.func8
  (witness_row_at (enc:=enc) (C:=Tryz.checked) false (akj os) #[.slice none 0 0,.agg #[.int .i64 0,.int .i64 0,.int .i64 0]] rfl (by kernel_rfl) (by kernel_rfl) (by kernel_rfl)
   (OpenSpec.preRow_of_cond 8 d (by kernel_rfl) (λk e=>by cases e) (by kernel_rfl) (acS os))) ?_
 intro W base args g b before a f _ _ _ c _ _;exact acx H enc W base args g b before a f c
theorem agx:Rows.FixpointChainsSaid:=
 OpenClaim.holds_of_cond 8 Tryz.f8 rfl rfl rfl rfl rfl rfl rfl ⟨rfl,rfl,rfl,rfl,rfl⟩ rfl rfl rfl rfl rfl (by kernel_rfl) Tryz.func8 (by kernel_rfl)
  (of_decide_eq_true (by kernel_rfl)) (by unfold Func.isWrapper;first|(rw [if_pos (by decide+kernel)];kernel_rfl)|(rw [if_neg (by decide+kernel)];exact ⟨rfl,rfl⟩))
  (λos started H enc _ F=>by rw [OpenClaim.pre_eq_preRow];exact aeR os started H enc F)
theorem af6 (f:FuncId) (fn:Func) (d:Tryz.pinned.checked.prog.funcNamed Rows.fixpointChainsRow.func=some f) (b:Tryz.pinned.checked.prog.funcs[f]? =some fn):
  false=Tryz.pinned.checked.prog.looks []/\∀ (j:Nat) t,fn.params[j]? =some t->Tryz.pinned.checked.prog.wantsStandIn t=false:=by
 obtain rfl:f=8:=Option.some.inj ((show Tryz.prog.funcNamed Rows.fixpointChainsRow.func=some 8 by kernel_rfl).symm.trans d)|>.symm
 obtain rfl:fn=Tryz.f8:=(Option.some.inj (Tryz.func8.symm.trans b)).symm;refine ⟨by kernel_rfl,λj t c=> ?_⟩;have a:Tryz.f8.params.toList.all (λt=> !Tryz.prog.wantsStandIn t)=true:=by kernel_rfl
 have:=List.all_eq_true.1 a t (by simpa using Array.mem_of_getElem? c);show Tryz.prog.wantsStandIn t=false;simpa using this
theorem card:Rows.FixpointChainsCardSaid:=
 Claim7.holds_tied_plain_at .later [] _ _ _ _ agx (λ_ h=>by cases h) (by kernel_rfl) (λ_ h=>by cases h) fixpointChains_row_tie rfl ⟨rfl,rfl⟩ (by kernel_rfl) rfl af6 (by kernel_rfl)
end Go.Proofs.YtcpedihclbogjaaGreatDoor.chains
