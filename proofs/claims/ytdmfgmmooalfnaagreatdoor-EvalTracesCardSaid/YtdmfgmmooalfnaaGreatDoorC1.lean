/- Contracts of functions; joined by a program of mine. -/
import Derived.Test.YtdmfgmmooalfnaaGreatDoorAp
import Derived.Test.YtdmfgmmooalfnaaGreatDoorChecked
import Derived.Eval
import Derived.Test.YtdmfgmmooalfnaaGreatDoorM5
set_option linter.unusedSimpArgs false
set_option linter.unusedVariables false
open Go AM
open List renaming range->Xq7,headD->θ,drop->ε,take->κ,reverse_cons->Xz7,reverse_nil->Xw4,nil_append->Xqi,singleton_append->Xqt,dropWhile_cons->Xx8,take_append_of_le_length->Xxn,take_of_length_le->ο,getD_eq_getElem?_getD->ξ,getElem?_append_right->Xxa,eq_nil_of_length_eq_zero->Xxz,eq_nil_or_concat->Xzz,concat_eq_append->Xz0,length->ζ,getD->Xqp,foldl_cons->Xjx,length_cons->ν,ext_getElem?->Xj3,getElem?_set->Xzo,getElem?_eq_none->Xq6,length_set->Xwk,drop_eq_getElem_cons->Xxs,length_drop->Xx0,getElem?_eq_getElem->π,map_take->Xvb,map_drop->Xj9,set_eq_take_append_cons_drop->Xx2,getElem?_map->Xq5,range_succ->Xwl,map_append->Xx3,replicate_succ'->Xj8,flatten_append->Xwe,getElem?_append_left->Xxh,length_append->η,length_reverse->Xzt,dropWhile_sublist->Xzw,take_length->Xqz,map_congr_left->Xx9,map->Xvc,map_map->Xzs,all->Xzy,range_succ_eq_map->Xwr,map_cons->Xqg,mem_cons_self->Xjy,mem_cons_of_mem->Xjd,mem_of_mem_take->Xje,replicate->μ,cons_append->Xxf,length_take->Xq4,length_nil->Xqf,append_assoc->υ,length_replicate->Xx7,append_nil->Δ,headD_cons->Xjm,headD_nil->Xwz,take_succ_cons->Xja,drop_zero->Xjt,drop_succ_cons->Xwf,replicate_succ->Xxi,set_append_right->Xkf,length_tail->Xv8,length_singleton->τ,tail_cons->Xzl,tail_nil->Xv2,length_map->Xxc,dropWhile->Yqw
open IntKind renaming wrap->γ,bits->Xqk
open AV renaming toInt->Γ,int->Xxx
open Int renaming toNat->δ,tmod->Xxd,tmod_lt_of_pos->Xwj,toNat_of_nonneg->Xvd,tdiv->Xxl,tdiv_eq_ediv_of_nonneg->Xz8,tmod_eq_emod_of_nonneg->Xvm,fdiv->Xq0,fdiv_eq_ediv_of_nonneg->Xz9,natCast_nonneg->Xkw,natCast_ediv->Yqb,natCast_mul->Xve
open Nat renaming mul_one->Θ,le_refl->χ,sub_self->Xzr,sub_zero->Xjq,ble->Φ,pow_succ->Xq3,mul_comm->Xqh,mul_assoc->Xqr,add_mul->Xxt,zero_mul->Xw2,zero_add->Ψ,mul_le_mul_right->Xqw,pow_add->Xxo,add_comm->Xx1,add_mul_div_right->Xz1,two_pow_pos->Xqu,div_lt_iff_lt_mul->Xqv,pow_le_pow_right->Xqc,mod_eq_of_lt->Ξ,div_eq_of_lt->Xjb,add_mul_mod_self_right->Xvl,shiftLeft_add_eq_or_of_lt->Xw5,shiftLeft_eq->Yqa,or_comm->Yqj,pow_mul->Xjf,lt_of_le_of_lt->Xqj,ble_eq_true_of_le->Xqe,lt_of_lt_of_le->Xqa,le_total->Yxm,mod_one->Yqk,mod_lt->Xqy,one_mul->Xzu,div_div_eq_div_mul->Xx4,zero_le->Xxr,beq->Xqn,beq_refl->Xwh,div_add_mod->Xxb,min_eq_left->Xjc,mul_add->Xxe,pow_pos->Yql,mul_zero->Xjl,pow_zero->Xvo,div_one->Xz3,succ_eq_add_one->Xks,add_zero->Xq1,mul_le_mul_left->Xqx,le_trans->Xxg,mul_mod_mul_left->Xva,mul_lt_mul_of_pos_left->Xzg,add_mul_mod_self_left->Xzk,add_mul_div_left->Xwb,div_le_self->Xjn,log2->Yja,log2_eq_iff->Yqn,add_assoc->Xxu,div_pos->Xvf,eq_zero_or_pos->Xqb,le_div_iff_mul_le->Xzi,add_sub_cancel->Xwm,lt_or_ge->Xq2,mul_pos->Xjg,lt_of_mul_lt_mul_right->Xvn,lt_trans->Xq8,le_of_lt->Xw3,mul_div_mul_left->Xko,gcd->Xxy,gcd_comm->Xkg,gcd_zero_left->Xwv,gcd_le_left->Xvg,gcd_pos_of_pos_right->Xj6,ble_eq->Xzp,strongRecOn->Xkh
open BitVec renaming toNat->Xxq,ofInt->Xqm,ofInt_natCast->Xkm,toNat_ofNat->Xkv,toNat_or->Yqi
open UInt8 renaming toNat->Xqd,ofNat->Xqo
open Bool renaming false_and->Xjs,false_eq_true->Xji,not_eq_true'->Xqq,eq_iff_iff->Xxj,and_eq_true->φ,eq_false_iff->Xvw
open Function renaming comp->Xv0
namespace Go.Proofs.Tryz
abbrev ψ (n:Nat) (f:Func):=aj prog ap [] n (af 0 (ah f))
theorem ajD:(Xq7 ap.nty).map ap.ty.get=(Xq7 ap.nty).map (ZU prog):=by kernel_rfl
noncomputable def ajB (i:Nat):Bool:=match ap.fn.get i with|some _=>true|_=>false
theorem ajC:(Xq7 ap.nfn).map (λi=>(ap.fn.get i).map AF.fn)=(Xq7 ap.nfn).map λi=>match ajB i with|true=>prog.funcs[i]? |false=>none:=by kernel_rfl
theorem aav:(Xq7 ap.nfn).all (λi=>Fj (ap.fn.get i))=true:=by kernel_rfl
theorem aph:jm prog ap:=aay ajD
theorem apA:L9 prog ap:=abD ajC aav
theorem mixed:prog.follows .mixedOrders=true:=Tryz.checked.mixed
end Go.Proofs.Tryz
namespace Go.Proofs.Tryz
open Go AM
theorem vJ:EC prog ap:=⟨aph,mixed,apA⟩
abbrev CO (f:Nat) (args:List AV) (out:kW):Prop:=aH prog ap f args [] out []
theorem cK {ans:List (kW × List bu)} {ps:List Prop} {f:Nat} {args:List AV} {h a:List bu} {out:kW} (hp:PS prog ap ps ans [] [])
  (he:uX ap (yR prog ap 3000 4) 3000 .dead f args h ⟨true,[],[],[],ans,[]⟩= .ok (out,a,.dead) ⟨true,[],[],ps,[],[]⟩:=by kernel_rfl):aH prog ap f args h out a:=ck vJ hp he
theorem pK (ls:List Nat) (n k:Nat) {ans:List (kW × List bu)} {lps:y_} {hs:List xF} {bs:List Bool} {ps:List Prop} {f:Nat} {args:List AV} {h a:List bu} {out:kW} (b:jK bs) (hp:PS prog ap ps ans lps hs)
  (he:MK prog ap (yR prog ap 3000 4) 3000 ls f args h lps ⟨false,zx n k,[],[],ans,hs⟩= .ok (out,a,.dead) ⟨false,[],bs,ps,[],[]⟩:=by kernel_rfl):aH prog ap f args h out a:=pk vJ ls n k b hp he
theorem pJ (f:Nat) (ls:List Nat) (n k:Nat) {nt b:Nat} {ans:List (kW × List bu)} {lps:y_} {hs:List xF} {bs:List Bool} {ps:List Prop} {a:Code} {s s':St} {c:List bu} {e:bI} (d:jK bs) (hp:PS prog ap ps ans lps hs) (g:b<=nt)
  (he:Qw prog ap c f b ls a s lps (zx n k) ans hs s'.env= .ok ((e,s'),[]) ⟨false,[],bs,ps,[],[]⟩:=by kernel_rfl):aj prog ap c nt a s e s':=pj vJ f ls n k d hp g he
theorem pN (f:Nat) (ls:List Nat) (n k:Nat) {nt b:Nat} {ans:List (kW × List bu)} {lps:y_} {hs:List xF} {bs:List Bool} {ps:List Prop} {a:Code} {s s':St} {c:List bu} {e:bI} (d:jK bs) (hp:PS prog ap ps ans lps hs) (g:b<=nt)
  (he:Qv prog ap c f b ls a s lps (zx n k) ans hs s'.env= .ok ((e,s'),[]) ⟨false,[],bs,ps,[],[]⟩:=by kernel_rfl):aj prog ap c nt a s e s':=pn vJ f ls n k d hp g he
end Go.Proofs.Tryz
set_option maxRecDepth 100000
open Go AM
namespace Go.Proofs.Tryz
theorem OZ {nt:Nat} (f:21<=nt) (xs:List AV) (n:Nat) (nn:Bool) (a:(decide ((0:Int)<=(γ .i64 ((n:Int) - (1:Int)))))=true) (g:(decide ((γ .i64 ((n:Int) - (1:Int)))<=(n:Int)))=true) (b:lit true ((Γ (θ (ε ((δ (γ .i64 ((n:Int) - (1:Int))))*1) xs) .dead))==(0:Int))=true) (d:(chk (.int .u32) (θ (ε ((δ (γ .i64 ((n:Int) - (1:Int))))*1) xs) .dead))=true) (e:(decide ((γ .i64 ((n:Int) - (1:Int)))<(n:Int)))=true) (c:lit true (decide ((0:Int)<(n:Int)))=true):ψ nt f162 ⟨[(0,.sl xs n nn)],[],.dead,[]⟩ (.normal) ⟨[(0,.sl (κ ((δ (γ .i64 ((n:Int) - (1:Int))))*1) xs) ((δ (γ .i64 ((n:Int) - (1:Int)))) - 0) nn)],[],.dead,[]⟩:=pJ 162 [] 2 3 (.k 1 a (.c g (.c b (.c d (.c a (.c e (.c c .nil))))))) (.nil) f
theorem O0 {nt:Nat} (e:21<=nt) (xs:List AV) (n:Nat) (nn:Bool) (b:lit false ((Γ (θ (ε ((δ (γ .i64 ((n:Int) - (1:Int))))*1) xs) .dead))==(0:Int))=true) (f:(chk (.int .u32) (θ (ε ((δ (γ .i64 ((n:Int) - (1:Int))))*1) xs) .dead))=true) (a:(decide ((0:Int)<=(γ .i64 ((n:Int) - (1:Int)))))=true) (c:(decide ((γ .i64 ((n:Int) - (1:Int)))<(n:Int)))=true) (d:lit true (decide ((0:Int)<(n:Int)))=true):ψ nt f162 ⟨[(0,.sl xs n nn)],[],.dead,[]⟩ (.exit 0) ⟨[(0,.sl xs n nn)],[],.dead,[]⟩:=pJ 162 [] 2 1 (.c b (.c f (.c a (.c c (.c d .nil))))) (.nil) e
theorem O1 {nt:Nat} (b:21<=nt) (xs:List AV) (n:Nat) (nn:Bool) (a:lit false (decide ((0:Int)<(n:Int)))=true):ψ nt f162 ⟨[(0,.sl xs n nn)],[],.dead,[]⟩ (.exit 0) ⟨[(0,.sl xs n nn)],[],.dead,[]⟩:=pJ 162 [] 2 0 (.k 1 a .nil) (.nil) b
theorem gZ {x:Int} (h: -2^63<=x) (a:x<2^63):γ .i64 x=x:=by
 show (if (true && decide (x % 2^64≥2^63))=true then x % 2^64 - 2^64 else x % 2^64)=x;rw [Bool.true_and];by_cases hx:x % 2^64≥2^63
 .rw [if_pos (by simpa using hx)];omega
 .rw [if_neg (by simpa using hx)];omega
abbrev ci (n:Int):AV:= ω n
theorem ahj (a n:Int) (b:lit true (decide ((Xxd a n)<(0:Int)))=true) (c:(!(n==(0:Int)))=true):CO 65 [ω a,ω n] (.ret (ω (γ .i64 ((Xxd a n)+n)))):=uo vJ (lf:=3000) (n:=4) (ls:= []) (orc:= [true]) (ans:= []) (lps:= []) (.c b (.c c .nil):jK _) (.nil:rF _) (by kernel_rfl)
theorem ahk (a n:Int) (b:lit false (decide ((Xxd a n)<(0:Int)))=true) (c:(!(n==(0:Int)))=true):CO 65 [ω a,ω n] (.ret (ω (Xxd a n))):=uo vJ (lf:=3000) (n:=4) (ls:= []) (orc:= [false]) (ans:= []) (lps:= []) (.c b (.c c .nil):jK _) (.nil:rF _) (by kernel_rfl)
theorem kk0:CO 63 [ω 1,ω 0] (.ret (.agg [.bool false,ω 1,ω 0])):=mD vJ (lf:=3000) (n:=4) (ans:= []) (.nil:rF _) (by kernel_rfl)
theorem kk1:CO 63 [ω 0,ω 1] (.ret (.agg [.bool false,ω 0,ω 1])):=mD vJ (lf:=3000) (n:=4) (ans:= []) (.nil:rF _) (by kernel_rfl)
theorem kk2:CO 63 [ω 0,ω 0] (.ret (.agg [.bool false,ω 0,ω 0])):=mD vJ (lf:=3000) (n:=4) (ans:= []) (.nil:rF _) (by kernel_rfl)
theorem kk3:CO 64 [] (.ret (.agg [.bool true,ω 0,ω 0])):=mD vJ (lf:=3000) (n:=4) (ans:= []) (.nil:rF _) (by kernel_rfl)
theorem kk4:CO 63 [ω 1,ω (-1)] (.ret (.agg [.bool false,ω 1,ω (-1)])):=mD vJ (lf:=3000) (n:=4) (ans:= []) (.nil:rF _) (by kernel_rfl)
def HK0 (_q:Int):Prop:=True
theorem abP (q:Int) (_h:HK0 q) (a:CO 65 [ω q,ω 5] (.ret (ω 0))):CO 32 [ω q] (.ret (.agg [.bool false,ω 1,ω 0])):=uo vJ (lf:=3000) (n:=4) (ls:= []) (orc:= []) (ans:= [(.ret (.agg [.bool false,ω 1,ω 0]),[]),(.ret (.agg [.bool false,ω 0,ω 1]),[]),(.ret (.agg [.bool false,ω 0,ω 0]),[]),(.ret (.agg [.bool true,ω 0,ω 0]),[]),(.ret (.agg [.bool false,ω 1,ω (-1)]),[]),(.ret (ω 0),[])]) (lps:= []) (.t (.t (.t (.t (.t (.t (.t (.t (.t .nil)))))))):jK _) (.cons a (.cons kk4 (.cons kk3 (.cons kk2 (.cons kk1 (.cons kk0 .nil))))):rF _) (by kernel_rfl)
def HK1 (_q:Int):Prop:=True
theorem abQ (q:Int) (_h:HK1 q) (a:CO 65 [ω q,ω 5] (.ret (ω 1))):CO 32 [ω q] (.ret (.agg [.bool false,ω 0,ω 1])):=uo vJ (lf:=3000) (n:=4) (ls:= []) (orc:= []) (ans:= [(.ret (.agg [.bool false,ω 1,ω 0]),[]),(.ret (.agg [.bool false,ω 0,ω 1]),[]),(.ret (.agg [.bool false,ω 0,ω 0]),[]),(.ret (.agg [.bool true,ω 0,ω 0]),[]),(.ret (.agg [.bool false,ω 1,ω (-1)]),[]),(.ret (ω 1),[])]) (lps:= []) (.t (.t (.t (.t (.t (.t (.t (.t (.t .nil)))))))):jK _) (.cons a (.cons kk4 (.cons kk3 (.cons kk2 (.cons kk1 (.cons kk0 .nil))))):rF _) (by kernel_rfl)
def HK2 (_q:Int):Prop:=True
theorem abR (q:Int) (_h:HK2 q) (a:CO 65 [ω q,ω 5] (.ret (ω 2))):CO 32 [ω q] (.ret (.agg [.bool false,ω 0,ω 0])):=uo vJ (lf:=3000) (n:=4) (ls:= []) (orc:= []) (ans:= [(.ret (.agg [.bool false,ω 1,ω 0]),[]),(.ret (.agg [.bool false,ω 0,ω 1]),[]),(.ret (.agg [.bool false,ω 0,ω 0]),[]),(.ret (.agg [.bool true,ω 0,ω 0]),[]),(.ret (.agg [.bool false,ω 1,ω (-1)]),[]),(.ret (ω 2),[])]) (lps:= []) (.t (.t (.t (.t (.t (.t (.t (.t (.t .nil)))))))):jK _) (.cons a (.cons kk4 (.cons kk3 (.cons kk2 (.cons kk1 (.cons kk0 .nil))))):rF _) (by kernel_rfl)
def HK3 (_q:Int):Prop:=True
theorem abS (q:Int) (_h:HK3 q) (a:CO 65 [ω q,ω 5] (.ret (ω 3))):CO 32 [ω q] (.ret (.agg [.bool true,ω 0,ω 0])):=uo vJ (lf:=3000) (n:=4) (ls:= []) (orc:= []) (ans:= [(.ret (.agg [.bool false,ω 1,ω 0]),[]),(.ret (.agg [.bool false,ω 0,ω 1]),[]),(.ret (.agg [.bool false,ω 0,ω 0]),[]),(.ret (.agg [.bool true,ω 0,ω 0]),[]),(.ret (.agg [.bool false,ω 1,ω (-1)]),[]),(.ret (ω 3),[])]) (lps:= []) (.t (.t (.t (.t (.t (.t (.t (.t (.t .nil)))))))):jK _) (.cons a (.cons kk4 (.cons kk3 (.cons kk2 (.cons kk1 (.cons kk0 .nil))))):rF _) (by kernel_rfl)
def HK4 (_q:Int):Prop:=True
theorem abT (q:Int) (_h:HK4 q) (a:CO 65 [ω q,ω 5] (.ret (ω 4))):CO 32 [ω q] (.ret (.agg [.bool false,ω 1,ω (-1)])):=uo vJ (lf:=3000) (n:=4) (ls:= []) (orc:= []) (ans:= [(.ret (.agg [.bool false,ω 1,ω 0]),[]),(.ret (.agg [.bool false,ω 0,ω 1]),[]),(.ret (.agg [.bool false,ω 0,ω 0]),[]),(.ret (.agg [.bool true,ω 0,ω 0]),[]),(.ret (.agg [.bool false,ω 1,ω (-1)]),[]),(.ret (ω 4),[])]) (lps:= []) (.t (.t (.t (.t (.t (.t (.t (.t (.t .nil)))))))):jK _) (.cons a (.cons kk4 (.cons kk3 (.cons kk2 (.cons kk1 (.cons kk0 .nil))))):rF _) (by kernel_rfl)
def ag7:Nat->AV
 |0=> .agg [.bool false,.int .i64 1,.int .i64 0]
 |1=> .agg [.bool false,.int .i64 0,.int .i64 1]
 |2=> .agg [.bool false,.int .i64 0,.int .i64 0]
 |3=> .agg [.bool true,.int .i64 0,.int .i64 0]
 |_=> .agg [.bool false,.int .i64 1,.int .i64 (-1)]
theorem Yr (a:Int) (n:Nat) (f:0<n) (d:n<1000):∃ k:Nat,k<n/\CO 65 [ω a,ω n] (.ret (ω k)):=by
 have c:(!((n:Int)==(0:Int)))=true:=by
  simp;omega
 have g:=Xwj a (b:=(n:Int)) (by omega);have e: -(n:Int)<Xxd a n:=by
  have:=Xwj (-a) (b:=(n:Int)) (by omega);rw [Int.neg_tmod] at this;omega
 by_cases h:Xxd a n<0
 .have hp:=ahj a n (by simpa [lit] using h) c;rw [gZ (by omega) (by omega)] at hp;refine ⟨(Xxd a n+n).toNat,by omega, ?_⟩;rw [Xvd (by omega)];exact hp
 .have hp:=ahk a n (by simpa [lit] using h) c;refine ⟨(Xxd a n).toNat,by omega, ?_⟩;rw [Xvd (by omega)];exact hp
theorem abU (q:Int):∃ k:Nat,k<5/\CO 32 [ω q] (.ret (ag7 k)):=by
 obtain ⟨k,b,a⟩:=Yr q 5 (by omega) (by omega);refine ⟨k,b, ?_⟩
 match k,b,a with
 |0,_,a=>exact abP q trivial a
 |1,_,a=>exact abQ q trivial a
 |2,_,a=>exact abR q trivial a
 |3,_,a=>exact abS q trivial a
 |4,_,a=>exact abT q trivial a
def ak (l:List Nat):List AV:=l.map λ(d:Nat)=>Xxx .u32 (d:Int)
theorem au (l:List Nat):(ak l).length=l.length:=by simp [ak]
theorem DD (l r:List Nat):ak (l++r)=ak l++ak r:=by simp [ak]
def fE (l:List Nat):List Nat:=(l.reverse.dropWhile (· ==0)).reverse
theorem qc (l:List Nat) (d:Nat):fE (l++ [d])=if d=0 then fE l else l++ [d]:=by
 unfold fE;rw [List.reverse_append];simp only [Xz7,Xw4,Xqi,Xqt,Xx8];by_cases h:d=0
 .subst h;simp
 .simp [h]
theorem VO (l:List Nat) (d:Nat):κ (l.length*1) (ak (l++ [d]))=ak l:=by
 rw [DD,Θ,Xxn (by rw [au];exact χ _),ο (by rw [au];exact χ _)]
theorem Be (l:List Nat) (d:Nat):θ (ε (l.length*1) (ak (l++ [d]))) .dead= .int .u32 (d:Int):=by
 rw [pz,DD,Θ,ξ,Xxa (by rw [au];exact χ _),au,Xzr];rfl
def ZZ (nn:Bool) (l:List Nat):St:=⟨[(0,.sl (ak l) l.length nn)],[],.dead,[]⟩
theorem VY {nt:Nat} (h:21<=nt) (nn:Bool):∀ (k:Nat) (l:List Nat),l.length=k->k<2^40->az prog ap [] nt (af 0 (ah f162)) (λ_=> .exit 0) (ZZ nn) (ZZ nn) l (fE l):=by
 intro k
 induction k with
 |zero=>
  intro l f _;have:l= []:=Xxz f;subst this;exact .done (O1 h (ak []) 0 nn (by rfl))
 | succ k ih=>
  intro l f p;rcases Xzz l with rfl|⟨a,d,rfl⟩
  .simp at f
  .rw [Xz0] at f ⊢;have e:a.length=k:=by simpa using f
   have b:(a++ [d]).length=k+1:=by simp [e]
   have g:γ .i64 ((((a++ [d]).length:Nat):Int) - 1)=(k:Int):=by
    rw [b,gZ (by omega) (by omega)];omega
   have c:(δ (γ .i64 ((((a++ [d]).length:Nat):Int) - 1)))=a.length:=by rw [g];omega
   have i:decide ((0:Int)<=γ .i64 ((((a++ [d]).length:Nat):Int) - 1))=true:=by rw [g];simp
   have o:decide (γ .i64 ((((a++ [d]).length:Nat):Int) - 1)<=(((a++ [d]).length:Nat):Int))=true:=by rw [g,b];simp;omega
   have m:decide (γ .i64 ((((a++ [d]).length:Nat):Int) - 1)<(((a++ [d]).length:Nat):Int))=true:=by rw [g,b];simp;omega
   have n:lit true (decide ((0:Int)<(((a++ [d]).length:Nat):Int)))=true:=by rw [b];simp [lit]
   have j:chk (.int .u32) (θ (ε (δ (γ .i64 ((((a++ [d]).length:Nat):Int) - 1))*1) (ak (a++ [d]))) .dead)=true:=by rw [c,Be];rfl
   rw [qc];by_cases hd:d=0
   .rw [if_pos hd];refine .next ?_ (ih a e (by omega))
    have:=OZ h (ak (a++ [d])) (a++ [d]).length nn i o (by rw [c,Be];subst hd;rfl) j m n;rw [c,VO,Xjq] at this;exact this
   .rw [if_neg hd];refine .done (O0 h (ak (a++ [d])) (a++ [d]).length nn (by rw [c,Be];simp [lit,Γ,hd]) j i m n)
theorem QV (l:List Nat) (nn:Bool) (a:l.length<2^40):CO 162 [.sl (ak l) l.length nn] (.ret (.sl (ak (fE l)) (fE l).length nn)):=pK [0] 0 0 .nil (.l (az.blk (λnt b=>VY b nn _ l rfl a) (by simp) rfl (aN.of ⟨rfl,trivial⟩) (aN.of ⟨rfl,trivial⟩):aK prog ap [] 21 (.block 0 (.loop (af 0 (ah f162)))) ⟨[(0,.sl (ak l) l.length nn),(2,.nilS),(14,.dead)],[],.dead,[]⟩ (.normal) ⟨[(0,.sl (ak (fE l)) (fE l).length nn)],[],.dead,[]⟩) .nil)
theorem Ve {nt:Nat} (j:38<=nt) (s:List UInt8) (a:List AV) (L:Nat) (n k:Int) (e:(Φ (((0+(δ (γ .i64 (Xxl k (4:Int)))))*1)+1) (ζ a))=true) (c:(decide ((0:Int)<=(γ .i64 (Xxl k (4:Int)))))=true) (b:(decide ((γ .i64 (Xxl k (4:Int)))<(L:Int)))=true) (h:(decide ((0:Int)<=(γ .i64 ((8:Int)*(Xxd k (4:Int))))))=true) (i:(decide ((0:Int)<=(γ .i64 ((γ .i64 ((((ζ s):Nat):Int) - (1:Int))) - k))))=true) (f:(decide ((γ .i64 ((γ .i64 ((((ζ s):Nat):Int) - (1:Int))) - k))<(((ζ s):Nat):Int)))=true) (d:(chk (.int .u32) (θ (ε ((0+(δ (γ .i64 (Xxl k (4:Int)))))*1) a) .dead))=true) (g:lit true (decide (k<n))=true):ψ nt f119 ⟨[(0,.str s),(3,.ref 0 0 0 L),(12,ω n),(13,ω k)],[(0,⟨a,0,false,0,1,true⟩)],.dead,[]⟩ (.normal) ⟨[(0,.str s),(3,.ref 0 0 0 L),(12,ω n),(13,ω (γ .i64 (k+(1:Int))))],[(0,⟨(κ ((0+(δ (γ .i64 (Xxl k (4:Int)))))*1) a++ [.int .u32 (γ .u32 (Xxq (Xqm (Xqk .u32) (Γ (θ (ε ((0+(δ (γ .i64 (Xxl k (4:Int)))))*1) a) .dead))|||Xqm (Xqk .u32) (γ .u32 ((γ .u32 ((Xqd (Xqp s (δ (γ .i64 ((γ .i64 ((((ζ s):Nat):Int) - (1:Int))) - k))) 0):Nat):Int))*2^(min (δ (γ .i64 ((8:Int)*(Xxd k (4:Int))))) (Xqk .u32)))))))]++ε (((0+(δ (γ .i64 (Xxl k (4:Int)))))*1)+1) a),0,false,0,1,true⟩)],.dead,[]⟩:=pJ 119 [] 1 1 (.c e (.c c (.c b (.c h (.k 1 i (.c f (.c d (.c c (.c b (.k 1 g .nil)))))))))) (.nil) j
theorem Vf {nt:Nat} (c:38<=nt) (s:List UInt8) (a:List AV) (L:Nat) (n k:Int) (b:lit false (decide (k<n))=true):ψ nt f119 ⟨[(0,.str s),(3,.ref 0 0 0 L),(12,ω n),(13,ω k)],[(0,⟨a,0,false,0,1,true⟩)],.dead,[]⟩ (.exit 0) ⟨[(0,.str s),(3,.ref 0 0 0 L),(12,ω n),(13,ω k)],[(0,⟨a,0,false,0,1,true⟩)],.dead,[]⟩:=pJ 119 [] 1 0 (.c b .nil) (.nil) c
def ag (s:List UInt8):Nat:=s.foldl (λa b=>a*256+b.toNat) 0
theorem Jd (s:List UInt8):∀ a,s.foldl (λa b=>a*256+b.toNat) a=a*256^s.length+ag s:=by
 induction s with
 |nil=>intro a;simp [ag]
 | cons b r ih=>
  intro a;simp only [Xjx,ag,ν,Xq3];rw [ih,ih (0*256+b.toNat)];have:a*(256^r.length*256)=a*256*256^r.length:=by
   rw [Xqh (256^r.length) 256,Xqr]
  rw [this];simp only [Xxt,Xw2,Ψ];omega
theorem jl (b:UInt8) (r:List UInt8):ag (b::r)=b.toNat*256^r.length+ag r:=by
 show (b::r).foldl _ 0=_;rw [Xjx,Jd];simp
theorem xC (s:List UInt8):ag s<256^s.length:=by
 induction s with
 |nil=>simp [ag]
 |cons b r ih=>
  rw [jl,ν,Xq3];have:=b.toNat_lt;have h:b.toNat*256^r.length<=255*256^r.length:=Xqw _ (by omega);omega
def bV (m n:Nat):List Nat:=(Xq7 m).map λi=>n / 2^(32*i) % 2^32
theorem aW (m n:Nat):(bV m n).length=m:=by simp [bV]
theorem sQ {m n i:Nat} (h:i<m):(bV m n)[i]? =some (n / 2^(32*i) % 2^32):=by simp [bV,h]
theorem YT {m j n b:Nat} (g:n<2^(8*j)) (l:b<256):
  bV m (b*2^(8*j)+n)=(bV m n).set (j / 4) (n / 2^(32*(j / 4)) % 2^32+b*2^(8*(j % 4))):=by
 apply Xj3;intro i;by_cases hi:i<m
 .rw [sQ hi,Xzo];have p:j=4*(j / 4)+j % 4:=by omega
  generalize k:j / 4=q at*
  generalize d:j % 4=r at*
  have o:r<4:=by omega
  by_cases h1:q=i
  .subst h1;rw [if_pos rfl,if_pos (by rw [aW];exact hi)];congr 1;have e:8*j=8*r+32*q:=by omega
   rw [e,Xxo,<- Xqr,Xx1,Xz1 _ _ (Xqu _)];have a:n / 2^(32*q)<2^(8*r):=by
    rw [Xqv (Xqu _),<- Xxo,<- e];exact g
   have c:2^(8*r)<=2^24:=Xqc (by omega) (by omega);have f:b*2^(8*r)<=255*2^(8*r):=Xqw _ (by omega);rw [Ξ (by omega),Ξ (by omega)]
  .rw [if_neg h1,sQ hi];congr 1;rcases Nat.lt_or_gt_of_ne h1 with h|h
   ·
    have e:8*j+8<=32*i:=by omega
    have a:b*2^(8*j)+n<2^(32*i):=by
     have c:2^(8*j+8)<=2^(32*i):=Xqc (by omega) e;have f:b*2^(8*j)<=255*2^(8*j):=Xqw _ (by omega);rw [Xxo] at c;omega
    rw [Xjb a,Xjb (by omega)]
   ·
    have e:8*j=(8*j - 32*i - 32)+32+32*i:=by omega
    rw [e,Xxo,Xxo,<- Xqr,<- Xqr,Xx1,Xz1 _ _ (Xqu _),Xvl]
 .rw [Xq6 (by rw [aW];omega),Xq6 (by rw [Xwk,aW];omega)]
theorem Hw {x:Int} (h:0<=x) (a:x<2^32):γ .u32 x=x:=by
 show (if (false && decide (x % 2^32≥2^31))=true then x % 2^32 - 2^32 else x % 2^32)=x;simp only [Xjs,Xji,if_false];omega
theorem ahz {a b r:Nat} (h:a<2^(8*r)) (i:b<256) (j:r<4):
  γ .u32 (Xxq (Xqm (Xqk .u32) (a:Int)|||Xqm (Xqk .u32) (γ .u32 ((b:Int)*2^(8*r)))))=((a+b*2^(8*r):Nat):Int):=by
 have k:2^(8*r)<=2^24:=Xqc (by omega) (by omega);have l:b*2^(8*r)<=255*2^(8*r):=Xqw _ (by omega);have e:((b:Int)*2^(8*r))=((b*2^(8*r):Nat):Int):=by simp
 have d:γ .u32 ((b*2^(8*r):Nat):Int)=((b*2^(8*r):Nat):Int):=Hw (by omega) (by omega);rw [e,d];have c:∀ x:Nat,x<2^32->(Xqm (Xqk .u32) (x:Int)).toNat=x:=by
  intro x g;show (Xqm 32 (x:Int)).toNat=x;rw [Xkm,Xkv,Ξ g]
 rw [Yqi,c a (by omega),c _ (by omega)];have f:a|||b*2^(8*r)=a+b*2^(8*r):=by
  have:=Xw5 h b;rw [Yqa] at this;rw [Yqj,<- this,Xx1]
 rw [f,Hw (by omega) (by omega)]
theorem aaM {s:List UInt8} {j:Nat} (d:j<s.length):ag (s.drop (s.length - (j+1)))=(s.getD (s.length - 1 - j) 0).toNat*2^(8*j)+ag (s.drop (s.length - j)):=by
 have a:s.length - (j+1)<s.length:=by omega
 rw [Xxs a,jl];have b:s.length - (j+1)+1=s.length - j:=by omega
 rw [b,Xx0];have c:s.length - (s.length - j)=j:=by omega
 rw [c,ξ,show s.length - 1 - j=s.length - (j+1) by omega,π a];have:(256:Nat)^j=2^(8*j):=by rw [Xjf]
 rw [this];rfl
def al1 (s:List UInt8) (L:Nat) (j:Nat):St:=⟨[(0,.str s),(3,.ref 0 0 0 L),(12,ω (s.length:Int)),(13,ω (j:Int))],[(0,⟨ak (bV L (ag (s.drop (s.length - j)))),0,false,0,1,true⟩)],.dead,[]⟩
theorem TM (l:List Nat) (i:Nat) (x:Nat) (a:i<l.length):κ i (ak l)++ [Xxx .u32 (x:Int)]++ε (i+1) (ak l)=ak (l.set i x):=by
 unfold ak;rw [<- Xvb,<- Xj9,Xx2,if_pos a];simp
theorem acA {nt:Nat} (h:38<=nt) (s:List UInt8) (hs:s.length<2^40):∀ (d j:Nat),j+d=s.length->az prog ap [] nt (af 0 (ah f119)) (λ_=> .exit 0) (al1 s ((s.length+3) / 4)) (al1 s ((s.length+3) / 4)) j s.length:=by
 intro d
 induction d with
 |zero=>
  intro j p;have:j=s.length:=by omega
  subst this;exact .done (Vf h s _ _ (s.length:Int) (s.length:Int) (by simp [lit]))
 | succ d ih=>
  intro j p;refine .next ?_ (ih (j+1) (by omega))
  have c:j<s.length:=by omega
  have f:j / 4<(s.length+3) / 4:=by omega
  have t:γ .i64 (Xxl (j:Int) 4)=((j / 4:Nat):Int):=by
   rw [Xz8 (by omega),gZ (by omega) (by omega)];omega
  have o:Xxd (j:Int) 4=((j % 4:Nat):Int):=by
   rw [Xvm (by omega)];omega
  have q:γ .i64 ((8:Int)*((j % 4:Nat):Int))=((8*(j % 4):Nat):Int):=by
   rw [gZ (by omega) (by omega)];omega
  have m:γ .i64 (γ .i64 ((s.length:Int) - 1) - (j:Int))=((s.length - 1 - j:Nat):Int):=by
   have u:γ .i64 ((s.length:Int) - 1)=((s.length - 1:Nat):Int):=by
    rw [gZ (by omega) (by omega)];omega
   rw [u,gZ (by omega) (by omega)];omega
  have n:(0+δ ((j / 4:Nat):Int))*1=j / 4:=by omega
  have l:γ .i64 ((j:Int)+1)=((j+1:Nat):Int):=by
   rw [gZ (by omega) (by omega)];omega
  have g:ag (s.drop (s.length - j))<2^(8*j):=by
   have:=xC (s.drop (s.length - j));rw [Xx0,show s.length - (s.length - j)=j by omega] at this;rw [Xjf];exact this
  have e:(s.getD (s.length - 1 - j) 0).toNat<256:=(s.getD (s.length - 1 - j) 0).toNat_lt;have hcell:θ (ε (j / 4) (ak (bV ((s.length+3) / 4) (ag (s.drop (s.length - j)))))) .dead= .int .u32 ((ag (s.drop (s.length - j)) / 2^(32*(j / 4)) % 2^32:Nat):Int):=by
   rw [pz,ξ];unfold ak;rw [Xq5,sQ f];rfl
  have a:ag (s.drop (s.length - j)) / 2^(32*(j / 4)) % 2^32<2^(8*(j % 4)):=by
   have i:ag (s.drop (s.length - j)) / 2^(32*(j / 4))<2^(8*(j % 4)):=by
    rw [Xqv (Xqu _),<- Xxo,show 8*(j % 4)+32*(j / 4)=8*j by omega];exact g
   exact Xqj (Nat.mod_le _ _) i
  have hbody:=Ve h s (ak (bV ((s.length+3) / 4) (ag (s.drop (s.length - j))))) ((s.length+3) / 4) (s.length:Int) (j:Int);rw [t,o,q,m,n,l] at hbody;rw [hcell] at hbody;have r:min (δ ((8*(j % 4):Nat):Int)) (Xqk .u32)=8*(j % 4):=by
   show min (δ ((8*(j % 4):Nat):Int)) 32=_;omega
  have k:δ ((s.length - 1 - j:Nat):Int)=s.length - 1 - j:=by omega
  have b:γ .u32 (((s.getD (s.length - 1 - j) 0).toNat:Nat):Int)=(((s.getD (s.length - 1 - j) 0).toNat:Nat):Int):=Hw (by omega) (by omega);rw [r,k,b] at hbody;simp only [Γ] at hbody;rw [ahz a e (by omega)] at hbody;rw [TM _ _ _ (by rw [aW];exact f),<- YT g e,<- aaM c] at hbody;exact hbody (by rw [au,aW];exact Xqe (by omega)) (Yq0 (by omega)) (Yq0 (by omega)) (Yq0 (by omega)) (Yq0 (by omega)) (Yq0 (by omega)) rfl (Yq0 (by omega))
def digs (n:Nat):List Nat:=fE (bV n n)
theorem ZO (m n:Nat):κ (m*1) (ak (bV m n))=ak (bV m n):=by
 rw [Θ,ο (by rw [au,aW];exact χ _)]
theorem wH {n:Nat}:∀ (d m:Nat),n<2^(32*m)->fE (bV (m+d) n)=fE (bV m n)
 |0,m,_=>rfl
 | d+1,m,h=>by
  have a:n / 2^(32*(m+d)) % 2^32=0:=by
   have:n<2^(32*(m+d)):=Xqa h (Xqc (by omega) (by omega));rw [Xjb this]
  have e:bV (m+(d+1)) n=bV (m+d) n++ [n / 2^(32*(m+d)) % 2^32]:=by
   unfold bV;rw [show m+(d+1)=(m+d)+1 by omega,Xwl,Xx3];rfl
  rw [e,qc,if_pos a];exact wH d m h
theorem mY (n:Nat):n<2^(32*n):=by
 have a:n<2^n:=Nat.lt_two_pow_self;exact Xqa a (Xqc (by omega) (by omega))
theorem D8 {m n:Nat} (h:n<2^(32*m)):fE (bV m n)=digs n:=by
 unfold digs;rcases Yxm m n with hm|hm
 .have:=wH (n - m) m h;rw [show m+(n - m)=n by omega] at this;exact this.symm
 .have:=wH (m - n) n (mY n);rw [show n+(m - n)=m by omega] at this;exact this
theorem CJ (s:List UInt8):ag s<2^(32*((s.length+3) / 4)):=by
 have h:=xC s;have e:(256:Nat)^s.length=2^(8*s.length):=by rw [Xjf]
 rw [e] at h;exact Xqa h (Xqc (by omega) (by omega))
theorem Z5 (s:List UInt8) (hs:s.length<2^40):CO 162 [.sl (ak (bV ((s.length+3) / 4) (ag s))) ((s.length+3) / 4) true] (.ret (.sl (ak (digs (ag s))) (digs (ag s)).length true)):=by
 have h:=QV (bV ((s.length+3) / 4) (ag s)) true (by rw [aW];omega);rw [aW,D8 (CJ s)] at h;exact h
theorem KR (s:List UInt8) (hs:s.length<2^40):γ .i64 (Xxl (γ .i64 ((γ .i64 ((s.length:Int)+(4:Int))) - (1:Int))) (4:Int))=(((s.length+3) / 4:Nat):Int):=by
 rw [gZ (x:=(s.length:Int)+4) (by omega) (by omega),gZ (x:=(s.length:Int)+4 - 1) (by omega) (by omega),Xz8 (by omega),gZ (by omega) (by omega)];omega
theorem TA (m:Nat):g_ m [Xxx .u32 0]=ak (bV m 0):=by
 unfold g_ ak bV
 induction m with
 |zero=>rfl
 |succ m ih=>
  rw [Xj8,Xwe,ih,Xwl,Xx3,Xx3];simp
theorem yZ (n:Nat):δ (n:Int)=n:=by omega
theorem Xh (s:List UInt8):ag (s.drop (s.length - 0))=0:=by simp [ag]
theorem YI (s:List UInt8) (hs:s.length<2^40):g_ (δ (γ .i64 (Xxl (γ .i64 ((γ .i64 ((s.length:Int)+(4:Int))) - (1:Int))) (4:Int)))) [Xxx .u32 0]=ak (bV ((s.length+3) / 4) (ag (s.drop (s.length - 0)))):=by
 rw [KR s hs,yZ,TA,Xh]
theorem UH (s:List UInt8):ag (s.drop (s.length - s.length))=ag s:=by simp
theorem aqg (s:List UInt8) (hs:s.length<2^40) (b:(decide ((0:Int)<=(γ .i64 (Xxl (γ .i64 ((γ .i64 ((((ζ s):Nat):Int)+(4:Int))) - (1:Int))) (4:Int)))))=true) (c:(decide ((γ .i64 (Xxl (γ .i64 ((γ .i64 ((((ζ s):Nat):Int)+(4:Int))) - (1:Int))) (4:Int)))=(γ .i64 (Xxl (γ .i64 ((γ .i64 ((((ζ s):Nat):Int)+(4:Int))) - (1:Int))) (4:Int)))))=true) (a:(decide ((γ .i64 (Xxl (γ .i64 ((γ .i64 ((((ζ s):Nat):Int)+(4:Int))) - (1:Int))) (4:Int)))<=(1099511627776:Int)))=true):CO 119 [.str s] (.ret (.sl (ak (digs (ag s))) (digs (ag s)).length true)):=pK [0] 0 0 (.c b (.c c (.c a (.n 1 .nil)))) (.c (by rw [ZO];exact Z5 s hs:CO 162 [.sl (κ (((s.length+3) / 4)*1) (ak (bV ((s.length+3) / 4) (ag s)))) ((s.length+3) / 4) true] (.ret (.sl (ak (digs (ag s))) (digs (ag s)).length true))) (.l (by rw [YI s hs,KR s hs,yZ,<- UH s];exact az.blk (λnt d=>acA d s hs s.length 0 (by omega)) (by simp) rfl (aN.of ⟨rfl,rfl,rfl,rfl,trivial⟩) (aN.of ⟨rfl,trivial⟩):aK prog ap [] 38 (.block 0 (.loop (af 0 (ah f119)))) ⟨[(0,.str s),(2,.nilS),(3,.ref 0 0 0 (δ (γ .i64 (Xxl (γ .i64 ((γ .i64 ((((ζ s):Nat):Int)+(4:Int))) - (1:Int))) (4:Int))))),(4,.dead),(12,ω (((ζ s):Nat):Int)),(13,ω 0),(14,.dead)],[(0,⟨(g_ (δ (γ .i64 (Xxl (γ .i64 ((γ .i64 ((((ζ s):Nat):Int)+(4:Int))) - (1:Int))) (4:Int)))) [.int .u32 0]),0,false,0,1,true⟩)],.dead,[]⟩ (.normal) ⟨[(3,.ref 0 0 0 ((s.length+3) / 4))],[(0,⟨(ak (bV ((s.length+3) / 4) (ag s))),0,false,0,1,true⟩)],.dead,[]⟩) .nil))
theorem vV (s:List UInt8) (hs:s.length<2^40):CO 119 [.str s] (.ret (.sl (ak (digs (ag s))) (digs (ag s)).length true)):=
 aqg s hs (by rw [KR s hs];exact Yq0 (by omega)) (Yq0 rfl) (by rw [KR s hs];exact Yq0 (by omega))
theorem PG {nt:Nat} (j:43<=nt) (xs a:List AV) (n c:Nat) (g m:Bool) (k:Int) (e:lit true (decide ((Γ (θ (ε ((δ k)*1) xs) .dead))<(Γ (θ (ε ((δ k)*1) a) .dead))))=true) (l:(chk (.int .u32) (θ (ε ((δ k)*1) a) .dead))=true) (b:(decide ((0:Int)<=k))=true) (h:(decide (k<(c:Int)))=true) (i:(chk (.int .u32) (θ (ε ((δ k)*1) xs) .dead))=true) (f:(decide (k<(n:Int)))=true) (d:lit true (decide ((0:Int)<=k))=true):ψ nt f210 ⟨[(0,.sl xs n g),(1,.sl a c m),(5,ω k)],[],.dead,[]⟩ (.ret) ⟨[(4,ω (-1))],[],.dead,[]⟩:=pJ 210 [] 2 3 (.c e (.c l (.c b (.c h (.c i (.c b (.c f (.c d .nil)))))))) (.nil) j
theorem PH {nt:Nat} (m:43<=nt) (xs b:List AV) (n g:Nat) (l o:Bool) (k:Int) (i:lit true (decide ((Γ (θ (ε ((δ k)*1) b) .dead))<(Γ (θ (ε ((δ k)*1) xs) .dead))))=true) (f:(chk (.int .u32) (θ (ε ((δ k)*1) b) .dead))=true) (a:(decide ((0:Int)<=k))=true) (d:(decide (k<(g:Int)))=true) (e:(chk (.int .u32) (θ (ε ((δ k)*1) xs) .dead))=true) (c:(decide (k<(n:Int)))=true) (h:lit false (decide ((Γ (θ (ε ((δ k)*1) xs) .dead))<(Γ (θ (ε ((δ k)*1) b) .dead))))=true) (j:lit true (decide ((0:Int)<=k))=true):ψ nt f210 ⟨[(0,.sl xs n l),(1,.sl b g o),(5,ω k)],[],.dead,[]⟩ (.ret) ⟨[(4,ω 1)],[],.dead,[]⟩:=pJ 210 [] 3 5 (.c i (.c f (.c a (.c d (.c e (.c a (.c c (.c h (.c f (.c a (.c d (.c e (.c a (.c c (.c j .nil))))))))))))))) (.nil) m
theorem PI {nt:Nat} (o:43<=nt) (xs a:List AV) (n c:Nat) (e i:Bool) (k:Int) (l:lit false (decide ((Γ (θ (ε ((δ k)*1) a) .dead))<(Γ (θ (ε ((δ k)*1) xs) .dead))))=true) (h:(chk (.int .u32) (θ (ε ((δ k)*1) a) .dead))=true) (b:(decide ((0:Int)<=k))=true) (f:(decide (k<(c:Int)))=true) (g:(chk (.int .u32) (θ (ε ((δ k)*1) xs) .dead))=true) (d:(decide (k<(n:Int)))=true) (j:lit false (decide ((Γ (θ (ε ((δ k)*1) xs) .dead))<(Γ (θ (ε ((δ k)*1) a) .dead))))=true) (m:lit true (decide ((0:Int)<=k))=true):ψ nt f210 ⟨[(0,.sl xs n e),(1,.sl a c i),(5,ω k)],[],.dead,[]⟩ (.normal) ⟨[(0,.sl xs n e),(1,.sl a c i),(5,ω (γ .i64 (k - (1:Int))))],[],.dead,[]⟩:=pJ 210 [] 3 1 (.c l (.c h (.c b (.c f (.c g (.c b (.c d (.c j (.c h (.c b (.c f (.c g (.c b (.c d (.c m .nil))))))))))))))) (.nil) o
theorem PK {nt:Nat} (d:43<=nt) (xs a:List AV) (n f:Nat) (c e:Bool) (k:Int) (b:lit false (decide ((0:Int)<=k))=true):ψ nt f210 ⟨[(0,.sl xs n c),(1,.sl a f e),(5,ω k)],[],.dead,[]⟩ (.exit 0) ⟨[],[],.dead,[]⟩:=pJ 210 [] 1 0 (.c b .nil) (.nil) d
def uH (a b:List Nat):Nat->Int
 |0=>0
 |k+1=>if a.getD k 0<b.getD k 0 then -1 else if b.getD k 0<a.getD k 0 then 1 else uH a b k
def ajV (a b:List Nat) (na nb:Bool) (k:Nat):St:=⟨[(0,.sl (ak a) a.length na),(1,.sl (ak b) b.length nb),(5,ω ((k:Int) - 1))],[],.dead,[]⟩
def afX (r:Int):St:=⟨if r=0 then [] else [(4,ω r)],[],.dead,[]⟩
def WX (r:Int):bI:=if r=0 then .exit 0 else .ret
theorem LP {l:List Nat} {k:Nat} (h:k<l.length):θ (ε (k*1) (ak l)) .dead= .int .u32 ((l.getD k 0:Nat):Int):=by
 rw [pz,Θ,ξ];unfold ak;rw [Xq5,ξ,π h];rfl
theorem EU {nt:Nat} (f:43<=nt) (a b:List Nat) (e c:Bool) (h:a.length=b.length) (r:a.length<2^40):∀ (k:Nat),k<=a.length->az prog ap [] nt (af 0 (ah f210)) WX (ajV a b e c) afX k (uH a b k)
 |0,_=>by
  refine .done ?_;exact PK f (ak a) (ak b) a.length b.length e c (((0:Nat):Int) - 1) (by decide)
 | k +1,hk=>by
  have i:(((k+1:Nat):Int) - 1)=(k:Int):=by omega
  have u:δ (k:Int)=k:=by omega
  have s:=LP (l:=a) (k:=k) (by omega);have q:=LP (l:=b) (k:=k) (by omega);have d:decide ((0:Int)<=(k:Int))=true:=Yq0 (by omega);have o:decide ((k:Int)<(a.length:Int))=true:=Yq0 (by omega);have g:decide ((k:Int)<(b.length:Int))=true:=Yq0 (by omega);have n:=PG f (ak a) (ak b) a.length b.length e c (k:Int);have j:=PH f (ak a) (ak b) a.length b.length e c (k:Int);have m:=PI f (ak a) (ak b) a.length b.length e c (k:Int);rw [u,s,q] at n j m;simp only [Γ] at n j m;simp only [uH];by_cases h1:a.getD k 0<b.getD k 0
  .rw [if_pos h1];refine .done ?_;have:=n (by simp only [lit];exact Yq0 (by omega)) rfl d g rfl o (by simp only [lit];exact d);show aj _ _ _ _ _ ⟨[_,_,(5,ω (((k+1:Nat):Int) - 1))],[],.dead,[]⟩ _ _;rw [i];exact this
  .rw [if_neg h1];have p:lit false (decide (((a.getD k 0:Nat):Int)<((b.getD k 0:Nat):Int)))=true:=by
    simp only [lit,Xqq];exact Yq1 (by omega)
   by_cases h2:b.getD k 0<a.getD k 0
   .rw [if_pos h2];refine .done ?_;have:=j (by simp only [lit];exact Yq0 (by omega)) rfl d g rfl o p (by simp only [lit];exact d);show aj _ _ _ _ _ ⟨[_,_,(5,ω (((k+1:Nat):Int) - 1))],[],.dead,[]⟩ _ _;rw [i];exact this
   .rw [if_neg h2];refine .next ?_ (EU f a b e c h r k (by omega))
    have t:lit false (decide (((b.getD k 0:Nat):Int)<((a.getD k 0:Nat):Int)))=true:=by
     simp only [lit,Xqq];exact Yq1 (by omega)
    have:=m t rfl d g rfl o p (by simp only [lit];exact d);rw [gZ (by omega) (by omega)] at this;show aj _ _ _ _ _ ⟨[_,_,(5,ω (((k+1:Nat):Int) - 1))],[],.dead,[]⟩ _ _;rw [i];exact this
theorem NF {n:Nat} (h:n<2^40):γ .i64 ((n:Int) - (1:Int))=(n:Int) - 1:=gZ (by omega) (by omega)
theorem afU (a b:List Nat) (d f:Bool) (c:lit true (decide ((a.length:Int)<(b.length:Int)))=true) (e:lit true (!((a.length:Int)==(b.length:Int)))=true):CO 210 [.sl (ak a) a.length d,.sl (ak b) b.length f] (.ret (ω (-1))):=pK [0] 2 3 (.c c (.c e .nil)) (.nil)
theorem afV (a b:List Nat) (d f:Bool) (c:lit false (decide ((a.length:Int)<(b.length:Int)))=true) (e:lit true (!((a.length:Int)==(b.length:Int)))=true):CO 210 [.sl (ak a) a.length d,.sl (ak b) b.length f] (.ret (ω 1)):=pK [0] 2 1 (.c c (.c e .nil)) (.nil)
theorem afW (a b:List Nat) (c e:Bool) (f:a.length<2^40) (d:a.length=b.length) (g:uH a b a.length=0) (h:lit false (!((a.length:Int)==(b.length:Int)))=true):CO 210 [.sl (ak a) a.length c,.sl (ak b) b.length e] (.ret (ω 0)):=pK [0] 1 0 (.c h .nil) (.l (by exact az.blk (λnt i=>EU i a b c e d f _ (χ _)) (by simp [WX,g]) (by simp [WX,g,qG]) (aN.of ⟨rfl,rfl,congrArg _ (NF f),trivial⟩) (aN.of trivial):aK prog ap [] 43 (.block 0 (.loop (af 0 (ah f210)))) ⟨[(0,.sl (ak a) a.length c),(1,.sl (ak b) b.length e),(4,ω 0),(5,ω (γ .i64 ((a.length:Int) - (1:Int)))),(10,.bool (!((a.length:Int)==(b.length:Int)))),(15,.dead),(20,.dead),(23,.dead),(33,.dead)],[],.dead,[]⟩ (.normal) ⟨[],[],.dead,[]⟩) .nil)
theorem afY (a b:List Nat) (c e:Bool) (g:a.length<2^40) (d:a.length=b.length) (f:¬ uH a b a.length=0) (h:lit false (!((a.length:Int)==(b.length:Int)))=true):CO 210 [.sl (ak a) a.length c,.sl (ak b) b.length e] (.ret (ω (uH a b a.length))):=pK [0] 1 0 (.c h .nil) (.l (by exact az.blk (λnt i=>EU i a b c e d g _ (χ _)) (by simp [WX,f]) (by simp [WX,f,qG]) (aN.of ⟨rfl,rfl,congrArg _ (NF g),trivial⟩) (aN.of ⟨by rw [if_neg f];rfl,trivial⟩):aK prog ap [] 43 (.block 0 (.loop (af 0 (ah f210)))) ⟨[(0,.sl (ak a) a.length c),(1,.sl (ak b) b.length e),(4,ω 0),(5,ω (γ .i64 ((a.length:Int) - (1:Int)))),(10,.bool (!((a.length:Int)==(b.length:Int)))),(15,.dead),(20,.dead),(23,.dead),(33,.dead)],[],.dead,[]⟩ (.ret) ⟨[(4,ω (uH a b a.length))],[],.dead,[]⟩) .nil)
def aaQ (a b:List Nat):Int:=if a.length<b.length then -1 else if b.length<a.length then 1 else uH a b a.length
theorem yt (a b:List Nat) (d e:Bool) (g:a.length<2^40):CO 210 [.sl (ak a) a.length d,.sl (ak b) b.length e] (.ret (ω (aaQ a b))):=by
 unfold aaQ;by_cases h1:a.length<b.length
 .rw [if_pos h1];exact afU a b d e (by simp only [lit];exact Yq0 (by omega)) (by simp [lit];omega)
 .rw [if_neg h1];by_cases h2:b.length<a.length
  .rw [if_pos h2];exact afV a b d e (by simp only [lit,Xqq];exact Yq1 (by omega)) (by simp [lit];omega)
  .rw [if_neg h2];have c:a.length=b.length:=by omega
   have f:lit false (!((a.length:Int)==(b.length:Int)))=true:=by simp [lit,c]
   by_cases hz:uH a b a.length=0
   .rw [hz];exact afW a b d e g c hz f
   .exact afY a b d e g c hz f
theorem vW (m n:Nat):bV (m+1) n=bV m n++ [n / 2^(32*m) % 2^32]:=by
 unfold bV;rw [Xwl,Xx3];rfl
theorem zM (n:Nat):∀ (k:Nat),(digs n).getD k 0=n / 2^(32*k) % 2^32:=by
 have key:∀ (m k:Nat),(fE (bV m n)).getD k 0=if k<m then n / 2^(32*k) % 2^32 else 0:=by
  intro m
  induction m with
  |zero=>intro k;simp [bV,fE]
  | succ m ih=>
   intro k;rw [vW,qc];by_cases hd:n / 2^(32*m) % 2^32=0
   .rw [if_pos hd,ih];by_cases hk:k<m
    .rw [if_pos hk,if_pos (by omega)]
    .rw [if_neg hk];by_cases hkm:k=m
     .subst hkm;rw [if_pos (by omega),hd]
     .rw [if_neg (by omega)]
   .rw [if_neg hd,ξ];by_cases hk:k<m
    .rw [Xxh (by rw [aW];exact hk),sQ hk,if_pos (by omega)];rfl
    .by_cases hkm:k=m
     .subst hkm;rw [Xxa (by rw [aW];exact χ _),aW,Xzr,if_pos (by omega)];rfl
     .rw [Xq6 (by rw [η,aW];simp;omega),if_neg (by omega)];rfl
 intro k;unfold digs;rw [key];by_cases hk:k<n
 .rw [if_pos hk]
 .rw [if_neg hk];have:n<2^(32*k):=Xqa (mY n) (Xqc (by omega) (by omega));rw [Xjb this]
theorem ZY (l:List Nat):(fE l).length<=l.length:=by
 unfold fE;rw [Xzt];have:=(Xzw (· ==0) (l:=l.reverse)).length_le;simpa using this
theorem j_ {n m:Nat} (h:n<2^(32*m)):(digs n).length<=m:=by
 rw [<- D8 h];have:=ZY (bV m n);rwa [aW] at this
theorem kL {n m:Nat} (h:(digs n).length<=m):n<2^(32*m):=by
 have key:∀ d,n<2^(32*(m+d))->n<2^(32*m):=by
  intro d
  induction d with
  |zero=>exact λh=>h
  | succ d ih=>
   intro b;refine ih ?_;have c:=zM n (m+d);rw [ξ,Xq6 (by omega)] at c;have e:n / 2^(32*(m+d))<2^32:=by
    rw [Xqv (Xqu _),<- Xxo,show 32+32*(m+d)=32*(m+(d+1)) by omega];exact b
   have a:n / 2^(32*(m+d)) % 2^32=0:=c.symm;rw [Ξ e] at a;rcases Nat.div_eq_zero_iff.1 a with h2|h2
   .have:=Xqu (32*(m+d));omega
   .exact h2
 refine key n ?_;exact Xqa (mY n) (Xqc (by omega) (by omega))
def nD (x y:Nat):Int:=if x<y then -1 else if y<x then 1 else 0
theorem BI (x k:Nat):x % 2^(32*(k+1))=x / 2^(32*k) % 2^32*2^(32*k)+x % 2^(32*k):=by
 rw [show 32*(k+1)=32*k+32 by omega,Xxo,Nat.mod_mul];rw [Xx1,Xqh (2^(32*k))]
theorem ES (x y:Nat):∀ k,uH (digs x) (digs y) k=nD (x % 2^(32*k)) (y % 2^(32*k))
 |0=>by simp [uH,nD,Yqk]
 | k +1=>by
  simp only [uH,zM];rw [ES x y k,BI x k,BI y k];have g:=Xqy x (Xqu (32*k));have f:=Xqy y (Xqu (32*k));generalize x / 2^(32*k) % 2^32=a;generalize y / 2^(32*k) % 2^32=b;generalize x % 2^(32*k)=c at g ⊢;generalize y % 2^(32*k)=d at f ⊢;generalize 2^(32*k)=M at g f ⊢;unfold nD;by_cases h1:a<b
  .rw [if_pos h1];have e:a*M+M<=b*M:=by
    have:=Xqw M (show a+1<=b from h1);rw [Xxt,Xzu] at this;exact this
   rw [if_pos (by omega)]
  .rw [if_neg h1];by_cases e:b<a
   .rw [if_pos e];have h:b*M+M<=a*M:=by
     have:=Xqw M (show b+1<=a from e);rw [Xxt,Xzu] at this;exact this
    rw [if_neg (by omega),if_pos (by omega)]
   .rw [if_neg e];have:a=b:=by omega
    subst this;simp only [Nat.add_lt_add_iff_left]
theorem Ba (x y:Nat):aaQ (digs x) (digs y)=nD x y:=by
 have b:=kL (n:=x) (χ _);have c:=kL (n:=y) (χ _);unfold aaQ;by_cases h1:(digs x).length<(digs y).length
 .rw [if_pos h1];have a:¬ y<2^(32*(digs x).length):=λh=>by have:=j_ h;omega
  unfold nD;rw [if_pos (by omega)]
 .rw [if_neg h1];by_cases a:(digs y).length<(digs x).length
  .rw [if_pos a];have e:¬ x<2^(32*(digs y).length):=λh=>by have:=j_ h;omega
   unfold nD;rw [if_neg (by omega),if_pos (by omega)]
  .rw [if_neg a,ES];have d:(digs x).length=(digs y).length:=by omega
   rw [Ξ b,Ξ (by rw [d];exact c)]
theorem EY {s:List UInt8} (hs:s.length<2^40):(digs (ag s)).length<2^40:=by
 have:=j_ (CJ s);omega
theorem ajm (s t:List UInt8) (hs:s.length<2^40) (a:t.length<2^40):CO 189 [.str s,.str t] (.ret (ω (nD (ag s) (ag t)))):=pK [] 0 0 .nil (.c (by rw [<- Ba];exact yt _ _ _ _ (EY hs):CO 210 [.sl (ak (digs (ag s))) (digs (ag s)).length true,.sl (ak (digs (ag t))) (digs (ag t)).length true] (.ret (ω (nD (ag s) (ag t))))) (.c (vV t a) (.c (vV s hs) .nil)))
theorem Yw (s:List UInt8) (a:lit true (s== [])=true):CO 159 [.str s] (.ret (.bool true)):=pK [] 1 1 (.c a .nil) (.nil)
theorem Yx (s:List UInt8) (a:(decide ((0:Int)<(((ζ s):Nat):Int)))=true) (b:lit false (s== [])=true):CO 159 [.str s] (.ret (.bool (!(((Xqd (Xqp s 0 0):Nat):Int)==(0:Int))))):=pK [] 1 0 (.k 1 a (.c b .nil)) (.nil)
theorem Qq {nt:Nat} (i:37<=nt) (xs a:List AV) (L M:Nat) (nn:Bool) (n k:Int) (d:(Φ (((0+(δ (γ .i64 ((γ .i64 ((M:Int) - (1:Int))) - k))))*1)+1) (ζ a))=true) (j:(decide ((0:Int)<=(γ .i64 ((γ .i64 ((M:Int) - (1:Int))) - k))))=true) (b:(decide ((γ .i64 ((γ .i64 ((M:Int) - (1:Int))) - k))<(M:Int)))=true) (g:(decide ((0:Int)<=(γ .i64 ((8:Int)*(Xxd k (4:Int))))))=true) (h:(chk (.int .u32) (θ (ε ((δ (γ .i64 (Xxl k (4:Int))))*1) xs) .dead))=true) (e:(decide ((0:Int)<=(γ .i64 (Xxl k (4:Int)))))=true) (c:(decide ((γ .i64 (Xxl k (4:Int)))<(L:Int)))=true) (f:lit true (decide (k<n))=true):ψ nt f117 ⟨[(0,.sl xs L nn),(3,.ref 0 0 0 M),(12,ω n),(13,ω k)],[(0,⟨a,0,false,0,1,true⟩)],.dead,[]⟩ (.normal) ⟨[(0,.sl xs L nn),(3,.ref 0 0 0 M),(12,ω n),(13,ω (γ .i64 (k+(1:Int))))],[(0,⟨(κ ((0+(δ (γ .i64 ((γ .i64 ((M:Int) - (1:Int))) - k))))*1) a++ [.int .u8 (γ .u8 (Xq0 (Γ (θ (ε ((δ (γ .i64 (Xxl k (4:Int))))*1) xs) .dead)) (2^(min (δ (γ .i64 ((8:Int)*(Xxd k (4:Int))))) (Xqk .u32)))))]++ε (((0+(δ (γ .i64 ((γ .i64 ((M:Int) - (1:Int))) - k))))*1)+1) a),0,false,0,1,true⟩)],.dead,[]⟩:=pJ 117 [] 1 1 (.c d (.c j (.c b (.c g (.k 1 h (.c e (.c c (.k 1 f .nil)))))))) (.nil) i
theorem Qr {nt:Nat} (c:37<=nt) (xs a:List AV) (L M:Nat) (nn:Bool) (n k:Int) (b:lit false (decide (k<n))=true):ψ nt f117 ⟨[(0,.sl xs L nn),(3,.ref 0 0 0 M),(12,ω n),(13,ω k)],[(0,⟨a,0,false,0,1,true⟩)],.dead,[]⟩ (.exit 0) ⟨[(3,.ref 0 0 0 M)],[(0,⟨a,0,false,0,1,true⟩)],.dead,[]⟩:=pJ 117 [] 1 0 (.c b .nil) (.nil) c
theorem QR {nt:Nat} (f:17<=nt) (s:List UInt8) (c:Int) (b:(decide ((1:Int)<=(((ζ s):Nat):Int)))=true) (g:(decide ((((ζ s):Nat):Int)<=(((ζ s):Nat):Int)))=true) (a:lit true (((Xqd (Xqp s 0 0):Nat):Int)==c)=true) (d:(decide ((0:Int)<(((ζ s):Nat):Int)))=true) (e:lit true (decide ((0:Int)<(((ζ s):Nat):Int)))=true):ψ nt f192 ⟨[(0,.str s),(1,.int .u8 c)],[],.dead,[]⟩ (.normal) ⟨[(0,.str (ε 1 (κ (δ (((ζ s):Nat):Int)) s))),(1,.int .u8 c)],[],.dead,[]⟩:=pJ 192 [] 2 3 (.k 1 b (.c g (.c a (.k 1 d (.c e .nil))))) (.nil) f
theorem QS {nt:Nat} (d:17<=nt) (s:List UInt8) (c:Int) (b:lit false (((Xqd (Xqp s 0 0):Nat):Int)==c)=true) (e:(decide ((0:Int)<(((ζ s):Nat):Int)))=true) (a:lit true (decide ((0:Int)<(((ζ s):Nat):Int)))=true):ψ nt f192 ⟨[(0,.str s),(1,.int .u8 c)],[],.dead,[]⟩ (.exit 0) ⟨[(0,.str s)],[],.dead,[]⟩:=pJ 192 [] 2 1 (.c b (.k 1 e (.c a .nil))) (.nil) d
theorem QT {nt:Nat} (b:17<=nt) (s:List UInt8) (c:Int) (a:lit false (decide ((0:Int)<(((ζ s):Nat):Int)))=true):ψ nt f192 ⟨[(0,.str s),(1,.int .u8 c)],[],.dead,[]⟩ (.exit 0) ⟨[(0,.str s)],[],.dead,[]⟩:=pJ 192 [] 2 0 (.k 1 a .nil) (.nil) b
def aqP (c:UInt8) (s:List UInt8):St:=⟨[(0,.str s),(1,.int .u8 (c.toNat:Int))],[],.dead,[]⟩
def aoF (s:List UInt8):St:=⟨[(0,.str s)],[],.dead,[]⟩
theorem OX {nt:Nat} (d:17<=nt) (c:UInt8):∀ (s:List UInt8),az prog ap [] nt (af 0 (ah f192)) (λ_=> .exit 0) (aqP c) aoF s (s.dropWhile (· ==c))
 | []=> .done (QT d [] (c.toNat:Int) (by simp [lit]))
 | b::r=>by
  have a:decide ((0:Int)<(((b::r).length:Nat):Int))=true:=Yq0 (by simp only [ν];omega);have g:decide ((1:Int)<=(((b::r).length:Nat):Int))=true:=Yq0 (by simp only [ν];omega);have e:decide ((((b::r).length:Nat):Int)<=(((b::r).length:Nat):Int))=true:=Yq0 (Int.le_refl _);rw [Xx8];by_cases hb:b=c
  .subst hb;rw [if_pos (by simp)];refine .next ?_ (OX d b r)
   have:=QR d (b::r) (b.toNat:Int) g e (by simp [lit]) a (by simp only [lit];exact a);rw [show δ (((b::r).length:Nat):Int)=(b::r).length by omega,Xqz] at this;exact this
  .rw [if_neg (by simpa using hb)];refine .done ?_;have f:¬ (b.toNat:Int)=(c.toNat:Int):=λh=>hb (UInt8.toNat_inj.1 (by omega))
   exact QS d (b::r) (c.toNat:Int) (by simp [lit];omega) a (by simp only [lit];exact a)
def qi (l:List Nat):List AV:=l.map λ(d:Nat)=>Xxx .u8 (d:Int)
def qp (m k x:Nat):List Nat:=(Xq7 m).map λi=>if m - k<=i then x / 2^(8*(m - 1 - i)) % 256 else 0
theorem jH (m k x:Nat):(qp m k x).length=m:=by simp [qp]
theorem NV {m k x i:Nat} (h:i<m):(qp m k x)[i]? =some (if m - k<=i then x / 2^(8*(m - 1 - i)) % 256 else 0):=by simp [qp,h]
theorem YD {m k x:Nat} (a:k<m):qp m (k+1) x=(qp m k x).set (m - 1 - k) (x / 2^(8*k) % 256):=by
 apply Xj3;intro i;by_cases hi:i<m
 .rw [NV hi,Xzo];by_cases h:m - 1 - k=i
  .rw [if_pos (show m - (k+1)<=i by omega),if_pos h,if_pos (by rw [jH];omega),show m - 1 - i=k by omega]
  .rw [if_neg h,NV hi];by_cases h2:m - k<=i
   .rw [if_pos h2,if_pos (by omega)]
   .rw [if_neg h2,if_neg (by omega)]
 .rw [Xq6 (by rw [jH];omega),Xq6 (by rw [Xwk,jH];omega)]
theorem ay (l:List Nat):(qi l).length=l.length:=by simp [qi]
theorem aiP (l:List Nat) (i:Nat) (x:Nat) (a:i<l.length):κ i (qi l)++ [Xxx .u8 (x:Int)]++ε (i+1) (qi l)=qi (l.set i x):=by
 unfold qi;rw [<- Xvb,<- Xj9,Xx2,if_pos a];simp
theorem aey (x:Nat):γ .u8 (x:Int)=((x % 256:Nat):Int):=by
 show (if (false && decide ((x:Int) % 2^8≥2^7))=true then (x:Int) % 2^8 - 2^8 else (x:Int) % 2^8)=_;simp only [Xjs,Xji,if_false];omega
theorem aaN (x k:Nat):x / 2^(32*(k / 4)) % 2^32 / 2^(8*(k % 4)) % 256=x / 2^(8*k) % 256:=by
 have b:8*k=32*(k / 4)+8*(k % 4):=by omega
 rw [b,Xxo,<- Xx4];generalize x / 2^(32*(k / 4))=y;have a:k % 4<4:=by omega
 generalize k % 4=r at a
 match r,a with
 |0,_=>omega
 |1,_=>omega
 |2,_=>omega
 |3,_=>omega
def alS (xs:List AV) (L:Nat) (nn:Bool) (x M k:Nat):St:=⟨[(0,.sl xs L nn),(3,.ref 0 0 0 M),(12,ω (M:Int)),(13,ω (k:Int))],[(0,⟨qi (qp M k x),0,false,0,1,true⟩)],.dead,[]⟩
def ahu (x M k:Nat):St:=⟨[(3,.ref 0 0 0 M)],[(0,⟨qi (qp M k x),0,false,0,1,true⟩)],.dead,[]⟩
theorem YC {nt:Nat} (c:37<=nt) (x:Nat) (nn:Bool) (r:(digs x).length<2^40):∀ (d k:Nat),k+d=4*(digs x).length->az prog ap [] nt (af 0 (ah f117)) (λ_=> .exit 0) (alS (ak (digs x)) (digs x).length nn x (4*(digs x).length)) (ahu x (4*(digs x).length)) k (4*(digs x).length):=by
 intro d
 induction d with
 |zero=>
  intro k o;have:k=4*(digs x).length:=by omega
  subst this;exact .done (Qr c _ _ _ _ nn _ _ (by simp [lit]))
 | succ d ih=>
  intro k o;refine .next ?_ (ih (k+1) (by omega))
  generalize s:4*(digs x).length=M at*
  have b:k<M:=by omega
  have g:k / 4<(digs x).length:=by omega
  have p:γ .i64 (Xxl (k:Int) 4)=((k / 4:Nat):Int):=by
   rw [Xz8 (by omega),gZ (by omega) (by omega)];omega
  have j:Xxd (k:Int) 4=((k % 4:Nat):Int):=by
   rw [Xvm (by omega)];omega
  have m:γ .i64 ((8:Int)*((k % 4:Nat):Int))=((8*(k % 4):Nat):Int):=by
   rw [gZ (by omega) (by omega)];omega
  have h:γ .i64 (γ .i64 ((M:Int) - 1) - (k:Int))=((M - 1 - k:Nat):Int):=by
   have q:γ .i64 ((M:Int) - 1)=((M - 1:Nat):Int):=by
    rw [gZ (by omega) (by omega)];omega
   rw [q,gZ (by omega) (by omega)];omega
  have i:(0+δ ((M - 1 - k:Nat):Int))*1=M - 1 - k:=by omega
  have f:γ .i64 ((k:Int)+1)=((k+1:Nat):Int):=by
   rw [gZ (by omega) (by omega)];omega
  have n:min (δ ((8*(k % 4):Nat):Int)) (Xqk .u32)=8*(k % 4):=by
   show min (δ ((8*(k % 4):Nat):Int)) 32=_;omega
  have e:δ ((k / 4:Nat):Int)=k / 4:=by omega
  have hcell:=LP (l:=digs x) g;rw [zM] at hcell;have hbody:=Qq c (ak (digs x)) (qi (qp M k x)) (digs x).length M nn (M:Int) (k:Int);rw [p,j,m,h,i,f,n,e,hcell] at hbody;simp only [Γ] at hbody;have a:Xq0 ((x / 2^(32*(k / 4)) % 2^32:Nat):Int) (2^(8*(k % 4)))=((x / 2^(32*(k / 4)) % 2^32 / 2^(8*(k % 4)):Nat):Int):=by
   have:((2:Int)^(8*(k % 4)))=((2^(8*(k % 4)):Nat):Int):=by simp
   rw [this,Xz9 _ (Xkw _)];exact (Yqb _ _).symm
  rw [a,aey,aaN,aiP _ _ _ (by rw [jH];omega),<- YD b] at hbody;exact hbody (by rw [ay,jH];exact Xqe (by omega)) (Yq0 (by omega)) (Yq0 (by omega)) (Yq0 (by omega)) rfl (Yq0 (by omega)) (Yq0 (by omega)) (Yq0 (by omega))
theorem aoG (s:List UInt8) (c:UInt8):CO 192 [.str s,.int .u8 (c.toNat:Int)] (.ret (.str (s.dropWhile (· ==c)))):=pK [0] 0 0 .nil (.l (az.blk (λnt a=>OX a c s) (by simp) rfl (aN.of ⟨rfl,rfl,trivial⟩) (aN.of ⟨rfl,trivial⟩):aK prog ap [] 17 (.block 0 (.loop (af 0 (ah f192)))) ⟨[(0,.str s),(1,.int .u8 (c.toNat:Int)),(4,.str []),(13,.dead)],[],.dead,[]⟩ (.normal) ⟨[(0,.str (s.dropWhile (· ==c)))],[],.dead,[]⟩) .nil)
theorem O_ (s:List UInt8) (a:lit true (s== [])=true):CO 163 [.str s,.str [0]] (.ret (.str s)):=pK [] 2 3 (.k 1 a .nil) (.nil)
theorem Pg (s:List UInt8) (a:lit false (s== [])=true):CO 163 [.str s,.str [0]] (.ret (.str (s.dropWhile (· ==0)))):=pK [] 4 12 (.k 7 a .nil) (.c (aoG s 0) .nil)
theorem MB (s:List UInt8):CO 163 [.str s,.str [0]] (.ret (.str (s.dropWhile (· ==0)))):=by
 by_cases h:s= []
 .subst h;exact O_ [] rfl
 .exact Pg s (by simp [lit,h])
def kP (m x:Nat):List UInt8:=(Xq7 m).map λi=>Xqo (x / 2^(8*(m - 1 - i)) % 256)
def ae (x:Nat):List UInt8:=(kP (4*(digs x).length) x).dropWhile (· ==0)
theorem KP (x:Nat) (h:(digs x).length<2^40):γ .i64 ((4:Int)*(((digs x).length:Nat):Int))=((4*(digs x).length:Nat):Int):=by
 rw [gZ (by omega) (by omega)];omega
theorem ahZ (m x:Nat):g_ m [Xxx .u8 0]=qi (qp m 0 x):=by
 have e:qp m 0 x=(Xq7 m).map λ_=>0:=by
  unfold qp;apply Xx9;intro i a;rw [if_neg (by have:=List.mem_range.1 a;omega)]
 rw [e];unfold g_ qi
 induction m with
 |zero=>rfl
 | succ m ih=>
  rw [Xj8,Xwe,Xwl,Xx3,Xx3];have b:qp m 0 x=(Xq7 m).map λ_=>0:=by
   unfold qp;apply Xx9;intro i a;rw [if_neg (by have:=List.mem_range.1 a;omega)]
  rw [ih b];simp
theorem Vd (m x:Nat):Xvc (λc=>Xqo (δ (Γ c))) (qi (qp m m x))=kP m x:=by
 unfold qi qp kP;rw [Xzs,Xzs];apply Xx9;intro i _;simp only [Xv0,Xzr,Xxr,if_true,Γ];congr 1
theorem afv (l:List Nat):Xzy (qi l) (chk (.int .u8))=true:=by
 unfold qi;rw [List.all_map];exact List.all_eq_true.2 λx _=>rfl
theorem Hf (m k x:Nat):κ (m*1) (qi (qp m k x))=qi (qp m k x):=by
 rw [Θ,ο (by rw [ay,jH];exact χ _)]
theorem YF (l:List Nat) (x:Nat) (nn:Bool) (e:fE l=digs x) (a:l.length<2^40) (hd:(digs x).length<2^40) (d:(Xqn (ζ (κ ((4*(digs x).length)*1) (qi (qp (4*(digs x).length) (4*(digs x).length) x)))) (4*(digs x).length))=true) (h:(Xzy (κ ((4*(digs x).length)*1) (qi (qp (4*(digs x).length) (4*(digs x).length) x))) (chk (.int .u8)))=true) (b:(decide ((0:Int)<=(γ .i64 ((4:Int)*(((digs x).length:Nat):Int)))))=true) (f:(decide ((γ .i64 ((4:Int)*(((digs x).length:Nat):Int)))=(γ .i64 ((4:Int)*(((digs x).length:Nat):Int)))))=true) (g:(decide ((γ .i64 ((4:Int)*(((digs x).length:Nat):Int)))<=(1099511627776:Int)))=true):CO 117 [.sl (ak l) l.length nn] (.ret (.str (ae x))):=pK [0] 0 0 (.c d (.c h (.c b (.c f (.c g .nil))))) (.c (by rw [Hf,Vd];exact MB _:CO 163 [.str (Xvc (λc=>Xqo (δ (Γ c))) (κ ((4*(digs x).length)*1) (qi (qp (4*(digs x).length) (4*(digs x).length) x)))),.str [0]] (.ret (.str (ae x)))) (.l (by rw [KP x hd,yZ,ahZ _ x];exact az.blk (λnt i=>YC i x nn hd (4*(digs x).length) 0 (by omega)) (by simp) rfl (aN.of ⟨rfl,rfl,rfl,rfl,trivial⟩) (aN.of ⟨rfl,trivial⟩):aK prog ap [] 37 (.block 0 (.loop (af 0 (ah f117)))) ⟨[(0,.sl (ak (digs x)) (digs x).length nn),(2,.str []),(3,.ref 0 0 0 (δ (γ .i64 ((4:Int)*(((digs x).length:Nat):Int))))),(4,.dead),(12,ω (((δ (γ .i64 ((4:Int)*(((digs x).length:Nat):Int)))):Nat):Int)),(13,ω 0),(14,.dead)],[(0,⟨(g_ (δ (γ .i64 ((4:Int)*(((digs x).length:Nat):Int)))) [.int .u8 0]),0,false,0,1,true⟩)],.dead,[]⟩ (.normal) ⟨[(3,.ref 0 0 0 (4*(digs x).length))],[(0,⟨(qi (qp (4*(digs x).length) (4*(digs x).length) x)),0,false,0,1,true⟩)],.dead,[]⟩) (.c (by rw [<- e];exact QV l nn a:CO 162 [.sl (ak l) l.length nn] (.ret (.sl (ak (digs x)) (digs x).length nn))) .nil)))
theorem sO (l:List Nat) (x:Nat) (nn:Bool) (b:fE l=digs x) (a:l.length<2^40) (hd:(digs x).length<2^36):CO 117 [.sl (ak l) l.length nn] (.ret (.str (ae x))):=
 YF l x nn b a (by omega)
  (by rw [Hf,ay,jH];exact Xwh _) (by rw [Hf];exact afv _)
  (by rw [KP x (by omega)];exact Yq0 (by omega)) (Yq0 rfl) (by rw [KP x (by omega)];exact Yq0 (by omega))
theorem tK (m x:Nat):kP (m+1) x=Xqo (x / 2^(8*m) % 256)::kP m x:=by
 unfold kP;rw [Xwr,Xqg,Xzs];congr 1;apply Xx9;intro i a;simp only [Xv0];have:=List.mem_range.1 a;rw [show m+1 - 1 - (i+1)=m - 1 - i by omega]
theorem IX:∀ (m:Nat) (b x:Nat),kP m (b*2^(8*m)+x)=kP m x:=by
 intro m b x;unfold kP;apply Xx9;intro i a;have a:=List.mem_range.1 a;have e:8*m=(8*m - 8*(m - 1 - i) - 8)+8+8*(m - 1 - i):=by omega
 congr 1
 conv=>lhs;rw [e]
 rw [Xxo,Xxo,<- Xqr,<- Xqr,Xx1,Xz1 _ _ (Xqu _)];exact Xvl _ _ 256
theorem IY:∀ (s:List UInt8),kP s.length (ag s)=s
 | []=>rfl
 |b::r=>by
  rw [ν,tK,jl,show (256:Nat)^r.length=2^(8*r.length) by rw [Xjf],IX,IY r];have h:=xC r;rw [show (256:Nat)^r.length=2^(8*r.length) by rw [Xjf]] at h;have a:=b.toNat_lt;rw [Xx1,Xz1 _ _ (Xqu _),Xjb h,Ψ,Ξ (by omega)];congr 1;exact UInt8.ofNat_toNat
theorem yl (x:Nat):∀ (d m:Nat),x<2^(8*m)->(kP (m+d) x).dropWhile (· ==0)=(kP m x).dropWhile (· ==0)
 |0,_,_=>rfl
 |d+1,m,h=>by
  rw [show m+(d+1)=(m+d)+1 by omega,tK];have a:x<2^(8*(m+d)):=Xqa h (Xqc (by omega) (by omega));rw [Xjb a,Xx8,if_pos (by rfl)];exact yl x d m h
theorem SL {m x:Nat} (h:x<2^(8*m)):(kP m x).dropWhile (· ==0)=ae x:=by
 unfold ae;have a:x<2^(8*(4*(digs x).length)):=by
  have:=kL (n:=x) (χ _);rwa [show 8*(4*(digs x).length)=32*(digs x).length by omega]
 rcases Yxm m (4*(digs x).length) with hm|hm
 .have:=yl x (4*(digs x).length - m) m h;rw [show m+(4*(digs x).length - m)=4*(digs x).length by omega] at this;exact this.symm
 .have:=yl x (m - 4*(digs x).length) (4*(digs x).length) a;rw [show 4*(digs x).length+(m - 4*(digs x).length)=m by omega] at this;exact this
theorem Gi (s:List UInt8):ae (ag s)=s.dropWhile (· ==0):=by
 have h:=xC s;rw [show (256:Nat)^s.length=2^(8*s.length) by rw [Xjf]] at h;rw [<- SL h,IY]
theorem O5:∀ (s:List UInt8),ag (s.dropWhile (· ==0))=ag s
 | []=>rfl
 | b::r=>by
  rw [Xx8];by_cases hb:b=0
  .subst hb;rw [if_pos (by rfl),O5 r,jl];simp
  .rw [if_neg (by simpa using hb)]
theorem JH:∀ (m x:Nat),x<2^(8*m)->ag (kP m x)=x
 |0,x,h=>by simp at h;subst h;rfl
 | m+1,x,h=>by
  rw [tK,jl];have b:(kP m x).length=m:=by simp [kP]
  have a:x / 2^(8*m)<256:=by
   rw [Xqv (Xqu _)];have e:(2:Nat)^(8*(m+1))=256*2^(8*m):=by rw [show 8*(m+1)=8+8*m by omega,Xxo]
   rw [<- e];exact h
  have c:ag (kP m x)=x % 2^(8*m):=by
   have e:x=x / 2^(8*m)*2^(8*m)+x % 2^(8*m):=by
    have:=Xxb x (2^(8*m));rw [Xqh] at this;omega
   conv=>lhs;rw [e]
   rw [IX];exact JH m _ (Xqy _ (Xqu _))
  rw [b,c,Ξ a];have d:(Xqo (x / 2^(8*m))).toNat=x / 2^(8*m):=by
   rw [UInt8.toNat_ofNat'];exact Ξ a
  rw [d,show (256:Nat)^m=2^(8*m) by rw [Xjf]];have:=Xxb x (2^(8*m));rw [Xqh] at this;exact this
theorem aG (x:Nat):ag (ae x)=x:=by
 unfold ae;rw [O5];refine JH _ _ ?_;have:=kL (n:=x) (χ _);rwa [show 8*(4*(digs x).length)=32*(digs x).length by omega]
end Go.Proofs.Tryz
set_option maxRecDepth 100000
open Go
namespace AM
theorem bG {x:Int} (h: -9223372036854775808<=x) (a:x<9223372036854775808):γ .i64 x=x:=by
 show (if (true && decide (x % 2^64≥2^63))=true then x % 2^64 - 2^64 else x % 2^64)=x;by_cases hx:x % 2^64≥2^63
 .rw [if_pos (by simpa using hx)];omega
 .rw [if_neg (by simpa using hx)];omega
theorem aS {a:Nat} (h:a<9223372036854775808):γ .i64 (a:Int)=(a:Int):=bG (by omega) (by omega)
theorem AX {a b:Nat} (h:a+b<9223372036854775808):γ .i64 ((a:Int)+(b:Int))=((a+b:Nat):Int):=by
 rw [bG (by omega) (by omega)];omega
theorem kH {a b:Nat} (h:b<=a) (c:a<9223372036854775808):γ .i64 ((a:Int) - (b:Int))=((a - b:Nat):Int):=by
 rw [bG (by omega) (by omega)];omega
theorem Ud {a b:Nat} (h:a*b<9223372036854775808):γ .i64 ((a:Int)*(b:Int))=((a*b:Nat):Int):=by
 rw [<- Xve,aS h]
theorem Z9 (k:IntKind) (a:k.signed=false) (x:Int):γ k x=x % 2^k.bits:=by
 show (if (k.signed && _)=true then _ else _)=_;rw [a];rfl
theorem QX {w:Nat} {k:IntKind} (c:k.signed=false) (b:k.bits=w) (a:Nat):γ k (a:Int)=((a % 2^w:Nat):Int):=by
 rw [Z9 k c,b];simp
theorem w8u (a:Nat):γ .u8 (a:Int)=((a % 256:Nat):Int):=QX (w:=8) rfl rfl a
theorem sW (a:Nat):γ .u32 (a:Int)=((a % 4294967296:Nat):Int):=QX (w:=32) rfl rfl a
theorem qg (a:Nat):γ .u64 (a:Int)=((a % 18446744073709551616:Nat):Int):=QX (w:=64) rfl rfl a
theorem lU (a b:Nat):γ .u64 ((a:Int) - (b:Int))=(((a+(18446744073709551616 - b % 18446744073709551616)) % 18446744073709551616:Nat):Int):=by
 rw [Z9 .u64 rfl,show Xqk .u64=64 from rfl];omega
theorem bQ (a b:Nat):((a:Int)+(b:Int))=((a+b:Nat):Int):=(Int.natCast_add a b).symm
theorem zD (a b:Nat):((a:Int)*(b:Int))=((a*b:Nat):Int):=(Xve a b).symm
theorem qV (a b:Nat):Xxl (a:Int) (b:Int)=((a / b:Nat):Int):=(Int.ofNat_tdiv a b).symm
theorem uV (a b:Nat):Xxd (a:Int) (b:Int)=((a % b:Nat):Int):=(Int.ofNat_tmod a b).symm
theorem EM (a n:Nat):((a:Int)*2^n)=((2^n*a:Nat):Int):=by rw [Xqh];simp
theorem sK {a b:Nat} (h:a<=b):min a b=a:=Xjc h
theorem SH {a:Nat} (h:a<=64):min a (Xqk .u64)=a:=Xjc h
theorem SG {a:Nat} (h:a<=32):min a (Xqk .u32)=a:=Xjc h
theorem oG:(2:Nat)^32=4294967296:=by decide
theorem al_:(2:Nat)^63=9223372036854775808:=by decide
theorem lZ (a n:Nat):Xq0 (a:Int) (2^n)=((a / 2^n:Nat):Int):=by
 have:((2:Int)^n)=((2^n:Nat):Int):=by simp
 rw [this,Xz9 _ (Xkw _)];exact (Yqb _ _).symm
theorem aC (a:Nat):δ (a:Int)=a:=rfl
theorem xe {w x:Nat} (h:x<2^w):(Xqm w (x:Int)).toNat=x:=by
 rw [Xkm,Xkv,Ξ h]
theorem Q9 {w a b:Nat} (d:a<2^w) (c:b<2^w):Xxq (Xqm w (a:Int)|||Xqm w (b:Int))=a|||b:=by
 rw [Yqi,xe d,xe c]
theorem MH {w a b:Nat} (d:a<2^w) (c:b<2^w):Xxq (Xqm w (a:Int) &&& Xqm w (b:Int))=a &&& b:=by
 rw [BitVec.toNat_and,xe d,xe c]
theorem YQ {a b:Nat} (c:a<18446744073709551616) (d:b<18446744073709551616):Xxq (Xqm (Xqk .u64) (a:Int)|||Xqm (Xqk .u64) (b:Int))=a|||b:=Q9 (w:=64) c d
theorem al9 {a b:Nat} (c:a<4294967296) (d:b<4294967296):Xxq (Xqm (Xqk .u32) (a:Int)|||Xqm (Xqk .u32) (b:Int))=a|||b:=Q9 (w:=32) c d
theorem ajE {a b:Nat} (c:a<18446744073709551616) (d:b<18446744073709551616):Xxq (Xqm (Xqk .u64) (a:Int) &&& Xqm (Xqk .u64) (b:Int))=a &&& b:=MH (w:=64) c d
theorem apg {a b:Nat} (c:a<18446744073709551616) (d:b<18446744073709551616):Xxq (Xqm (Xqk .i64) (a:Int) &&& Xqm (Xqk .i64) (b:Int))=a &&& b:=MH (w:=64) c d
theorem BL {a b k:Nat} (h:b<2^k):a*2^k|||b=a*2^k+b:=by
 have:=Xw5 h a;rw [Yqa] at this;exact this.symm
theorem WB (a k:Nat):a &&& (2^k - 1)=a % 2^k:=Nat.and_two_pow_sub_one_eq_mod a k
theorem EJ (a:Nat):a &&& 4294967295=a % 4294967296:=WB a 32
theorem dG (a b:Nat):decide ((a:Int)<=(b:Int))=decide (a<=b):=by
 by_cases h:a<=b<;>simp [h]
theorem aZ (a b:Nat):decide ((a:Int)<(b:Int))=decide (a<b):=by
 by_cases h:a<b<;>simp [h]
theorem d_eq (a b:Nat):decide ((a:Int)=(b:Int))=decide (a=b):=by
 by_cases h:a=b
 .simp [h]
 .rw [Yq1 h,Yq1 (by omega)]
theorem jY (a b:Nat):((a:Int)==(b:Int))=decide (a=b):=d_eq a b
theorem fK (a b:Nat):Φ a b=decide (a<=b):=by
 by_cases h:a<=b
 .rw [Yq0 h];exact Xqe h
 .rw [Yq1 h];cases c:Φ a b with
  |false=>rfl
  |true=>exact absurd (Nat.le_of_ble_eq_true c) h
theorem KL (a b:Nat):Xqn a b=decide (a=b):=by
 by_cases h:a=b
 .rw [Yq0 h,h];exact Xwh _
 .rw [Yq1 h];cases c:Xqn a b with
  |false=>rfl
  |true=>exact absurd (Nat.eq_of_beq_eq_true c) h
theorem bD (b:Bool):lit true b=b:=rfl
theorem dP (b:Bool):lit false b= !b:=rfl
theorem dY (b:Bool):((!b)=true)=(b=false):=by cases b<;>simp
theorem Dp (b:Bool):((!b)=false)=(b=true):=by cases b<;>simp
theorem bi (p:Prop) [Decidable p]:(decide p=true)=p:=by simp
theorem fA (p:Prop) [Decidable p]:(decide p=false)=¬ p:=by simp
end AM
set_option maxRecDepth 100000
open Go AM
namespace Go.Proofs.Tryz
def aI:List Nat->Nat
 | []=>0
 |d::r=>d+4294967296*aI r
def bT (l:List Nat):Prop:=∀ d ∈ l,d<4294967296
theorem bT.nil:bT []:=λ_ h=>(by cases h)
theorem bT.cons {d:Nat} {l:List Nat} (h:d<4294967296) (a:bT l):bT (d::l):=by
 intro x b;rcases List.mem_cons.1 b with rfl|h1
 .exact h
 .exact a x h1
theorem bT.head {d:Nat} {l:List Nat} (h:bT (d::l)):d<4294967296:=h d (Xjy ..)
theorem bT.tail {d:Nat} {l:List Nat} (h:bT (d::l)):bT l:=λx a=>h x (Xjd _ a)
theorem bT.app {a b:List Nat} (h:bT a) (d:bT b):bT (a++b):=λx c=>(List.mem_append.1 c).elim (h x) (d x)
theorem bT.take {a:List Nat} (h:bT a) (n:Nat):bT (a.take n):=λx b=>h x (Xje b)
theorem bT.drop {a:List Nat} (h:bT a) (n:Nat):bT (a.drop n):=λx b=>h x (List.mem_of_mem_drop b)
theorem bT.getD {a:List Nat} (h:bT a) (n:Nat):a.getD n 0<4294967296:=by
 rw [ξ];cases b:a[n]? with
 |none=>simp
 |some x=>simpa using h x (List.mem_of_getElem? b)
theorem bT.zeros (n:Nat):bT (μ n 0):=λx a=>by rw [(List.mem_replicate.1 a).2];omega
theorem nU (a b:List Nat):aI (a++b)=aI a+4294967296^a.length*aI b:=by
 induction a with
 |nil=>simp [aI]
 |cons d a ih=>
  simp only [Xxf,aI,ih,ν,Xq3,Xxe,<- Xqr];rw [Xqh (4294967296^a.length) 4294967296];omega
theorem qQ {l:List Nat} (h:bT l):aI l<4294967296^l.length:=by
 induction l with
 |nil=>simp [aI]
 |cons d l ih=>
  have b:=ih h.tail;have a:=h.head;simp only [aI,ν,Xq3];omega
theorem nP (k:Nat):(2:Nat)^(32*k)=4294967296^k:=by rw [Xjf]
theorem iY (k:Nat):0<4294967296^k:=Yql (by omega)
theorem Gu {l:List Nat} (h:bT l):bV l.length (aI l)=l:=by
 unfold bV
 induction l with
 |nil=>rfl
 | cons d l ih=>
  rw [ν,Xwr,Xqg,Xzs];congr 1
  .have:=h.head;simp only [aI,Xjl,Xvo,Xz3];omega
  .refine Eq.trans ?_ (ih h.tail);apply Xx9;intro i _;simp only [Xv0];have e:(2:Nat)^(32*(i+1))=4294967296*2^(32*i):=by rw [Xxe,Xxo,Xqh]
   rw [Xks,e,<- Xx4];have:aI (d::l) / 4294967296=aI l:=by have:=h.head;simp only [aI];omega
   rw [this]
theorem kC {l:List Nat} (h:bT l):fE l=digs (aI l):=by
 have a:=D8 (m:=l.length) (n:=aI l) (by rw [nP];exact qQ h);rw [Gu h] at a;exact a
theorem xB (m n:Nat):aI (bV m n)=n % 2^(32*m):=by
 induction m with
 |zero=>simp [bV,aI,Yqk]
 |succ m ih=>
  rw [vW,nU,ih,aW,BI];simp only [aI,nP,Xjl,Xq1];rw [Xqh,Xx1]
theorem bT.pad (m n:Nat):bT (bV m n):=by
 intro x a;obtain ⟨i,_,rfl⟩:=List.mem_map.1 a;exact Xqy _ (by omega)
theorem VX:∀ (l:List Nat),aI (fE l)=aI l:=by
 intro l
 induction h:l.length generalizing l with
 |zero=>rw [List.length_eq_zero_iff.1 h];rfl
 | succ n ih=>
  rcases Xzz l with rfl|⟨r,d,rfl⟩
  .rfl
  .rw [Xz0,qc];split
   .next hd=>subst hd;rw [ih r (by simpa using h),nU];simp [aI]
   .rfl
theorem VW {x:Nat}:∀ (l:List Nat),x ∈ fE l->x ∈ l:=by
 intro l a;unfold fE at a;have:=List.dropWhile_suffix (λx:Nat=>x==0) (l:=l.reverse)|>.subset (List.mem_reverse.1 a)
 exact List.mem_reverse.1 this
theorem fU (n:Nat):aI (digs n)=n:=by
 unfold digs;rw [VX,xB,Ξ (mY n)]
theorem bT.digs (n:Nat):bT (digs n):=λx a=>bT.pad n n x (VW _ a)
theorem V6 {l:List Nat} {k:Nat} (h:k<l.length):aI (l.drop k)=l.getD k 0+4294967296*aI (l.drop (k+1)):=by
 rw [Xxs h,ξ,π h];rfl
theorem Hr (l:List Nat) (k:Nat) (h:k<=l.length):aI l=aI (l.take k)+4294967296^k*aI (l.drop k):=by
 have:=nU (l.take k) (l.drop k);rwa [List.take_append_drop,Xq4,Xjc h] at this
theorem AC {l:List Nat} {k:Nat} (h:k<l.length):θ (ε k (ak l)) .dead= .int .u32 ((l.getD k 0:Nat):Int):=by
 have:=LP h;rwa [Θ] at this
theorem kG {p s:List Nat} {x k:Nat} (h:k=p.length):θ (ε k (ak (p++x::s))) .dead= .int .u32 (x:Int):=by
 subst h;rw [AC (by simp)];simp
theorem nC {p s:List Nat} {x y k:Nat} (h:k=p.length):κ k (ak (p++x::s))++ [Xxx .u32 (y:Int)]++ε (k+1) (ak (p++x::s))=ak (p++y::s):=by
 subst h;rw [TM _ _ _ (by simp)];simp
theorem kE (x:Int):chk (.int .u32) (.int .u32 x)=true:=rfl
theorem bf (k:IntKind) (x:Int):Γ (.int k x)=x:=rfl
theorem qO (m:Nat):g_ m [Xxx .u32 0]=ak (μ m 0):=by
 rw [TA];congr 1;unfold bV;apply List.ext_getElem
 .simp
 .intro i a b;simp
theorem p_ (l:List Nat) (k:Nat):κ k (ak l)=ak (l.take k):=by unfold ak;rw [Xvb]
theorem Xi (l:List Nat) (k:Nat):ε k (ak l)=ak (l.drop k):=by unfold ak;rw [Xj9]
theorem VJ {nt:Nat} (j:44<=nt) (a:List Nat) (nn:Bool) (b r M:Nat) (k:Int) (c:List AV) (h:(Φ (((0+(δ k))*1)+1) (ζ c))=true) (e:(decide (((0:Nat):Int)<=k))=true) (f:(decide (k<(M:Int)))=true) (d:(!((γ .u64 (b:Int))==((0:Nat):Int)))=true) (l:(chk (.int .u32) (θ (ε ((δ k)*1) (ak a)) .dead))=true) (i:(decide (k<(a.length:Int)))=true) (g:lit true (decide (((0:Nat):Int)<=k))=true):ψ nt f220 ⟨[(0,.sl (ak a) a.length nn),(1,.int .u32 (b:Int)),(6,.ref 0 0 0 M),(7,.int .u64 (r:Int)),(8,ω k)],[(0,⟨c,0,false,0,1,true⟩)],.dead,[]⟩ (.normal) ⟨[(0,.sl (ak a) a.length nn),(1,.int .u32 (b:Int)),(6,.ref 0 0 0 M),(7,.int .u64 (Xxd (γ .u64 (Xxq (Xqm (Xqk .u64) (γ .u64 ((r:Int)*2^(min 32 64)))|||Xqm (Xqk .u64) (γ .u64 (Γ (θ (ε ((δ k)*1) (ak a)) .dead)))))) (γ .u64 (b:Int)))),(8,ω (γ .i64 (k - ((1:Nat):Int))))],[(0,⟨(κ ((0+(δ k))*1) c++ [.int .u32 (γ .u32 (γ .u64 (Xxl (γ .u64 (Xxq (Xqm (Xqk .u64) (γ .u64 ((r:Int)*2^(min 32 64)))|||Xqm (Xqk .u64) (γ .u64 (Γ (θ (ε ((δ k)*1) (ak a)) .dead)))))) (γ .u64 (b:Int)))))]++ε (((0+(δ k))*1)+1) c),0,false,0,1,true⟩)],.dead,[]⟩:=pJ 220 [] 1 1 (.c h (.c e (.c f (.c d (.c d (.c l (.c e (.c i (.k 1 g .nil))))))))) (.nil) j
theorem VK {nt:Nat} (e:44<=nt) (a:List Nat) (nn:Bool) (b r M:Nat) (k:Int) (c:List AV) (d:lit false (decide (((0:Nat):Int)<=k))=true):ψ nt f220 ⟨[(0,.sl (ak a) a.length nn),(1,.int .u32 (b:Int)),(6,.ref 0 0 0 M),(7,.int .u64 (r:Int)),(8,ω k)],[(0,⟨c,0,false,0,1,true⟩)],.dead,[]⟩ (.exit 0) ⟨[(0,.sl (ak a) a.length nn),(1,.int .u32 (b:Int)),(6,.ref 0 0 0 M),(7,.int .u64 (r:Int)),(8,ω k)],[(0,⟨c,0,false,0,1,true⟩)],.dead,[]⟩:=pJ 220 [] 1 0 (.c d .nil) (.nil) e
theorem V3 {nt:Nat} (p:41<=nt) (a:List Nat) (nn:Bool) (n M k:Nat) (b:List AV) (g:(Φ (((0+(δ (γ .i64 ((k:Int)+((1:Nat):Int)))))*1)+1) (ζ (κ ((0+(δ (k:Int)))*1) b++ [.int .u32 (γ .u32 (Xxq (Xqm (Xqk .u32) (Γ (θ (ε ((0+(δ (k:Int)))*1) b) .dead))|||Xqm (Xqk .u32) (γ .u32 (γ .u64 ((γ .u64 (Γ (θ (ε ((δ (k:Int))*1) (ak a)) .dead)))*2^(min (δ (n:Int)) (Xqk .u64))))))))]++ε (((0+(δ (k:Int)))*1)+1) b)))=true) (i:(decide (((0:Nat):Int)<=(γ .i64 ((k:Int)+((1:Nat):Int)))))=true) (f:(decide ((γ .i64 ((k:Int)+((1:Nat):Int)))<(M:Int)))=true) (h:(Φ (((0+(δ (k:Int)))*1)+1) (ζ b))=true) (c:(decide (((0:Nat):Int)<=(k:Int)))=true) (e:(decide ((k:Int)<(M:Int)))=true) (l:(chk (.int .u32) (θ (ε ((0+(δ (k:Int)))*1) b) .dead))=true) (m:(decide (((0:Nat):Int)<=(n:Int)))=true) (j:(chk (.int .u32) (θ (ε ((δ (k:Int))*1) (ak a)) .dead))=true) (o:(decide ((k:Int)<(a.length:Int)))=true) (d:lit true (decide ((k:Int)<(a.length:Int)))=true):ψ nt f222 ⟨[(5,.ref 0 0 0 M),(1,ω (n:Int)),(13,.sl (ak a) a.length nn),(14,ω (a.length:Int)),(15,ω (k:Int))],[(0,⟨b,0,false,0,1,true⟩)],.dead,[]⟩ (.normal) ⟨[(5,.ref 0 0 0 M),(1,ω (n:Int)),(13,.sl (ak a) a.length nn),(14,ω (a.length:Int)),(15,ω (γ .i64 ((k:Int)+((1:Nat):Int))))],[(0,⟨(κ ((0+(δ (γ .i64 ((k:Int)+((1:Nat):Int)))))*1) (κ ((0+(δ (k:Int)))*1) b++ [.int .u32 (γ .u32 (Xxq (Xqm (Xqk .u32) (Γ (θ (ε ((0+(δ (k:Int)))*1) b) .dead))|||Xqm (Xqk .u32) (γ .u32 (γ .u64 ((γ .u64 (Γ (θ (ε ((δ (k:Int))*1) (ak a)) .dead)))*2^(min (δ (n:Int)) (Xqk .u64))))))))]++ε (((0+(δ (k:Int)))*1)+1) b)++ [.int .u32 (γ .u32 (Xq0 (γ .u64 ((γ .u64 (Γ (θ (ε ((δ (k:Int))*1) (ak a)) .dead)))*2^(min (δ (n:Int)) (Xqk .u64)))) (2^(min 32 64))))]++ε (((0+(δ (γ .i64 ((k:Int)+((1:Nat):Int)))))*1)+1) (κ ((0+(δ (k:Int)))*1) b++ [.int .u32 (γ .u32 (Xxq (Xqm (Xqk .u32) (Γ (θ (ε ((0+(δ (k:Int)))*1) b) .dead))|||Xqm (Xqk .u32) (γ .u32 (γ .u64 ((γ .u64 (Γ (θ (ε ((δ (k:Int))*1) (ak a)) .dead)))*2^(min (δ (n:Int)) (Xqk .u64))))))))]++ε (((0+(δ (k:Int)))*1)+1) b)),0,false,0,1,true⟩)],.dead,[]⟩:=pJ 222 [] 1 1 (.c g (.c i (.c f (.k 1 h (.c c (.c e (.c l (.c c (.c e (.c m (.c j (.c c (.c o (.c d .nil)))))))))))))) (.nil) p
theorem V4 {nt:Nat} (d:41<=nt) (a:List Nat) (nn:Bool) (n M k:Nat) (b:List AV) (c:lit false (decide ((k:Int)<(a.length:Int)))=true):ψ nt f222 ⟨[(5,.ref 0 0 0 M),(1,ω (n:Int)),(13,.sl (ak a) a.length nn),(14,ω (a.length:Int)),(15,ω (k:Int))],[(0,⟨b,0,false,0,1,true⟩)],.dead,[]⟩ (.exit 0) ⟨[(5,.ref 0 0 0 M)],[(0,⟨b,0,false,0,1,true⟩)],.dead,[]⟩:=pJ 222 [] 1 0 (.c c .nil) (.nil) d
theorem UC {nt:Nat} (s:48<=nt) (a:List Nat) (nn:Bool) (n M k:Nat) (b:List AV) (i:(Φ (((0+(δ (k:Int)))*1)+1) (ζ (κ ((0+(δ (k:Int)))*1) b++ [.int .u32 (Xq0 (Γ (θ (ε ((δ (k:Int))*1) (ak a)) .dead)) (2^(min (δ (n:Int)) (Xqk .u32))))]++ε (((0+(δ (k:Int)))*1)+1) b)))=true) (c:(decide (((0:Nat):Int)<=(k:Int)))=true) (d:(decide ((k:Int)<(M:Int)))=true) (j:(decide (((0:Nat):Int)<=(γ .i64 (((32:Nat):Int) - (n:Int)))))=true) (l:(chk (.int .u32) (θ (ε ((δ (γ .i64 ((k:Int)+((1:Nat):Int))))*1) (ak a)) .dead))=true) (p:(decide (((0:Nat):Int)<=(γ .i64 ((k:Int)+((1:Nat):Int)))))=true) (o:(decide ((γ .i64 ((k:Int)+((1:Nat):Int)))<(a.length:Int)))=true) (q:(chk (.int .u32) (θ (ε ((0+(δ (k:Int)))*1) (κ ((0+(δ (k:Int)))*1) b++ [.int .u32 (Xq0 (Γ (θ (ε ((δ (k:Int))*1) (ak a)) .dead)) (2^(min (δ (n:Int)) (Xqk .u32))))]++ε (((0+(δ (k:Int)))*1)+1) b)) .dead))=true) (m:lit true (decide ((γ .i64 ((k:Int)+((1:Nat):Int)))<(a.length:Int)))=true) (r:(Φ (((0+(δ (k:Int)))*1)+1) (ζ b))=true) (e:(decide (((0:Nat):Int)<=(n:Int)))=true) (f:(chk (.int .u32) (θ (ε ((δ (k:Int))*1) (ak a)) .dead))=true) (g:(decide ((k:Int)<(a.length:Int)))=true) (h:lit true (decide ((k:Int)<(a.length:Int)))=true):ψ nt f226 ⟨[(0,.sl (ak a) a.length nn),(1,ω (n:Int)),(5,.ref 0 0 0 M),(11,.sl (ak a) a.length nn),(12,ω (a.length:Int)),(13,ω (k:Int))],[(0,⟨b,0,false,0,1,true⟩)],.dead,[]⟩ (.normal) ⟨[(0,.sl (ak a) a.length nn),(1,ω (n:Int)),(5,.ref 0 0 0 M),(11,.sl (ak a) a.length nn),(12,ω (a.length:Int)),(13,ω (γ .i64 ((k:Int)+((1:Nat):Int))))],[(0,⟨(κ ((0+(δ (k:Int)))*1) (κ ((0+(δ (k:Int)))*1) b++ [.int .u32 (Xq0 (Γ (θ (ε ((δ (k:Int))*1) (ak a)) .dead)) (2^(min (δ (n:Int)) (Xqk .u32))))]++ε (((0+(δ (k:Int)))*1)+1) b)++ [.int .u32 (γ .u32 (Xxq (Xqm (Xqk .u32) (Γ (θ (ε ((0+(δ (k:Int)))*1) (κ ((0+(δ (k:Int)))*1) b++ [.int .u32 (Xq0 (Γ (θ (ε ((δ (k:Int))*1) (ak a)) .dead)) (2^(min (δ (n:Int)) (Xqk .u32))))]++ε (((0+(δ (k:Int)))*1)+1) b)) .dead))|||Xqm (Xqk .u32) (γ .u32 (γ .u64 ((γ .u64 (Γ (θ (ε ((δ (γ .i64 ((k:Int)+((1:Nat):Int))))*1) (ak a)) .dead)))*2^(min (δ (γ .i64 (((32:Nat):Int) - (n:Int)))) (Xqk .u64))))))))]++ε (((0+(δ (k:Int)))*1)+1) (κ ((0+(δ (k:Int)))*1) b++ [.int .u32 (Xq0 (Γ (θ (ε ((δ (k:Int))*1) (ak a)) .dead)) (2^(min (δ (n:Int)) (Xqk .u32))))]++ε (((0+(δ (k:Int)))*1)+1) b)),0,false,0,1,true⟩)],.dead,[]⟩:=pJ 226 [] 2 3 (.c i (.c c (.c d (.c j (.c l (.c p (.c o (.c q (.c c (.c d (.c m (.c r (.c c (.c d (.c e (.c f (.c c (.c g (.c h .nil))))))))))))))))))) (.nil) s
theorem UD {nt:Nat} (j:48<=nt) (a:List Nat) (nn:Bool) (n M k:Nat) (b:List AV) (e:lit false (decide ((γ .i64 ((k:Int)+((1:Nat):Int)))<(a.length:Int)))=true) (l:(Φ (((0+(δ (k:Int)))*1)+1) (ζ b))=true) (c:(decide (((0:Nat):Int)<=(k:Int)))=true) (h:(decide ((k:Int)<(M:Int)))=true) (i:(decide (((0:Nat):Int)<=(n:Int)))=true) (f:(chk (.int .u32) (θ (ε ((δ (k:Int))*1) (ak a)) .dead))=true) (d:(decide ((k:Int)<(a.length:Int)))=true) (g:lit true (decide ((k:Int)<(a.length:Int)))=true):ψ nt f226 ⟨[(0,.sl (ak a) a.length nn),(1,ω (n:Int)),(5,.ref 0 0 0 M),(11,.sl (ak a) a.length nn),(12,ω (a.length:Int)),(13,ω (k:Int))],[(0,⟨b,0,false,0,1,true⟩)],.dead,[]⟩ (.normal) ⟨[(0,.sl (ak a) a.length nn),(1,ω (n:Int)),(5,.ref 0 0 0 M),(11,.sl (ak a) a.length nn),(12,ω (a.length:Int)),(13,ω (γ .i64 ((k:Int)+((1:Nat):Int))))],[(0,⟨(κ ((0+(δ (k:Int)))*1) b++ [.int .u32 (Xq0 (Γ (θ (ε ((δ (k:Int))*1) (ak a)) .dead)) (2^(min (δ (n:Int)) (Xqk .u32))))]++ε (((0+(δ (k:Int)))*1)+1) b),0,false,0,1,true⟩)],.dead,[]⟩:=pJ 226 [] 2 1 (.c e (.c l (.c c (.c h (.c i (.c f (.c c (.c d (.c g .nil))))))))) (.nil) j
theorem UE {nt:Nat} (d:48<=nt) (a:List Nat) (nn:Bool) (n M k:Nat) (b:List AV) (c:lit false (decide ((k:Int)<(a.length:Int)))=true):ψ nt f226 ⟨[(0,.sl (ak a) a.length nn),(1,ω (n:Int)),(5,.ref 0 0 0 M),(11,.sl (ak a) a.length nn),(12,ω (a.length:Int)),(13,ω (k:Int))],[(0,⟨b,0,false,0,1,true⟩)],.dead,[]⟩ (.exit 0) ⟨[(5,.ref 0 0 0 M)],[(0,⟨b,0,false,0,1,true⟩)],.dead,[]⟩:=pJ 226 [] 1 0 (.c c .nil) (.nil) d
def n_ (b:Nat):List Nat->List Nat->Nat->List Nat × Nat
 | [],q,r=>(q,r)
 |x::l,q,r=>n_ b l ((4294967296*r+x) / b::q) ((4294967296*r+x) % b)
theorem Ha {b r x:Nat} (a:0<b) (c:r<b) (e:x<4294967296):(4294967296*r+x) / b<4294967296:=by
 rw [Xqv a];have d:4294967296*(r+1)<=4294967296*b:=Xqx _ c;omega
theorem ZF {b r x v:Nat}:((4294967296*r+x) / b+4294967296*v)*b+(4294967296*r+x) % b=4294967296*(v*b+r)+x:=by
 have a:=Xxb (4294967296*r+x) b;generalize (4294967296*r+x) / b=y at*
 generalize (4294967296*r+x) % b=z at*
 rw [Xxt,Xqr,Xqh y b];omega
theorem QH {b:Nat} (e:0<b) (l:List Nat):∀ (q:List Nat) (r:Nat),r<b->bT l->bT q->
  (n_ b l q r).2<b/\bT (n_ b l q r).1/\(n_ b l q r).1.length=q.length+l.length/\aI (n_ b l q r).1*b+(n_ b l q r).2=4294967296^l.length*(aI q*b+r)+aI l.reverse:=by
 induction l with
 |nil=>
  intro q r a _ c;refine ⟨a,c,rfl, ?_⟩;simp only [n_,Xqf,Xvo,Xzu,Xw4,aI,Xq1]
 |cons x l ih=>
  intro q r a d c;obtain ⟨h,i,g,f⟩:=ih ((4294967296*r+x) / b::q) ((4294967296*r+x) % b) (Xqy _ e) d.tail (c.cons (Ha e a d.head));refine ⟨h,i, ?_, ?_⟩
  .simp only [n_];rw [g,ν,ν];omega
  simp only [n_];rw [f,Xz7,nU,Xzt,ν,Xq3];simp only [aI,Xjl,Xq1];rw [ZF,Xxe,Xqr];omega
def VI (a:List Nat) (nn:Bool) (b:Nat) (k:Nat) (q:List Nat) (r:Nat):St:=⟨[(0,.sl (ak a) a.length nn),(1,.int .u32 (b:Int)),(6,.ref 0 0 0 a.length),(7,.int .u64 (r:Int)),(8,ω ((k:Int) - 1))],[(0,⟨ak (μ k 0++q),0,false,0,1,true⟩)],.dead,[]⟩
theorem QI {nt:Nat} (n:44<=nt) (a:List Nat) (nn:Bool) (b:Nat) (e:0<b) (t:b<4294967296) (v:a.length<2^40) (g:bT a):
  ∀ (l q d:List Nat) (r:Nat),r<b->l.reverse++d=a->q.length=d.length->az prog ap [] nt (af 0 (ah f220)) (λ_=> .exit 0) (λ(x:Nat × List Nat × Nat)=>VI a nn b x.1 x.2.1 x.2.2) (λ(x:List Nat × Nat)=>VI a nn b 0 x.1 x.2) (l.length,q,r) (n_ b l q r):=by
 intro l
 induction l with
 |nil=>
  intro q d r m hd h;have hbody:=VK n a nn b r a.length (-1) (ak q) rfl;exact .done (by simpa [VI,n_] using hbody)
 | cons x l ih=>
  intro q d r m hd h;have j:x<4294967296:=g x (by rw [<- hd];simp);have i:l.length+1+d.length=a.length:=by rw [<- hd];simp;omega
  refine .next ?_ (ih ((4294967296*r+x) / b::q) (x::d) ((4294967296*r+x) % b) (Xqy _ e) (by rw [<- hd];simp) (by simp [h]))
  have hbody:=VJ n a nn b r a.length (l.length:Int) (ak (μ l.length 0++0::q));have c:θ (ε l.length (ak a)) .dead= .int .u32 (x:Int):=by
   rw [<- hd,Xz7,υ];exact kG (by simp)
  have u:(((x::l).length:Nat):Int) - 1=(l.length:Int):=by simp
  have s:μ (x::l).length 0++q=μ l.length 0++0::q:=by rw [ν,Xj8,υ];rfl
  have f:4294967296*r|||x=4294967296*r+x:=by
   have:=BL (a:=r) (b:=x) (k:=32) j;rwa [oG,Xqh] at this
  have p:=Ha e m j;have o:=Xqy (4294967296*r+x) e;simp (disch:=first|omega|(simp [au,ay]<;>omega)) only [aC,Ψ,Θ,au,η,Xx7,ν,fK,bi,dG,aZ,qg,Ξ,jY,dY,fA,c,kE,bD,sK,EM,oG,bf,YQ,f,uV,qV,sW,nC] at hbody;rw [bG (by omega) (by omega)] at hbody;simp only [VI,u,s];exact hbody (by omega) (by omega) (by omega) (by omega) trivial (by omega) (by omega)
theorem FQ {n:Nat} (h:n<2^40):γ .i64 ((n:Int) - ((1:Nat):Int))=(n:Int) - 1:=bG (by omega) (by omega)
theorem afg (q:List Nat) (nn:Bool) (x:Nat) (a:fE q=digs x) (h:q.length<2^40):CO 162 [.sl (ak q) q.length nn] (.ret (.sl (ak (digs x)) (digs x).length nn)):=by
 have:=QV q nn h;rwa [a] at this
theorem OU {l:List Nat} {n:Nat} (h:l.length=n):κ (n*1) (ak l)=ak l:=by
 rw [Θ,ο (by rw [au,h];exact χ _)]
theorem Dz (q:List Nat) (n x:Nat) (a:q.length=n) (b:fE q=digs x) (h:n<2^40):CO 162 [.sl (κ (n*1) (ak q)) n true] (.ret (.sl (ak (digs x)) (digs x).length true)):=by
 rw [OU a];subst a;exact afg q true x b h
theorem IC (n:Nat):μ n 0++([]:List Nat)=μ n 0:=Δ _
theorem ad6 (a:List Nat) (nn:Bool) (b:Nat) (q:List Nat) (r x:Nat) (d:a.length<2^40) (c:q.length=a.length) (g:fE q=digs x) (hloop:∀ nt,44<=nt->az prog ap [] nt (af 0 (ah f220)) (λ_=> .exit 0) (λ(x:Nat × List Nat × Nat)=>VI a nn b x.1 x.2.1 x.2.2) (λ(x:List Nat × Nat)=>VI a nn b 0 x.1 x.2) (a.length,[],0) (q,r)) (f:(decide (((0:Nat):Int)<=(a.length:Int)))=true) (h:(decide ((a.length:Int)=(a.length:Int)))=true) (e:(decide ((a.length:Int)<=((1099511627776:Nat):Int)))=true):CO 220 [.sl (ak a) a.length nn,.int .u32 (b:Int)] (.ret (.tup [.sl (ak (digs x)) (digs x).length true,.int .u32 (γ .u32 (r:Int))])):=pK [0] 0 0 (.c f (.c h (.c e .nil))) (.c (Dz q _ x c g d) (.l (by rw [aC,qO,<- IC];exact az.blk hloop (by simp) rfl (aN.of ⟨rfl,rfl,rfl,rfl,congrArg (Xxx .i64) (FQ d),trivial⟩) (aN.of ⟨rfl,rfl,trivial⟩):aK prog ap [] 44 (.block 0 (.loop (af 0 (ah f220)))) ⟨[(0,.sl (ak a) a.length nn),(1,.int .u32 (b:Int)),(4,.nilS),(5,.int .u32 0),(6,.ref 0 0 0 (δ (a.length:Int))),(7,.int .u64 0),(8,ω (γ .i64 ((a.length:Int) - ((1:Nat):Int)))),(9,.dead),(17,.dead)],[(0,⟨(g_ (δ (a.length:Int)) [.int .u32 0]),0,false,0,1,true⟩)],.dead,[]⟩ (.normal) ⟨[(6,.ref 0 0 0 a.length),(7,.int .u64 (r:Int))],[(0,⟨(ak q),0,false,0,1,true⟩)],.dead,[]⟩) .nil))
theorem ZG (a:List Nat) (nn:Bool) (b:Nat) (c:0<b) (i:b<4294967296) (m:a.length<2^40) (d:bT a):CO 220 [.sl (ak a) a.length nn,.int .u32 (b:Int)] (.ret (.tup [.sl (ak (digs (aI a / b))) (digs (aI a / b)).length true,.int .u32 ((aI a % b:Nat):Int)])):=by
 have f:bT a.reverse:=λx o=>d x (List.mem_reverse.1 o)
 obtain ⟨h,j,g,e⟩:=QH c a.reverse [] 0 c f bT.nil;rw [Xzt,Xqf,Ψ] at g;simp only [aI,Xw2,Xjl,Ψ,Xq1,List.reverse_reverse] at e;have l:=λnt (hn:44<=nt)=>QI hn a nn b c i m d a.reverse [] [] 0 c (by simp) rfl
 rw [Xzt] at l;generalize hp:n_ b a.reverse [] 0=p at*
 obtain ⟨q,r⟩:=p;simp only at h j g e;have s:aI q=aI a / b:=by rw [<- e,Xqh,Nat.mul_add_div c,Xjb h,Xq1]
 have n:r=aI a % b:=by rw [<- e,Xqh,Nat.mul_add_mod,Ξ h]
 have k:=ad6 a nn b q r (aI a / b) m g (by rw [kC j,s]) l (Yq0 (by omega)) (Yq0 rfl) (Yq0 (by omega));rw [sW,Ξ (by omega),n] at k;exact k
def O4 (n c:Nat):List Nat->List Nat
 | []=> [c]
 |x::l=>(c+2^n*x % 4294967296)::O4 n (2^n*x / 4294967296) l
theorem uD (n:Nat) (l:List Nat):∀ c,(O4 n c l).length=l.length+1:=by
 induction l with
 |nil=>intro c;rfl
 |cons x l ih=>intro c;simp only [O4,ν,ih]
theorem Ub (n:Nat) (l:List Nat):∀ c,aI (O4 n c l)=c+2^n*aI l:=by
 induction l with
 |nil=>intro c;simp only [O4,aI,Xjl]
 |cons x l ih=>
  intro c;simp only [O4,aI,ih,Xxe];have h:=Xxb (2^n*x) 4294967296;rw [<- Xqr 4294967296 (2^n),<- Xqr (2^n) 4294967296,Xqh (2^n) 4294967296];omega
theorem Ce {n x:Nat} (f:n<=31) (d:x<4294967296):2^n*x<18446744073709551616/\2^n*x / 4294967296<2^n/\2^n*x % 4294967296=2^n*(x % 2^(32 - n))/\2^n*x % 4294967296+2^n<=4294967296/\2^n<=2147483648:=by
 have hp:(2:Nat)^n*2^(32 - n)=4294967296:=by rw [<- Xxo,show n+(32 - n)=32 by omega,oG]
 have g:2^n<=2147483648:=Xxg (Xqc (by omega) f) (by decide);have h:2^n*x<=2^n*4294967295:=Xqx _ (by omega);have b:2^n*x % 4294967296=2^n*(x % 2^(32 - n)):=by rw [<- hp,Xva]
 have e:x % 2^(32 - n)+1<=2^(32 - n):=Xqy _ (Xqu _);have a:2^n*(x % 2^(32 - n)+1)<=2^n*2^(32 - n):=Xqx _ e;rw [hp,Xxe,Θ,<- b] at a;have c:2^n*x / 4294967296<2^n:=by
  rw [Xqv (by omega)];exact Xzg d (Xqu _)
 exact ⟨by omega,c,b,a,g⟩
theorem aiQ {n x c:Nat} (b:n<=31) (a:x<4294967296) (d:c<2^n):c|||2^n*x % 4294967296=c+2^n*x % 4294967296:=by
 rw [(Ce b a).2.2.1,Yqj,Xqh,BL d,Xx1]
theorem Ua {n:Nat} (b:n<=31) (l:List Nat):∀ c,c<2^n->bT l->bT (O4 n c l):=by
 induction l with
 |nil=>
  intro c e _;have g:2^n<=2147483648:=Xxg (Xqc (by omega) b) (by decide);exact bT.cons (by omega) bT.nil
 |cons x l ih=>
  intro c e a;obtain ⟨_,d,_,f,_⟩:=Ce b a.head;exact bT.cons (by omega) (ih _ d a.tail)
theorem Zz {p s:List Nat} {v x y k:Nat} (h:k=p.length+1):κ k (ak (p++v::x::s))++ [Xxx .u32 (y:Int)]++ε (k+1) (ak (p++v::x::s))=ak (p++v::y::s):=by
 have:=nC (p:=p++ [v]) (s:=s) (x:=x) (y:=y) (k:=k) (by simpa using h);simpa using this
def aoK (a:List Nat) (nn:Bool) (n:Nat) (k:Nat) (o:List Nat):St:=⟨[(5,.ref 0 0 0 (a.length+1)),(1,ω (n:Int)),(13,.sl (ak a) a.length nn),(14,ω (a.length:Int)),(15,ω (k:Int))],[(0,⟨ak o,0,false,0,1,true⟩)],.dead,[]⟩
def afh (a o:List Nat):St:=⟨[(5,.ref 0 0 0 (a.length+1))],[(0,⟨ak o,0,false,0,1,true⟩)],.dead,[]⟩
theorem aev {nt:Nat} (p:41<=nt) (a:List Nat) (nn:Bool) (n:Nat) (e:n<=31) (u:a.length<2^40) (f:bT a):
  ∀ (l d o:List Nat) (c:Nat),c<2^n->d++l=a->o.length=d.length->az prog ap [] nt (af 0 (ah f222)) (λ_=> .exit 0) (λ(x:Nat × List Nat)=>aoK a nn n x.1 x.2) (afh a) (d.length,o++c::μ l.length 0) (o++O4 n c l):=by
 intro l
 induction l with
 |nil=>
  intro d o c i hd j;have h:d=a:=by simpa using hd
  have hbody:=V4 p a nn n (a.length+1) a.length (ak (o++ [c])) (by rw [aZ];simp [lit]);rw [h];exact .done hbody
 | cons x l ih=>
  intro d o c i hd j;have k:d.length+(l.length+1)=a.length:=by rw [<- hd];simp
  have m:x<4294967296:=f x (by rw [<- hd];simp);obtain ⟨r,q,t,v,s⟩:=Ce e m;have hnext:=ih (d++ [x]) (o++ [c+2^n*x % 4294967296]) (2^n*x / 4294967296) q (by rw [<- hd];simp) (by simp [j]);rw [η,υ,υ] at hnext;refine .next ?_ hnext
  have g:=aiQ e m i;have hbody:=V3 p a nn n (a.length+1) d.length (ak (o++c::0::μ l.length 0));have b:θ (ε d.length (ak a)) .dead= .int .u32 (x:Int):=by
   rw [<- hd];exact kG rfl
  simp (disch:=first|omega|(simp [au,ay]<;>omega)) only [bQ,aS,aC,Ψ,Θ,kG,bf,b,qg,Ξ,SH,EM,sW,al9,g,nC,au,η,ν,Xx7,fK,bi,dG,aZ,kE,bD,sK,lZ,oG,Zz] at hbody;exact hbody (by omega) (by omega) (by omega) (by omega) (by omega) (by omega) trivial (by omega) trivial (by omega) (by omega)
def zN (n:Nat):List Nat->List Nat
 | []=> []
 |x::l=>(x / 2^n+2^(32 - n)*l.headD 0 % 4294967296)::zN n l
theorem JZ (n:Nat) (l:List Nat):(zN n l).length=l.length:=by
 induction l with
 |nil=>rfl
 |cons x l ih=>simp only [zN,ν,ih]
theorem Vo {n:Nat} (a:n<=31):(2:Nat)^(32 - n)*2^n=4294967296:=by rw [<- Xxo,show 32 - n+n=32 by omega,oG]
theorem ab4 {n:Nat} (a:n<=31) (l:List Nat):aI l % 2^n=l.headD 0 % 2^n:=by
 cases l with
 |nil=>rfl
 |cons h l=>
  simp only [aI,Xjm];rw [<- Vo a,Xqh (2^(32 - n)),Xqr,Xzk]
theorem EZ {n h:Nat} (a:n<=31):2^(32 - n)*h % 4294967296=2^(32 - n)*(h % 2^n):=by
 rw [<- Vo a,Xva]
theorem UG {n:Nat} (a:n<=31) (l:List Nat):aI (zN n l)=aI l / 2^n:=by
 induction l with
 |nil=>simp [zN,aI]
 | cons x l ih=>
  simp only [zN,aI];rw [ih,EZ a,<- ab4 a];have c:=Xxb (aI l) (2^n);have b:x+4294967296*aI l=x+2^n*(2^(32 - n)*aI l):=by rw [<- Xqr,Xqh (2^n),Vo a]
  rw [b,Xwb _ _ (Xqu _)];have d:2^(32 - n)*aI l=4294967296*(aI l / 2^n)+2^(32 - n)*(aI l % 2^n):=by
   rw [<- Vo a,Xqr,<- Xxe,c]
  omega
theorem aeK {n x:Nat} (a:n<=31) (b:x<4294967296):x / 2^n<2^(32 - n):=by
 rw [Xqv (Xqu _),Vo a];exact b
theorem aj9 {n x h:Nat} (a:n<=31) (b:x<4294967296):x / 2^n|||2^(32 - n)*h % 4294967296=x / 2^n+2^(32 - n)*h % 4294967296:=by
 rw [EZ a,Yqj,Xqh (2^(32 - n)),BL (aeK a b),Xx1]
theorem Xc {n x h:Nat} (a:n<=31) (c:x<4294967296):x / 2^n+2^(32 - n)*h % 4294967296<4294967296:=by
 rw [EZ a];have d:h % 2^n+1<=2^n:=Xqy _ (Xqu _);have b:2^(32 - n)*(h % 2^n+1)<=2^(32 - n)*2^n:=Xqx _ d;rw [Vo a,Xxe,Θ] at b;have:=aeK a c;omega
theorem UF {n:Nat} (a:n<=31) (l:List Nat):bT l->bT (zN n l):=by
 induction l with
 |nil=>exact λh=>h
 |cons x l ih=>exact λh=>bT.cons (Xc a h.head) (ih h.tail)
def aj8 (a:List Nat) (nn:Bool) (n:Nat) (k:Nat) (o:List Nat):St:=⟨[(0,.sl (ak a) a.length nn),(1,ω (n:Int)),(5,.ref 0 0 0 a.length),(11,.sl (ak a) a.length nn),(12,ω (a.length:Int)),(13,ω (k:Int))],[(0,⟨ak o,0,false,0,1,true⟩)],.dead,[]⟩
def aeJ (a o:List Nat):St:=⟨[(5,.ref 0 0 0 a.length)],[(0,⟨ak o,0,false,0,1,true⟩)],.dead,[]⟩
theorem aa1 {nt:Nat} (j:48<=nt) (a:List Nat) (nn:Bool) (n:Nat) (e:n<=31) (v:a.length<2^40) (f:bT a):
  ∀ (l d o:List Nat),d++l=a->o.length=d.length->az prog ap [] nt (af 0 (ah f226)) (λ_=> .exit 0) (λ(x:Nat × List Nat)=>aj8 a nn n x.1 x.2) (aeJ a) (d.length,o++μ l.length 0) (o++zN n l):=by
 intro l
 induction l with
 |nil=>
  intro d o hd m;have i:d=a:=by simpa using hd
  have hbody:=UE j a nn n a.length a.length (ak (o++ [])) (by rw [aZ];simp [lit]);rw [i];exact .done hbody
 | cons x l ih=>
  intro d o hd m;have c:d.length+(l.length+1)=a.length:=by rw [<- hd];simp
  have p:x<4294967296:=f x (by rw [<- hd];simp);have hnext:=ih (d++ [x]) (o++ [x / 2^n+2^(32 - n)*l.headD 0 % 4294967296]) (by rw [<- hd];simp) (by simp [m]);rw [η,υ,υ] at hnext;refine .next ?_ hnext
  have b:θ (ε d.length (ak a)) .dead= .int .u32 (x:Int):=by
   rw [<- hd];exact kG rfl
  have q:x / 2^n<=x:=Xjn _ _;cases l with
  |nil=>
   have hbody:=UD j a nn n a.length d.length (ak (o++0::μ 0 0));simp only [Xqf] at c;simp (disch:=first|omega|(simp [au,ay]<;>omega)) only [bQ,aS,aZ,dP,dY,fA,aC,Ψ,Θ,au,η,ν,Xx7,fK,bi,dG,b,kE,bD,bf,SG,lZ,nC] at hbody;simp only [Xwz,Xjl,Nat.zero_mod,Xq1];exact hbody (by omega) (by omega) (by omega) (by omega) (by omega) trivial (by omega) (by omega)
  | cons y l=>
   have u:y<4294967296:=f y (by rw [<- hd];simp);simp only [ν] at c;have hget1:θ (ε (d.length+1) (ak a)) .dead= .int .u32 (y:Int):=by
    rw [<- hd,show d++x::y::l=(d++ [x])++y::l by simp];exact kG (by simp)
   have g:=aj9 (h:=y) e p;have k:=Xc (h:=y) e p;have t:2^(32 - n)*y<18446744073709551616:=by
    have r:2^(32 - n)<=4294967296:=Xxg (Xqc (by omega) (show 32 - n<=32 by omega)) (by decide);have s:2^(32 - n)*y<=4294967296*y:=Xqw _ r;omega
   have hbody:=UC j a nn n a.length d.length (ak (o++0::μ (y::l).length 0));simp (disch:=first|omega|(simp [au,ay]<;>omega)) only [aC,Ψ,Θ,ν,b,bf,SG,lZ,nC,au,η,Xx7,fK,bi,dG,aZ,kH,bQ,aS,hget1,kE,kG,bD,qg,Ξ,SH,EM,sW,al9,g] at hbody;exact hbody (by omega) (by omega) (by omega) (by omega) trivial (by omega) (by omega) trivial (by omega) (by omega) (by omega) trivial (by omega) (by omega)
theorem aqX (a:List Nat) (nn:Bool) (n:Nat) (q:List Nat) (e:a.length<2^40) (hloop:∀ nt,41<=nt->az prog ap [] nt (af 0 (ah f222)) (λ_=> .exit 0) (λ(x:Nat × List Nat)=>aoK a nn n x.1 x.2) (afh a) (0,μ (a.length+1) 0) (q)) (c:(decide (((0:Nat):Int)<=(γ .i64 ((a.length:Int)+((1:Nat):Int)))))=true) (d:(decide ((γ .i64 ((a.length:Int)+((1:Nat):Int)))=(γ .i64 ((a.length:Int)+((1:Nat):Int)))))=true) (b:(decide ((γ .i64 ((a.length:Int)+((1:Nat):Int)))<=((1099511627776:Nat):Int)))=true):CO 222 [.sl (ak a) a.length nn,ω (n:Int)] (.ret (.own (κ ((a.length+1)*1) (ak q)) (a.length+1) 1)):=pK [0] 0 0 (.c c (.c d (.c b .nil))) (.l (by rw [bQ,aS (by omega),aC,qO];exact az.blk hloop (by simp) rfl (aN.of ⟨rfl,rfl,rfl,rfl,rfl,trivial⟩) (aN.of ⟨rfl,trivial⟩):aK prog ap [] 41 (.block 0 (.loop (af 0 (ah f222)))) ⟨[(0,.sl (ak a) a.length nn),(1,ω (n:Int)),(4,.nilS),(5,.ref 0 0 0 (δ (γ .i64 ((a.length:Int)+((1:Nat):Int))))),(6,.dead),(7,.dead),(8,.dead),(13,.sl (ak a) a.length nn),(14,ω (a.length:Int)),(15,ω 0),(16,.dead)],[(0,⟨(g_ (δ (γ .i64 ((a.length:Int)+((1:Nat):Int)))) [.int .u32 0]),0,false,0,1,true⟩)],.dead,[]⟩ (.normal) ⟨[(5,.ref 0 0 0 (a.length+1))],[(0,⟨(ak q),0,false,0,1,true⟩)],.dead,[]⟩) .nil)
theorem afi (a:List Nat) (nn:Bool) (n:Nat) (d:n<=31) (e:a.length<2^39) (c:bT a):CO 222 [.sl (ak a) a.length nn,ω (n:Int)] (.ret (.own (ak (O4 n 0 a)) (a.length+1) 1)):=by
 have h:=aqX a nn n (O4 n 0 a) (by omega) (λnt b=>aev b a nn n d (by omega) c a [] [] 0 (Xqu _) rfl rfl);rw [OU (uD n a 0),bQ,aS (by omega)] at h;exact h (Yq0 (by omega)) (Yq0 rfl) (Yq0 (by omega))
theorem af1 (a:List Nat) (nn:Bool) (n x:Nat) (q:List Nat) (g:a.length<2^40) (b:q.length=a.length) (e:fE q=digs x) (hloop:∀ nt,48<=nt->az prog ap [] nt (af 0 (ah f226)) (λ_=> .exit 0) (λ(x:Nat × List Nat)=>aj8 a nn n x.1 x.2) (aeJ a) (0,μ a.length 0) (q)) (d:(decide (((0:Nat):Int)<=(a.length:Int)))=true) (f:(decide ((a.length:Int)=(a.length:Int)))=true) (c:(decide ((a.length:Int)<=((1099511627776:Nat):Int)))=true):CO 226 [.sl (ak a) a.length nn,ω (n:Int)] (.ret (.sl (ak (digs x)) (digs x).length true)):=pK [0] 0 0 (.c d (.c f (.c c .nil))) (.c (Dz q _ x b e g) (.l (by rw [aC,qO];exact az.blk hloop (by simp) rfl (aN.of ⟨rfl,rfl,rfl,rfl,rfl,rfl,trivial⟩) (aN.of ⟨rfl,trivial⟩):aK prog ap [] 48 (.block 0 (.loop (af 0 (ah f226)))) ⟨[(0,.sl (ak a) a.length nn),(1,ω (n:Int)),(4,.nilS),(5,.ref 0 0 0 (δ (a.length:Int))),(6,.dead),(7,.dead),(11,.sl (ak a) a.length nn),(12,ω (a.length:Int)),(13,ω 0),(14,.dead),(28,.dead)],[(0,⟨(g_ (δ (a.length:Int)) [.int .u32 0]),0,false,0,1,true⟩)],.dead,[]⟩ (.normal) ⟨[(5,.ref 0 0 0 a.length)],[(0,⟨(ak q),0,false,0,1,true⟩)],.dead,[]⟩) .nil))
theorem aa2 (a:List Nat) (nn:Bool) (n:Nat) (d:n<=31) (e:a.length<2^40) (b:bT a):CO 226 [.sl (ak a) a.length nn,ω (n:Int)] (.ret (.sl (ak (digs (aI a / 2^n))) (digs (aI a / 2^n)).length true)):=
 af1 a nn n _ (zN n a) e (JZ n a) (by rw [kC (UF d a b),UG d]) (λnt c=>aa1 c a nn n d e b a [] [] rfl rfl) (Yq0 (by omega)) (Yq0 rfl) (Yq0 (by omega))
def eu (x:Nat):Nat:=if x=0 then 0 else Yja x+1
theorem abZ {x m:Nat} (h:2^m<=x) (b:x<2^(m+1)):eu x=m+1:=by
 have a:x ≠ 0:=by have:=Xqu m;omega
 unfold eu;rw [if_neg a,(Yqn a).2 ⟨h,b⟩]
theorem wW {x:Nat} (h:0<x):∃ m,eu x=m+1/\2^m<=x/\x<2^(m+1):=by
 have a:x ≠ 0:=by omega
 have:=(Yqn (k:=Yja x) a).1 rfl;exact ⟨Yja x,by unfold eu;rw [if_neg a],this.1,this.2⟩
theorem FO {x y:Nat} (k:Nat) (b:0<x) (e:y<2^k):eu (2^k*x+y)=k+eu x:=by
 obtain ⟨m,d,a,c⟩:=wW b;rw [d,<- Xxu];apply abZ
 .rw [Xxo];exact Xxg (Xqx _ a) (Nat.le_add_right _ _)
 .rw [Xxu,Xxo];have:2^k*(x+1)<=2^k*2^(m+1):=Xqx _ c;rw [Xxe,Θ] at this;omega
theorem vN {x k:Nat} (h:2^k<=x):eu x=k+eu (x / 2^k):=by
 have b:=Xxb x (2^k);have a:0<x / 2^k:=Xvf h (Xqu _);have:=FO (x:=x / 2^k) (y:=x % 2^k) k a (Xqy _ (Xqu _));rwa [b] at this
theorem jw {x k:Nat} (h:x<2^k):eu x<=k:=by
 rcases Xqb x with rfl|hx
 .exact Xxr _
 .obtain ⟨m,c,b,_⟩:=wW hx;have:=(Nat.pow_lt_pow_iff_right (a:=2) (by omega)).1 (Xqj b h);omega
def VM:List UInt8:= [0,1,2,2,3,3,3,3,4,4,4,4,4,4,4,4,5,5,5,5,5,5,5,5,5,5,5,5,5,5,5,5,6,6,6,6,6,6,6,6,6,6,6,6,6,6,6,6,6,6,6,6,6,6,6,6,6,6,6,6,6,6,6,6,7,7,7,7,7,7,7,7,7,7,7,7,7,7,7,7,7,7,7,7,7,7,7,7,7,7,7,7,7,7,7,7,7,7,7,7,7,7,7,7,7,7,7,7,7,7,7,7,7,7,7,7,7,7,7,7,7,7,7,7,7,7,7,7,8,8,8,8,8,8,8,8,8,8,8,8,8,8,8,8,8,8,8,8,8,8,8,8,8,8,8,8,8,8,8,8,8,8,8,8,8,8,8,8,8,8,8,8,8,8,8,8,8,8,8,8,8,8,8,8,8,8,8,8,8,8,8,8,8,8,8,8,8,8,8,8,8,8,8,8,8,8,8,8,8,8,8,8,8,8,8,8,8,8,8,8,8,8,8,8,8,8,8,8,8,8,8,8,8,8,8,8,8,8,8,8,8,8,8,8,8,8,8,8,8,8,8,8,8,8,8,8]
theorem ZN:∀ i:Fin 256,(VM.getD i.val 0).toNat=eu i.val:=by decide
theorem Eo {i:Nat} (h:i<256):(VM.getD i 0).toNat=eu i:=ZN ⟨i,h⟩
theorem abV (x:Nat) (b:(decide (((0:Nat):Int)<=(γ .u8 (Xq0 (Xq0 (x:Int) (2^(min 16 32))) (2^(min 8 32))))))=true) (d:(decide ((γ .u8 (Xq0 (Xq0 (x:Int) (2^(min 16 32))) (2^(min 8 32))))<((256:Nat):Int)))=true) (a:lit true (decide (((256:Nat):Int)<=(Xq0 (x:Int) (2^(min 16 32)))))=true) (c:lit true (decide (((65536:Nat):Int)<=(x:Int)))=true):CO 161 [.int .u32 (x:Int)] (.ret (ω (γ .i64 (((24:Nat):Int)+(γ .i64 ((Xqd (Xqp VM (δ (γ .u8 (Xq0 (Xq0 (x:Int) (2^(min 16 32))) (2^(min 8 32))))) 0):Nat):Int)))))):=pK [] 2 3 (.c b (.c d (.k 1 a (.k 1 c .nil)))) (.nil)
theorem abW (x:Nat) (b:(decide (((0:Nat):Int)<=(γ .u8 (Xq0 (x:Int) (2^(min 16 32))))))=true) (d:(decide ((γ .u8 (Xq0 (x:Int) (2^(min 16 32))))<((256:Nat):Int)))=true) (a:lit false (decide (((256:Nat):Int)<=(Xq0 (x:Int) (2^(min 16 32)))))=true) (c:lit true (decide (((65536:Nat):Int)<=(x:Int)))=true):CO 161 [.int .u32 (x:Int)] (.ret (ω (γ .i64 (((16:Nat):Int)+(γ .i64 ((Xqd (Xqp VM (δ (γ .u8 (Xq0 (x:Int) (2^(min 16 32))))) 0):Nat):Int)))))):=pK [] 2 1 (.c b (.c d (.c a (.k 1 c .nil)))) (.nil)
theorem abX (x:Nat) (b:(decide (((0:Nat):Int)<=(γ .u8 (Xq0 (x:Int) (2^(min 8 32))))))=true) (d:(decide ((γ .u8 (Xq0 (x:Int) (2^(min 8 32))))<((256:Nat):Int)))=true) (a:lit true (decide (((256:Nat):Int)<=(x:Int)))=true) (c:lit false (decide (((65536:Nat):Int)<=(x:Int)))=true):CO 161 [.int .u32 (x:Int)] (.ret (ω (γ .i64 (((8:Nat):Int)+(γ .i64 ((Xqd (Xqp VM (δ (γ .u8 (Xq0 (x:Int) (2^(min 8 32))))) 0):Nat):Int)))))):=pK [] 2 2 (.c b (.c d (.k 1 a (.c c .nil)))) (.nil)
theorem abY (x:Nat) (b:(decide (((0:Nat):Int)<=(γ .u8 (x:Int))))=true) (d:(decide ((γ .u8 (x:Int))<((256:Nat):Int)))=true) (a:lit false (decide (((256:Nat):Int)<=(x:Int)))=true) (c:lit false (decide (((65536:Nat):Int)<=(x:Int)))=true):CO 161 [.int .u32 (x:Int)] (.ret (ω (γ .i64 (((0:Nat):Int)+(γ .i64 ((Xqd (Xqp VM (δ (γ .u8 (x:Int))) 0):Nat):Int)))))):=pK [] 2 0 (.c b (.c d (.c a (.c c .nil)))) (.nil)
theorem ahA:(2:Nat)^16=65536:=by decide
theorem p_8:(2:Nat)^8=256:=by decide
theorem ND (x:Nat) (d:x<4294967296):CO 161 [.int .u32 (x:Int)] (.ret (ω ((eu x:Nat):Int))):=by
 by_cases h1:65536<=x
 .have c:=vN (k:=16) h1;rw [ahA] at c;by_cases h2:256<=x / 65536
  .have a:=vN (k:=8) h2;rw [p_8] at a;have h:=abV x;simp (disch:=first|omega|(simp [au,ay]<;>omega)) only [sK,lZ,ahA,p_8,w8u,Ξ,dG,bi,aZ,bD,aC,Eo] at h;have b:eu (x / 65536 / 256)<=8:=jw (by omega);rw [aS (by omega),bQ,aS (by omega)] at h;rw [c,a,<- Xxu];exact h (by omega) (by omega) (by omega) (by omega)
  .have h:=abW x;simp (disch:=first|omega|(simp [au,ay]<;>omega)) only [sK,lZ,ahA,w8u,Ξ,dG,bi,aZ,dP,dY,fA,bD,aC,Eo] at h;have b:eu (x / 65536)<=8:=jw (by omega);rw [aS (by omega),bQ,aS (by omega)] at h;rw [c];exact h (by omega) (by omega) (by omega) (by omega)
 .by_cases h2:256<=x
  .have a:=vN (k:=8) h2;rw [p_8] at a;have h:=abX x;simp (disch:=first|omega|(simp [au,ay]<;>omega)) only [sK,lZ,p_8,w8u,Ξ,dG,bi,aZ,bD,dP,dY,fA,aC,Eo] at h;have b:eu (x / 256)<=8:=jw (by omega);rw [aS (by omega),bQ,aS (by omega)] at h;rw [a];exact h (by omega) (by omega) (by omega) (by omega)
  .have h:=abY x;simp (disch:=first|omega|(simp [au,ay]<;>omega)) only [w8u,Ξ,dG,bi,aZ,dP,dY,fA,aC,Eo] at h;have b:eu x<=8:=jw (by omega);rw [aS (by omega),bQ,aS (by omega),Ψ] at h;exact h (by omega) (by omega) (by omega) (by omega)
theorem ahi (x:Nat) (a:x<4294967296):CO 221 [.int .u32 (x:Int)] (.ret (ω (γ .i64 (((32:Nat):Int) - ((eu x:Nat):Int))))):=pK [] 0 0 .nil (.c (ND x a) .nil)
theorem ab7 (x:Nat) (a:x<4294967296):CO 221 [.int .u32 (x:Int)] (.ret (ω ((32 - eu x:Nat):Int))):=by
 have h:=ahi x a;have b:eu x<=32:=jw a;simp (disch:=first|omega|(simp [au,ay]<;>omega)) only [kH] at h;exact h
theorem PW {nt:Nat} (b:52<=nt) (u2 u1 u0 v1 v0 q r:Nat) (a:lit true (decide (((4294967295:Nat):Int)<(γ .u64 ((r:Int)+(γ .u64 (v1:Int))))))=true) (c:lit true (decide (((4294967295:Nat):Int)<(q:Int)))=true):ψ nt f223 ⟨[(2,.ptr 0 0 0),(3,.ptr 1 0 0),(6,.int .u64 (q:Int)),(7,.int .u64 (r:Int))],[(0,⟨[.int .u32 (u2:Int),.int .u32 (u1:Int),.int .u32 (u0:Int)],0,false,0,0,true⟩),(1,⟨[.int .u32 (v1:Int),.int .u32 (v0:Int),.int .u32 0],0,false,0,0,true⟩)],.dead,[]⟩ (.exit 0) ⟨[(6,.int .u64 (γ .u64 ((q:Int) - ((1:Nat):Int))))],[(0,⟨[.int .u32 (u2:Int),.int .u32 (u1:Int),.int .u32 (u0:Int)],0,false,0,0,true⟩),(1,⟨[.int .u32 (v1:Int),.int .u32 (v0:Int),.int .u32 0],0,false,0,0,true⟩)],.dead,[]⟩:=pJ 223 [] 3 7 (.c a (.k 4 c .nil)) (.nil) b
theorem PX {nt:Nat} (b:52<=nt) (u2 u1 u0 v1 v0 q r:Nat) (a:lit false (decide (((4294967295:Nat):Int)<(γ .u64 ((r:Int)+(γ .u64 (v1:Int))))))=true) (c:lit true (decide (((4294967295:Nat):Int)<(q:Int)))=true):ψ nt f223 ⟨[(2,.ptr 0 0 0),(3,.ptr 1 0 0),(6,.int .u64 (q:Int)),(7,.int .u64 (r:Int))],[(0,⟨[.int .u32 (u2:Int),.int .u32 (u1:Int),.int .u32 (u0:Int)],0,false,0,0,true⟩),(1,⟨[.int .u32 (v1:Int),.int .u32 (v0:Int),.int .u32 0],0,false,0,0,true⟩)],.dead,[]⟩ (.normal) ⟨[(2,.ptr 0 0 0),(3,.ptr 1 0 0),(6,.int .u64 (γ .u64 ((q:Int) - ((1:Nat):Int)))),(7,.int .u64 (γ .u64 ((r:Int)+(γ .u64 (v1:Int)))))],[(0,⟨[.int .u32 (u2:Int),.int .u32 (u1:Int),.int .u32 (u0:Int)],0,false,0,0,true⟩),(1,⟨[.int .u32 (v1:Int),.int .u32 (v0:Int),.int .u32 0],0,false,0,0,true⟩)],.dead,[]⟩:=pJ 223 [] 3 3 (.c a (.k 4 c .nil)) (.nil) b
theorem PY {nt:Nat} (c:52<=nt) (u2 u1 u0 v1 v0 q r:Nat) (b:lit true (decide (((4294967295:Nat):Int)<(γ .u64 ((r:Int)+(γ .u64 (v1:Int))))))=true) (d:lit true (decide ((γ .u64 (Xxq (Xqm (Xqk .u64) (γ .u64 ((r:Int)*2^(min 32 64)))|||Xqm (Xqk .u64) (γ .u64 (u0:Int)))))<(γ .u64 ((q:Int)*(γ .u64 (v0:Int))))))=true) (a:lit false (decide (((4294967295:Nat):Int)<(q:Int)))=true):ψ nt f223 ⟨[(2,.ptr 0 0 0),(3,.ptr 1 0 0),(6,.int .u64 (q:Int)),(7,.int .u64 (r:Int))],[(0,⟨[.int .u32 (u2:Int),.int .u32 (u1:Int),.int .u32 (u0:Int)],0,false,0,0,true⟩),(1,⟨[.int .u32 (v1:Int),.int .u32 (v0:Int),.int .u32 0],0,false,0,0,true⟩)],.dead,[]⟩ (.exit 0) ⟨[(6,.int .u64 (γ .u64 ((q:Int) - ((1:Nat):Int))))],[(0,⟨[.int .u32 (u2:Int),.int .u32 (u1:Int),.int .u32 (u0:Int)],0,false,0,0,true⟩),(1,⟨[.int .u32 (v1:Int),.int .u32 (v0:Int),.int .u32 0],0,false,0,0,true⟩)],.dead,[]⟩:=pJ 223 [] 3 6 (.c b (.k 3 d (.k 7 a .nil))) (.nil) c
theorem PZ {nt:Nat} (c:52<=nt) (u2 u1 u0 v1 v0 q r:Nat) (b:lit false (decide (((4294967295:Nat):Int)<(γ .u64 ((r:Int)+(γ .u64 (v1:Int))))))=true) (d:lit true (decide ((γ .u64 (Xxq (Xqm (Xqk .u64) (γ .u64 ((r:Int)*2^(min 32 64)))|||Xqm (Xqk .u64) (γ .u64 (u0:Int)))))<(γ .u64 ((q:Int)*(γ .u64 (v0:Int))))))=true) (a:lit false (decide (((4294967295:Nat):Int)<(q:Int)))=true):ψ nt f223 ⟨[(2,.ptr 0 0 0),(3,.ptr 1 0 0),(6,.int .u64 (q:Int)),(7,.int .u64 (r:Int))],[(0,⟨[.int .u32 (u2:Int),.int .u32 (u1:Int),.int .u32 (u0:Int)],0,false,0,0,true⟩),(1,⟨[.int .u32 (v1:Int),.int .u32 (v0:Int),.int .u32 0],0,false,0,0,true⟩)],.dead,[]⟩ (.normal) ⟨[(2,.ptr 0 0 0),(3,.ptr 1 0 0),(6,.int .u64 (γ .u64 ((q:Int) - ((1:Nat):Int)))),(7,.int .u64 (γ .u64 ((r:Int)+(γ .u64 (v1:Int)))))],[(0,⟨[.int .u32 (u2:Int),.int .u32 (u1:Int),.int .u32 (u0:Int)],0,false,0,0,true⟩),(1,⟨[.int .u32 (v1:Int),.int .u32 (v0:Int),.int .u32 0],0,false,0,0,true⟩)],.dead,[]⟩:=pJ 223 [] 3 2 (.c b (.k 3 d (.k 7 a .nil))) (.nil) c
theorem P5 {nt:Nat} (b:52<=nt) (u2 u1 u0 v1 v0 q r:Nat) (a:lit false (decide ((γ .u64 (Xxq (Xqm (Xqk .u64) (γ .u64 ((r:Int)*2^(min 32 64)))|||Xqm (Xqk .u64) (γ .u64 (u0:Int)))))<(γ .u64 ((q:Int)*(γ .u64 (v0:Int))))))=true) (c:lit false (decide (((4294967295:Nat):Int)<(q:Int)))=true):ψ nt f223 ⟨[(2,.ptr 0 0 0),(3,.ptr 1 0 0),(6,.int .u64 (q:Int)),(7,.int .u64 (r:Int))],[(0,⟨[.int .u32 (u2:Int),.int .u32 (u1:Int),.int .u32 (u0:Int)],0,false,0,0,true⟩),(1,⟨[.int .u32 (v1:Int),.int .u32 (v0:Int),.int .u32 0],0,false,0,0,true⟩)],.dead,[]⟩ (.exit 0) ⟨[(6,.int .u64 (q:Int))],[(0,⟨[.int .u32 (u2:Int),.int .u32 (u1:Int),.int .u32 (u0:Int)],0,false,0,0,true⟩),(1,⟨[.int .u32 (v1:Int),.int .u32 (v0:Int),.int .u32 0],0,false,0,0,true⟩)],.dead,[]⟩:=pJ 223 [] 2 0 (.c a (.k 7 c .nil)) (.nil) b
def xH (u2 u1 u0 v1 v0:Nat):Nat:=min 4294967295 ((4294967296*(4294967296*u2+u1)+u0) / (4294967296*v1+v0))
theorem Bz {u2 u1 u0 v1 v0 x:Nat} (a:0<v1):x<=xH u2 u1 u0 v1 v0↔x<=4294967295/\x*(4294967296*v1+v0)<=4294967296*(4294967296*u2+u1)+u0:=by
 unfold xH;rw [Nat.le_min,Xzi (by omega)]
theorem J_ {a u0 v1 v0 q r:Nat} (h:q*v1+r=a):q*(4294967296*v1+v0)<=4294967296*a+u0↔q*v0<=4294967296*r+u0:=by
 rw [<- h,Xxe q,Xxe 4294967296,<- Xqr q,Xqh q 4294967296,Xqr];omega
def aeO (u2 u1 u0 v1 v0 q r:Nat):St:=⟨[(2,.ptr 0 0 0),(3,.ptr 1 0 0),(6,.int .u64 (q:Int)),(7,.int .u64 (r:Int))],[(0,⟨[.int .u32 (u2:Int),.int .u32 (u1:Int),.int .u32 (u0:Int)],0,false,0,0,true⟩),(1,⟨[.int .u32 (v1:Int),.int .u32 (v0:Int),.int .u32 0],0,false,0,0,true⟩)],.dead,[]⟩
def XM (u2 u1 u0 v1 v0 q:Nat):St:=⟨[(6,.int .u64 (q:Int))],[(0,⟨[.int .u32 (u2:Int),.int .u32 (u1:Int),.int .u32 (u0:Int)],0,false,0,0,true⟩),(1,⟨[.int .u32 (v1:Int),.int .u32 (v0:Int),.int .u32 0],0,false,0,0,true⟩)],.dead,[]⟩
theorem XN {nt:Nat} (i:52<=nt) (u2 u1 u0 v1 v0:Nat) (n:u2<=v1) (z:u1<4294967296) (g:u0<4294967296) (y:v1<4294967296) (w:v0<4294967296) (m:0<v1):
  ∀ (d q r:Nat),q=xH u2 u1 u0 v1 v0+d->q<8589934592->r<4294967296->q*v1+r=4294967296*u2+u1->az prog ap [] nt (af 0 (ah f223)) (λ_=> .exit 0) (λ(x:Nat × Nat)=>aeO u2 u1 u0 v1 v0 x.1 x.2) (XM u2 u1 u0 v1 v0) (q,r) (xH u2 u1 u0 v1 v0):=by
 intro d
 induction d with
 | zero=>
  intro q r s l A c;obtain ⟨p,t⟩:=(Bz (u2:=u2) (u1:=u1) (u0:=u0) (v0:=v0) (x:=q) m).1 (by omega);rw [J_ c] at t;have e:4294967296*r|||u0=4294967296*r+u0:=by
   have:=BL (a:=r) (b:=u0) (k:=32) g;rwa [oG,Xqh] at this
  have u:q*v0<18446744073709551616:=Xqj t (by omega);have hbody:=P5 i u2 u1 u0 v1 v0 q r;simp (disch:=first|omega|(simp [au,ay]<;>omega)) only [sK,EM,oG,qg,Ξ,YQ,e,zD,aZ,dP,dY,fA] at hbody;have:=hbody (by omega) (by omega);rw [s] at this ⊢;exact .done this
 | succ d ih=>
  intro q r s l A c;have p:¬ q<=xH u2 u1 u0 v1 v0:=by omega
  rw [Bz m,J_ c] at p;have e:4294967296*r|||u0=4294967296*r+u0:=by
   have:=BL (a:=r) (b:=u0) (k:=32) g;rwa [oG,Xqh] at this
  have hinv':(q - 1)*v1+(r+v1)=4294967296*u2+u1:=by
   rw [<- c,show q=(q - 1)+1 by omega,Xxt,Xzu];simp only [Xwm];omega
  by_cases h6:4294967295<r+v1
  ·
   have o:q - 1=xH u2 u1 u0 v1 v0:=by
    refine Nat.le_antisymm ((Bz m).2 ⟨?_,(J_ hinv').2 ?_⟩) (by omega)
    .rcases Xq2 (q - 1) 4294967296 with h|h
     .omega
     .have j:4294967296*v1<=(q - 1)*v1:=Xqw _ h;have v:4294967296*u2<=4294967296*v1:=Xqx _ n;omega
    .rcases Xq2 (q - 1) 4294967297 with h|h
     .have j:(q - 1)*v0<=4294967296*v0:=Xqw _ (by omega);omega
     .have j:4294967297*v1<=(q - 1)*v1:=Xqw _ h;have v:4294967296*u2<=4294967296*v1:=Xqx _ n;omega
   by_cases j:4294967295<q
   .have hbody:=PW i u2 u1 u0 v1 v0 q r;have f:γ .u64 ((q:Int) - ((1:Nat):Int))=((q - 1:Nat):Int):=by rw [lU];omega
    rw [f] at hbody;simp (disch:=first|omega|(simp [au,ay]<;>omega)) only [qg,Ξ,bQ,aZ,bD,bi,o] at hbody;exact .done (hbody (by omega) (by omega))
   .have u:q*v0<18446744073709551616:=by
     have:q*v0<=4294967295*v0:=Xqw _ (by omega);omega
    have hbody:=PY i u2 u1 u0 v1 v0 q r;have f:γ .u64 ((q:Int) - ((1:Nat):Int))=((q - 1:Nat):Int):=by rw [lU];omega
    rw [f] at hbody;simp (disch:=first|omega|(simp [au,ay]<;>omega)) only [qg,Ξ,bQ,aZ,bD,bi,sK,EM,oG,YQ,e,zD,dP,dY,fA,o] at hbody;exact .done (hbody (by omega) (by omega) (by omega))
  .refine .next ?_ (ih (q - 1) (r+v1) (by omega) (by omega) (by omega) hinv')
   by_cases j:4294967295<q
   .have hbody:=PX i u2 u1 u0 v1 v0 q r;have f:γ .u64 ((q:Int) - ((1:Nat):Int))=((q - 1:Nat):Int):=by rw [lU];omega
    rw [f] at hbody;simp (disch:=first|omega|(simp [au,ay]<;>omega)) only [qg,Ξ,bQ,aZ,dP,dY,fA,bD,bi] at hbody;exact hbody (by omega) (by omega)
   .have u:q*v0<18446744073709551616:=by
     have:q*v0<=4294967295*v0:=Xqw _ (by omega);omega
    have hbody:=PZ i u2 u1 u0 v1 v0 q r;have f:γ .u64 ((q:Int) - ((1:Nat):Int))=((q - 1:Nat):Int):=by rw [lU];omega
    rw [f] at hbody;simp (disch:=first|omega|(simp [au,ay]<;>omega)) only [qg,Ξ,bQ,aZ,dP,dY,fA,sK,EM,oG,YQ,e,zD,bD,bi] at hbody;exact hbody (by omega) (by omega) (by omega)
theorem akP (u2 u1 u0 v1 v0:Nat) (d:u2<4294967296) (f:u1<4294967296) (e:v1<4294967296) (g:0<v1) (a:4294967296*u2|||u1=4294967296*u2+u1) (c:(4294967296*u2+u1) / v1<8589934592) (hloop:∀ nt,52<=nt->az prog ap [] nt (af 0 (ah f223)) (λ_=> .exit 0) (λ(x:Nat × Nat)=>aeO u2 u1 u0 v1 v0 x.1 x.2) (XM u2 u1 u0 v1 v0) ((4294967296*u2+u1) / v1,(4294967296*u2+u1) % v1) (xH u2 u1 u0 v1 v0)) (b:(!((γ .u64 (v1:Int))==((0:Nat):Int)))=true):CO 223 [.agg [.int .u32 (u2:Int),.int .u32 (u1:Int),.int .u32 (u0:Int)],.agg [.int .u32 (v1:Int),.int .u32 (v0:Int),.int .u32 0]] (.ret (.int .u64 ((xH u2 u1 u0 v1 v0:Nat):Int))):=pK [0] 0 0 (.c b (.k 3 b (.n 10 .nil))) (.l (by simp (disch:=first|omega|(simp [au,ay]<;>omega)) only [qg,Ξ,sK,EM,oG,YQ,a,qV,uV];exact az.blk hloop (by simp) rfl (aN.of ⟨rfl,rfl,rfl,rfl,trivial⟩) (aN.of ⟨rfl,trivial⟩):aK prog ap [] 52 (.block 0 (.loop (af 0 (ah f223)))) ⟨[(0,.agg [.int .u32 (u2:Int),.int .u32 (u1:Int),.int .u32 (u0:Int)]),(1,.agg [.int .u32 (v1:Int),.int .u32 (v0:Int),.int .u32 0]),(2,.ptr 0 0 0),(3,.ptr 1 0 0),(4,.int .u64 0),(5,.int .u64 (γ .u64 (Xxq (Xqm (Xqk .u64) (γ .u64 ((γ .u64 (u2:Int))*2^(min 32 64)))|||Xqm (Xqk .u64) (γ .u64 (u1:Int)))))),(6,.int .u64 (γ .u64 (Xxl (γ .u64 (Xxq (Xqm (Xqk .u64) (γ .u64 ((γ .u64 (u2:Int))*2^(min 32 64)))|||Xqm (Xqk .u64) (γ .u64 (u1:Int))))) (γ .u64 (v1:Int))))),(7,.int .u64 (Xxd (γ .u64 (Xxq (Xqm (Xqk .u64) (γ .u64 ((γ .u64 (u2:Int))*2^(min 32 64)))|||Xqm (Xqk .u64) (γ .u64 (u1:Int))))) (γ .u64 (v1:Int)))),(41,.dead),(50,.dead)],[(0,⟨[.int .u32 (u2:Int),.int .u32 (u1:Int),.int .u32 (u0:Int)],0,false,0,0,true⟩),(1,⟨[.int .u32 (v1:Int),.int .u32 (v0:Int),.int .u32 0],0,false,0,0,true⟩)],.dead,[]⟩ (.normal) ⟨[(6,.int .u64 ((xH u2 u1 u0 v1 v0:Nat):Int))],[(0,⟨[.int .u32 (u2:Int),.int .u32 (u1:Int),.int .u32 (u0:Int)],0,false,0,0,true⟩),(1,⟨[.int .u32 (v1:Int),.int .u32 (v0:Int),.int .u32 0],0,false,0,0,true⟩)],.dead,[]⟩) .nil)
theorem agw (u2 u1 u0 v1 v0:Nat) (i:u2<=v1) (c:u1<4294967296) (g:u0<4294967296) (d:v1<4294967296) (f:v0<4294967296) (p:2147483648<=v1):CO 223 [.agg [.int .u32 (u2:Int),.int .u32 (u1:Int),.int .u32 (u0:Int)],.agg [.int .u32 (v1:Int),.int .u32 (v0:Int),.int .u32 0]] (.ret (.int .u64 ((xH u2 u1 u0 v1 v0:Nat):Int))):=by
 have e:4294967296*u2|||u1=4294967296*u2+u1:=by
  have:=BL (a:=u2) (b:=u1) (k:=32) c;rwa [oG,Xqh] at this
 have l:xH u2 u1 u0 v1 v0<=(4294967296*u2+u1) / v1:=by
  obtain ⟨n,j⟩:=(Bz (u2:=u2) (u1:=u1) (u0:=u0) (v0:=v0) (v1:=v1) (by omega)).1 (χ _);rw [Xzi (by omega)];rw [Xxe,<- Xqr,Xqh _ 4294967296,Xqr] at j;omega
 have hd:(4294967296*u2+u1) / v1<8589934592:=by
  rw [Xqv (by omega)];omega
 have o:(4294967296*u2+u1) % v1<v1:=Xqy _ (by omega);have h:=akP u2 u1 u0 v1 v0 (by omega) c d (by omega) e hd (λnt m=>XN m u2 u1 u0 v1 v0 i c g d f (by omega) _ _ _ (Nat.add_sub_cancel' l).symm hd (by omega) (by rw [Xqh];exact Xxb _ _));simp (disch:=first|omega|(simp [au,ay]<;>omega)) only [qg,Ξ,jY,dY,fA] at h;exact h (by omega)
theorem VP {nt:Nat} (m:66<=nt) (U0 U v:List Nat) (e:Bool) (j M q c b i:Nat) (f:(Φ (((j+(δ (i:Int)))*1)+1) (ζ (ak U)))=true) (a:(decide (((0:Nat):Int)<=(i:Int)))=true) (d:(decide ((i:Int)<(M:Int)))=true) (g:(chk (.int .u32) (θ (ε ((j+(δ (i:Int)))*1) (ak U)) .dead))=true) (h:(chk (.int .u32) (θ (ε ((δ (i:Int))*1) (ak v)) .dead))=true) (l:(decide ((i:Int)<(v.length:Int)))=true) (k:lit true (decide ((i:Int)<(v.length:Int)))=true):aj prog ap [⟨(ak U0),0,false,0,1,true⟩] nt (af 0 (ah f224)) ⟨[(0,.ref 0 0 j M),(1,.sl (ak v) v.length e),(2,.int .u64 (q:Int)),(7,.int .u64 (c:Int)),(8,.int .u64 (b:Int)),(14,ω (v.length:Int)),(15,ω (i:Int))],[(0,⟨(ak U),0,false,0,1,true⟩)],.dead,[]⟩ (.normal) ⟨[(0,.ref 0 0 j M),(1,.sl (ak v) v.length e),(2,.int .u64 (q:Int)),(7,.int .u64 (Xq0 (γ .u64 ((γ .u64 ((q:Int)*(γ .u64 (Γ (θ (ε ((δ (i:Int))*1) (ak v)) .dead)))))+(c:Int))) (2^(min 32 64)))),(8,.int .u64 (Xq0 (γ .u64 ((γ .u64 ((γ .u64 (Γ (θ (ε ((j+(δ (i:Int)))*1) (ak U)) .dead))) - (γ .u64 (Xxq (Xqm (Xqk .u64) (γ .u64 ((γ .u64 ((q:Int)*(γ .u64 (Γ (θ (ε ((δ (i:Int))*1) (ak v)) .dead)))))+(c:Int))) &&& Xqm (Xqk .u64) ((4294967295:Nat):Int)))))) - (b:Int))) (2^(min 63 64)))),(14,ω (v.length:Int)),(15,ω (γ .i64 ((i:Int)+((1:Nat):Int))))],[(0,⟨(κ ((j+(δ (i:Int)))*1) (ak U)++ [.int .u32 (γ .u32 (γ .u64 ((γ .u64 ((γ .u64 (Γ (θ (ε ((j+(δ (i:Int)))*1) (ak U)) .dead))) - (γ .u64 (Xxq (Xqm (Xqk .u64) (γ .u64 ((γ .u64 ((q:Int)*(γ .u64 (Γ (θ (ε ((δ (i:Int))*1) (ak v)) .dead)))))+(c:Int))) &&& Xqm (Xqk .u64) ((4294967295:Nat):Int)))))) - (b:Int))))]++ε (((j+(δ (i:Int)))*1)+1) (ak U)),0,false,0,1,true⟩)],.dead,[]⟩:=pJ 224 [] 1 1 (.c f (.c a (.c d (.k 1 g (.c a (.c d (.k 1 h (.c a (.c l (.c k .nil)))))))))) (.nil) m
theorem VQ {nt:Nat} (e:66<=nt) (U0 U v:List Nat) (a:Bool) (j M q c b i:Nat) (d:lit false (decide ((i:Int)<(v.length:Int)))=true):aj prog ap [⟨(ak U0),0,false,0,1,true⟩] nt (af 0 (ah f224)) ⟨[(0,.ref 0 0 j M),(1,.sl (ak v) v.length a),(2,.int .u64 (q:Int)),(7,.int .u64 (c:Int)),(8,.int .u64 (b:Int)),(14,ω (v.length:Int)),(15,ω (i:Int))],[(0,⟨(ak U),0,false,0,1,true⟩)],.dead,[]⟩ (.exit 0) ⟨[(0,.ref 0 0 j M),(1,.sl (ak v) v.length a),(7,.int .u64 (c:Int)),(8,.int .u64 (b:Int))],[(0,⟨(ak U),0,false,0,1,true⟩)],.dead,[]⟩:=pJ 224 [] 1 0 (.c d .nil) (.nil) e
theorem UU {nt:Nat} (l:42<=nt) (U0 U v:List Nat) (d:Bool) (j M c i:Nat) (f:(Φ (((j+(δ (i:Int)))*1)+1) (ζ (ak U)))=true) (a:(decide (((0:Nat):Int)<=(i:Int)))=true) (b:(decide ((i:Int)<(M:Int)))=true) (h:(chk (.int .u32) (θ (ε ((δ (i:Int))*1) (ak v)) .dead))=true) (k:(decide ((i:Int)<(v.length:Int)))=true) (g:(chk (.int .u32) (θ (ε ((j+(δ (i:Int)))*1) (ak U)) .dead))=true) (e:lit true (decide ((i:Int)<(v.length:Int)))=true):aj prog ap [⟨(ak U0),0,false,0,1,true⟩] nt (af 0 (ah f225)) ⟨[(0,.ref 0 0 j M),(1,.sl (ak v) v.length d),(4,.int .u64 (c:Int)),(8,ω (v.length:Int)),(9,ω (i:Int))],[(0,⟨(ak U),0,false,0,1,true⟩)],.dead,[]⟩ (.normal) ⟨[(0,.ref 0 0 j M),(1,.sl (ak v) v.length d),(4,.int .u64 (Xq0 (γ .u64 ((γ .u64 ((γ .u64 (Γ (θ (ε ((j+(δ (i:Int)))*1) (ak U)) .dead)))+(γ .u64 (Γ (θ (ε ((δ (i:Int))*1) (ak v)) .dead)))))+(c:Int))) (2^(min 32 64)))),(8,ω (v.length:Int)),(9,ω (γ .i64 ((i:Int)+((1:Nat):Int))))],[(0,⟨(κ ((j+(δ (i:Int)))*1) (ak U)++ [.int .u32 (γ .u32 (γ .u64 ((γ .u64 ((γ .u64 (Γ (θ (ε ((j+(δ (i:Int)))*1) (ak U)) .dead)))+(γ .u64 (Γ (θ (ε ((δ (i:Int))*1) (ak v)) .dead)))))+(c:Int))))]++ε (((j+(δ (i:Int)))*1)+1) (ak U)),0,false,0,1,true⟩)],.dead,[]⟩:=pJ 225 [] 1 1 (.c f (.c a (.c b (.k 1 h (.c a (.c k (.c g (.c a (.c b (.c e .nil)))))))))) (.nil) l
theorem UV {nt:Nat} (d:42<=nt) (U0 U v:List Nat) (a:Bool) (j M c i:Nat) (b:lit false (decide ((i:Int)<(v.length:Int)))=true):aj prog ap [⟨(ak U0),0,false,0,1,true⟩] nt (af 0 (ah f225)) ⟨[(0,.ref 0 0 j M),(1,.sl (ak v) v.length a),(4,.int .u64 (c:Int)),(8,ω (v.length:Int)),(9,ω (i:Int))],[(0,⟨(ak U),0,false,0,1,true⟩)],.dead,[]⟩ (.exit 0) ⟨[(0,.ref 0 0 j M),(1,.sl (ak v) v.length a),(4,.int .u64 (c:Int))],[(0,⟨(ak U),0,false,0,1,true⟩)],.dead,[]⟩:=pJ 225 [] 1 0 (.c b .nil) (.nil) d
def dN (u s b:Nat):Nat:=((u+(18446744073709551616 - s)) % 18446744073709551616+(18446744073709551616 - b)) % 18446744073709551616
theorem JX {u s b:Nat} (a:u<4294967296) (hs:s<4294967296) (c:b<=1):dN u s b % 4294967296+s+b=u+4294967296*(dN u s b / 9223372036854775808)/\dN u s b / 9223372036854775808<=1/\dN u s b<18446744073709551616:=by
 unfold dN;omega
def oq (q:Nat):List Nat->List Nat->Nat->Nat->List Nat × Nat × Nat
 | [],_,c,b=>([],c,b)
 |_::_,[],c,b=>([],c,b)
 |v::vs,u::us,c,b=>
  let r:=oq q vs us ((q*v+c) / 4294967296) (dN u ((q*v+c) % 4294967296) b / 9223372036854775808)
  (dN u ((q*v+c) % 4294967296) b % 4294967296::r.1,r.2)
theorem Yv {q v c:Nat} (b:q<4294967296) (a:v<4294967296) (d:c<4294967296):q*v<18446744073709551616/\q*v+c<18446744073709551616/\(q*v+c) / 4294967296<4294967296:=by
 have h:q*v<=q*4294967295:=Xqx _ (by omega);omega
theorem VN {q:Nat} (j:q<4294967296) (vs:List Nat):∀ (a:List Nat) (c b:Nat),c<4294967296->b<=1->bT vs->bT a->vs.length<=a.length->
  (oq q vs a c b).2.1<4294967296/\(oq q vs a c b).2.2<=1/\bT (oq q vs a c b).1/\(oq q vs a c b).1.length=vs.length/\
  aI (oq q vs a c b).1+q*aI vs+c+b=aI (a.take vs.length)+4294967296^vs.length*((oq q vs a c b).2.1+(oq q vs a c b).2.2):=by
 induction vs with
 |nil=>intro a c b g f _ _ _;exact ⟨g,f,bT.nil,rfl,by simp [oq,aI]⟩
 | cons v vs ih=>
  intro a c b g f d e h;cases a with
  |nil=>simp at h
  |cons u a=>
   obtain ⟨y,x,l⟩:=Yv j d.head g;obtain ⟨p,n,w⟩:=JX (u:=u) (s:=(q*v+c) % 4294967296) (b:=b) e.head (Xqy _ (by omega)) f;obtain ⟨m,i,o,k,r⟩:=ih a _ _ l n d.tail e.tail (by simpa using h);simp only [oq];refine ⟨m,i,bT.cons (Xqy _ (by omega)) o,by simp [k], ?_⟩;simp only [aI,ν,Xja];have t:=Xxb (q*v+c) 4294967296;rw [Xxe q,Xqh q (4294967296*aI vs),Xqr,Xqh (aI vs) q,Xq3,Xqh (4294967296^vs.length),Xqr];omega
def aoD (v:List Nat) (nv:Bool) (j M q:Nat) (i:Nat) (U:List Nat) (c b:Nat):St:=⟨[(0,.ref 0 0 j M),(1,.sl (ak v) v.length nv),(2,.int .u64 (q:Int)),(7,.int .u64 (c:Int)),(8,.int .u64 (b:Int)),(14,ω (v.length:Int)),(15,ω (i:Int))],[(0,⟨ak U,0,false,0,1,true⟩)],.dead,[]⟩
def afe (v:List Nat) (nv:Bool) (j M:Nat) (U:List Nat) (c b:Nat):St:=⟨[(0,.ref 0 0 j M),(1,.sl (ak v) v.length nv),(7,.int .u64 (c:Int)),(8,.int .u64 (b:Int))],[(0,⟨ak U,0,false,0,1,true⟩)],.dead,[]⟩
def qC (U0:List Nat):List bu:= [⟨ak U0,0,false,0,1,true⟩]
theorem aei {nt:Nat} (o:66<=nt) (U0 v:List Nat) (g:Bool) (j M q:Nat) (t:q<4294967296) (z:bT v) (B:v.length<M) (w:v.length<2^40):
  ∀ (vs d a pre:List Nat) (c b:Nat),d++vs=v->pre.length=j+d.length->vs.length<=a.length->c<4294967296->b<=1->bT a->
  az prog ap (qC U0) nt (af 0 (ah f224)) (λ_=> .exit 0) (λ(x:Nat × List Nat × Nat × Nat)=>aoD v g j M q x.1 x.2.1 x.2.2.1 x.2.2.2) (λ(x:List Nat × Nat × Nat)=>afe v g j M x.1 x.2.1 x.2.2) (d.length,pre++a,c,b) (pre++(oq q vs a c b).1++a.drop vs.length,(oq q vs a c b).2.1,(oq q vs a c b).2.2):=by
 intro vs
 induction vs with
 |nil=>
  intro d a pre c b hd hp k m l e;have i:d=v:=by simpa using hd
  have hbody:=VQ o U0 (pre++a) v g j M q c b v.length (by rw [aZ];simp [lit]);refine .done ?_;simp only [oq,Δ,Xqf,Xjt,i];exact hbody
 | cons x vs ih=>
  intro d a pre c b hd hp k m l e;cases a with
  |nil=>simp at k
  | cons u a=>
   have y:x<4294967296:=z x (by rw [<- hd];simp);have n:d.length+(vs.length+1)=v.length:=by rw [<- hd];simp
   have p:=e.head;obtain ⟨D,F,r⟩:=Yv t y m;obtain ⟨E,A,C⟩:=JX (u:=u) (s:=(q*x+c) % 4294967296) (b:=b) p (Xqy _ (by omega)) l;have hnext:=ih (d++ [x]) a (pre++ [dN u ((q*x+c) % 4294967296) b % 4294967296]) ((q*x+c) / 4294967296) (dN u ((q*x+c) % 4294967296) b / 9223372036854775808) (by rw [<- hd];simp) (by simp;omega) (by simpa using k) r A e.tail;simp only [oq,ν,Xwf];rw [η] at hnext;simp only [υ,Xxf,Xqi,ν,Xqf] at hnext ⊢;refine .next ?_ hnext
   have f:θ (ε d.length (ak v)) .dead= .int .u32 (x:Int):=by
    rw [<- hd];exact kG rfl
   have hbody:=VP o U0 (pre++u::a) v g j M q c b d.length;have h:((u+(18446744073709551616 - (q*x+c) % 4294967296)) % 18446744073709551616+(18446744073709551616 - b)) % 18446744073709551616=dN u ((q*x+c) % 4294967296) b:=rfl;simp (disch:=first|omega|(simp [au,ay]<;>omega)) only [aC,Θ,au,η,ν,fK,bi,dG,aZ,kG,kE,f,bD,bf,qg,Ξ,zD,bQ,sK,lZ,oG,ajE,EJ,lU,h,al_,aS,sW,nC] at hbody;exact hbody (by omega) (by omega) (by omega) trivial trivial (by omega) (by omega)
def sD:List Nat->List Nat->Nat->List Nat × Nat
 | [],_,c=>([],c)
 |_::_,[],c=>([],c)
 |v::vs,u::us,c=>
  let r:=sD vs us ((u+v+c) / 4294967296)
  ((u+v+c) % 4294967296::r.1,r.2)
theorem UT (vs:List Nat):∀ (a:List Nat) (c:Nat),c<=1->bT vs->bT a->vs.length<=a.length->
  (sD vs a c).2<=1/\bT (sD vs a c).1/\(sD vs a c).1.length=vs.length/\
  aI (sD vs a c).1+4294967296^vs.length*(sD vs a c).2=aI (a.take vs.length)+aI vs+c:=by
 induction vs with
 |nil=>intro a c f _ _ _;exact ⟨f,bT.nil,rfl,by simp [sD,aI]⟩
 | cons v vs ih=>
  intro a c f b d e;cases a with
  |nil=>simp at e
  |cons u a=>
   have k:=b.head;have j:=d.head;obtain ⟨h,i,g,l⟩:=ih a ((u+v+c) / 4294967296) (by omega) b.tail d.tail (by simpa using e);simp only [sD];refine ⟨h,bT.cons (Xqy _ (by omega)) i,by simp [g], ?_⟩;simp only [aI,ν,Xja];rw [Xq3,Xqh (4294967296^vs.length),Xqr];omega
def ak8 (v:List Nat) (nv:Bool) (j M:Nat) (i:Nat) (U:List Nat) (c:Nat):St:=⟨[(0,.ref 0 0 j M),(1,.sl (ak v) v.length nv),(4,.int .u64 (c:Int)),(8,ω (v.length:Int)),(9,ω (i:Int))],[(0,⟨ak U,0,false,0,1,true⟩)],.dead,[]⟩
def aeR (v:List Nat) (nv:Bool) (j M:Nat) (U:List Nat) (c:Nat):St:=⟨[(0,.ref 0 0 j M),(1,.sl (ak v) v.length nv),(4,.int .u64 (c:Int))],[(0,⟨ak U,0,false,0,1,true⟩)],.dead,[]⟩
theorem abK {nt:Nat} (k:42<=nt) (U0 v:List Nat) (f:Bool) (j M:Nat) (n:bT v) (p:v.length<M) (m:v.length<2^40):
  ∀ (vs b a pre:List Nat) (c:Nat),b++vs=v->pre.length=j+b.length->vs.length<=a.length->c<=1->bT a->
  az prog ap (qC U0) nt (af 0 (ah f225)) (λ_=> .exit 0) (λ(x:Nat × List Nat × Nat)=>ak8 v f j M x.1 x.2.1 x.2.2) (λ(x:List Nat × Nat)=>aeR v f j M x.1 x.2) (b.length,pre++a,c) (pre++(sD vs a c).1++a.drop vs.length,(sD vs a c).2):=by
 intro vs
 induction vs with
 |nil=>
  intro b a pre c hd hp h l d;have g:b=v:=by simpa using hd
  have hbody:=UV k U0 (pre++a) v f j M c v.length (by rw [aZ];simp [lit]);refine .done ?_;simp only [sD,Δ,Xqf,Xjt,g];exact hbody
 | cons x vs ih=>
  intro b a pre c hd hp h l d;cases a with
  |nil=>simp at h
  | cons u a=>
   have q:x<4294967296:=n x (by rw [<- hd];simp);have i:b.length+(vs.length+1)=v.length:=by rw [<- hd];simp
   have o:=d.head;have hnext:=ih (b++ [x]) a (pre++ [(u+x+c) % 4294967296]) ((u+x+c) / 4294967296) (by rw [<- hd];simp) (by simp;omega) (by simpa using h) (by omega) d.tail;simp only [sD,ν,Xwf];rw [η] at hnext;simp only [υ,Xxf,Xqi,ν,Xqf] at hnext ⊢;refine .next ?_ hnext
   have e:θ (ε b.length (ak v)) .dead= .int .u32 (x:Int):=by
    rw [<- hd];exact kG rfl
   have hbody:=UU k U0 (pre++u::a) v f j M c b.length;simp (disch:=first|omega|(simp [au,ay]<;>omega)) only [aC,Θ,au,η,ν,fK,bi,dG,aZ,e,kE,kG,bD,bf,qg,Ξ,bQ,sK,lZ,oG,aS,sW,nC] at hbody;exact hbody (by omega) (by omega) (by omega) trivial (by omega) trivial (by omega)
theorem ai1 (U W v:List Nat) (a:Bool) (j M q c b:Nat) (hloop:∀ nt,66<=nt->az prog ap (qC U) nt (af 0 (ah f224)) (λ_=> .exit 0) (λ(x:Nat × List Nat × Nat × Nat)=>aoD v a j M q x.1 x.2.1 x.2.2.1 x.2.2.2) (λ(x:List Nat × Nat × Nat)=>afe v a j M x.1 x.2.1 x.2.2) (0,U,0,0) (W,c,b)) (f:(Φ (((j+(δ (v.length:Int)))*1)+1) (ζ (ak W)))=true) (e:(decide (((0:Nat):Int)<=(v.length:Int)))=true) (d:(decide ((v.length:Int)<(M:Int)))=true) (g:(chk (.int .u32) (θ (ε ((j+(δ (v.length:Int)))*1) (ak W)) .dead))=true):aH prog ap 224 [.ref 0 0 j M,.sl (ak v) v.length a,.int .u64 (q:Int)] [⟨(ak U),0,false,0,1,true⟩] (.ret (.bool (!((Xq0 (γ .u64 ((γ .u64 ((γ .u64 (Γ (θ (ε ((j+(δ (v.length:Int)))*1) (ak W)) .dead))) - (c:Int))) - (b:Int))) (2^(min 63 64)))==((0:Nat):Int))))) [⟨(κ ((j+(δ (v.length:Int)))*1) (ak W)++ [.int .u32 (γ .u32 (γ .u64 ((γ .u64 ((γ .u64 (Γ (θ (ε ((j+(δ (v.length:Int)))*1) (ak W)) .dead))) - (c:Int))) - (b:Int))))]++ε (((j+(δ (v.length:Int)))*1)+1) (ak W)),0,false,0,1,true⟩]:=pK [0] 0 0 (.k 1 f (.c e (.c d (.c g (.c e (.c d .nil)))))) (.l (by exact az.blk hloop (by simp) rfl (aN.of ⟨rfl,rfl,rfl,rfl,rfl,rfl,rfl,trivial⟩) (aN.of ⟨rfl,rfl,rfl,rfl,trivial⟩):aK prog ap [⟨(ak U),0,false,0,1,true⟩] 66 (.block 0 (.loop (af 0 (ah f224)))) ⟨[(0,.ref 0 0 j M),(1,.sl (ak v) v.length a),(2,.int .u64 (q:Int)),(6,.bool false),(7,.int .u64 0),(8,.int .u64 0),(9,.dead),(10,.dead),(11,.dead),(12,.dead),(14,ω (v.length:Int)),(15,ω 0),(16,.dead)],[(0,⟨(ak U),0,false,0,1,true⟩)],.dead,[]⟩ (.normal) ⟨[(0,.ref 0 0 j M),(1,.sl (ak v) v.length a),(7,.int .u64 (c:Int)),(8,.int .u64 (b:Int))],[(0,⟨(ak W),0,false,0,1,true⟩)],.dead,[]⟩) .nil)
theorem agY (U W v:List Nat) (a:Bool) (j M c:Nat) (hloop:∀ nt,42<=nt->az prog ap (qC U) nt (af 0 (ah f225)) (λ_=> .exit 0) (λ(x:Nat × List Nat × Nat)=>ak8 v a j M x.1 x.2.1 x.2.2) (λ(x:List Nat × Nat)=>aeR v a j M x.1 x.2) (0,U,0) (W,c)) (e:(Φ (((j+(δ (v.length:Int)))*1)+1) (ζ (ak W)))=true) (d:(decide (((0:Nat):Int)<=(v.length:Int)))=true) (b:(decide ((v.length:Int)<(M:Int)))=true) (f:(chk (.int .u32) (θ (ε ((j+(δ (v.length:Int)))*1) (ak W)) .dead))=true):aH prog ap 225 [.ref 0 0 j M,.sl (ak v) v.length a] [⟨(ak U),0,false,0,1,true⟩] (.ret (.tup [])) [⟨(κ ((j+(δ (v.length:Int)))*1) (ak W)++ [.int .u32 (γ .u32 ((Γ (θ (ε ((j+(δ (v.length:Int)))*1) (ak W)) .dead))+(γ .u32 (c:Int))))]++ε (((j+(δ (v.length:Int)))*1)+1) (ak W)),0,false,0,1,true⟩]:=pK [0] 0 0 (.c e (.c d (.c b (.c f (.c d (.c b .nil)))))) (.l (by exact az.blk hloop (by simp) rfl (aN.of ⟨rfl,rfl,rfl,rfl,rfl,trivial⟩) (aN.of ⟨rfl,rfl,rfl,trivial⟩):aK prog ap [⟨(ak U),0,false,0,1,true⟩] 42 (.block 0 (.loop (af 0 (ah f225)))) ⟨[(0,.ref 0 0 j M),(1,.sl (ak v) v.length a),(4,.int .u64 0),(5,.dead),(6,.dead),(8,ω (v.length:Int)),(9,ω 0),(10,.dead)],[(0,⟨(ak U),0,false,0,1,true⟩)],.dead,[]⟩ (.normal) ⟨[(0,.ref 0 0 j M),(1,.sl (ak v) v.length a),(4,.int .u64 (c:Int))],[(0,⟨(ak W),0,false,0,1,true⟩)],.dead,[]⟩) .nil)
theorem DI (n W:Nat) (post:List Nat):κ n (bV (n+1) W++post)=bV n W:=by
 rw [vW,υ,Xxn (by rw [aW];exact χ _),ο (by rw [aW];exact χ _)]
theorem DF (n W:Nat) (post:List Nat):ε n (bV (n+1) W++post)=W / 2^(32*n) % 2^32::post:=by
 rw [vW,υ,List.drop_append_of_le_length (by rw [aW];exact χ _),List.drop_of_length_le (by rw [aW];exact χ _)];rfl
theorem Qu {l:List Nat} {m:Nat} (h:bT l) (a:l.length=m):l=bV m (aI l):=by subst a;exact (Gu h).symm
theorem aee (pre post v:List Nat) (p:Bool) (n W q:Nat) (j:v.length=n) (D:bT v) (B:q<4294967296) (H:W<4294967296^(n+1)) (hpost:bT post) (Q:pre.length+n<2^40):
  aH prog ap 224 [.ref 0 0 pre.length (n+1),.sl (ak v) n p,.int .u64 (q:Int)] (qC (pre++bV (n+1) W++post)) (.ret (.bool (decide (W<q*aI v)))) (qC (pre++bV (n+1) (if W<q*aI v then W+4294967296^(n+1) - q*aI v else W - q*aI v)++post)):=by
 have e:bT (bV (n+1) W++post):=bT.app (bT.pad _ _) hpost;obtain ⟨A,E,F,i,w⟩:=VN B v (bV (n+1) W++post) 0 0 (by omega) (by omega) D e (by simp [aW];omega);have hloop:=λnt (hnt:66<=nt)=>aei hnt (pre++bV (n+1) W++post) v p pre.length (n+1) q B D (by omega) (by omega) v [] (bV (n+1) W++post) pre 0 0 rfl rfl (by simp [aW];omega) (by omega) (by omega) e
 rw [j,DI,xB,nP] at w;rw [j,DF,nP,oG] at hloop;generalize O:oq q v (bV (n+1) W++post) 0 0=r at*
 obtain ⟨y,c,b⟩:=r;simp only [Xq1,Xqf,<- υ] at A E F i w hloop;have C:W / 4294967296^n<4294967296:=by
  rw [Xqv (iY n),Xqh,<- Xq3];exact H
 rw [Ξ C] at hloop;have L:=Xxb W (4294967296^n);generalize K:W / 4294967296^n=x at*
 obtain ⟨J,R,M⟩:=JX (u:=x) (s:=c) (b:=b) C A E;have htake:=ai1 (pre++bV (n+1) W++post) (pre++y++x::post) v p pre.length (n+1) q c b hloop;have d:pre.length+n=(pre++y).length:=by simp [i,j]
 have o:((x+(18446744073709551616 - c)) % 18446744073709551616+(18446744073709551616 - b)) % 18446744073709551616=dN x c b:=rfl;rw [j] at htake i;have t:θ (ε (pre.length+n) (ak (pre++y++x::post))) .dead= .int .u32 (x:Int):=kG d;have g:∀ z:Nat,κ (pre.length+n) (ak (pre++y++x::post))++ [Xxx .u32 (z:Int)]++ε (pre.length+n+1) (ak (pre++y++x::post))=ak (pre++y++z::post):=λz=>nC d
 simp (disch:=first|omega|(simp [au,ay]<;>omega)) only [aC,Θ,au,η,ν,fK,bi,dG,aZ,t,kE,bf,qg,Ξ,lU,o,sK,lZ,al_,jY,sW,g] at htake;have htake:=htake (by omega) (by omega) (by omega) trivial;generalize N:dN x c b / 9223372036854775808=f at*
 generalize P:dN x c b % 4294967296=z at*
 have k:z<4294967296:=by omega
 have h:bT (y++ [z]):=bT.app F (bT.cons k bT.nil);have a:aI (y++ [z])+q*aI v=W+4294967296^(n+1)*f:=by
  rw [nU,i];simp only [aI,Xjl,Xq1];have I:4294967296^n*(z+c+b)=4294967296^n*(x+4294967296*f):=by rw [J]
  rw [Xq3,Xqr];rw [Xxe,Xxe,Xxe] at I;rw [Xxe] at w;omega
 have m:=qQ h;have hlen2:(y++ [z]).length=n+1:=by simp [i]
 rw [hlen2] at m;have hlist:pre++y++z::post=pre++(y++ [z])++post:=by simp
 have l:(!decide (f=0))=decide (W<q*aI v):=by
  rcases Xqb f with h0|h0
  .rw [h0,Xjl,Xq1] at a;rw [h0,Yq0 rfl,Yq1 (by omega)];rfl
  .rw [show f=1 by omega,Θ] at a;rw [Yq1 (by omega),Yq0 (by omega)];rfl
 have G:aI (y++ [z])=if W<q*aI v then W+4294967296^(n+1) - q*aI v else W - q*aI v:=by
  rcases Xqb f with h0|h0
  .rw [h0,Xjl,Xq1] at a;rw [if_neg (by omega)];omega
  .rw [show f=1 by omega,Θ] at a;rw [if_pos (by omega)];omega
 rw [hlist,Qu h hlen2,G,l] at htake;exact htake
theorem abI (pre post v:List Nat) (j:Bool) (n W:Nat) (i:v.length=n) (o:bT v) (w:W<4294967296^(n+1)) (hpost:bT post) (C:pre.length+n<2^40):
  aH prog ap 225 [.ref 0 0 pre.length (n+1),.sl (ak v) n j] (qC (pre++bV (n+1) W++post)) (.ret (.tup [])) (qC (pre++bV (n+1) ((W+aI v) % 4294967296^(n+1))++post)):=by
 have d:bT (bV (n+1) W++post):=bT.app (bT.pad _ _) hpost;obtain ⟨s,p,g,m⟩:=UT v (bV (n+1) W++post) 0 (by omega) o d (by simp [aW];omega);have hloop:=λnt (hnt:42<=nt)=>abK hnt (pre++bV (n+1) W++post) v j pre.length (n+1) o (by omega) (by omega) v [] (bV (n+1) W++post) pre 0 rfl rfl (by simp [aW];omega) (by omega) d
 rw [i,DI,xB,nP] at m;rw [i,DF,nP,oG] at hloop;generalize D:sD v (bV (n+1) W++post) 0=r at*
 obtain ⟨y,c⟩:=r;simp only [Xq1,Xqf,<- υ] at s p g m hloop;have u:W / 4294967296^n<4294967296:=by
  rw [Xqv (iY n),Xqh,<- Xq3];exact w
 rw [Ξ u] at hloop;have B:=Xxb W (4294967296^n);generalize t:W / 4294967296^n=x at*
 have hgive:=agY (pre++bV (n+1) W++post) (pre++y++x::post) v j pre.length (n+1) c hloop;have a:pre.length+n=(pre++y).length:=by simp [g,i]
 rw [i] at hgive g;have k:θ (ε (pre.length+n) (ak (pre++y++x::post))) .dead= .int .u32 (x:Int):=kG a;have h:∀ z:Nat,κ (pre.length+n) (ak (pre++y++x::post))++ [Xxx .u32 (z:Int)]++ε (pre.length+n+1) (ak (pre++y++x::post))=ak (pre++y++z::post):=λz=>nC a
 rw [sW,Ξ (show c<4294967296 by omega)] at hgive;have l:γ .u32 ((x:Int)+(c:Int))=(((x+c) % 4294967296:Nat):Int):=by rw [bQ,sW]
 simp (disch:=first|omega|(simp [au,ay]<;>omega)) only [aC,Θ,au,η,ν,fK,bi,dG,aZ,k,kE,bf,bQ,sW,h] at hgive;have hgive:=hgive (by omega) (by omega) (by omega) trivial;have b:bT (y++ [(x+c) % 4294967296]):=bT.app p (bT.cons (Xqy _ (by omega)) bT.nil);have f:aI (y++ [(x+c) % 4294967296])+4294967296^(n+1)*((x+c) / 4294967296)=W+aI v:=by
  rw [nU,g];simp only [aI,Xjl,Xq1];have A:4294967296^n*(x+c)=4294967296^n*(4294967296*((x+c) / 4294967296)+(x+c) % 4294967296):=by rw [Xxb]
  rw [Xq3,Xqr];rw [Xxe,Xxe] at A;omega
 have e:=qQ b;have hlen2:(y++ [(x+c) % 4294967296]).length=n+1:=by simp [g]
 rw [hlen2] at e;have hlist:pre++y++(x+c) % 4294967296::post=pre++(y++ [(x+c) % 4294967296])++post:=by simp
 have q:aI (y++ [(x+c) % 4294967296])=(W+aI v) % 4294967296^(n+1):=by
  rw [<- f,Xzk,Ξ e]
 rw [hlist,Qu b hlen2,q] at hgive;exact hgive
theorem akd {nt:Nat} (E:130<=nt) (Q U U1 U2 v:List Nat) (b s M n j q:Nat) (u:(Φ (((0+(δ (j:Int)))*1)+1) (ζ (ak Q)))=true) (e:(decide (((0:Nat):Int)<=(j:Int)))=true) (t:(decide ((j:Int)<(b:Int)))=true) (p:(decide ((j:Int)<=(γ .i64 ((γ .i64 ((j:Int)+(n:Int)))+((1:Nat):Int)))))=true) (r:(decide ((γ .i64 ((γ .i64 ((j:Int)+(n:Int)))+((1:Nat):Int)))<=(M:Int)))=true) (z:(chk (.int .u32) (θ (ε ((δ (γ .i64 ((n:Int) - ((2:Nat):Int))))*1) (ak v)) .dead))=true) (y:(decide (((0:Nat):Int)<=(γ .i64 ((n:Int) - ((2:Nat):Int)))))=true) (C:(decide ((γ .i64 ((n:Int) - ((2:Nat):Int)))<(v.length:Int)))=true) (w:(chk (.int .u32) (θ (ε ((δ (γ .i64 ((n:Int) - ((1:Nat):Int))))*1) (ak v)) .dead))=true) (D:(decide (((0:Nat):Int)<=(γ .i64 ((n:Int) - ((1:Nat):Int)))))=true) (f:(decide ((γ .i64 ((n:Int) - ((1:Nat):Int)))<(v.length:Int)))=true) (g:(chk (.int .u32) (θ (ε ((0+(δ (γ .i64 ((γ .i64 ((j:Int)+(n:Int))) - ((2:Nat):Int)))))*1) (ak U)) .dead))=true) (i:(decide (((0:Nat):Int)<=(γ .i64 ((γ .i64 ((j:Int)+(n:Int))) - ((2:Nat):Int)))))=true) (o:(decide ((γ .i64 ((γ .i64 ((j:Int)+(n:Int))) - ((2:Nat):Int)))<(M:Int)))=true) (a:(chk (.int .u32) (θ (ε ((0+(δ (γ .i64 ((γ .i64 ((j:Int)+(n:Int))) - ((1:Nat):Int)))))*1) (ak U)) .dead))=true) (d:(decide (((0:Nat):Int)<=(γ .i64 ((γ .i64 ((j:Int)+(n:Int))) - ((1:Nat):Int)))))=true) (h:(decide ((γ .i64 ((γ .i64 ((j:Int)+(n:Int))) - ((1:Nat):Int)))<(M:Int)))=true) (m:(chk (.int .u32) (θ (ε ((0+(δ (γ .i64 ((j:Int)+(n:Int)))))*1) (ak U)) .dead))=true) (k:(decide (((0:Nat):Int)<=(γ .i64 ((j:Int)+(n:Int)))))=true) (c:(decide ((γ .i64 ((j:Int)+(n:Int)))<(M:Int)))=true) (l:lit true (decide (((0:Nat):Int)<=(j:Int)))=true) (B:CO 223 [.agg [.int .u32 (Γ (θ (ε ((0+(δ (γ .i64 ((j:Int)+(n:Int)))))*1) (ak U)) .dead)),.int .u32 (Γ (θ (ε ((0+(δ (γ .i64 ((γ .i64 ((j:Int)+(n:Int))) - ((1:Nat):Int)))))*1) (ak U)) .dead)),.int .u32 (Γ (θ (ε ((0+(δ (γ .i64 ((γ .i64 ((j:Int)+(n:Int))) - ((2:Nat):Int)))))*1) (ak U)) .dead))],.agg [.int .u32 (Γ (θ (ε ((δ (γ .i64 ((n:Int) - ((1:Nat):Int))))*1) (ak v)) .dead)),.int .u32 (Γ (θ (ε ((δ (γ .i64 ((n:Int) - ((2:Nat):Int))))*1) (ak v)) .dead)),.int .u32 0]] (.ret (.int .u64 (q:Int)))) (x:aH prog ap 224 [.ref 0 0 (0+(δ (j:Int))) ((δ (γ .i64 ((γ .i64 ((j:Int)+(n:Int)))+((1:Nat):Int)))) - (δ (j:Int))),.sl (ak v) v.length true,.int .u64 (q:Int)] [⟨(ak U),0,false,0,1,true⟩] (.ret (.bool true)) [⟨(ak U1),0,false,0,1,true⟩]) (A:aH prog ap 225 [.ref 0 0 (0+(δ (j:Int))) ((δ (γ .i64 ((γ .i64 ((j:Int)+(n:Int)))+((1:Nat):Int)))) - (δ (j:Int))),.sl (ak v) v.length true] [⟨(ak U1),0,false,0,1,true⟩] (.ret (.tup [])) [⟨(ak U2),0,false,0,1,true⟩]):aj prog ap [] nt (af 1 (ah f211)) ⟨[(4,.ref 0 0 0 b),(8,ω (s:Int)),(9,.ref 1 0 0 M),(10,.sl (ak v) v.length true),(11,ω (n:Int)),(12,ω (j:Int))],[(0,⟨(ak Q),0,false,0,1,true⟩),(1,⟨(ak U),0,false,0,1,true⟩)],.dead,[]⟩ (.normal) ⟨[(4,.ref 0 0 0 b),(8,ω (s:Int)),(9,.ref 1 0 0 M),(10,.sl (ak v) v.length true),(11,ω (n:Int)),(12,ω (γ .i64 ((j:Int) - ((1:Nat):Int))))],[(0,⟨(κ ((0+(δ (j:Int)))*1) (ak Q)++ [.int .u32 (γ .u32 (γ .u64 ((q:Int) - ((1:Nat):Int))))]++ε (((0+(δ (j:Int)))*1)+1) (ak Q)),0,false,0,1,true⟩),(1,⟨(ak U2),0,false,0,1,true⟩)],.dead,[]⟩:=pJ 211 [] 2 3 (.c u (.c e (.c t (.c e (.c p (.c r (.k 1 e (.c p (.c r (.c z (.c y (.c C (.c w (.c D (.c f (.c g (.c i (.c o (.c a (.c d (.c h (.c m (.c k (.c c (.c l .nil))))))))))))))))))))))))) (.c A (.c x (.c B .nil))) E
theorem akb {nt:Nat} (D:130<=nt) (Q U U1 U2 v:List Nat) (b p M n j q:Nat) (s:(Φ (((0+(δ (j:Int)))*1)+1) (ζ (ak Q)))=true) (o:(decide (((0:Nat):Int)<=(j:Int)))=true) (r:(decide ((j:Int)<(b:Int)))=true) (t:(decide ((j:Int)<=(γ .i64 ((γ .i64 ((j:Int)+(n:Int)))+((1:Nat):Int)))))=true) (u:(decide ((γ .i64 ((γ .i64 ((j:Int)+(n:Int)))+((1:Nat):Int)))<=(M:Int)))=true) (z:(chk (.int .u32) (θ (ε ((δ (γ .i64 ((n:Int) - ((2:Nat):Int))))*1) (ak v)) .dead))=true) (y:(decide (((0:Nat):Int)<=(γ .i64 ((n:Int) - ((2:Nat):Int)))))=true) (B:(decide ((γ .i64 ((n:Int) - ((2:Nat):Int)))<(v.length:Int)))=true) (w:(chk (.int .u32) (θ (ε ((δ (γ .i64 ((n:Int) - ((1:Nat):Int))))*1) (ak v)) .dead))=true) (C:(decide (((0:Nat):Int)<=(γ .i64 ((n:Int) - ((1:Nat):Int)))))=true) (e:(decide ((γ .i64 ((n:Int) - ((1:Nat):Int)))<(v.length:Int)))=true) (f:(chk (.int .u32) (θ (ε ((0+(δ (γ .i64 ((γ .i64 ((j:Int)+(n:Int))) - ((2:Nat):Int)))))*1) (ak U)) .dead))=true) (h:(decide (((0:Nat):Int)<=(γ .i64 ((γ .i64 ((j:Int)+(n:Int))) - ((2:Nat):Int)))))=true) (m:(decide ((γ .i64 ((γ .i64 ((j:Int)+(n:Int))) - ((2:Nat):Int)))<(M:Int)))=true) (a:(chk (.int .u32) (θ (ε ((0+(δ (γ .i64 ((γ .i64 ((j:Int)+(n:Int))) - ((1:Nat):Int)))))*1) (ak U)) .dead))=true) (d:(decide (((0:Nat):Int)<=(γ .i64 ((γ .i64 ((j:Int)+(n:Int))) - ((1:Nat):Int)))))=true) (g:(decide ((γ .i64 ((γ .i64 ((j:Int)+(n:Int))) - ((1:Nat):Int)))<(M:Int)))=true) (l:(chk (.int .u32) (θ (ε ((0+(δ (γ .i64 ((j:Int)+(n:Int)))))*1) (ak U)) .dead))=true) (i:(decide (((0:Nat):Int)<=(γ .i64 ((j:Int)+(n:Int)))))=true) (c:(decide ((γ .i64 ((j:Int)+(n:Int)))<(M:Int)))=true) (k:lit true (decide (((0:Nat):Int)<=(j:Int)))=true) (A:CO 223 [.agg [.int .u32 (Γ (θ (ε ((0+(δ (γ .i64 ((j:Int)+(n:Int)))))*1) (ak U)) .dead)),.int .u32 (Γ (θ (ε ((0+(δ (γ .i64 ((γ .i64 ((j:Int)+(n:Int))) - ((1:Nat):Int)))))*1) (ak U)) .dead)),.int .u32 (Γ (θ (ε ((0+(δ (γ .i64 ((γ .i64 ((j:Int)+(n:Int))) - ((2:Nat):Int)))))*1) (ak U)) .dead))],.agg [.int .u32 (Γ (θ (ε ((δ (γ .i64 ((n:Int) - ((1:Nat):Int))))*1) (ak v)) .dead)),.int .u32 (Γ (θ (ε ((δ (γ .i64 ((n:Int) - ((2:Nat):Int))))*1) (ak v)) .dead)),.int .u32 0]] (.ret (.int .u64 (q:Int)))) (x:aH prog ap 224 [.ref 0 0 (0+(δ (j:Int))) ((δ (γ .i64 ((γ .i64 ((j:Int)+(n:Int)))+((1:Nat):Int)))) - (δ (j:Int))),.sl (ak v) v.length true,.int .u64 (q:Int)] [⟨(ak U),0,false,0,1,true⟩] (.ret (.bool false)) [⟨(ak U1),0,false,0,1,true⟩]):aj prog ap [] nt (af 1 (ah f211)) ⟨[(4,.ref 0 0 0 b),(8,ω (p:Int)),(9,.ref 1 0 0 M),(10,.sl (ak v) v.length true),(11,ω (n:Int)),(12,ω (j:Int))],[(0,⟨(ak Q),0,false,0,1,true⟩),(1,⟨(ak U),0,false,0,1,true⟩)],.dead,[]⟩ (.normal) ⟨[(4,.ref 0 0 0 b),(8,ω (p:Int)),(9,.ref 1 0 0 M),(10,.sl (ak v) v.length true),(11,ω (n:Int)),(12,ω (γ .i64 ((j:Int) - ((1:Nat):Int))))],[(0,⟨(κ ((0+(δ (j:Int)))*1) (ak Q)++ [.int .u32 (γ .u32 (q:Int))]++ε (((0+(δ (j:Int)))*1)+1) (ak Q)),0,false,0,1,true⟩),(1,⟨(ak U1),0,false,0,1,true⟩)],.dead,[]⟩:=pJ 211 [] 2 1 (.c s (.c o (.c r (.k 1 o (.c t (.c u (.c z (.c y (.c B (.c w (.c C (.c e (.c f (.c h (.c m (.c a (.c d (.c g (.c l (.c i (.c c (.c k .nil)))))))))))))))))))))) (.c x (.c A .nil)) D
theorem aka {nt:Nat} (c:130<=nt) (Q U U1 U2 v:List Nat) (a b M n j q:Nat):aj prog ap [] nt (af 1 (ah f211)) ⟨[(4,.ref 0 0 0 a),(8,ω (b:Int)),(9,.ref 1 0 0 M),(10,.sl (ak v) v.length true),(11,ω (n:Int)),(12,ω (-1))],[(0,⟨(ak Q),0,false,0,1,true⟩),(1,⟨(ak U),0,false,0,1,true⟩)],.dead,[]⟩ (.exit 1) ⟨[(4,.ref 0 0 0 a),(8,ω (b:Int)),(9,.ref 1 0 0 M),(10,.sl (ak v) v.length true),(11,ω (n:Int)),(12,ω (-1))],[(0,⟨(ak Q),0,false,0,1,true⟩),(1,⟨(ak U),0,false,0,1,true⟩)],.dead,[]⟩:=pJ 211 [] 1 0 (.n 1 .nil) (.nil) c
theorem N8 {q Q k:Nat} (a:q<4294967296):bV (k+1) (4294967296*Q+q)=q::bV k Q:=by
 unfold bV;rw [Xwr,Xqg,Xzs];congr 1
 .simp only [Xjl,Xvo,Xz3,oG];omega
 .apply Xx9;intro i _;simp only [Xv0,Xks];rw [show 32*(i+1)=32+32*i by omega,Xxo,<- Xx4,oG,show (4294967296*Q+q) / 4294967296=Q by omega]
theorem P6 {k W V:Nat} (o:V<4294967296^(k+2)) (b:2147483648*4294967296^(k+1)<=V) (q:W<V*4294967296):
  W / V<=xH (W / 4294967296^(k+2) % 4294967296) (W / 4294967296^(k+1) % 4294967296) (W / 4294967296^k % 4294967296) (V / 4294967296^(k+1) % 4294967296) (V / 4294967296^k % 4294967296)/\
  xH (W / 4294967296^(k+2) % 4294967296) (W / 4294967296^(k+1) % 4294967296) (W / 4294967296^k % 4294967296) (V / 4294967296^(k+1) % 4294967296) (V / 4294967296^k % 4294967296)<=W / V+1/\
  W / 4294967296^(k+2) % 4294967296<=V / 4294967296^(k+1) % 4294967296/\2147483648<=V / 4294967296^(k+1) % 4294967296:=by
 have a:0<4294967296^k:=iY k;have A:4294967296^(k+1)=4294967296^k*4294967296:=Xq3 ..;have u:4294967296^(k+2)=4294967296^k*4294967296*4294967296:=by rw [Xq3,Xq3]
 rw [u] at o ⊢;rw [A] at b ⊢;generalize 4294967296^k=P at*
 simp only [<- Xx4];have K:=Xxb W P;have H:=Xqy W a;have z:=Xxb V P;have F:=Xqy V a;have hVpos:0<V:=by
  have:=Xjg (show 0<2147483648 by omega) (Xjg a (show 0<4294967296 by omega));omega
 generalize l:W / P=T at*
 generalize g:V / P=D at*
 generalize J:W % P=w at*
 generalize hd:V % P=d at*
 have m:2147483648*4294967296<=D:=by
  rw [<- g,Xzi a]
  calc 2147483648*4294967296*P=2147483648*(P*4294967296):=by rw [Xqr,Xqh 4294967296 P]
   _<=V:=b
 have G:D<4294967296*4294967296:=by
  rw [<- g,Xqv a]
  calc V<P*4294967296*4294967296:=o
   _=4294967296*4294967296*P:=by rw [Xqr,Xqh P]
 have B:T<(D+1)*4294967296:=by
  rw [<- l,Xqv a]
  calc W<V*4294967296:=q
   _<=(D+1)*P*4294967296:=Xqw _ (by rw [Xxt,Xqh D];omega)
   _=(D+1)*4294967296*P:=by rw [Xqr,Xqr,Xqh P]
 have i:W / V<=4294967295:=by
  have:W / V<4294967296:=by rw [Xqv hVpos,Xqh];exact q
  omega
 have s:=Xxb W V;have C:=Xqy W hVpos;have r:T / 4294967296 / 4294967296<4294967296:=by omega
 have f:4294967296*(4294967296*(T / 4294967296 / 4294967296 % 4294967296)+T / 4294967296 % 4294967296)+T % 4294967296=T:=by omega
 have c:4294967296*(D / 4294967296 % 4294967296)+D % 4294967296=D:=by omega
 have p:0<D / 4294967296 % 4294967296:=by omega
 refine ⟨?_, ?_,by omega,by omega⟩
 .rw [Bz p,f,c];refine ⟨i, ?_⟩;have h:W / V*D*P<(T+1)*P:=by
   have n:W / V*D*P=W / V*(P*D):=by rw [Xqr,Xqh D]
   have j:W / V*(P*D)<=W / V*V:=Xqx _ (by omega);rw [Xqh (W / V) V] at j;rw [Xxt,Xqh T P];omega
  have:=Xvn h;omega
 .generalize t:xH _ _ _ _ _=e;have h:=(Bz (x:=e) p).1 (by rw [t];exact χ _);rw [f,c] at h;obtain ⟨n,j⟩:=h;have L:e*V<W+V:=by
   have M:e*V=e*(P*D)+e*d:=by rw [<- Xxe,z]
   have O:e*(P*D)=e*D*P:=by rw [Xqh P,Xqr]
   have E:e*D*P<=T*P:=Xqw _ j;have N:e*d<=e*P:=Xqx _ (by omega);have I:e*P<=4294967295*P:=Xqw _ n;have y:2147483648*4294967296*P<=D*P:=Xqw _ m;rw [Xqh D] at y;rw [Xqh T] at E;omega
  have v:e*V<(W / V+2)*V:=by
   rw [Xxt,Xqh (W / V)];omega
  have:=Xvn v;omega
def dvQ (a v:List Nat) (m j:Nat):List Nat:=μ j 0++bV (m - j) (aI (a.drop j) / aI v)
def dvU (a v:List Nat) (m j:Nat):List Nat:=a.take j++bV v.length (aI (a.drop j) % aI v)++μ (m - j) 0
def PP (a v:List Nat) (sh m j:Nat):St:=⟨[(4,.ref 0 0 0 m),(8,ω (sh:Int)),(9,.ref 1 0 0 (m+v.length)),(10,.sl (ak v) v.length true),(11,ω (v.length:Int)),(12,ω ((j:Int) - 1))],[(0,⟨ak (dvQ a v m j),0,false,0,1,true⟩),(1,⟨ak (dvU a v m j),0,false,0,1,true⟩)],.dead,[]⟩
theorem acG {n r:Nat} (h:r<4294967296^n):bV (n+1) r=bV n r++ [0]:=by
 rw [vW,nP,Xjb h]
theorem aa6 {a v:List Nat} {m j:Nat} (c:j<m) (f:a.length=m+v.length) (d:bT v) (b:bT a) (e:0<aI v):dvU a v m (j+1)=a.take j++bV (v.length+1) (4294967296*(aI (a.drop (j+1)) % aI v)+a.getD j 0)++μ (m - j - 1) 0:=by
 unfold dvU;rw [N8 (b.getD j),List.take_add_one,show m - (j+1)=m - j - 1 by omega];have:a[j]? =some (a.getD j 0):=by rw [ξ,π (by omega)];rfl
 rw [this];simp
theorem aa5 {a v:List Nat} {m j:Nat} (d:j<m) (b:bT v) (c:0<aI v):dvU a v m j=a.take j++bV (v.length+1) (aI (a.drop j) % aI v)++μ (m - j - 1) 0:=by
 unfold dvU;rw [acG (Xq8 (Xqy _ c) (qQ b)),show m - j=(m - j - 1)+1 by omega,Xxi];simp
theorem aa4 {a v:List Nat} {m j:Nat}:dvQ a v m (j+1)=μ j 0++0::bV (m - j - 1) (aI (a.drop (j+1)) / aI v):=by
 unfold dvQ;rw [Xj8,show m - (j+1)=m - j - 1 by omega];simp
theorem af2 {V R' Q' x H:Nat} (a:0<V) (h:H=V*Q'+R'):(x+4294967296*H) / V=4294967296*Q'+(4294967296*R'+x) / V/\(x+4294967296*H) % V=(4294967296*R'+x) % V:=by
 subst h;have e:x+4294967296*(V*Q'+R')=4294967296*R'+x+V*(4294967296*Q'):=by
  rw [Xxe,Nat.mul_left_comm];omega
 rw [e];constructor
 .rw [Xwb _ _ a,Xx1]
 .rw [Xzk]
theorem LU {pre post:List Nat} {n W i:Nat} (h:i<=n):(pre++bV (n+1) W++post).getD (pre.length+i) 0=W / 4294967296^i % 4294967296:=by
 rw [ξ,Xxh (by simp [aW];omega),Xxa (by omega),Nat.add_sub_cancel_left,sQ (by omega),nP,oG];rfl
theorem Sv {v:List Nat} (a:bT v) {i:Nat} (h:i<v.length):v.getD i 0=aI v / 4294967296^i % 4294967296:=by
 have e:=sQ (n:=aI v) h;rw [Gu a,nP,oG] at e;rw [ξ,e];rfl
def dvS (sh m M n:Nat) (v Q U:List Nat) (j:Int):St:=⟨[(4,.ref 0 0 0 m),(8,ω (sh:Int)),(9,.ref 1 0 0 M),(10,.sl (ak v) v.length true),(11,ω (n:Int)),(12,ω j)],[(0,⟨ak Q,0,false,0,1,true⟩),(1,⟨ak U,0,false,0,1,true⟩)],.dead,[]⟩
abbrev akO (x2 x1 x0 y1 y0:Nat):List AV:= [.agg [.int .u32 (x2:Int),.int .u32 (x1:Int),.int .u32 (x0:Int)],.agg [.int .u32 (y1:Int),.int .u32 (y0:Int),.int .u32 0]]
theorem ake {nt:Nat} (h:130<=nt) (Q R U U1 U2 v:List Nat) (b m n j q:Nat) (r:v.length=n) (i:2<=n) (s:U.length=m+n) (p:j<m) (o:m+n<2^40) (l:q<4294967296) (g:0<q) (k:Q.length=m) (a:∀ y:Nat,κ j (ak Q)++ [Xxx .u32 (y:Int)]++ε (j+1) (ak Q)=ak (Q.set j y)) (f:Q.set j (q - 1)=R)
  (c0:CO 223 (akO (U.getD (j+n) 0) (U.getD (j+n - 1) 0) (U.getD (j+n - 2) 0) (v.getD (n - 1) 0) (v.getD (n - 2) 0)) (.ret (.int .u64 (q:Int))))
  (c1:aH prog ap 224 [.ref 0 0 j (n+1),.sl (ak v) v.length true,.int .u64 (q:Int)] (qC U) (.ret (.bool true)) (qC U1))
  (c2:aH prog ap 225 [.ref 0 0 j (n+1),.sl (ak v) v.length true] (qC U1) (.ret (.tup [])) (qC U2)):
  aj prog ap [] nt (af 1 (ah f211)) (dvS b m (m+n) n v Q U (j:Int)) .normal (dvS b m (m+n) n v R U2 ((j:Int) - 1)):=by
 have hbody:=akd h Q U U1 U2 v m b (m+n) n j q;have d:γ .i64 ((j:Int) - ((1:Nat):Int))=(j:Int) - 1:=bG (by omega) (by omega);have c:(q+(18446744073709551616 - 1)) % 18446744073709551616=q - 1:=by omega
 have e:j+n+1 - j=n+1:=by omega
 simp (disch:=first|omega|(simp [au,ay]<;>omega)) only [aC,Ψ,Θ,au,fK,bi,dG,aZ,bQ,aS,kH,AC,kE,bD,bf,e,d,lU,Ξ,c,sW,a] at hbody;rw [f] at hbody;unfold dvS;apply hbody<;>first|exact True.intro|omega|assumption
theorem akc {nt:Nat} (f:130<=nt) (Q R U U1 v:List Nat) (b m n j q:Nat) (o:v.length=n) (g:2<=n) (p:U.length=m+n) (l:j<m) (k:m+n<2^40) (i:q<4294967296) (h:Q.length=m) (a:∀ y:Nat,κ j (ak Q)++ [Xxx .u32 (y:Int)]++ε (j+1) (ak Q)=ak (Q.set j y)) (e:Q.set j q=R)
  (c0:CO 223 (akO (U.getD (j+n) 0) (U.getD (j+n - 1) 0) (U.getD (j+n - 2) 0) (v.getD (n - 1) 0) (v.getD (n - 2) 0)) (.ret (.int .u64 (q:Int))))
  (c1:aH prog ap 224 [.ref 0 0 j (n+1),.sl (ak v) v.length true,.int .u64 (q:Int)] (qC U) (.ret (.bool false)) (qC U1)):
  aj prog ap [] nt (af 1 (ah f211)) (dvS b m (m+n) n v Q U (j:Int)) .normal (dvS b m (m+n) n v R U1 ((j:Int) - 1)):=by
 have hbody:=akb f Q U U1 U v m b (m+n) n j q;have c:γ .i64 ((j:Int) - ((1:Nat):Int))=(j:Int) - 1:=bG (by omega) (by omega);have d:j+n+1 - j=n+1:=by omega
 simp (disch:=first|omega|(simp [au,ay]<;>omega)) only [aC,Ψ,Θ,au,fK,bi,dG,aZ,bQ,aS,kH,AC,kE,bD,bf,d,c,sW,Ξ,a] at hbody;rw [e] at hbody;unfold dvS;apply hbody<;>first|exact True.intro|omega|assumption
theorem T_ {l:List Nat} {j:Nat} (h:j<l.length) (y:Nat):κ j (ak l)++ [Xxx .u32 (y:Int)]++ε (j+1) (ak l)=ak (l.set j y):=by
 rw [p_,Xi,Xx2,if_pos h];simp [ak]
theorem abx (a b c d e:Nat):xH a b c d e<4294967296:=Xqj (Nat.min_le_left _ _) (by omega)
theorem aa8 {nt:Nat} (T:130<=nt) (a v:List Nat) (B m j k:Nat) (z:v.length=k+2) (C:j<m) (ha:a.length=m+v.length) (r:bT v) (w:bT a) (P:a.length<2^40) (t:2147483648*4294967296^(k+1)<=aI v):
  aj prog ap [] nt (af 1 (ah f211)) (PP a v B m (j+1)) .normal (PP a v B m j):=by
 have p:=qQ r;have hVpos:0<aI v:=by have:=Xjg (show 0<2147483648 by omega) (iY (k+1));omega
 have hx:=w.getD j;have S:=Xqy (aI (a.drop (j+1))) hVpos;have L:=Xxb (aI (a.drop (j+1))) (aI v);have F:aI (a.drop j)=a.getD j 0+4294967296*aI (a.drop (j+1)):=V6 (by omega);obtain ⟨u,s⟩:=af2 (x:=a.getD j 0) hVpos L.symm;rw [<- F] at u s;unfold PP;rw [show (((j+1:Nat):Int) - 1)=(j:Int) by omega];rw [aa6 C ha r w hVpos,aa5 C r hVpos,aa4,s];have Z:dvQ a v m j=μ j 0++(4294967296*(aI (a.drop (j+1)) % aI v)+a.getD j 0) / aI v::bV (m - j - 1) (aI (a.drop (j+1)) / aI v):=by
  unfold dvQ;rw [u,show m - j=(m - j - 1)+1 by omega,N8]
  .rfl
  .rw [Xqv hVpos];omega
 rw [Z];have R:4294967296*(aI (a.drop (j+1)) % aI v)+a.getD j 0<aI v*4294967296:=by omega
 generalize aI (a.drop (j+1)) / aI v=Q' at*
 generalize 4294967296*(aI (a.drop (j+1)) % aI v)+a.getD j 0=W at*
 have h:(a.take j).length=j:=by simp;omega
 generalize a.take j=pre at*
 obtain ⟨V,Y,b3,b4⟩:=P6 (k:=k) (W:=W) (by rw [<- z];exact p) t R;have hpost:bT (μ (m - j - 1) 0):=bT.zeros _;have D:W<4294967296^(v.length+1):=by
  rw [Xq3];exact Xqa R (Xqw _ (Xw3 p))
 have J:=LU (pre:=pre) (post:=μ (m - j - 1) 0) (n:=v.length) (W:=W) (i:=k+2) (by omega);have G:=LU (pre:=pre) (post:=μ (m - j - 1) 0) (n:=v.length) (W:=W) (i:=k+1) (by omega);have K:=LU (pre:=pre) (post:=μ (m - j - 1) 0) (n:=v.length) (W:=W) (i:=k) (by omega);have v1:=Sv r (i:=k+1) (by omega);have v0:=Sv r (i:=k) (by omega);rw [h] at J G K;have M:j+v.length=j+(k+2):=by rw [z]
 have Q:j+v.length - 1=j+(k+1):=by omega
 have N:j+v.length - 2=j+k:=by omega
 have U:v.length - 1=k+1:=by omega
 have O:v.length - 2=k:=by omega
 have hm:=Xqy (W / 4294967296^(k+1)) (show 0<4294967296 by omega);have H:=Xqy (W / 4294967296^k) (show 0<4294967296 by omega);have I:=Xqy (aI v / 4294967296^(k+1)) (show 0<4294967296 by omega);have A:=Xqy (aI v / 4294967296^k) (show 0<4294967296 by omega);have g:=agw _ _ _ _ _ b3 hm H I A b4;generalize hE:xH _ _ _ _ _=q at V Y g;have f:q<4294967296:=by rw [<- hE];exact abx ..
 have y:(pre++bV (v.length+1) W++μ (m - j - 1) 0).length=m+v.length:=by simp [aW,h];omega
 have htake:=aee pre (μ (m - j - 1) 0) v true v.length W q rfl r f D hpost (by omega);have X:=Xxb W (aI v);have hql:=Xqy W hVpos;rw [h] at htake;rcases Xq2 (W / aI v) q with hlt|hge
 .have o:q=W / aI v+1:=by omega
  have b:W<q*aI v:=by rw [o,Xxt,Xqh (W / aI v)];omega
  rw [if_pos b,Yq0 b] at htake;have hgive:=abI pre (μ (m - j - 1) 0) v true v.length (W+4294967296^(v.length+1) - q*aI v) rfl r (by omega) hpost (by omega);rw [h] at hgive;have c:(W+4294967296^(v.length+1) - q*aI v+aI v) % 4294967296^(v.length+1)=W % aI v:=by
   have e:W+4294967296^(v.length+1) - q*aI v+aI v=W % aI v+4294967296^(v.length+1):=by
    have:q*aI v=aI v*(W / aI v)+aI v:=by rw [o,Xxt,Xqh (W / aI v)];omega
    omega
   rw [e,Nat.add_mod_right,Ξ];have:=Xqc (show 0<4294967296 by omega) (show v.length<=v.length+1 by omega);omega
  rw [c] at hgive;have d:=T_ (l:=μ j 0++0::bV (m - j - 1) Q') (j:=j) (by simp);have E:(μ j 0++0::bV (m - j - 1) Q').set j (q - 1)=μ j 0++W / aI v::bV (m - j - 1) Q':=by
   rw [Xkf _ _ (by simp),show q - 1=W / aI v by rw [o,Xwm]];simp
  have:=ake T _ _ _ _ _ v B m v.length j q rfl (by omega) y C (by omega) f (by rw [o];exact Nat.succ_pos _) (by simp [aW];omega) d E (by rw [Q,N,U,O,M,J,G,K,v1,v0];exact g) htake hgive;exact this
 .have o:q=W / aI v:=by omega
  have b:¬ W<q*aI v:=by rw [o,Xqh];omega
  rw [if_neg b,Yq1 b] at htake;have c:W - q*aI v=W % aI v:=by rw [o,Xqh];omega
  rw [c] at htake;have d:=T_ (l:=μ j 0++0::bV (m - j - 1) Q') (j:=j) (by simp);have E:(μ j 0++0::bV (m - j - 1) Q').set j q=μ j 0++W / aI v::bV (m - j - 1) Q':=by
   rw [Xkf _ _ (by simp),o];simp
  have:=akc T _ _ _ _ v B m v.length j q rfl (by omega) y C (by omega) f (by simp [aW];omega) d E (by rw [Q,N,U,O,M,J,G,K,v1,v0];exact g) htake;exact this
theorem aa7 {nt:Nat} (g:130<=nt) (a v:List Nat) (d m k:Nat) (e:v.length=k+2) (i:a.length=m+v.length) (h:bT v) (f:bT a) (c:a.length<2^40) (b:2147483648*4294967296^(k+1)<=aI v):
  ∀ j,j<=m->az prog ap [] nt (af 1 (ah f211)) (λ_=> .exit 1) (PP a v d m) (PP a v d m) j 0:=by
 intro j
 induction j with
 |zero=>exact λ_=> .done (aka g (dvQ a v m 0) (dvU a v m 0) [] [] v m d (m+v.length) v.length 0 0)
 |succ j ih=>exact λl=> .next (aa8 g a v d m j k e (by omega) i h f c b) (ih (by omega))
theorem aj2 (x y s r X1 c:Nat) (A Y Q U v:List Nat) (a:lit true (decide ((nD x y)<((0:Nat):Int)))=true) (b:CO 210 [.sl (ak (digs x)) (digs x).length false,.sl (ak (digs y)) (digs y).length false] (.ret (ω (nD x y)))):CO 211 [.sl (ak (digs x)) (digs x).length false,.sl (ak (digs y)) (digs y).length false] (.ret (.tup [.nilS,.sl (ak (digs x)) (digs x).length false])):=pK [1] 1 1 (.c a .nil) (.c b .nil)
theorem aj3 (x y s r X1 h:Nat) (A Y Q U v:List Nat) (b:(chk (.int .u32) (θ (ak (digs y)) .dead))=true) (f:(decide (((0:Nat):Int)<(((digs y).length:Nat):Int)))=true) (a:lit true ((((digs y).length:Nat):Int)==((1:Nat):Int))=true) (d:lit false (decide ((nD x y)<((0:Nat):Int)))=true) (e:CO 210 [.sl (ak (digs x)) (digs x).length false,.sl (ak (digs y)) (digs y).length false] (.ret (ω (nD x y)))) (g:CO 220 [.sl (ak (digs x)) (digs x).length false,.int .u32 (Γ (θ (ak (digs y)) .dead))] (.ret (.tup [.sl (ak (digs X1)) (digs X1).length false,.int .u32 (r:Int)]))) (c:CO 162 [.sl [.int .u32 (r:Int)] 1 true] (.ret (.sl (ak (digs r)) (digs r).length false))):CO 211 [.sl (ak (digs x)) (digs x).length false,.sl (ak (digs y)) (digs y).length false] (.ret (.tup [.sl (ak (digs X1)) (digs X1).length false,.sl (ak (digs r)) (digs r).length false])):=pK [1] 2 2 (.c b (.k 1 f (.c a (.c d .nil)))) (.c c (.c g (.c e .nil)))
theorem aj6 (x y s r X1 a:Nat) (A Y Q U v:List Nat) (c:(decide (((0:Nat):Int)<=(v.length:Int)))=true) (g:(decide ((v.length:Int)<=(A.length:Int)))=true) (b:(decide (((0:Nat):Int)<=(γ .i64 ((A.length:Int) - (v.length:Int)))))=true) (e:(decide ((γ .i64 ((A.length:Int) - (v.length:Int)))=(γ .i64 ((A.length:Int) - (v.length:Int)))))=true) (f:(decide ((γ .i64 ((A.length:Int) - (v.length:Int)))<=((1099511627776:Nat):Int)))=true) (k:(chk (.int .u32) (θ (ε ((δ (γ .i64 ((((digs y).length:Nat):Int) - ((1:Nat):Int))))*1) (ak (digs y))) .dead))=true) (j:(decide (((0:Nat):Int)<=(γ .i64 ((((digs y).length:Nat):Int) - ((1:Nat):Int)))))=true) (o:(decide ((γ .i64 ((((digs y).length:Nat):Int) - ((1:Nat):Int)))<(((digs y).length:Nat):Int)))=true) (h:lit false ((((digs y).length:Nat):Int)==((1:Nat):Int))=true) (p:lit false (decide ((nD x y)<((0:Nat):Int)))=true) (m:CO 210 [.sl (ak (digs x)) (digs x).length false,.sl (ak (digs y)) (digs y).length false] (.ret (ω (nD x y)))) (i:CO 221 [.int .u32 (Γ (θ (ε ((δ (γ .i64 ((((digs y).length:Nat):Int) - ((1:Nat):Int))))*1) (ak (digs y))) .dead))] (.ret (ω (s:Int)))) (l:CO 222 [.sl (ak (digs x)) (digs x).length false,ω (s:Int)] (.ret (.own (ak A) A.length 1))) (q:CO 222 [.sl (ak (digs y)) (digs y).length false,ω (s:Int)] (.ret (.own (ak Y) Y.length 1))) (n:CO 162 [.sl (κ (Y.length*1) (ak Y)) Y.length true] (.ret (.sl (ak v) v.length true))) (u:aK prog ap [] 130 (.block 1 (.loop (af 1 (ah f211)))) ⟨[(0,.sl (ak (digs x)) (digs x).length false),(1,.sl (ak (digs y)) (digs y).length false),(4,.ref 0 0 0 (δ (γ .i64 ((A.length:Int) - (v.length:Int))))),(5,.nilS),(6,.dead),(7,.dead),(8,ω (s:Int)),(9,.ref 1 0 0 A.length),(10,.sl (ak v) v.length true),(11,ω (v.length:Int)),(12,ω (γ .i64 ((((δ (γ .i64 ((A.length:Int) - (v.length:Int)))):Nat):Int) - ((1:Nat):Int)))),(13,.dead),(14,.bool (decide ((nD x y)<((0:Nat):Int)))),(20,.bool ((((digs y).length:Nat):Int)==((1:Nat):Int))),(61,.dead),(106,.dead)],[(0,⟨(g_ (δ (γ .i64 ((A.length:Int) - (v.length:Int)))) [.int .u32 0]),0,false,0,1,true⟩),(1,⟨(ak A),0,false,0,1,true⟩)],.dead,[]⟩ (.normal) ⟨[(4,.ref 0 0 0 a),(8,ω (s:Int)),(9,.ref 1 0 0 A.length),(11,ω (v.length:Int))],[(0,⟨(ak Q),0,false,0,1,true⟩),(1,⟨(ak U),0,false,0,1,true⟩)],.dead,[]⟩) (t:CO 162 [.sl (κ (a*1) (ak Q)) a true] (.ret (.sl (ak (digs X1)) (digs X1).length false))) (d:CO 226 [.sl (κ (((δ (v.length:Int)) - 0)*1) (ak U)) ((δ (v.length:Int)) - 0) true,ω (s:Int)] (.ret (.sl (ak (digs r)) (digs r).length false))):CO 211 [.sl (ak (digs x)) (digs x).length false,.sl (ak (digs y)) (digs y).length false] (.ret (.tup [.sl (ak (digs X1)) (digs X1).length false,.sl (ak (digs r)) (digs r).length false])):=pK [1] 2 0 (.k 1 c (.c g (.c b (.c e (.c f (.c k (.c j (.c o (.c h (.c p .nil)))))))))) (.c d (.c t (.l u (.c n (.c q (.c l (.c i (.c m .nil))))))))
abbrev dvB (x y s m:Nat) (A v:List Nat):St:=⟨[(0,.sl (ak (digs x)) (digs x).length false),(1,.sl (ak (digs y)) (digs y).length false),(4,.ref 0 0 0 m),(5,.nilS),(6,.dead),(7,.dead),(8,ω (s:Int)),(9,.ref 1 0 0 A.length),(10,.sl (ak v) v.length true),(11,ω (v.length:Int)),(12,ω ((m:Int) - 1)),(13,.dead),(14,.bool (decide (nD x y<((0:Nat):Int)))),(20,.bool (decide ((digs y).length=1))),(61,.dead),(106,.dead)],[(0,⟨ak (μ m 0),0,false,0,1,true⟩),(1,⟨ak A,0,false,0,1,true⟩)],.dead,[]⟩
abbrev dvC (s m:Nat) (A v Q U:List Nat):St:=⟨[(4,.ref 0 0 0 m),(8,ω (s:Int)),(9,.ref 1 0 0 A.length),(11,ω (v.length:Int))],[(0,⟨ak Q,0,false,0,1,true⟩),(1,⟨ak U,0,false,0,1,true⟩)],.dead,[]⟩
theorem aj7 (x y s r z m:Nat) (A Y Q U v:List Nat) (g:A.length=m+v.length) (c:A.length<2^40) (f:2<=(digs y).length) (e:(digs y).length<2^40) (j:0<m) (k:v.length<=U.length) (d:¬ nD x y<((0:Nat):Int)) (i:CO 210 [.sl (ak (digs x)) (digs x).length false,.sl (ak (digs y)) (digs y).length false] (.ret (ω (nD x y))))
  (c1:CO 221 [.int .u32 (((digs y).getD ((digs y).length - 1) 0:Nat):Int)] (.ret (ω (s:Int))))
  (c2:CO 222 [.sl (ak (digs x)) (digs x).length false,ω (s:Int)] (.ret (.own (ak A) A.length 1)))
  (c3:CO 222 [.sl (ak (digs y)) (digs y).length false,ω (s:Int)] (.ret (.own (ak Y) Y.length 1)))
  (c4:CO 162 [.sl (ak (κ Y.length Y)) Y.length true] (.ret (.sl (ak v) v.length true)))
  (l0:aK prog ap [] 130 (.block 1 (.loop (af 1 (ah f211)))) (dvB x y s m A v) .normal (dvC s m A v Q U))
  (c5:CO 162 [.sl (ak (κ m Q)) m true] (.ret (.sl (ak (digs z)) (digs z).length false)))
  (c6:CO 226 [.sl (ak (κ v.length U)) v.length true,ω (s:Int)] (.ret (.sl (ak (digs r)) (digs r).length false))):CO 211 [.sl (ak (digs x)) (digs x).length false,.sl (ak (digs y)) (digs y).length false] (.ret (.tup [.sl (ak (digs z)) (digs z).length false,.sl (ak (digs r)) (digs r).length false])):=by
 have h:=aj6 x y s r z m A Y Q U v;have b:γ .i64 ((m:Int) - ((1:Nat):Int))=(m:Int) - 1:=FQ (by omega);have a:A.length - v.length=m:=by omega
 simp (disch:=first|omega|(simp [au,ay]<;>omega)) only [dG,bi,kH,a,decide_true,aC,Θ,AC,kE,aZ,jY,dP,dY,fA,bf,p_,b,qO,Xjq] at h;apply h<;>first|exact True.intro|omega|assumption
abbrev dS (x:Nat):AV:= .sl (ak (digs x)) (digs x).length false
theorem jB.sl1 (xs:List AV) (n:Nat) (nn:Bool):jB (.ret (.sl xs n nn)) (.ret (.sl xs n false)):=jB.ret rfl rfl (aU.sl xs n nn)
theorem vg {x:Nat} (h:0<x):0<(digs x).length:=by
 rcases Xqb (digs x).length with h0|h0
 .have:=kL (n:=x) (m:=0) (by omega);simp at this;omega
 .exact h0
theorem Xb {x:Nat} (h:(digs x).length=1):digs x= [x]/\x<4294967296:=by
 have b:=kL (n:=x) (m:=1) (by omega);rw [Θ,oG] at b;have a:=fU x
 match hd:digs x,h with
 | [d],_=>rw [hd] at a;simp [aI] at a;subst a;exact ⟨rfl,b⟩
theorem oz (x:Nat):x<4294967296^(digs x).length:=by
 have:=kL (n:=x) (χ _);rwa [nP] at this
theorem Ru {x k:Nat} (h:(digs x).length=k+1):4294967296^k<=x:=by
 rcases Xq2 x (4294967296^k) with h1|h1
 .have:=j_ (n:=x) (m:=k) (by rw [nP];exact h1);omega
 .exact h1
theorem JY {x k:Nat} (h:x<4294967296^k):(digs x).length<=k:=j_ (by rw [nP];exact h)
theorem aaZ {x k:Nat} (h:4294967296^k<=x) (a:x<4294967296^(k+1)):(digs x).length=k+1:=by
 have c:=JY a;have b:=oz x;rcases Xq2 (digs x).length (k+1) with h3|h3
 .have:=Xqc (show 0<4294967296 by omega) (show (digs x).length<=k by omega);omega
 .omega
theorem rU {x y:Nat} (h:x<=y):(digs x).length<=(digs y).length:=JY (Xqj h (oz y))
theorem CB {y k:Nat} (h:(digs y).length=k+1):(digs y).getD k 0=y / 4294967296^k/\0<y / 4294967296^k/\y / 4294967296^k<4294967296:=by
 have c:=zM y k;have d:=Ru h;have a:=oz y;rw [h] at a;have b:y / 4294967296^k<4294967296:=by
  rw [Xqv (iY k),Xqh,<- Xq3];exact a
 rw [nP,oG,Ξ b] at c;exact ⟨c,Xvf d (iY k),b⟩
theorem YA {y k:Nat} (h:(digs y).length=k+1):let s:=32 - eu (y / 4294967296^k)
  s<=31/\2147483648*4294967296^k<=2^s*y/\2^s*y<4294967296^(k+1):=by
 obtain ⟨_,i,b⟩:=CB h;obtain ⟨e,a,g,c⟩:=wW i;have l:e+1<=32:=by rw [<- a];exact jw b
 intro s;have hs:s=31 - e:=by show 32 - eu (y / 4294967296^k)=_;rw [a];omega
 rw [hs];refine ⟨by omega, ?_, ?_⟩
 .have d:2147483648=2^(31 - e)*2^e:=by rw [<- Xxo,show 31 - e+e=31 by omega]
  rw [d,Xqr];refine Xqx _ ?_;exact (Xzi (iY k)).1 g
 .have j:y<2^(e+1)*4294967296^k:=(Xqv (iY k)).1 c;have f:4294967296^(k+1)=2^(31 - e)*(2^(e+1)*4294967296^k):=by
   rw [<- Xqr,<- Xxo,show 31 - e+(e+1)=32 by omega,oG,Xq3,Xqh]
  rw [f];exact Xzg j (Xqu _)
theorem V7 {a:List Nat} {m:Nat} (d:bT a) (h:m<=a.length):aI (a.drop m)=aI a / 4294967296^m:=by
 have c:=Hr a m h;have b:=qQ (d.take m);rw [Xq4,Xjc h] at b;rw [c,Xwb _ _ (iY m),Xjb b,Ψ]
theorem UI (a v:List Nat) (m:Nat):dvQ a v m m=μ m 0:=by unfold dvQ;rw [Xzr];simp [bV]
theorem UJ {a v:List Nat} {m:Nat} (c:a.length=m+v.length) (b:bT a) (h:aI (a.drop m)<aI v):dvU a v m m=a:=by
 unfold dvU;rw [Xzr,Ξ h,<- Qu (b.drop m) (by rw [Xx0];omega)];simp
theorem I5 (x y:Nat) (r:0<y) (hx:(digs x).length<2^39) (G:(digs y).length<2^39):CO 211 [dS x,dS y] (.ret (.tup [dS (x / y),dS (x % y)])):=by
 have a:=yt (digs x) (digs y) false false (by omega);rw [Ba] at a;rcases Xq2 x y with hlt|hge
 .have hs:nD x y= -1:=by unfold nD;rw [if_pos hlt]
  have h:=aj2 x y 0 0 0 0 [] [] [] [] [] (by rw [hs];rfl) a;rw [Xjb hlt,Ξ hlt];exact h.out (jB.tup (.fit rfl rfl (aU.nilS false rfl) (.same .nil)))
 .have hs:lit false (decide (nD x y<((0:Nat):Int)))=true:=by
   unfold nD;rw [if_neg (by omega)];split<;>rfl
  rcases Xq2 (digs y).length 2 with h1|h1
  .have H:(digs y).length=1:=by have:=vg r;omega
   obtain ⟨K,Q⟩:=Xb H;have i:=ZG (digs x) false y r Q (by omega) (bT.digs x);rw [fU] at i;have hr:x % y<y:=Xqy _ r;have S:=afg [x % y] true (x % y) (by
    have R:=kC (l:= [x % y]) (bT.cons (by omega) bT.nil);simpa [aI] using R) (by simp)
   have h:=aj3 x y 0 (x % y) (x / y) 0 [] [] [] [] [];have C:dS y= .sl (ak [y]) [y].length false:=by unfold dS;rw [K]
   rw [K] at h a;rw [C];refine h ?_ ?_ ?_ hs a (i.out (jB.tup (.fit rfl rfl (aU.sl _ _ _) (.same .nil)))) (S.out (jB.sl1 _ _ _))
   all_goals rfl
  .obtain ⟨k,N⟩:∃ k,(digs y).length=k+2:=⟨(digs y).length - 2,by omega⟩
   obtain ⟨e,E,P⟩:=YA N;generalize z:32 - eu (y / 4294967296^(k+1))=s at*
   obtain ⟨X,t2,t3⟩:=CB N;have d:=ab7 _ t3;rw [z,<- X] at d;have c:=afi (digs x) false s e hx (bT.digs x);have b:=afi (digs y) false s e G (bT.digs y);have j:(digs (2^s*y)).length=k+2:=aaZ (Xxg (by have:=iY (k+1);omega) E) P;have lY:bT (O4 s 0 (digs y)):=Ua e _ _ (Xqu _) (bT.digs y);have w:bT (O4 s 0 (digs x)):=Ua e _ _ (Xqu _) (bT.digs x);have U:aI (O4 s 0 (digs y))=2^s*y:=by rw [Ub,fU,Ψ]
   have u:aI (O4 s 0 (digs x))=2^s*x:=by rw [Ub,fU,Ψ]
   have M:=Dz (O4 s 0 (digs y)) _ (2^s*y) rfl (by rw [kC lY,U]) (by rw [uD];omega);have hmono:=rU hge;have Yf:=uD s (digs x) 0;have n:=uD s (digs y) 0;rw [<- Yf] at c;rw [<- n] at b;generalize O4 s 0 (digs x)=A at*
   generalize O4 s 0 (digs y)=Y at*
   have f:aI (digs (2^s*y))=2^s*y:=fU _;have lv:bT (digs (2^s*y)):=bT.digs _;have T:0<2^s*y:=Xjg (Xqu _) r;generalize W:digs (2^s*y)=v at*
   obtain ⟨m,t⟩:∃ m,A.length=m+v.length:=⟨A.length - v.length,by omega⟩
   have L:aI (A.drop m)<aI v:=by
    rw [V7 w (by omega),u,f];refine Xqa ?_ E;rw [Xqv (iY m),Xqr,<- Xxo];have F:2^s*x<2^s*4294967296^(digs x).length:=Xzg (oz x) (Xqu _);have D:2^s<=2^31:=Xqc (by omega) e;have V:2^s*4294967296^(digs x).length<=2147483648*4294967296^(digs x).length:=Xqw _ (Xxg D (by decide));have Z:(digs x).length=k+1+m:=by omega
    rw [Z] at F V;omega
   have hloop:=λnt hn=>aa7 (nt:=nt) hn A v s m k j t lv w (by omega) (by rw [f];exact E) m (χ _)
   have B:dvQ A v m 0=bV m (x / y):=by
    unfold dvQ;rw [Xjt,Xjq,u,f,Xko _ _ (Xqu s),List.replicate_zero,Xqi]
   have I:dvU A v m 0=bV v.length (2^s*(x % y))++μ m 0:=by
    unfold dvU;rw [Xjt,Xjq,u,f,Xva,List.take_zero,Xqi]
   have p:x / y<4294967296^m:=by
    have C:=Hr A m (by omega);have F:=qQ (w.take m);rw [Xq4,Xjc (by omega)] at F;rw [<- Xko x y (Xqu s),<- u,Xqv T,C,<- f];have D:4294967296^m*(aI (A.drop m)+1)<=4294967296^m*aI v:=Xqx _ L;rw [Xxe,Θ] at D;omega
   have O:=Dz (bV m (x / y)) m (x / y) (aW ..) (D8 (by rw [nP];exact p)) (by omega);have o:2^s*(x % y)<4294967296^v.length:=by
    rw [j];refine Xq8 ?_ P;exact Xzg (Xqy _ r) (Xqu _)
   have q:=aa2 (bV v.length (2^s*(x % y))) true s e (by rw [aW];omega) (bT.pad _ _);rw [xB,nP,Ξ o,Nat.mul_div_cancel_left _ (Xqu s),aW] at q;have J:κ v.length (ak (bV v.length (2^s*(x % y))++μ m 0))=ak (bV v.length (2^s*(x % y))):=by
    rw [p_,Xxn (by rw [aW];exact χ _),ο (by rw [aW];exact χ _)]
   have g:(digs y).length - 1=k+1:=by omega
   rw [<- g] at d;refine aj7 x y s (x % y) (x / y) m A Y (bV m (x / y)) (bV v.length (2^s*(x % y))++μ m 0) v t (by omega) (by omega) (by omega) (by omega) (by rw [η,aW];omega) (by simpa [lit] using hs) a d c b ?_ ?_ ?_ ?_
   .rw [Xqz];rw [Θ,p_,Xqz] at M;exact M
   .refine az.blk hloop (by simp) rfl ?_ ?_
    .unfold PP;rw [UI,UJ t w L,<- t];exact aN.of ⟨rfl,rfl,rfl,rfl,rfl,rfl,trivial⟩
    .unfold PP;rw [B,I,<- t];exact aN.of ⟨rfl,rfl,rfl,rfl,trivial⟩
   .rw [Θ,p_] at O;exact O.out (jB.sl1 _ _ _)
   .rw [<- p_,J];exact q.out (jB.sl1 _ _ _)
theorem amQ (s t:List UInt8) (a:lit false ((((digs (ag t)).length:Nat):Int)==((0:Nat):Int))=true) (e:CO 119 [.str t] (.ret (.sl (ak (digs (ag t))) (digs (ag t)).length false))) (f:CO 119 [.str s] (.ret (.sl (ak (digs (ag s))) (digs (ag s)).length false))) (b:CO 211 [.sl (ak (digs (ag s))) (digs (ag s)).length false,.sl (ak (digs (ag t))) (digs (ag t)).length false] (.ret (.tup [.sl (ak (digs ((ag s) / (ag t)))) (digs ((ag s) / (ag t))).length false,.sl (ak (digs ((ag s) % (ag t)))) (digs ((ag s) % (ag t))).length false]))) (d:CO 117 [.sl (ak (digs ((ag s) / (ag t)))) (digs ((ag s) / (ag t))).length false] (.ret (.str (ae ((ag s) / (ag t)))))) (c:CO 117 [.sl (ak (digs ((ag s) % (ag t)))) (digs ((ag s) % (ag t))).length false] (.ret (.str (ae ((ag s) % (ag t)))))):CO 191 [.str s,.str t] (.ret (.tup [.str (ae ((ag s) / (ag t))),.str (ae ((ag s) % (ag t))),.bool true])):=pK [] 1 0 (.c a .nil) (.c c (.c d (.c b (.c f (.c e .nil)))))
theorem ak6 (s t:List UInt8) (g:Nat) (b:CO 119 [.str s] (.ret (.sl (ak (digs (ag s))) (digs (ag s)).length false))) (d:CO 119 [.str t] (.ret (.sl (ak (digs (ag t))) (digs (ag t)).length false))) (c:aK prog ap [] 26 (.block 0 (.loop (af 0 (ah f190)))) ⟨[(0,.str s),(1,.str t),(4,.str []),(5,.sl (ak (digs (ag s))) (digs (ag s)).length false),(6,.sl (ak (digs (ag t))) (digs (ag t)).length false),(8,.dead),(15,.dead)],[],.dead,[]⟩ (.normal) ⟨[(5,.sl (ak (digs g)) (digs g).length false)],[],.dead,[]⟩) (a:CO 117 [.sl (ak (digs g)) (digs g).length false] (.ret (.str (ae g)))):CO 190 [.str s,.str t] (.ret (.str (ae g))):=pK [0] 0 0 .nil (.c a (.l c (.c d (.c b .nil))))
theorem ak4 {nt:Nat} (c:26<=nt) (x y:Nat) (a:lit true (decide (((0:Nat):Int)<(((digs y).length:Nat):Int)))=true) (b:CO 211 [.sl (ak (digs x)) (digs x).length false,.sl (ak (digs y)) (digs y).length false] (.ret (.tup [.sl (ak (digs (x / y))) (digs (x / y)).length false,.sl (ak (digs (x % y))) (digs (x % y)).length false]))):ψ nt f190 ⟨[(5,.sl (ak (digs x)) (digs x).length false),(6,.sl (ak (digs y)) (digs y).length false)],[],.dead,[]⟩ (.normal) ⟨[(5,.sl (ak (digs y)) (digs y).length false),(6,.sl (ak (digs (x % y))) (digs (x % y)).length false)],[],.dead,[]⟩:=pJ 190 [] 1 1 (.c a .nil) (.c b .nil) c
theorem ak5 {nt:Nat} (b:26<=nt) (x y:Nat) (a:lit false (decide (((0:Nat):Int)<(((digs y).length:Nat):Int)))=true):ψ nt f190 ⟨[(5,.sl (ak (digs x)) (digs x).length false),(6,.sl (ak (digs y)) (digs y).length false)],[],.dead,[]⟩ (.exit 0) ⟨[(5,.sl (ak (digs x)) (digs x).length false)],[],.dead,[]⟩:=pJ 190 [] 1 0 (.c a .nil) (.nil) b
theorem afP (s:List UInt8) (k:Nat) (b:lit true ((((digs (ag s)).length:Nat):Int)==((0:Nat):Int))=true) (a:CO 119 [.str s] (.ret (.sl (ak (digs (ag s))) (digs (ag s)).length false))):CO 116 [.str s] (.ret (ω 0)):=pK [] 1 1 (.c b .nil) (.c a .nil)
theorem afQ (s:List UInt8) (k:Nat) (b:(chk (.int .u32) (θ (ε ((δ (γ .i64 ((((digs (ag s)).length:Nat):Int) - ((1:Nat):Int))))*1) (ak (digs (ag s)))) .dead))=true) (e:(decide (((0:Nat):Int)<=(γ .i64 ((((digs (ag s)).length:Nat):Int) - ((1:Nat):Int)))))=true) (a:(decide ((γ .i64 ((((digs (ag s)).length:Nat):Int) - ((1:Nat):Int)))<(((digs (ag s)).length:Nat):Int)))=true) (c:lit false ((((digs (ag s)).length:Nat):Int)==((0:Nat):Int))=true) (d:CO 119 [.str s] (.ret (.sl (ak (digs (ag s))) (digs (ag s)).length false))) (f:CO 161 [.int .u32 (Γ (θ (ε ((δ (γ .i64 ((((digs (ag s)).length:Nat):Int) - ((1:Nat):Int))))*1) (ak (digs (ag s)))) .dead))] (.ret (ω (k:Int)))):CO 116 [.str s] (.ret (ω (γ .i64 ((γ .i64 (((32:Nat):Int)*(γ .i64 ((((digs (ag s)).length:Nat):Int) - ((1:Nat):Int)))))+(k:Int))))):=pK [] 1 0 (.c b (.c e (.c a (.c c .nil)))) (.c f (.c d .nil))
theorem rV {s:List UInt8} {n:Nat} (h:s.length<=4*n):(digs (ag s)).length<=n:=by
 have:=j_ (CJ s);omega
theorem Vg (s:List UInt8) (hs:s.length<2^38):CO 119 [.str s] (.ret (dS (ag s))):=(vV s (by omega)).out (jB.sl1 _ _ _)
theorem xA (x:Nat):fE (digs x)=digs x:=by
 have:=kC (bT.digs x);rwa [fU] at this
theorem YE (x:Nat) (h:(digs x).length<2^36):CO 117 [dS x] (.ret (.str (ae x))):=sO (digs x) x false (xA x) (by omega) h
theorem aa0 {x:Nat}:(digs x).length=0↔x=0:=by
 constructor
 .intro h;rcases Xqb x with h0|h0
  .exact h0
  .have:=vg h0;omega
 .intro h;subst h;rfl
theorem Qx (s t:List UInt8) (hs:s.length<2^37) (f:t.length<2^37) (a:0<ag t):CO 191 [.str s,.str t] (.ret (.tup [.str (ae (ag s / ag t)),.str (ae (ag s % ag t)),.bool true])):=by
 have c:=rV (s:=s) (n:=2^35) (by omega);have b:=rV (s:=t) (n:=2^35) (by omega);have hp:=vg a;have d:=rU (Xjn (ag s) (ag t));have e:=rU (Xw3 (Xqy (ag s) a));have h:=amQ s t;simp (disch:=first|omega|(simp [au,ay]<;>omega)) only [jY,dP,dY,fA] at h;exact h (by omega) (Vg t (by omega)) (Vg s (by omega)) (I5 _ _ a (by omega) (by omega)) (YE _ (by omega)) (YE _ (by omega))
def apJ (p:Nat × Nat):St:=⟨[(5,dS p.1),(6,dS p.2)],[],.dead,[]⟩
def ak3 (x:Nat):St:=⟨[(5,dS x)],[],.dead,[]⟩
theorem XV {nt:Nat} (a:26<=nt):∀ (n y x:Nat),y<n->(digs x).length<2^36->(digs y).length<2^36->az prog ap [] nt (af 0 (ah f190)) (λ_=> .exit 0) apJ ak3 (x,y) (Xxy x y):=by
 intro n
 induction n with
 |zero=>intro y x h;omega
 | succ n ih=>
  intro y x h e c;rcases Xqb y with rfl|h0
  .rw [Nat.gcd_zero_right];exact .done (ak5 a x 0 rfl)
  .have b:=Xqy x h0;have d:=rU (Xw3 b);have hnext:=ih (x % y) y (by omega) c (by omega);rw [show Xxy y (x % y)=Xxy x y by rw [Xkg y,<- Nat.gcd_rec,Xkg]] at hnext;refine .next ?_ hnext
   have hp:=vg h0;exact ak4 a x y (by rw [aZ,bD];exact Yq0 hp) (I5 _ _ h0 (by omega) (by omega))
theorem agV (s t:List UInt8) (hs:s.length<2^37) (e:t.length<2^37):CO 190 [.str s,.str t] (.ret (.str (ae (Xxy (ag s) (ag t))))):=by
 have b:=rV (s:=s) (n:=2^35) (by omega);have a:=rV (s:=t) (n:=2^35) (by omega);have d:(digs (Xxy (ag s) (ag t))).length<2^36:=by
  rcases Xqb (ag s) with h|h
  .rw [h,Xwv];omega
  .have:=rU (Xvg (ag t) h);omega
 exact ak6 s t _ (Vg s (by omega)) (Vg t (by omega)) (az.blk (λnt c=>XV c (ag t+1) (ag t) (ag s) (by omega) (by omega) (by omega)) (by simp) rfl (aN.of ⟨rfl,rfl,trivial⟩) (aN.of ⟨rfl,trivial⟩)) (YE _ d)
theorem Yg {y k:Nat} (h:(digs y).length=k+1):eu y=32*k+eu ((digs y).getD k 0):=by
 obtain ⟨b,_,_⟩:=CB h;have a:=Ru h;rw [<- nP] at a;rw [b,vN a,nP]
theorem Q8 (s:List UInt8) (hs:s.length<2^37):CO 116 [.str s] (.ret (ω ((eu (ag s):Nat):Int))):=by
 have g:=rV (s:=s) (n:=2^35) (by omega);rcases Xqb (ag s) with h0|h0
 .have hp:=aa0.2 h0;have h:=afP s 0 (by rw [hp];rfl) (Vg s (by omega));rw [h0];exact h
 .have hp:=vg h0;obtain ⟨k,e⟩:∃ k,(digs (ag s)).length=k+1:=⟨(digs (ag s)).length - 1,by omega⟩
  have a:(digs (ag s)).getD k 0<4294967296:=bT.getD (bT.digs _) k;have i:=ND _ a;have j:eu ((digs (ag s)).getD k 0)<=32:=jw a;rw [Yg e];have h:=afQ s (eu ((digs (ag s)).getD k 0));rw [e] at h;have d:k+1 - 1=k:=rfl;have f:k<(digs (ag s)).length:=by omega
  generalize eu ((digs (ag s)).getD k 0)=b at*
  simp (disch:=first|omega|(simp [au,ay]<;>omega)) only [kH,d,aC,Θ,AC,kE,dG,bi,aZ,jY,dP,dY,fA,bf,zD,aS,bQ] at h;have c:=Vg s (by omega);unfold dS at c;rw [e] at c;apply h<;>first|exact True.intro|omega|assumption|exact rfl
def nR (s:List UInt8):Bool:=match s with| []=>true|c::_=> !(c==0)
def BO (s:List UInt8):Bool:=nR s && decide (0<ag s)
def iW (neg:Bool) (n d:List UInt8):Bool:=nR n && nR d && decide (0<ag d) && decide (Xxy (ag n) (ag d)=1) && (!neg||decide (0<ag n))
theorem amb (s:List UInt8) (b:lit true (nR s)=true) (a:CO 159 [.str s] (.ret (.bool (nR s)))) (c:CO 189 [.str s,.str []] (.ret (ω (nD (ag s) (ag []))))):CO 158 [.agg [.str []],.str s] (.ret (.bool (decide (((0:Nat):Int)<(nD (ag s) (ag [])))))):=pK [] 1 1 (.k 1 b .nil) (.c c (.c a .nil))
theorem amc (s:List UInt8) (b:lit false (nR s)=true) (a:CO 159 [.str s] (.ret (.bool (nR s)))):CO 158 [.agg [.str []],.str s] (.ret (.bool false)):=pK [] 1 0 (.c b .nil) (.c a .nil)
theorem als (a:Bool) (n d:List UInt8) (g:Nat) (b:lit true a=true) (e:CO 190 [.str n,.str d] (.ret (.str (ae g)))) (f:CO 191 [.str n,.str (ae g)] (.ret (.tup [.str (ae (ag n / g)),.str (ae (ag n % g)),.bool true]))) (c:CO 191 [.str d,.str (ae g)] (.ret (.tup [.str (ae (ag d / g)),.str (ae (ag d % g)),.bool true]))):CO 160 [.bool a,.str n,.str d] (.ret (.agg [.bool (!((ae (ag n / g))== [])),.str (ae (ag n / g)),.str (ae (ag d / g))])):=pK [] 1 1 (.k 4 b .nil) (.c c (.c f (.c e .nil)))
theorem alu (a:Bool) (n d:List UInt8) (g:Nat) (b:lit false a=true) (e:CO 190 [.str n,.str d] (.ret (.str (ae g)))) (f:CO 191 [.str n,.str (ae g)] (.ret (.tup [.str (ae (ag n / g)),.str (ae (ag n % g)),.bool true]))) (c:CO 191 [.str d,.str (ae g)] (.ret (.tup [.str (ae (ag d / g)),.str (ae (ag d % g)),.bool true]))):CO 160 [.bool a,.str n,.str d] (.ret (Ω false (ae (ag n / g)) (ae (ag d / g)))):=pK [] 1 0 (.k 4 b .nil) (.c c (.c f (.c e .nil)))
theorem Zi (b a:Bool) (n d c e:List UInt8) (f:lit true (nR n)=true) (i:lit true (BO d)=true) (h:CO 158 [.agg [.str []],.str d] (.ret (.bool (BO d)))) (j:CO 159 [.str n] (.ret (.bool (nR n)))) (g:CO 160 [.bool b,.str n,.str d] (.ret (Ω a c e))):CO 115 [Ω b n d] (.ret (.bool ((a==b) && ((c==n) && ((e==d) && true))))):=pK [] 2 3 (.k 6 f (.k 1 i (.n 1 .nil))) (.c g (.c j (.c h .nil)))
theorem Zj (a b:Bool) (n d h i:List UInt8) (c:lit false (nR n)=true) (f:lit true (BO d)=true) (e:CO 158 [.agg [.str []],.str d] (.ret (.bool (BO d)))) (g:CO 159 [.str n] (.ret (.bool (nR n)))):CO 115 [Ω a n d] (.ret (.bool false)):=pK [] 2 1 (.c c (.k 1 f (.n 1 .nil))) (.c g (.c e .nil))
theorem Zk (a b:Bool) (n d f g:List UInt8) (c:lit false (BO d)=true) (e:CO 158 [.agg [.str []],.str d] (.ret (.bool (BO d)))):CO 115 [Ω a n d] (.ret (.bool false)):=pK [] 2 0 (.k 1 c (.n 1 .nil)) (.c e .nil)
theorem agS (a:Bool) (n d:List UInt8) (b:lit true (decide ((((eu (ag n)):Nat):Int)<=((400:Nat):Int)))=true) (f:lit true (iW a n d)=true) (e:CO 115 [Ω a n d] (.ret (.bool (iW a n d)))) (g:CO 116 [.str n] (.ret (ω (((eu (ag n)):Nat):Int)))) (c:CO 116 [.str d] (.ret (ω (((eu (ag d)):Nat):Int)))):CO 70 [Ω a n d] (.ret (.bool (decide ((((eu (ag d)):Nat):Int)<=((400:Nat):Int))))):=pK [] 2 3 (.k 1 b (.k 1 f (.n 3 .nil))) (.c c (.c g (.c e .nil)))
theorem agT (a:Bool) (n d:List UInt8) (b:lit false (decide ((((eu (ag n)):Nat):Int)<=((400:Nat):Int)))=true) (e:lit true (iW a n d)=true) (c:CO 115 [Ω a n d] (.ret (.bool (iW a n d)))) (f:CO 116 [.str n] (.ret (ω (((eu (ag n)):Nat):Int)))):CO 70 [Ω a n d] (.ret (.bool false)):=pK [] 2 1 (.c b (.k 1 e (.n 3 .nil))) (.c f (.c c .nil))
theorem agU (a:Bool) (n d:List UInt8) (b:lit false (iW a n d)=true) (c:CO 115 [Ω a n d] (.ret (.bool (iW a n d)))):CO 70 [Ω a n d] (.ret (.bool false)):=pK [] 2 0 (.k 1 b (.n 3 .nil)) (.c c .nil)
theorem dC:ae 0= []:=Gi []
theorem bU {x k:Nat} (h:x<2^(8*k)):(ae x).length<=k:=by
 rw [<- SL h];have b:=(Xzw (· ==0) (l:=kP k x)).length_le;have a:(kP k x).length=k:=by
  have:∀ m,(kP m x).length=m:=by
   intro m
   induction m with
   |zero=>rfl
   |succ m ih=>rw [tK,ν,ih]
  exact this k
 omega
theorem kD (s:List UInt8):ag s<2^(8*s.length):=by
 have h:=xC s;rwa [show (256:Nat)=2^8 from rfl,<- Xjf] at h
theorem ni {x:Nat} {s:List UInt8} (h:x<=ag s):(ae x).length<=s.length:=bU (Xqj h (kD s))
theorem fC {x:Nat}:ae x= []↔x=0:=by
 constructor
 .intro h;have:=aG x;rw [h] at this;exact this.symm
 .intro h;subst h;exact dC
theorem Gh {x y:Nat} (h:ae x=ae y):x=y:=by rw [<- aG x,h,aG]
theorem nX (s:List UInt8):nR s=true↔ae (ag s)=s:=by
 rw [Gi];cases s with
 |nil=>simp [nR]
 | cons c r=>
  simp only [nR,Xx8];by_cases h:c=0
  .subst h;simp only [beq_self_eq_true,Bool.not_true,Xji,if_true,false_iff];intro a;have:=(Xzw (· ==(0:UInt8)) (l:=r)).length_le;rw [a] at this;simp at this;omega
  .simp [h]
theorem wY (x:Nat):nR (ae x)=true:=(nX _).2 (by rw [aG])
theorem BJ (s:List UInt8):CO 159 [.str s] (.ret (.bool (nR s))):=by
 cases s with
 |nil=>exact Yw [] rfl
 | cons c r=>
  have h:=Yx (c::r) (by simp) rfl;have e:(!((((c::r).getD 0 0).toNat:Int)==(0:Int)))=nR (c::r):=by
   simp only [List.getD_cons_zero,nR];by_cases hc:c=0
   .subst hc;rfl
   .have:c.toNat ≠ 0:=λh=>hc (by apply UInt8.toNat_inj.1;simpa using h)
    have a:((c.toNat:Int)==(0:Int))=false:=by simp;omega
    rw [a];simp [hc]
  rw [e] at h;exact h
theorem ZE (x:Nat):decide (((0:Nat):Int)<nD x (ag []))=decide (0<x):=by
 have:ag []=0:=rfl;rw [this];unfold nD;rcases Xqb x with rfl|h
 .rfl
 .rw [if_neg (by omega),if_pos h,Yq0 h];rfl
theorem YV (s:List UInt8) (hs:s.length<2^37):CO 158 [.agg [.str []],.str s] (.ret (.bool (BO s))):=by
 have b:=BJ s;unfold BO;cases a:nR s with
 |true=>
  have h:=amb s (by rw [a];rfl) b (ajm s [] (by omega) (by simp));rw [ZE] at h;exact h
 |false=>
  exact amc s (by rw [a];rfl) b
abbrev Oi (neg:Bool) (n d:Nat):AV:= .agg [.bool neg,.str (ae n),.str (ae d)]
abbrev apS (neg:Bool) (n d:Nat):AV:=Oi (neg && decide (0<n)) (n / Xxy n d) (d / Xxy n d)
theorem MV {n d:Nat} (h:0<n):0<n / Xxy n d:=Xvf (Xvg d h) (Nat.gcd_pos_of_pos_left d h)
theorem Yj (a:Bool) (n d:List UInt8) (m:n.length<2^36) (hd:d.length<2^36) (g:0<ag d):CO 160 [.bool a,.str n,.str d] (.ret (apS a (ag n) (ag d))):=by
 have i:=agV n d (by omega) (by omega);have b:0<Xxy (ag n) (ag d):=Xj6 _ g;have k:(ae (Xxy (ag n) (ag d))).length<=d.length:=ni (Nat.gcd_le_right _ g);have c:=Qx n (ae (Xxy (ag n) (ag d))) (by omega) (by omega) (by rw [aG];exact b);have f:=Qx d (ae (Xxy (ag n) (ag d))) (by omega) (by omega) (by rw [aG];exact b);rw [aG] at c f;cases a with
 | true=>
  have h:=als true n d (Xxy (ag n) (ag d)) rfl i c f;have e:(!(ae (ag n / Xxy (ag n) (ag d))== []))=(true && decide (0<ag n)):=by
   rcases Xqb (ag n) with h1|h1
   .rw [h1,Nat.zero_div,dC];rfl
   .have l:=MV (d:=ag d) h1;have j:ae (ag n / Xxy (ag n) (ag d)) ≠ []:=λh=>by have:=fC.1 h;omega
    simp [j,h1]
  rw [e] at h;exact h
 |false=>exact alu false n d (Xxy (ag n) (ag d)) rfl i c f
theorem lF {a:Bool} {n d:List UInt8}:iW a n d=true↔nR n=true/\nR d=true/\0<ag d/\Xxy (ag n) (ag d)=1/\(a=true->0<ag n):=by
 unfold iW;cases a<;>simp [and_assoc]
theorem VD {f:Bool} {n d:List UInt8} (k:nR n=true) (i:nR d=true) (g:0<ag d):(((f && decide (0<ag n))==f) && ((ae (ag n / Xxy (ag n) (ag d))==n) && ((ae (ag d / Xxy (ag n) (ag d))==d) && true)))=iW f n d:=by
 rw [Xxj,lF];simp only [φ,beq_iff_eq,and_true];have l:0<Xxy (ag n) (ag d):=Xj6 _ g;constructor
 .rintro ⟨a,b,c⟩
  refine ⟨k,i,g, ?_, ?_⟩
  .have e:=congrArg ag c;rw [aG] at e;have j:=Nat.div_mul_cancel (Nat.gcd_dvd_right (ag n) (ag d));rw [e] at j;exact Nat.eq_of_mul_eq_mul_left g (by rw [j,Θ])
  .intro h;subst h;simpa using a
 .rintro ⟨_,_,_,hg,h⟩
  rw [hg,Xz3,Xz3];refine ⟨?_,(nX n).1 k,(nX d).1 i⟩;cases f with
  |false=>rfl
  |true=>simp [h rfl]
theorem nS (a:Bool) (n d:List UInt8) (l:n.length<2^36) (hd:d.length<2^36):CO 115 [Ω a n d] (.ret (.bool (iW a n d))):=by
 have hp:=YV d (by omega);have i:=BJ n;cases c:BO d with
 | false=>
  have h:=Zk a a n d n d (by rw [c];rfl) hp;have e:iW a n d=false:=by
   rw [Xvw];intro g;obtain ⟨_,j,k,_⟩:=lF.1 g;simp [BO,j,k] at c
  rw [e];exact h
 | true=>
  have b:nR d=true/\0<ag d:=by simpa [BO] using c
  cases f:nR n with
  | false=>
   have h:=Zj a a n d n d (by rw [f];rfl) (by rw [c];rfl) hp i;have e:iW a n d=false:=by
    rw [Xvw];intro g;have:=(lF.1 g).1;rw [f] at this;cases this
   rw [e];exact h
  |true=>
   have h:=Zi a (a && decide (0<ag n)) n d (ae (ag n / Xxy (ag n) (ag d))) (ae (ag d / Xxy (ag n) (ag d))) (by rw [f];rfl) (by rw [c];rfl) hp i (Yj a n d l hd b.2);rw [VD f b.1 b.2] at h;exact h
def d_ (neg:Bool) (n d:List UInt8):Bool:=iW neg n d && decide (eu (ag n)<=400) && decide (eu (ag d)<=400)
theorem gY (a:Bool) (n d:List UInt8) (g:n.length<2^36) (hd:d.length<2^36):CO 70 [Ω a n d] (.ret (.bool (d_ a n d))):=by
 have c:=nS a n d g hd;have e:=Q8 n (by omega);have f:=Q8 d (by omega);unfold d_;cases b:iW a n d with
 |false=>exact agU a n d (by rw [b];rfl) c
 | true=>
  by_cases h3:eu (ag n)<=400
  .have h:=agS a n d (by rw [dG,Yq0 h3];rfl) (by rw [b];rfl) c e f;rw [dG] at h;rw [Yq0 h3];exact h
  .have h:=agT a n d (by rw [dG,Yq1 h3];rfl) (by rw [b];rfl) c e;rw [Yq1 h3];exact h
theorem acn (x:Nat) (a:lit true (decide ((x:Int)<=((0:Nat):Int)))=true):CO 72 [ω (x:Int)] (.ret (.str [])):=pK [] 1 1 (.c a .nil) (.nil)
theorem aco (x:Nat) (b:lit false (decide ((x:Int)<=((0:Nat):Int)))=true) (a:CO 117 [.sl [.int .u32 (γ .u32 (γ .i64 (Xxq (Xqm (Xqk .i64) (x:Int) &&& Xqm (Xqk .i64) ((4294967295:Nat):Int))))),.int .u32 (γ .u32 (Xq0 (x:Int) (2^(min 32 64))))] 2 true] (.ret (.str (ae x)))):CO 72 [ω (x:Int)] (.ret (.str (ae x))):=pK [] 1 0 (.k 1 b .nil) (.c a .nil)
theorem ac4 (x:Nat) (b:lit false (decide ((x:Int)<((0:Nat):Int)))=true) (a:CO 72 [ω (x:Int)] (.ret (.str (ae x)))) (c:CO 72 [ω 1] (.ret (.str (ae 1)))):CO 42 [ω (x:Int)] (.ret (Ω false (ae x) (ae 1))):=pK [] 1 0 (.k 4 b .nil) (.c c (.c a .nil))
theorem ads (a:Bool) (n d:List UInt8) (b:lit true (!(iW a n d))=true) (c:CO 115 [Ω a n d] (.ret (.bool (iW a n d)))):CO 121 [Ω a n d] (.ret (ω 0)):=pK [] 2 3 (.k 1 b (.n 3 .nil)) (.c c .nil)
theorem adt (a:Bool) (n d:List UInt8) (b:lit true ((a==false) && ((n==(ae 0)) && ((d==(ae 1)) && true)))=true) (e:lit false (!(iW a n d))=true) (c:CO 115 [Ω a n d] (.ret (.bool (iW a n d)))) (f:CO 42 [ω 0] (.ret (Ω false (ae 0) (ae 1)))):CO 121 [Ω a n d] (.ret (ω 0)):=pK [] 2 2 (.c b (.k 3 e (.n 3 .nil))) (.c f (.c c .nil))
theorem adu (a:Bool) (n d:List UInt8) (c:lit true a=true) (f:lit false ((a==false) && ((n==(ae 0)) && ((d==(ae 1)) && true)))=true) (b:lit false (!(iW a n d))=true) (e:CO 115 [Ω a n d] (.ret (.bool (iW a n d)))) (g:CO 42 [ω 0] (.ret (Ω false (ae 0) (ae 1)))):CO 121 [Ω a n d] (.ret (ω (-1))):=pK [] 3 4 (.c c (.k 1 f (.k 3 b (.n 3 .nil)))) (.c g (.c e .nil))
theorem adv (a:Bool) (n d:List UInt8) (c:lit false a=true) (f:lit false ((a==false) && ((n==(ae 0)) && ((d==(ae 1)) && true)))=true) (b:lit false (!(iW a n d))=true) (e:CO 115 [Ω a n d] (.ret (.bool (iW a n d)))) (g:CO 42 [ω 0] (.ret (Ω false (ae 0) (ae 1)))):CO 121 [Ω a n d] (.ret (ω 1)):=pK [] 3 0 (.c c (.k 1 f (.k 3 b (.n 3 .nil)))) (.c g (.c e .nil))
theorem Z8 {x:Nat} (a:x<9223372036854775808):fE [x % 4294967296,x / 4294967296]=digs x:=by
 have h:=kC (l:= [x % 4294967296,x / 4294967296]) (bT.cons (Xqy _ (by omega)) (bT.cons (by omega) bT.nil));rw [h];congr 1;simp only [aI,Xjl,Xq1];omega
theorem PN {x:Nat} (a:x<9223372036854775808):(digs x).length<=2:=JY (Xqa a (by decide))
theorem Gj (x:Nat) (c:x<9223372036854775808):CO 72 [ω (x:Int)] (.ret (.str (ae x))):=by
 rcases Xqb x with rfl|h0
 .rw [dC];exact acn 0 rfl
 .have hd:=PN c;have b:=sO [x % 4294967296,x / 4294967296] x true (Z8 c) (by simp) (by omega);have h:=aco x;have d:(4294967295:Nat)<18446744073709551616:=by omega
  simp (disch:=first|omega|(simp [au,ay]<;>omega)) only [dG,dP,dY,fA,apg,EJ,aS,sW,Ξ,sK,lZ,oG] at h;have a:¬ x<=0:=by omega
  apply h
  .exact a
  .exact b
theorem GK (x:Nat) (a:x<9223372036854775808):CO 42 [ω (x:Int)] (.ret (Oi false x 1)):=
 ac4 x (by rw [aZ];exact (by simp [lit])) (Gj x a) (Gj 1 (by omega))
theorem jV:CO 42 [ω 0] (.ret (Oi false 0 1)):=GK 0 (by omega)
theorem wu:CO 42 [ω 1] (.ret (Oi false 1 1)):=GK 1 (by omega)
def jd (neg:Bool) (n d:List UInt8):Int:=if iW neg n d=true/\0<ag n then (if neg then -1 else 1) else 0
theorem FH {a:Bool} {n d:List UInt8} (h:iW a n d=true):((a==false) && ((n==ae 0) && ((d==ae 1) && true)))=decide (ag n=0):=by
 obtain ⟨j,f,k,b,i⟩:=lF.1 h;have e:=(nX n).1 j;have c:=(nX d).1 f;rw [Xxj];simp only [φ,beq_iff_eq,and_true,decide_eq_true_eq];constructor
 .rintro ⟨_,hn,_⟩
  rw [hn,aG]
 .intro g;rw [g] at e b;rw [Xwv] at b;rw [b] at c;refine ⟨?_,e.symm,c.symm⟩;cases a with
  |false=>rfl
  |true=>have:=i rfl;omega
theorem pY (a:Bool) (n d:List UInt8) (e:n.length<2^36) (hd:d.length<2^36):CO 121 [Ω a n d] (.ret (ω (jd a n d))):=by
 have c:=nS a n d e hd;unfold jd;cases b:iW a n d with
 |false=>
  have h:=ads a n d (by rw [b];rfl) c;rw [if_neg (by simp)];exact h
 | true=>
  by_cases h0:ag n=0
  .have h:=adt a n d (by rw [FH b,Yq0 h0];rfl) (by rw [b];rfl) c jV;rw [if_neg (by omega)];exact h
  .rw [if_pos ⟨rfl,by omega⟩];cases a with
   |true=>exact adu true n d rfl (by rw [FH b,Yq1 h0];rfl) (by rw [b];rfl) c jV
   |false=>exact adv false n d rfl (by rw [FH b,Yq1 h0];rfl) (by rw [b];rfl) c jV
theorem xE {i:Nat} (h:i<2^62):ω (γ .i64 ((i:Int)+((1:Nat):Int)))= ω ((i+1:Nat):Int):=by rw [bG]<;>first|rfl|omega
def cy (fd fc:Nat->Nat->Nat->Nat):List Nat->List Nat->Nat->List Nat × Nat
 | [],_,c=>([],c)
 |x::l,m,c=>(fd x (m.headD 0) c::(cy fd fc l m.tail (fc x (m.headD 0) c)).1,(cy fd fc l m.tail (fc x (m.headD 0) c)).2)
def En (x y c:Nat):Nat:=(x+y+c) % 4294967296
def Cf (x y c:Nat):Nat:=(x+y+c) / 4294967296
def Di (x y c:Nat):Nat:=(x+4294967296 - y - c) % 4294967296
def yF (x y c:Nat):Nat:=if x<y+c then 1 else 0
def smA (x c:Nat):Nat:=x+c
def smB (x y c:Nat):Nat:=x+y+c
def lsA (x c:Nat):Nat:=(x+18446744073709551616 - c) % 18446744073709551616
def lsB (x y c:Nat):Nat:=(x+18446744073709551616 - y - c) % 18446744073709551616
theorem PL (fd fc:Nat->Nat->Nat->Nat):∀ (l m:List Nat) (c:Nat),(cy fd fc l m c).1.length=l.length
 | [],_,_=>rfl
 |_::l,m,_=>by simp only [cy,ν,PL fd fc l m.tail _]
theorem PM {fd fc:Nat->Nat->Nat->Nat} (h:∀ x y c,fd x y c<4294967296):∀ (l m:List Nat) (c:Nat),bT (cy fd fc l m c).1
 | [],_,_=>bT.nil
 |_::l,m,_=>bT.cons (h _ _ _) (PM h l m.tail _)
theorem aeS (m:List Nat):aI m=m.headD 0+4294967296*aI m.tail:=by cases m with|nil=>rfl|cons x l=>rfl
theorem bT.hd {m:List Nat} (h:bT m):m.headD 0<4294967296:=by cases m with|nil=>show 0<_;omega|cons x l=>exact h.head
theorem bT.tl {m:List Nat} (h:bT m):bT m.tail:=by cases m with|nil=>exact h|cons x l=>exact h.tail
theorem ZJ:∀ (l m:List Nat) (c:Nat),m.length<=l.length->aI (cy En Cf l m c).1+4294967296^l.length*(cy En Cf l m c).2=aI l+aI m+c
 | [],m,c,h=>by
  have:m= []:=List.length_eq_zero_iff.1 (by simpa using h);subst this;simp [cy,aI]
 |x::l,m,c,h=>by
  have f:=ZJ l m.tail (Cf x (m.headD 0) c) (by rw [Xv8];simp only [ν] at h;omega);have b:=aeS m;have hd:=Xxb (x+m.headD 0+c) 4294967296;simp only [cy,aI,ν,Xq3];have e:4294967296^l.length*4294967296*(cy En Cf l m.tail (Cf x (m.headD 0) c)).2=4294967296*(4294967296^l.length*(cy En Cf l m.tail (Cf x (m.headD 0) c)).2):=by rw [Xqh (4294967296^l.length),Xqr]
  rw [e,b];generalize 4294967296^l.length*(cy En Cf l m.tail (Cf x (m.headD 0) c)).2=P at*
  generalize aI (cy En Cf l m.tail (Cf x (m.headD 0) c)).1=V at*
  have d:En x (m.headD 0) c=(x+m.headD 0+c) % 4294967296:=rfl;have a:Cf x (m.headD 0) c=(x+m.headD 0+c) / 4294967296:=rfl;rw [a] at f;rw [d];omega
theorem Ym:∀ (l m:List Nat) (c:Nat),bT l->bT m->c<=1->m.length<=l.length->aI (cy Di yF l m c).1+aI m+c=aI l+4294967296^l.length*(cy Di yF l m c).2
 | [],m,c,_,_,_,h=>by
  have:m= []:=List.length_eq_zero_iff.1 (by simpa using h);subst this;simp [cy,aI]
 |x::l,m,c,hl,hm1,hc,h=>by
  have b:yF x (m.headD 0) c<=1:=by unfold yF;split<;>omega
  have g:=Ym l m.tail (yF x (m.headD 0) c) hl.tail hm1.tl b (by rw [Xv8];simp only [ν] at h;omega);have a:=aeS m;have d:=hl.head;have f:=hm1.hd;simp only [cy,aI,ν,Xq3];have e:4294967296^l.length*4294967296*(cy Di yF l m.tail (yF x (m.headD 0) c)).2=4294967296*(4294967296^l.length*(cy Di yF l m.tail (yF x (m.headD 0) c)).2):=by rw [Xqh (4294967296^l.length),Xqr]
  rw [e,a];generalize 4294967296^l.length*(cy Di yF l m.tail (yF x (m.headD 0) c)).2=P at*
  generalize aI (cy Di yF l m.tail (yF x (m.headD 0) c)).1=V at*
  generalize m.headD 0=y at*
  have hd:Di x y c+y+c=x+4294967296*yF x y c:=by unfold Di yF;split<;>omega
  omega
theorem aog {x c:Nat} (b:x<4294967296) (a:c<=1):Xxx .u64 (γ .u64 ((γ .u64 (x:Int))+(c:Int)))= .int .u64 ((smA x c:Nat):Int):=by
 rw [qg,bQ,qg];unfold smA;congr 2;omega
theorem aqM {x y c:Nat} (a:x<4294967296) (b:y<4294967296) (d:c<=1):Xxx .u64 (γ .u64 (((smA x c:Nat):Int)+(γ .u64 (y:Int))))= .int .u64 ((smB x y c:Nat):Int):=by
 unfold smA smB;rw [qg,bQ,qg];congr 2;omega
theorem aqO (x y c:Nat):Xxx .u32 (γ .u32 ((smB x y c:Nat):Int))= .int .u32 ((En x y c:Nat):Int):=by
 unfold smB En;rw [sW]
theorem aqN (x y c:Nat):Xxx .u64 (Xq0 ((smB x y c:Nat):Int) (2^(min 32 64)))= .int .u64 ((Cf x y c:Nat):Int):=by
 unfold smB Cf;rw [show min 32 64=32 from rfl,lZ]
theorem aoi (x c:Nat):Xxx .u32 (γ .u32 ((smA x c:Nat):Int))= .int .u32 ((En x 0 c:Nat):Int):=by
 unfold smA En;rw [sW];rfl
theorem aoh (x c:Nat):Xxx .u64 (Xq0 ((smA x c:Nat):Int) (2^(min 32 64)))= .int .u64 ((Cf x 0 c:Nat):Int):=by
 unfold smA Cf;rw [show min 32 64=32 from rfl,lZ];rfl
theorem alv {x c:Nat} (b:x<4294967296) (a:c<=1):Xxx .u64 (γ .u64 ((γ .u64 (x:Int)) - (c:Int)))= .int .u64 ((lsA x c:Nat):Int):=by
 rw [qg,lU];unfold lsA;congr 2;omega
theorem apU {x y c:Nat} (a:x<4294967296) (b:y<4294967296) (d:c<=1):Xxx .u64 (γ .u64 (((lsA x c:Nat):Int) - (γ .u64 (y:Int))))= .int .u64 ((lsB x y c:Nat):Int):=by
 unfold lsA lsB;rw [qg,lU];congr 2;omega
theorem apW {x y c:Nat} (a:x<4294967296) (b:y<4294967296) (d:c<=1):Xxx .u32 (γ .u32 ((lsB x y c:Nat):Int))= .int .u32 ((Di x y c:Nat):Int):=by
 unfold lsB Di;rw [sW];congr 2;omega
theorem p63:(2:Nat)^63=9223372036854775808:=by decide
theorem apV {x y c:Nat} (a:x<4294967296) (b:y<4294967296) (d:c<=1):Xxx .u64 (Xq0 ((lsB x y c:Nat):Int) (2^(min 63 64)))= .int .u64 ((yF x y c:Nat):Int):=by
 unfold lsB yF;rw [show min 63 64=63 from rfl,lZ,p63];congr 2;split<;>omega
theorem aly {x c:Nat} (b:x<4294967296) (a:c<=1):Xxx .u32 (γ .u32 ((lsA x c:Nat):Int))= .int .u32 ((Di x 0 c:Nat):Int):=by
 unfold lsA Di;rw [sW];congr 2;omega
theorem alx {x c:Nat} (b:x<4294967296) (a:c<=1):Xxx .u64 (Xq0 ((lsA x c:Nat):Int) (2^(min 63 64)))= .int .u64 ((yF x 0 c:Nat):Int):=by
 unfold lsA yF;rw [show min 63 64=63 from rfl,lZ,p63];congr 2;split<;>omega
theorem QL {x y c:Nat} (a:x<4294967296) (b:y<4294967296) (d:c<=1):Cf x y c<=1:=by unfold Cf;omega
theorem Yk {x y c:Nat}:yF x y c<=1:=by unfold yF;split<;>omega
theorem AB {d l:List Nat} {x:Nat}:ε ((δ (d.length:Int))*1) (ak (d++x::l))= [Xxx .u32 (x:Int)]++ak l:=by
 rw [aC,Θ];unfold ak;rw [Xx3,List.drop_left' (by simp)];rfl
theorem AL {p s:List Nat} {x y:Nat}:κ ((0+(δ (p.length:Int)))*1) (ak (p++x::s))++ [Xxx .u32 (y:Int)]++ε (((0+(δ (p.length:Int)))*1)+1) (ak (p++x::s))=ak (p++y::s):=by
 rw [aC,Ψ,Θ];exact nC rfl
def QM (a b:List Nat) (na nb:Bool) (p:Nat × List Nat × Nat):St:=⟨[(0,.sl (ak a) a.length na),(1,.sl (ak b) b.length nb),(5,.ref 0 0 0 p.2.1.length),(6,.int .u64 (p.2.2:Int)),(21,ω (a.length:Int)),(22,ω (p.1:Int))],[(0,⟨(ak p.2.1),0,false,0,1,true⟩)],.dead,[]⟩
def OM (a b:List Nat) (na nb:Bool) (p:List Nat × Nat):St:=⟨[(0,.sl (ak a) a.length na),(1,.sl (ak b) b.length nb),(5,.ref 0 0 0 p.1.length),(6,.int .u64 (p.2:Int))],[(0,⟨(ak p.1),0,false,0,1,true⟩)],.dead,[]⟩
theorem ad9 {nt:Nat} (H:59<=nt) (a b:List Nat) (P O:Bool) (F:bT a) (E:bT b) (R:a.length<2^40) (t:List Nat):∀ (l d o e m:List Nat) (c:Nat),c<=1->d++l=a->o.length=d.length->e++m=b->(e.length=d.length\/(m= []/\e.length<=d.length))->
  az prog ap [] nt (af 0 (ah f118)) (λ_=> .exit 0) (QM a b P O) (OM a b P O) (d.length,o++(μ l.length 0++t),c) (o++((cy En Cf l m c).1++t),(cy En Cf l m c).2):=by
 intro l
 induction l with
 |nil=>
  intro d o e m c L hd C q j;rw [Δ] at hd;subst hd;have Q:decide ((d.length:Int)<(d.length:Int))=false:=Yq1 (by omega);exact .done (pN 118 [] 1 0 (.c (aB Q) .nil) .nil H)
 | cons x l ih=>
  intro d o e m c L hd C q j;have i:x<4294967296:=F x (by rw [<- hd];simp);have g:=L;have M:d.length+(l.length+1)=a.length:=by rw [<- hd];simp
  have G:(ε ((δ (d.length:Int))*1) (ak a))= [Xxx .u32 (x:Int)]++ak l:=by rw [<- hd];exact AB
  generalize ak l=ra at G;obtain ⟨w,r⟩:∃ w,w=o++(μ (x::l).length 0++t):=⟨_,rfl⟩
  have p:∀ v:Nat,κ ((0+(δ (d.length:Int)))*1) (ak w)++ [Xxx .u32 (v:Int)]++ε (((0+(δ (d.length:Int)))*1)+1) (ak w)=ak ((o++ [v])++(μ l.length 0++t)):=by
   intro v;rw [r,<- C,ν,Xxi,Xxf,AL,υ];rfl
  have I:w.length=o.length+(l.length+1)+t.length:=by rw [r];simp;omega
  have n:∀ v:Nat,((o++ [v])++(μ l.length 0++t)).length=w.length:=by intro v;rw [I];simp;omega
  have s:decide (((0:Nat):Int)<=(d.length:Int))=true:=Yq0 (by omega);have B:decide ((d.length:Int)<(a.length:Int))=true:=Yq0 (by omega);have J:decide ((d.length:Int)<(w.length:Int))=true:=Yq0 (by omega);have K:(Φ (((0+(δ (d.length:Int)))*1)+1) (ζ (ak w)))=true:=by rw [Xzp,aC,au];omega
  rw [<- r];cases m with
  |cons y m=>
   have z:e.length=d.length:=by rcases j with h|h;exact h;cases h.1
   have u:y<4294967296:=E y (by rw [<- q];simp);have N:(ε ((δ (d.length:Int))*1) (ak b))= [Xxx .u32 (y:Int)]++ak m:=by rw [<- q,<- z];exact AB
   generalize ak m=rb at N;have A:decide ((d.length:Int)<(b.length:Int))=true:=Yq0 (by rw [<- q];simp;omega);have f:=ih (d++ [x]) (o++ [En x y c]) (e++ [y]) m (Cf x y c) (QL i u g) (by rw [<- hd];simp) (by simp [C]) (by rw [<- q];simp) (.inl (by simp [z]));rw [η,τ] at f;simp only [υ,Xqt] at f;simp only [cy,Xjm,Xzl,Xwz,Xv2,Xxf];refine .next ?_ f
   unfold QM;rw [show o++(En x y c::(μ l.length 0++t))=(o++ [En x y c])++(μ l.length 0++t) by simp,n,<- p];have D:d.length<2^62:=by omega
   generalize d.length=k at*
   exact pN 118 [] 2 3 (.c K (.c s (.c J (.k 2 s (.c A (.c (aA A) (.k 1 s (.c B (.c (aA B) .nil))))))))) (.v 50 (.eq (xE D)) (.v 48 (.eq (aqN x y c)) (.v 46 (.eq (aqO x y c)) (.v 42 (.eq (aqM i u g)) (.v 39 (.ppt N) (.v 31 (.eq (aog i g)) (.v 27 (.ppt G) .nil))))))) H
  |nil=>
   have A:decide ((d.length:Int)<(b.length:Int))=false:=Yq1 (by rw [<- q,Δ];rcases j with h|h<;>omega);have f:=ih (d++ [x]) (o++ [En x 0 c]) e [] (Cf x 0 c) (QL i (by omega) g) (by rw [<- hd];simp) (by simp [C]) q (.inr ⟨rfl,by rw [η];rcases j with h|h<;>omega⟩);rw [η,τ] at f;simp only [υ,Xqt] at f;simp only [cy,Xjm,Xzl,Xwz,Xv2,Xxf];refine .next ?_ f
   unfold QM;rw [show o++(En x 0 c::(μ l.length 0++t))=(o++ [En x 0 c])++(μ l.length 0++t) by simp,n,<- p];have D:d.length<2^62:=by omega
   generalize d.length=k at*
   exact pN 118 [] 2 1 (.c K (.c s (.c J (.k 1 (aB A) (.k 1 s (.c B (.c (aA B) .nil))))))) (.v 50 (.eq (xE D)) (.v 48 (.eq (aoh x c)) (.v 46 (.eq (aoi x c)) (.v 31 (.eq (aog i g)) (.v 27 (.ppt G) .nil))))) H
def U4 (a b:List Nat) (na nb:Bool) (p:Nat × List Nat × Nat):St:=⟨[(0,.sl (ak a) a.length na),(1,.sl (ak b) b.length nb),(5,.ref 0 0 0 p.2.1.length),(6,.int .u64 (p.2.2:Int)),(13,ω (a.length:Int)),(14,ω (p.1:Int))],[(0,⟨(ak p.2.1),0,false,0,1,true⟩)],.dead,[]⟩
def Yl (a b:List Nat) (na nb:Bool) (p:List Nat × Nat):St:=⟨[(0,.sl (ak a) a.length na),(1,.sl (ak b) b.length nb),(5,.ref 0 0 0 p.1.length),(6,.int .u64 (p.2:Int))],[(0,⟨(ak p.1),0,false,0,1,true⟩)],.dead,[]⟩
theorem ab6 {nt:Nat} (H:45<=nt) (a b:List Nat) (P O:Bool) (F:bT a) (E:bT b) (R:a.length<2^40) (t:List Nat):∀ (l d o e m:List Nat) (c:Nat),c<=1->d++l=a->o.length=d.length->e++m=b->(e.length=d.length\/(m= []/\e.length<=d.length))->
  az prog ap [] nt (af 0 (ah f216)) (λ_=> .exit 0) (U4 a b P O) (Yl a b P O) (d.length,o++(μ l.length 0++t),c) (o++((cy Di yF l m c).1++t),(cy Di yF l m c).2):=by
 intro l
 induction l with
 |nil=>
  intro d o e m c L hd C q j;rw [Δ] at hd;subst hd;have Q:decide ((d.length:Int)<(d.length:Int))=false:=Yq1 (by omega);exact .done (pN 216 [] 1 0 (.c (aB Q) .nil) .nil H)
 | cons x l ih=>
  intro d o e m c L hd C q j;have g:x<4294967296:=F x (by rw [<- hd];simp);have f:=L;have M:d.length+(l.length+1)=a.length:=by rw [<- hd];simp
  have G:(ε ((δ (d.length:Int))*1) (ak a))= [Xxx .u32 (x:Int)]++ak l:=by rw [<- hd];exact AB
  generalize ak l=ra at G;obtain ⟨w,s⟩:∃ w,w=o++(μ (x::l).length 0++t):=⟨_,rfl⟩
  have p:∀ v:Nat,κ ((0+(δ (d.length:Int)))*1) (ak w)++ [Xxx .u32 (v:Int)]++ε (((0+(δ (d.length:Int)))*1)+1) (ak w)=ak ((o++ [v])++(μ l.length 0++t)):=by
   intro v;rw [s,<- C,ν,Xxi,Xxf,AL,υ];rfl
  have I:w.length=o.length+(l.length+1)+t.length:=by rw [s];simp;omega
  have n:∀ v:Nat,((o++ [v])++(μ l.length 0++t)).length=w.length:=by intro v;rw [I];simp;omega
  have u:decide (((0:Nat):Int)<=(d.length:Int))=true:=Yq0 (by omega);have B:decide ((d.length:Int)<(a.length:Int))=true:=Yq0 (by omega);have J:decide ((d.length:Int)<(w.length:Int))=true:=Yq0 (by omega);have K:(Φ (((0+(δ (d.length:Int)))*1)+1) (ζ (ak w)))=true:=by rw [Xzp,aC,au];omega
  rw [<- s];cases m with
  |cons y m=>
   have z:e.length=d.length:=by rcases j with h|h;exact h;cases h.1
   have r:y<4294967296:=E y (by rw [<- q];simp);have N:(ε ((δ (d.length:Int))*1) (ak b))= [Xxx .u32 (y:Int)]++ak m:=by rw [<- q,<- z];exact AB
   generalize ak m=rb at N;have A:decide ((d.length:Int)<(b.length:Int))=true:=Yq0 (by rw [<- q];simp;omega);have i:=ih (d++ [x]) (o++ [Di x y c]) (e++ [y]) m (yF x y c) Yk (by rw [<- hd];simp) (by simp [C]) (by rw [<- q];simp) (.inl (by simp [z]));rw [η,τ] at i;simp only [υ,Xqt] at i;simp only [cy,Xjm,Xzl,Xwz,Xv2,Xxf];refine .next ?_ i
   unfold U4;rw [show o++(Di x y c::(μ l.length 0++t))=(o++ [Di x y c])++(μ l.length 0++t) by simp,n,<- p];have D:d.length<2^62:=by omega
   generalize d.length=k at*
   exact pN 216 [] 2 3 (.c K (.c u (.c J (.k 2 u (.c A (.c (aA A) (.k 1 u (.c B (.c (aA B) .nil))))))))) (.v 42 (.eq (xE D)) (.v 40 (.eq (apV g r f)) (.v 38 (.eq (apW g r f)) (.v 34 (.eq (apU g r f)) (.v 31 (.ppt N) (.v 23 (.eq (alv g f)) (.v 19 (.ppt G) .nil))))))) H
  |nil=>
   have A:decide ((d.length:Int)<(b.length:Int))=false:=Yq1 (by rw [<- q,Δ];rcases j with h|h<;>omega);have i:=ih (d++ [x]) (o++ [Di x 0 c]) e [] (yF x 0 c) Yk (by rw [<- hd];simp) (by simp [C]) q (.inr ⟨rfl,by rw [η];rcases j with h|h<;>omega⟩);rw [η,τ] at i;simp only [υ,Xqt] at i;simp only [cy,Xjm,Xzl,Xwz,Xv2,Xxf];refine .next ?_ i
   unfold U4;rw [show o++(Di x 0 c::(μ l.length 0++t))=(o++ [Di x 0 c])++(μ l.length 0++t) by simp,n,<- p];have D:d.length<2^62:=by omega
   generalize d.length=k at*
   exact pN 216 [] 2 1 (.c K (.c u (.c J (.k 1 (aB A) (.k 1 u (.c B (.c (aA B) .nil))))))) (.v 42 (.eq (xE D)) (.v 40 (.eq (alx g f)) (.v 38 (.eq (aly g f)) (.v 23 (.eq (alv g f)) (.v 19 (.ppt G) .nil))))) H
theorem aiV (a b w:List Nat) (d e:Bool) (c z:Nat) (i:(Φ (((0+(δ (a.length:Int)))*1)+1) (ζ (ak w)))=true) (j:(decide (((0:Nat):Int)<=(a.length:Int)))=true) (g:(decide ((a.length:Int)<(w.length:Int)))=true) (m:(decide (((0:Nat):Int)<=(γ .i64 ((a.length:Int)+((1:Nat):Int)))))=true) (n:(decide ((γ .i64 ((a.length:Int)+((1:Nat):Int)))=(γ .i64 ((a.length:Int)+((1:Nat):Int)))))=true) (h:(decide ((γ .i64 ((a.length:Int)+((1:Nat):Int)))<=((1099511627776:Nat):Int)))=true) (k:(decide ((a.length:Int)<(b.length:Int)))=false) (l:CO 162 [.sl (κ (w.length*1) (κ ((0+(δ (a.length:Int)))*1) (ak w)++ [.int .u32 (γ .u32 (c:Int))]++ε (((0+(δ (a.length:Int)))*1)+1) (ak w))) w.length true] (.ret (.sl (ak (digs z)) (digs z).length true))) (f:aK prog ap [] 59 (.block 0 (.loop (af 0 (ah f118)))) ⟨[(0,.sl (ak a) a.length d),(1,.sl (ak b) b.length e),(4,.nilS),(5,.ref 0 0 0 (δ (γ .i64 ((a.length:Int)+((1:Nat):Int))))),(6,.int .u64 0),(7,.dead),(8,.dead),(13,.bool (decide ((a.length:Int)<(b.length:Int)))),(21,ω (a.length:Int)),(22,ω 0),(23,.dead),(35,.dead)],[(0,⟨(g_ (δ (γ .i64 ((a.length:Int)+((1:Nat):Int)))) [.int .u32 0]),0,false,0,1,true⟩)],.dead,[]⟩ (.normal) ⟨[(0,.sl (ak a) a.length d),(1,.sl (ak b) b.length e),(5,.ref 0 0 0 w.length),(6,.int .u64 (c:Int))],[(0,⟨(ak w),0,false,0,1,true⟩)],.dead,[]⟩):CO 118 [.sl (ak a) a.length d,.sl (ak b) b.length e] (.ret (.sl (ak (digs z)) (digs z).length true)):=pK [0] 1 0 (.c i (.c j (.c g (.c m (.c n (.c h (.c (aB k) .nil))))))) (.c l (.l f .nil))
theorem aiW (a b w:List Nat) (d e:Bool) (c z:Nat) (i:(Φ (((0+(δ (b.length:Int)))*1)+1) (ζ (ak w)))=true) (j:(decide (((0:Nat):Int)<=(b.length:Int)))=true) (g:(decide ((b.length:Int)<(w.length:Int)))=true) (m:(decide (((0:Nat):Int)<=(γ .i64 ((b.length:Int)+((1:Nat):Int)))))=true) (n:(decide ((γ .i64 ((b.length:Int)+((1:Nat):Int)))=(γ .i64 ((b.length:Int)+((1:Nat):Int)))))=true) (h:(decide ((γ .i64 ((b.length:Int)+((1:Nat):Int)))<=((1099511627776:Nat):Int)))=true) (k:(decide ((a.length:Int)<(b.length:Int)))=true) (l:CO 162 [.sl (κ (w.length*1) (κ ((0+(δ (b.length:Int)))*1) (ak w)++ [.int .u32 (γ .u32 (c:Int))]++ε (((0+(δ (b.length:Int)))*1)+1) (ak w))) w.length true] (.ret (.sl (ak (digs z)) (digs z).length true))) (f:aK prog ap [] 59 (.block 0 (.loop (af 0 (ah f118)))) ⟨[(0,.sl (ak b) b.length e),(1,.sl (ak a) a.length d),(4,.nilS),(5,.ref 0 0 0 (δ (γ .i64 ((b.length:Int)+((1:Nat):Int))))),(6,.int .u64 0),(7,.dead),(8,.dead),(13,.bool (decide ((a.length:Int)<(b.length:Int)))),(21,ω (b.length:Int)),(22,ω 0),(23,.dead),(35,.dead)],[(0,⟨(g_ (δ (γ .i64 ((b.length:Int)+((1:Nat):Int)))) [.int .u32 0]),0,false,0,1,true⟩)],.dead,[]⟩ (.normal) ⟨[(0,.sl (ak b) b.length e),(1,.sl (ak a) a.length d),(5,.ref 0 0 0 w.length),(6,.int .u64 (c:Int))],[(0,⟨(ak w),0,false,0,1,true⟩)],.dead,[]⟩):CO 118 [.sl (ak a) a.length d,.sl (ak b) b.length e] (.ret (.sl (ak (digs z)) (digs z).length true)):=pK [0] 1 1 (.c i (.c j (.c g (.c m (.c n (.c h (.c (aA k) .nil))))))) (.c l (.l f .nil))
theorem ab1 (a b w:List Nat) (d e:Bool) (c z:Nat) (g:(decide (((0:Nat):Int)<=(a.length:Int)))=true) (h:(decide ((a.length:Int)=(a.length:Int)))=true) (f:(decide ((a.length:Int)<=((1099511627776:Nat):Int)))=true) (i:CO 162 [.sl (κ (w.length*1) (ak w)) w.length true] (.ret (.sl (ak (digs z)) (digs z).length true))) (j:aK prog ap [] 45 (.block 0 (.loop (af 0 (ah f216)))) ⟨[(0,.sl (ak a) a.length d),(1,.sl (ak b) b.length e),(4,.nilS),(5,.ref 0 0 0 (δ (a.length:Int))),(6,.int .u64 0),(7,.dead),(8,.dead),(13,ω (a.length:Int)),(14,ω 0),(15,.dead),(27,.dead)],[(0,⟨(g_ (δ (a.length:Int)) [.int .u32 0]),0,false,0,1,true⟩)],.dead,[]⟩ (.normal) ⟨[(0,.sl (ak a) a.length d),(1,.sl (ak b) b.length e),(5,.ref 0 0 0 w.length),(6,.int .u64 (c:Int))],[(0,⟨(ak w),0,false,0,1,true⟩)],.dead,[]⟩):CO 216 [.sl (ak a) a.length d,.sl (ak b) b.length e] (.ret (.sl (ak (digs z)) (digs z).length true)):=pK [0] 0 0 (.c g (.c h (.c f .nil))) (.c i (.l j .nil))
theorem afp (s t:List UInt8) (z:Nat) (c:CO 119 [.str s] (.ret (.sl (ak (digs (ag s))) (digs (ag s)).length true))) (d:CO 119 [.str t] (.ret (.sl (ak (digs (ag t))) (digs (ag t)).length true))) (a:CO 118 [.sl (ak (digs (ag s))) (digs (ag s)).length true,.sl (ak (digs (ag t))) (digs (ag t)).length true] (.ret (.sl (ak (digs z)) (digs z).length true))) (b:CO 117 [.sl (ak (digs z)) (digs z).length true] (.ret (.str (ae z)))):CO 71 [.str s,.str t] (.ret (.str (ae z))):=pK [] 0 0 .nil (.c b (.c a (.c d (.c c .nil))))
theorem aiT (s t:List UInt8) (z:Nat) (b:(decide ((nD (ag s) (ag t))<((0:Nat):Int)))=true) (c:CO 119 [.str s] (.ret (.sl (ak (digs (ag s))) (digs (ag s)).length true))) (d:CO 119 [.str t] (.ret (.sl (ak (digs (ag t))) (digs (ag t)).length true))) (a:CO 210 [.sl (ak (digs (ag s))) (digs (ag s)).length true,.sl (ak (digs (ag t))) (digs (ag t)).length true] (.ret (ω (nD (ag s) (ag t))))):CO 199 [.str s,.str t] (.ret (.tup [.str [],.bool false])):=pK [] 1 1 (.c (aA b) .nil) (.c a (.c d (.c c .nil)))
theorem aiU (s t:List UInt8) (z:Nat) (c:(decide ((nD (ag s) (ag t))<((0:Nat):Int)))=false) (e:CO 119 [.str s] (.ret (.sl (ak (digs (ag s))) (digs (ag s)).length true))) (f:CO 119 [.str t] (.ret (.sl (ak (digs (ag t))) (digs (ag t)).length true))) (a:CO 210 [.sl (ak (digs (ag s))) (digs (ag s)).length true,.sl (ak (digs (ag t))) (digs (ag t)).length true] (.ret (ω (nD (ag s) (ag t))))) (d:CO 216 [.sl (ak (digs (ag s))) (digs (ag s)).length true,.sl (ak (digs (ag t))) (digs (ag t)).length true] (.ret (.sl (ak (digs z)) (digs z).length true))) (b:CO 117 [.sl (ak (digs z)) (digs z).length true] (.ret (.str (ae z)))):CO 199 [.str s,.str t] (.ret (.tup [.str (ae z),.bool true])):=pK [] 1 0 (.c (aB c) .nil) (.c b (.c d (.c a (.c f (.c e .nil)))))
theorem ahl (s t:List UInt8) (z:Nat) (c:CO 119 [.str s] (.ret (.sl (ak (digs (ag s))) (digs (ag s)).length true))) (d:CO 119 [.str t] (.ret (.sl (ak (digs (ag t))) (digs (ag t)).length true))) (a:CO 201 [.sl (ak (digs (ag s))) (digs (ag s)).length true,.sl (ak (digs (ag t))) (digs (ag t)).length true] (.ret (.sl (ak (digs z)) (digs z).length true))) (b:CO 117 [.sl (ak (digs z)) (digs z).length true] (.ret (.str (ae z)))):CO 171 [.str s,.str t] (.ret (.str (ae z))):=pK [] 0 0 .nil (.c b (.c a (.c d (.c c .nil))))
theorem aeI:∀ (l m:List Nat) (c:Nat),bT l->bT m->c<=1->(cy En Cf l m c).2<=1
 | [],_,_,_,_,h=>h
 |x::l,m,c,hl,hm,h=>by
  simp only [cy];exact aeI l m.tail _ hl.tail hm.tl (QL hl.head hm.hd h)
theorem OQ {a b:List Nat} (k j:Bool) (e:bT a) (g:bT b) (i:b.length<=a.length) (o:a.length<2^39):∃ (p:List Nat) (c:Nat),c<=1/\p.length=a.length/\bT (p++ [c])/\aI (p++ [c])=aI a+aI b/\∀ nt,59<=nt->
  az prog ap [] nt (af 0 (ah f118)) (λ_=> .exit 0) (QM a b k j) (OM a b k j) (0,μ (a.length+1) 0,0) (p++ [0],c):=by
 have m:=aeI a b 0 e g (by omega);have l:=ZJ a b 0 i;have d:=PL En Cf a b 0;have f:=PM (fd:=En) (fc:=Cf) (λx y c=>Xqy _ (by omega)) a b 0;refine ⟨(cy En Cf a b 0).1,(cy En Cf a b 0).2,m,d,f.app (bT.cons (by omega) bT.nil), ?_,λnt n=> ?_⟩
 .rw [nU,d];simp only [aI,Xjl,Xq1] at l ⊢;exact l
 .have h:=ad9 n a b k j e g (by omega) [0] a [] [] [] b 0 (by omega) rfl rfl rfl (.inl rfl);rw [Xqi,Xqi,<- Xj8] at h;exact h
theorem TV {p:List Nat} {c n:Nat} (a:c<=1) (hp:p.length=n):κ ((0+(δ (n:Int)))*1) (ak (p++ [0]))++ [Xxx .u32 (γ .u32 (c:Int))]++ε (((0+(δ (n:Int)))*1)+1) (ak (p++ [0]))=ak (p++ [c]):=by
 subst hp;rw [sW,Ξ (by omega)];exact AL (p:=p) (s:= []) (x:=0) (y:=c)
theorem aiX (a b:List Nat) (e d:Bool) (j:bT a) (k:bT b) (v:a.length<2^38) (u:b.length<2^38):CO 118 [.sl (ak a) a.length e,.sl (ak b) b.length d] (.ret (.sl (ak (digs (aI a+aI b))) (digs (aI a+aI b)).length true)):=by
 have t:∀ n:Nat,n<2^38->γ .i64 ((n:Int)+((1:Nat):Int))=((n+1:Nat):Int):=λn l=>by rw [bQ,aS (by omega)]
 have hs:∀ (a b:List Nat) (e d:Bool) (p:List Nat) (c:Nat),(∀ nt,59<=nt->az prog ap [] nt (af 0 (ah f118)) (λ_=> .exit 0) (QM a b e d) (OM a b e d) (0,μ (a.length+1) 0,0) (p++ [0],c))->
   aK prog ap [] 59 (.block 0 (.loop (af 0 (ah f118)))) ⟨[(0,.sl (ak a) a.length e),(1,.sl (ak b) b.length d),(5,.ref 0 0 0 (a.length+1)),(6,.int .u64 ((0:Nat):Int)),(21,ω (a.length:Int)),(22,ω ((0:Nat):Int))],[(0,⟨ak (μ (a.length+1) 0),0,false,0,1,true⟩)],.dead,[]⟩ .normal (OM a b e d (p++ [0],c)):=by
  intro a b e d p c i;have h:=az.blk (s:=QM a b e d (0,μ (a.length+1) 0,0)) (s':=OM a b e d (p++ [0],c)) (id:=0) i (by simp) rfl (aN.refl _) (aN.refl _);unfold QM at h;simp only [Xx7] at h;exact h
 rcases Xq2 a.length b.length with hlt|hge
 .obtain ⟨p,c,m,hp,g,r,i⟩:=OQ d e k j (Xw3 hlt) (by omega);have f:=aiW a b (p++ [0]) e d c (aI a+aI b);have o:=hs b a d e p c i;rw [t b.length u,aC (b.length+1),qO,TV m hp] at f;have q:(p++ [0]).length=b.length+1:=by rw [η,hp];rfl
  exact f (by rw [Xzp,aC];unfold ak;rw [Xxc];omega) (Yq0 (by omega)) (Yq0 (by omega)) (Yq0 (by omega)) (Yq0 rfl) (Yq0 (by omega)) (Yq0 (by omega))
   (Dz (p++ [c]) _ _ (by simp) (by rw [kC g,r,Xx1]) (by omega)) λnt l=>(o nt l).weak (aN.of ⟨rfl,rfl,rfl,rfl,rfl,rfl,trivial⟩) (aN.refl _)
 .obtain ⟨p,c,m,hp,g,r,i⟩:=OQ e d j k hge (by omega);have f:=aiV a b (p++ [0]) e d c (aI a+aI b);have o:=hs a b e d p c i;rw [t a.length v,aC (a.length+1),qO,TV m hp] at f;have q:(p++ [0]).length=a.length+1:=by rw [η,hp];rfl
  exact f (by rw [Xzp,aC];unfold ak;rw [Xxc];omega) (Yq0 (by omega)) (Yq0 (by omega)) (Yq0 (by omega)) (Yq0 rfl) (Yq0 (by omega)) (Yq1 (by omega))
   (Dz (p++ [c]) _ _ (by simp) (by rw [kC g,r]) (by omega)) λnt l=>(o nt l).weak (aN.of ⟨rfl,rfl,rfl,rfl,rfl,rfl,trivial⟩) (aN.refl _)
theorem UZ {a b:List Nat} (l j:Bool) (f:bT a) (g:bT b) (i:b.length<=a.length) (n:aI b<=aI a) (r:a.length<2^39):∃ (p:List Nat) (c:Nat),p.length=a.length/\bT p/\aI p=aI a - aI b/\∀ nt,45<=nt->
  az prog ap [] nt (af 0 (ah f216)) (λ_=> .exit 0) (U4 a b l j) (Yl a b l j) (0,μ a.length 0,0) (p,c):=by
 have o:=Ym a b 0 f g (by omega) i;have e:=PL Di yF a b 0;have d:=PM (fd:=Di) (fc:=yF) (λx y c=>Xqy _ (by omega)) a b 0;have k:=qQ d;rw [e] at k;refine ⟨(cy Di yF a b 0).1,(cy Di yF a b 0).2,e,d, ?_,λnt q=> ?_⟩
 .have m:(cy Di yF a b 0).2=0:=by
   rcases Xqb (cy Di yF a b 0).2 with h|h
   .exact h
   .have:=Xqx (4294967296^a.length) h;omega
  rw [m] at o;omega
 .have h:=ab6 q a b l j f g (by omega) [] a [] [] [] b 0 (by omega) rfl rfl rfl (.inl rfl);rw [Xqi,Xqi,Δ,Δ] at h;exact h
theorem ab2 (a b:List Nat) (g d:Bool) (i:bT a) (l:bT b) (j:b.length<=a.length) (k:aI b<=aI a) (r:a.length<2^38):CO 216 [.sl (ak a) a.length g,.sl (ak b) b.length d] (.ret (.sl (ak (digs (aI a - aI b))) (digs (aI a - aI b)).length true)):=by
 obtain ⟨p,c,hp,e,n,m⟩:=UZ g d i l j k (by omega);have f:=ab1 a b p g d c (aI a - aI b);have h:=az.blk (s:=U4 a b g d (0,μ a.length 0,0)) (s':=Yl a b g d (p,c)) (id:=0) m (by simp) rfl (aN.refl _) (aN.refl _);unfold U4 at h;simp only [Xx7] at h;rw [aC,qO] at f;have o:κ (p.length*1) (ak p)=ak p:=by rw [Θ,p_,Xqz]
 exact f (Yq0 (by omega)) (Yq0 rfl) (Yq0 (by omega)) (Dz p _ _ rfl (by rw [kC e,n]) (by omega)) λnt q=>(h nt q).weak (aN.of ⟨rfl,rfl,rfl,rfl,rfl,rfl,trivial⟩) (aN.refl _)
theorem rQ {s:List UInt8} {n:Nat} (hs:s.length<=4*n):(digs (ag s)).length<=n:=by
 have h:=xC s;refine j_ (Xqa h ?_);rw [show (256:Nat)=2^8 from rfl,<- Xjf];exact Xqc (by omega) (by omega)
theorem Rw {x y:Nat} (h:y<=x):(digs y).length<=(digs x).length:=by
 refine j_ (Xqj h ?_);rw [Xjf];exact oz x
theorem UB {x y m n:Nat} (b:(digs x).length<=m) (c:(digs y).length<=n):(digs (x*y)).length<=m+n:=by
 refine j_ ?_;have d:=Xqa (oz x) (Xqc (by omega) b);have a:=Xqa (oz y) (Xqc (by omega) c);rw [Xxe,Xxo,Xjf,Xjf];exact Nat.mul_lt_mul'' d a
theorem UA {x y n:Nat} (a:(digs x).length<=n) (b:(digs y).length<=n):(digs (x+y)).length<=n+1:=by
 refine j_ ?_;have d:=Xqa (oz x) (Xqc (by omega) a);have c:=Xqa (oz y) (Xqc (by omega) b);rw [Xjf,Xq3];have:(2:Nat)^32=4294967296:=by decide
 rw [this];generalize 4294967296^n=P at*
 omega
theorem acf (s t:List UInt8) (hs:s.length<2^36) (d:t.length<2^36):CO 71 [.str s,.str t] (.ret (.str (ae (ag s+ag t)))):=by
 have b:=rQ (s:=s) (n:=2^34) (by omega);have a:=rQ (s:=t) (n:=2^34) (by omega);have c:=UA b a;have h:=aiX (digs (ag s)) (digs (ag t)) true true (bT.digs _) (bT.digs _) (by omega) (by omega);rw [fU,fU] at h;exact afp s t _ (vV s (by omega)) (vV t (by omega)) h (sO _ _ true (xA _) (by omega) (by omega))
theorem Rj (s t:List UInt8) (hs:s.length<2^36):CO 210 [.sl (ak (digs (ag s))) (digs (ag s)).length true,.sl (ak (digs (ag t))) (digs (ag t)).length true] (.ret (ω (nD (ag s) (ag t)))):=by
 have h:=yt (digs (ag s)) (digs (ag t)) true true (EY (by omega));rw [Ba] at h;exact h
theorem TP (x y:Nat):decide (nD x y<((0:Nat):Int))=decide (x<y):=by
 unfold nD;by_cases h:x<y
 .rw [if_pos h,Yq0 h];rfl
 .rw [if_neg h,Yq1 h];split<;>rfl
theorem acs (s t:List UInt8) (hs:s.length<2^36) (a:t.length<2^36) (h:ag s<ag t):CO 199 [.str s,.str t] (.ret (.tup [.str [],.bool false])):=
 aiT s t 0 (by rw [TP];exact Yq0 h) (vV s (by omega)) (vV t (by omega)) (Rj s t hs)
theorem acu (s t:List UInt8) (hs:s.length<2^36) (c:t.length<2^36) (h:ag t<=ag s):CO 199 [.str s,.str t] (.ret (.tup [.str (ae (ag s - ag t)),.bool true])):=by
 have a:=rQ (s:=s) (n:=2^34) (by omega);have b:=Rw (Nat.sub_le (ag s) (ag t));have f:=ab2 (digs (ag s)) (digs (ag t)) true true (bT.digs _) (bT.digs _) (Rw h) (by rw [fU,fU];exact h) (by omega);rw [fU,fU] at f;exact aiU s t _ (by rw [TP];exact Yq1 (by omega)) (vV s (by omega)) (vV t (by omega)) (Rj s t hs) f (sO _ _ true (xA _) (by omega) (by omega))
def ai (l:List Nat):List AV:=l.map λ(d:Nat)=>ω (d:Int)
theorem bM (l:List Nat):(ai l).length=l.length:=by simp [ai]
theorem Nw (a b:List Nat):ai (a++b)=ai a++ai b:=by simp [ai]
theorem fP {l:List Nat} {k:Nat} (h:k<l.length):θ (ε k (ai l)) .dead= ω ((l.getD k 0:Nat):Int):=by
 unfold ai;rw [<- Xj9,Xxs h,Xqg,Xjm,ξ,π h];rfl
theorem dA (l:List Nat) (k:Nat):κ k (ai l)=ai (l.take k):=by unfold ai;rw [Xvb]
theorem MW (l:List Nat) (k:Nat):ε k (ai l)=ai (l.drop k):=by unfold ai;rw [Xj9]
theorem eF (x:Int):chk (.int .i64) (ω x)=true:=rfl
theorem RZ {l:List Nat} {j:Nat} (h:j<l.length) (y:Nat):κ j (ai l)++ [ω (y:Int)]++ε (j+1) (ai l)=ai (l.set j y):=by
 rw [dA,MW,Xx2,if_pos h];simp [ai]
theorem Ll (m:Nat):g_ m [ω 0]=ai (μ m 0):=by
 unfold g_ ai
 induction m with
 |zero=>rfl
 |succ m ih=>rw [Xxi,List.flatten_cons,ih,Xxi];rfl
theorem je (l:List Nat) (x:Nat):ai l++ [ω (x:Int)]=ai (l++ [x]):=by rw [Nw];rfl
theorem Ny (l:List Nat) (x:Nat):[ω (x:Int)]++ai l=ai (x::l):=rfl
theorem QU (x:Nat) (l:List Nat):fE (x::l)=if fE l= []/\x=0 then [] else x::fE l:=by
 unfold fE;rw [Xz7,List.dropWhile_append];by_cases h:(Yqw (· ==0) l.reverse)= []
 .simp only [h,List.isEmpty_nil,if_true,Xw4];by_cases hx:x=0
  .subst hx;simp
  .simp [hx]
 .have:(Yqw (· ==0) l.reverse).isEmpty=false:=by simpa using h
  simp only [this,Xji,if_false];rw [if_neg (by simp only [List.reverse_eq_nil_iff];exact λ⟨h1,_⟩=>h h1)];simp
def dn:List Nat->Nat
 | []=>0
 |d::l=>d+16777216*dn l
def bz (l:List Nat):Prop:=∀ d ∈ l,d<16777216
theorem bz.nil:bz []:=λ_ h=>(by cases h)
theorem bz.cons {d:Nat} {l:List Nat} (h:d<16777216) (b:bz l):bz (d::l):=by
 intro x a;rcases List.mem_cons.1 a with rfl|a
 .exact h
 .exact b x a
theorem bz.head {d:Nat} {l:List Nat} (h:bz (d::l)):d<16777216:=h d (Xjy ..)
theorem bz.tail {d:Nat} {l:List Nat} (h:bz (d::l)):bz l:=λx a=>h x (Xjd _ a)
theorem bz.app {a b:List Nat} (h:bz a) (d:bz b):bz (a++b):=λx c=>(List.mem_append.1 c).elim (h x) (d x)
theorem bz.take {a:List Nat} (h:bz a) (n:Nat):bz (a.take n):=λx b=>h x (Xje b)
theorem bz.getD {a:List Nat} (h:bz a) (n:Nat):a.getD n 0<16777216:=by
 rw [ξ];rcases Xq2 n a.length with hn|hn
 .rw [π hn];exact h _ (List.getElem_mem hn)
 .rw [Xq6 hn];show 0<16777216;omega
theorem bz.zeros (n:Nat):bz (μ n 0):=λx a=>by rw [(List.mem_replicate.1 a).2];omega
theorem AO (a b:List Nat):dn (a++b)=dn a+16777216^a.length*dn b:=by
 induction a with
 |nil=>simp [dn]
 |cons x a ih=>
  simp only [Xxf,dn,ih,ν,Xq3,Xxe];rw [Xqh (16777216^a.length) 16777216,Xqr];omega
theorem YW (k:Nat):0<16777216^k:=Yql (by omega)
theorem AQ {l:List Nat} (h:bz l):dn l<16777216^l.length:=by
 induction l with
 |nil=>simp [dn]
 |cons d l ih=>
  have b:=ih h.tail;have a:=h.head;simp only [dn,ν,Xq3];omega
theorem QW (n:Nat):dn (μ n 0)=0:=by
 induction n with
 |zero=>rfl
 |succ n ih=>rw [Xxi];simp only [dn,ih]
def ax (n:Nat):List Nat:=if n=0 then [] else n % 16777216::ax (n / 16777216)
termination_by n
decreasing_by omega
theorem gI:ax 0= []:=by rw [ax,if_pos rfl]
theorem pg {n:Nat} (h:0<n):ax n=n % 16777216::ax (n / 16777216):=by rw [ax,if_neg (by omega)]
theorem fG (n:Nat):dn (ax n)=n:=by
 induction n using Xkh with
 | _ n ih=>
  rcases Xqb n with rfl|h
  .rw [gI];rfl
  .rw [pg h];simp only [dn];rw [ih (n / 16777216) (by omega)];omega
theorem bz.dig (n:Nat):bz (ax n):=by
 induction n using Xkh with
 | _ n ih=>
  rcases Xqb n with rfl|h
  .rw [gI];exact bz.nil
  .rw [pg h];exact bz.cons (Xqy _ (by omega)) (ih (n / 16777216) (by omega))
theorem MS {n:Nat}:ax n= []↔n=0:=by
 constructor
 .intro h;have:=fG n;rw [h] at this;exact this.symm
 .intro h;subst h;exact gI
theorem TZ {l:List Nat} (h:bz l):fE l=ax (dn l):=by
 induction l with
 |nil=>rw [show dn []=0 from rfl,gI];rfl
 | cons d l ih=>
  have hd:=h.head;rw [QU,ih h.tail];simp only [dn];by_cases hz:dn l=0/\d=0
  .rw [if_pos ⟨MS.2 hz.1,hz.2⟩,hz.1,hz.2,gI]
  .rw [if_neg (λh=>hz ⟨MS.1 h.1,h.2⟩),pg (n:=d+16777216*dn l) (by omega)];rw [show (d+16777216*dn l) % 16777216=d by omega,show (d+16777216*dn l) / 16777216=dn l by omega]
theorem wR (n:Nat):n<16777216^(ax n).length:=by
 have:=AQ (bz.dig n);rwa [fG] at this
theorem aaX {n k:Nat} (h:(ax n).length=k+1):16777216^k<=n:=by
 induction k generalizing n with
 |zero=>
  rcases Xqb n with rfl|h0
  .rw [gI] at h;simp at h
  .rw [Xvo];exact h0
 | succ k ih=>
  rcases Xqb n with rfl|h0
  .rw [gI] at h;simp at h
  .rw [pg h0,ν] at h;have:=ih (n:=n / 16777216) (by omega);rw [Xq3];omega
theorem tV {n k:Nat} (h:n<16777216^k):(ax n).length<=k:=by
 rcases Xq2 k (ax n).length with h1|h1
 .obtain ⟨j,a⟩:∃ j,(ax n).length=j+1:=⟨(ax n).length - 1,by omega⟩
  have b:=aaX a;have c:=Xqc (show 0<16777216 by omega) (show k<=j by omega);omega
 .exact h1
theorem rP {x y:Nat} (h:x<=y):(ax x).length<=(ax y).length:=tV (Xqj h (wR y))
theorem ajL {nt:Nat} (d:19<=nt) (s:List UInt8) (k:Nat) (b:lit true (((Xqd (Xqp s (δ (k:Int)) 0):Nat):Int)==((0:Nat):Int))=true) (e:(decide (((0:Nat):Int)<=(k:Int)))=true) (a:(decide ((k:Int)<(((ζ s):Nat):Int)))=true) (c:lit true (decide ((k:Int)<(((ζ s):Nat):Int)))=true):ψ nt f133 ⟨[(0,.str s),(3,ω (k:Int))],[],.dead,[]⟩ (.normal) ⟨[(0,.str s),(3,ω (γ .i64 ((k:Int)+((1:Nat):Int))))],[],.dead,[]⟩:=pJ 133 [] 2 3 (.c b (.c e (.c a (.c c .nil)))) (.nil) d
theorem ajM {nt:Nat} (d:19<=nt) (s:List UInt8) (k:Nat) (b:lit false (((Xqd (Xqp s (δ (k:Int)) 0):Nat):Int)==((0:Nat):Int))=true) (e:(decide (((0:Nat):Int)<=(k:Int)))=true) (a:(decide ((k:Int)<(((ζ s):Nat):Int)))=true) (c:lit true (decide ((k:Int)<(((ζ s):Nat):Int)))=true):ψ nt f133 ⟨[(0,.str s),(3,ω (k:Int))],[],.dead,[]⟩ (.exit 0) ⟨[(0,.str s),(3,ω (k:Int))],[],.dead,[]⟩:=pJ 133 [] 2 1 (.c b (.c e (.c a (.c c .nil)))) (.nil) d
theorem ajN {nt:Nat} (b:19<=nt) (s:List UInt8) (k:Nat) (a:lit false (decide ((k:Int)<(((ζ s):Nat):Int)))=true):ψ nt f133 ⟨[(0,.str s),(3,ω (k:Int))],[],.dead,[]⟩ (.exit 0) ⟨[(0,.str s),(3,ω (k:Int))],[],.dead,[]⟩:=pJ 133 [] 2 0 (.k 1 a .nil) (.nil) b
theorem afT (s:List UInt8) (k:Nat) (b:(decide (((0:Nat):Int)<=(k:Int)))=true) (c:(decide ((k:Int)<=(((ζ s):Nat):Int)))=true) (a:(decide ((((ζ s):Nat):Int)<=(((ζ s):Nat):Int)))=true) (d:aK prog ap [] 19 (.block 0 (.loop (af 0 (ah f133)))) ⟨[(0,.str s),(2,.str []),(3,ω 0),(13,.dead)],[],.dead,[]⟩ (.normal) ⟨[(0,.str s),(3,ω (k:Int))],[],.dead,[]⟩):CO 133 [.str s] (.ret (.str (ε (δ (k:Int)) (κ (δ (((ζ s):Nat):Int)) s)))):=pK [0] 0 0 (.c b (.c c (.c a .nil))) (.l d .nil)
theorem an2 {nt:Nat} (f:21<=nt) (l:List Nat) (nn:Bool) (a:(decide (((0:Nat):Int)<=(γ .i64 ((l.length:Int) - ((1:Nat):Int)))))=true) (g:(decide ((γ .i64 ((l.length:Int) - ((1:Nat):Int)))<=(l.length:Int)))=true) (b:lit true ((Γ (θ (ε ((δ (γ .i64 ((l.length:Int) - ((1:Nat):Int))))*1) (ai l)) .dead))==((0:Nat):Int))=true) (d:(chk (.int .i64) (θ (ε ((δ (γ .i64 ((l.length:Int) - ((1:Nat):Int))))*1) (ai l)) .dead))=true) (e:(decide ((γ .i64 ((l.length:Int) - ((1:Nat):Int)))<(l.length:Int)))=true) (c:lit true (decide (((0:Nat):Int)<(l.length:Int)))=true):ψ nt f185 ⟨[(0,.sl (ai l) l.length nn)],[],.dead,[]⟩ (.normal) ⟨[(0,.sl (κ ((δ (γ .i64 ((l.length:Int) - ((1:Nat):Int))))*1) (ai l)) ((δ (γ .i64 ((l.length:Int) - ((1:Nat):Int)))) - 0) nn)],[],.dead,[]⟩:=pJ 185 [] 2 3 (.k 1 a (.c g (.c b (.c d (.c a (.c e (.c c .nil))))))) (.nil) f
theorem an3 {nt:Nat} (e:21<=nt) (l:List Nat) (nn:Bool) (b:lit false ((Γ (θ (ε ((δ (γ .i64 ((l.length:Int) - ((1:Nat):Int))))*1) (ai l)) .dead))==((0:Nat):Int))=true) (f:(chk (.int .i64) (θ (ε ((δ (γ .i64 ((l.length:Int) - ((1:Nat):Int))))*1) (ai l)) .dead))=true) (a:(decide (((0:Nat):Int)<=(γ .i64 ((l.length:Int) - ((1:Nat):Int)))))=true) (c:(decide ((γ .i64 ((l.length:Int) - ((1:Nat):Int)))<(l.length:Int)))=true) (d:lit true (decide (((0:Nat):Int)<(l.length:Int)))=true):ψ nt f185 ⟨[(0,.sl (ai l) l.length nn)],[],.dead,[]⟩ (.exit 0) ⟨[(0,.sl (ai l) l.length nn)],[],.dead,[]⟩:=pJ 185 [] 2 1 (.c b (.c f (.c a (.c c (.c d .nil))))) (.nil) e
theorem an4 {nt:Nat} (b:21<=nt) (l:List Nat) (nn:Bool) (a:lit false (decide (((0:Nat):Int)<(l.length:Int)))=true):ψ nt f185 ⟨[(0,.sl (ai l) l.length nn)],[],.dead,[]⟩ (.exit 0) ⟨[(0,.sl (ai l) l.length nn)],[],.dead,[]⟩:=pJ 185 [] 2 0 (.k 1 a .nil) (.nil) b
theorem aiG (l r:List Nat) (nn:Bool) (a:aK prog ap [] 21 (.block 0 (.loop (af 0 (ah f185)))) ⟨[(0,.sl (ai l) l.length nn),(2,.nilS),(14,.dead)],[],.dead,[]⟩ (.normal) ⟨[(0,.sl (ai r) r.length nn)],[],.dead,[]⟩):CO 185 [.sl (ai l) l.length nn] (.ret (.sl (ai r) r.length nn)):=pK [0] 0 0 .nil (.l a .nil)
theorem anp {nt:Nat} (l:41<=nt) (a b:List Nat) (j m:Bool) (k:Nat) (e:(chk (.int .i64) (θ (ε ((δ (k:Int))*1) (ai b)) .dead))=true) (c:(decide (((0:Nat):Int)<=(k:Int)))=true) (d:(decide ((k:Int)<(b.length:Int)))=true) (f:(chk (.int .i64) (θ (ε ((δ (k:Int))*1) (ai a)) .dead))=true) (g:(decide ((k:Int)<(a.length:Int)))=true) (i:lit true (!((Γ (θ (ε ((δ (k:Int))*1) (ai a)) .dead))==(Γ (θ (ε ((δ (k:Int))*1) (ai b)) .dead))))=true) (h:lit true (decide (((0:Nat):Int)<=(k:Int)))=true):ψ nt f186 ⟨[(0,.sl (ai a) a.length j),(1,.sl (ai b) b.length m),(5,ω (k:Int))],[],.dead,[]⟩ (.ret) ⟨[(4,ω (γ .i64 ((Γ (θ (ε ((δ (k:Int))*1) (ai a)) .dead)) - (Γ (θ (ε ((δ (k:Int))*1) (ai b)) .dead)))))],[],.dead,[]⟩:=pJ 186 [] 2 3 (.c e (.c c (.c d (.c f (.c c (.c g (.c i (.c e (.c c (.c d (.c f (.c c (.c g (.c h .nil)))))))))))))) (.nil) l
theorem anq {nt:Nat} (l:41<=nt) (a b:List Nat) (d e:Bool) (k:Nat) (g:lit false (!((Γ (θ (ε ((δ (k:Int))*1) (ai a)) .dead))==(Γ (θ (ε ((δ (k:Int))*1) (ai b)) .dead))))=true) (m:(chk (.int .i64) (θ (ε ((δ (k:Int))*1) (ai b)) .dead))=true) (c:(decide (((0:Nat):Int)<=(k:Int)))=true) (i:(decide ((k:Int)<(b.length:Int)))=true) (j:(chk (.int .i64) (θ (ε ((δ (k:Int))*1) (ai a)) .dead))=true) (h:(decide ((k:Int)<(a.length:Int)))=true) (f:lit true (decide (((0:Nat):Int)<=(k:Int)))=true):ψ nt f186 ⟨[(0,.sl (ai a) a.length d),(1,.sl (ai b) b.length e),(5,ω (k:Int))],[],.dead,[]⟩ (.normal) ⟨[(0,.sl (ai a) a.length d),(1,.sl (ai b) b.length e),(5,ω (γ .i64 ((k:Int) - ((1:Nat):Int))))],[],.dead,[]⟩:=pJ 186 [] 2 1 (.c g (.c m (.c c (.c i (.c j (.c c (.c h (.c f .nil)))))))) (.nil) l
theorem ahV {nt:Nat} (d:41<=nt) (a b:List Nat) (c e:Bool):ψ nt f186 ⟨[(0,.sl (ai a) a.length c),(1,.sl (ai b) b.length e),(5,ω (-1))],[],.dead,[]⟩ (.exit 0) ⟨[],[],.dead,[]⟩:=pJ 186 [] 1 0 (.n 1 .nil) (.nil) d
theorem ahW (a b:List Nat) (d e:Bool) (c:lit true (!((a.length:Int)==(b.length:Int)))=true):CO 186 [.sl (ai a) a.length d,.sl (ai b) b.length e] (.ret (ω (γ .i64 ((a.length:Int) - (b.length:Int))))):=pK [0] 1 1 (.c c .nil) (.nil)
theorem ahX (a b:List Nat) (c d:Bool) (e:lit false (!((a.length:Int)==(b.length:Int)))=true) (f:aK prog ap [] 41 (.block 0 (.loop (af 0 (ah f186)))) ⟨[(0,.sl (ai a) a.length c),(1,.sl (ai b) b.length d),(4,ω 0),(5,ω (γ .i64 ((a.length:Int) - ((1:Nat):Int)))),(10,.bool (!((a.length:Int)==(b.length:Int)))),(20,.dead),(31,.dead)],[],.dead,[]⟩ (.normal) ⟨[],[],.dead,[]⟩):CO 186 [.sl (ai a) a.length c,.sl (ai b) b.length d] (.ret (ω 0)):=pK [0] 1 0 (.c e .nil) (.l f .nil)
theorem ahY (a b:List Nat) (d e:Bool) (c:Int) (f:lit false (!((a.length:Int)==(b.length:Int)))=true) (g:aK prog ap [] 41 (.block 0 (.loop (af 0 (ah f186)))) ⟨[(0,.sl (ai a) a.length d),(1,.sl (ai b) b.length e),(4,ω 0),(5,ω (γ .i64 ((a.length:Int) - ((1:Nat):Int)))),(10,.bool (!((a.length:Int)==(b.length:Int)))),(20,.dead),(31,.dead)],[],.dead,[]⟩ (.ret) ⟨[(4,ω c)],[],.dead,[]⟩):CO 186 [.sl (ai a) a.length d,.sl (ai b) b.length e] (.ret (ω c)):=pK [0] 1 0 (.c f .nil) (.l g .nil)
theorem aiD {nt:Nat} (h:35<=nt) (a o:List Nat) (b:Bool) (d c k:Nat) (f:(chk (.int .i64) (θ (ε ((δ (k:Int))*1) (ai a)) .dead))=true) (i:(decide (((0:Nat):Int)<=(k:Int)))=true) (e:(decide ((k:Int)<(a.length:Int)))=true) (g:lit true (decide ((k:Int)<(a.length:Int)))=true):ψ nt f188 ⟨[(0,.sl (ai a) a.length b),(1,ω (d:Int)),(6,ω (c:Int)),(7,ω (k:Int)),(5,.nilS)],[],.dead,[]⟩ (.normal) ⟨[(0,.sl (ai a) a.length b),(1,ω (d:Int)),(6,ω (γ .i64 (Xxl (γ .i64 ((γ .i64 ((Γ (θ (ε ((δ (k:Int))*1) (ai a)) .dead))*(d:Int)))+(c:Int))) ((16777216:Nat):Int)))),(7,ω (γ .i64 ((k:Int)+((1:Nat):Int)))),(5,.ref 0 0 0 1)],[(0,⟨[ω (Xxd (γ .i64 ((γ .i64 ((Γ (θ (ε ((δ (k:Int))*1) (ai a)) .dead))*(d:Int)))+(c:Int))) ((16777216:Nat):Int))],0,false,0,1,true⟩)],.dead,[]⟩:=pJ 188 [] 2 1 (.k 5 f (.c i (.c e (.c g .nil)))) (.nil) h
theorem aiE {nt:Nat} (f:35<=nt) (a o:List Nat) (e:Bool) (d c k:Nat) (b:lit false (decide ((k:Int)<(a.length:Int)))=true):ψ nt f188 ⟨[(0,.sl (ai a) a.length e),(1,ω (d:Int)),(6,ω (c:Int)),(7,ω (k:Int)),(5,.nilS)],[],.dead,[]⟩ (.exit 0) ⟨[(5,.nilS),(6,ω (c:Int))],[],.dead,[]⟩:=pJ 188 [] 1 0 (.c b .nil) (.nil) f
theorem adA (a o r:List Nat) (b:Bool) (d c:Nat) (f:aK prog ap [] 35 (.block 0 (.loop (af 0 (ah f188)))) ⟨[(0,.sl (ai a) a.length b),(1,ω (d:Int)),(4,.nilS),(5,.nilS),(6,ω 0),(7,ω 0),(8,.dead),(12,.dead)],[],.dead,[]⟩ (.normal) ⟨[(5,.nilS),(6,ω (c:Int))],[],.dead,[]⟩) (e:CO 185 [.sl [ω (c:Int)] 1 true] (.ret (.sl (ai r) r.length true))):CO 188 [.sl (ai a) a.length b,ω (d:Int)] (.ret (.sl (ai r) r.length true)):=pK [0] 1 0 (.n 3 .nil) (.c e (.l f .nil))
theorem aiB {nt:Nat} (j:35<=nt) (a o:List Nat) (b:Bool) (d c k:Nat) (f:(Φ (o.length+1) 1099511627776)=true) (l:(Φ (o.length*1) (ζ (ai o)))=true) (e:(chk (.int .i64) (θ (ε ((δ (k:Int))*1) (ai a)) .dead))=true) (h:(decide (((0:Nat):Int)<=(k:Int)))=true) (i:(decide ((k:Int)<(a.length:Int)))=true) (g:lit true (decide ((k:Int)<(a.length:Int)))=true):ψ nt f188 ⟨[(0,.sl (ai a) a.length b),(1,ω (d:Int)),(6,ω (c:Int)),(7,ω (k:Int)),(5,.ref 0 0 0 o.length)],[(0,⟨(ai o),0,false,0,1,true⟩)],.dead,[]⟩ (.normal) ⟨[(0,.sl (ai a) a.length b),(1,ω (d:Int)),(6,ω (γ .i64 (Xxl (γ .i64 ((γ .i64 ((Γ (θ (ε ((δ (k:Int))*1) (ai a)) .dead))*(d:Int)))+(c:Int))) ((16777216:Nat):Int)))),(7,ω (γ .i64 ((k:Int)+((1:Nat):Int)))),(5,.ref 0 0 0 (o.length+1))],[(0,⟨((κ (o.length*1) (ai o))++ [ω (Xxd (γ .i64 ((γ .i64 ((Γ (θ (ε ((δ (k:Int))*1) (ai a)) .dead))*(d:Int)))+(c:Int))) ((16777216:Nat):Int))]),0,false,0,1,true⟩)],.dead,[]⟩:=pJ 188 [] 1 1 (.k 2 f (.c l (.k 2 e (.c h (.c i (.c g .nil)))))) (.nil) j
theorem aiC {nt:Nat} (f:35<=nt) (a o:List Nat) (e:Bool) (d c k:Nat) (b:lit false (decide ((k:Int)<(a.length:Int)))=true):ψ nt f188 ⟨[(0,.sl (ai a) a.length e),(1,ω (d:Int)),(6,ω (c:Int)),(7,ω (k:Int)),(5,.ref 0 0 0 o.length)],[(0,⟨(ai o),0,false,0,1,true⟩)],.dead,[]⟩ (.exit 0) ⟨[(5,.ref 0 0 0 o.length),(6,ω (c:Int))],[(0,⟨(ai o),0,false,0,1,true⟩)],.dead,[]⟩:=pJ 188 [] 1 0 (.c b .nil) (.nil) f
theorem adz (a o r:List Nat) (b:Bool) (d c:Nat) (e:(Φ (o.length+1) 1099511627776)=true) (g:(Φ (o.length*1) (ζ (ai o)))=true) (h:aK prog ap [] 35 (.block 0 (.loop (af 0 (ah f188)))) ⟨[(0,.sl (ai a) a.length b),(1,ω (d:Int)),(4,.nilS),(5,.nilS),(6,ω 0),(7,ω 0),(8,.dead),(12,.dead)],[],.dead,[]⟩ (.normal) ⟨[(5,.ref 0 0 0 o.length),(6,ω (c:Int))],[(0,⟨(ai o),0,false,0,1,true⟩)],.dead,[]⟩) (f:CO 185 [.sl (κ ((o.length+1)*1) ((κ (o.length*1) (ai o))++ [ω (c:Int)])) (o.length+1) true] (.ret (.sl (ai r) r.length true))):CO 188 [.sl (ai a) a.length b,ω (d:Int)] (.ret (.sl (ai r) r.length true)):=pK [0] 0 0 (.k 1 e (.c g (.n 1 .nil))) (.c f (.l h .nil))
theorem ah7 {nt:Nat} (n:41<=nt) (a b o:List Nat) (e f:Bool) (c k:Nat) (h:lit true (decide ((γ .i64 ((γ .i64 ((Γ (θ (ε ((δ (k:Int))*1) (ai a)) .dead)) - (c:Int))) - (Γ (θ (ε ((δ (k:Int))*1) (ai b)) .dead))))<((0:Nat):Int)))=true) (p:(chk (.int .i64) (θ (ε ((δ (k:Int))*1) (ai b)) .dead))=true) (d:(decide (((0:Nat):Int)<=(k:Int)))=true) (l:(decide ((k:Int)<(b.length:Int)))=true) (m:lit true (decide ((k:Int)<(b.length:Int)))=true) (i:(chk (.int .i64) (θ (ε ((δ (k:Int))*1) (ai a)) .dead))=true) (g:(decide ((k:Int)<(a.length:Int)))=true) (j:lit true (decide ((k:Int)<(a.length:Int)))=true):ψ nt f151 ⟨[(0,.sl (ai a) a.length e),(1,.sl (ai b) b.length f),(6,ω (c:Int)),(7,ω (k:Int)),(5,.nilS)],[],.dead,[]⟩ (.normal) ⟨[(0,.sl (ai a) a.length e),(1,.sl (ai b) b.length f),(6,ω 1),(7,ω (γ .i64 ((k:Int)+((1:Nat):Int)))),(5,.ref 0 0 0 1)],[(0,⟨[ω (γ .i64 ((γ .i64 ((γ .i64 ((Γ (θ (ε ((δ (k:Int))*1) (ai a)) .dead)) - (c:Int))) - (Γ (θ (ε ((δ (k:Int))*1) (ai b)) .dead))))+((16777216:Nat):Int)))],0,false,0,1,true⟩)],.dead,[]⟩:=pJ 151 [] 4 7 (.k 3 h (.c p (.c d (.c l (.c m (.c i (.c d (.c g (.c j .nil))))))))) (.nil) n
theorem ah8 {nt:Nat} (n:41<=nt) (a b o:List Nat) (e f:Bool) (c k:Nat) (h:lit false (decide ((γ .i64 ((γ .i64 ((Γ (θ (ε ((δ (k:Int))*1) (ai a)) .dead)) - (c:Int))) - (Γ (θ (ε ((δ (k:Int))*1) (ai b)) .dead))))<((0:Nat):Int)))=true) (p:(chk (.int .i64) (θ (ε ((δ (k:Int))*1) (ai b)) .dead))=true) (d:(decide (((0:Nat):Int)<=(k:Int)))=true) (l:(decide ((k:Int)<(b.length:Int)))=true) (m:lit true (decide ((k:Int)<(b.length:Int)))=true) (i:(chk (.int .i64) (θ (ε ((δ (k:Int))*1) (ai a)) .dead))=true) (g:(decide ((k:Int)<(a.length:Int)))=true) (j:lit true (decide ((k:Int)<(a.length:Int)))=true):ψ nt f151 ⟨[(0,.sl (ai a) a.length e),(1,.sl (ai b) b.length f),(6,ω (c:Int)),(7,ω (k:Int)),(5,.nilS)],[],.dead,[]⟩ (.normal) ⟨[(0,.sl (ai a) a.length e),(1,.sl (ai b) b.length f),(6,ω 0),(7,ω (γ .i64 ((k:Int)+((1:Nat):Int)))),(5,.ref 0 0 0 1)],[(0,⟨[ω (γ .i64 ((γ .i64 ((Γ (θ (ε ((δ (k:Int))*1) (ai a)) .dead)) - (c:Int))) - (Γ (θ (ε ((δ (k:Int))*1) (ai b)) .dead))))],0,false,0,1,true⟩)],.dead,[]⟩:=pJ 151 [] 4 3 (.k 3 h (.c p (.c d (.c l (.c m (.c i (.c d (.c g (.c j .nil))))))))) (.nil) n
theorem ah9 {nt:Nat} (l:41<=nt) (a b o:List Nat) (d e:Bool) (c k:Nat) (g:lit true (decide ((γ .i64 ((Γ (θ (ε ((δ (k:Int))*1) (ai a)) .dead)) - (c:Int)))<((0:Nat):Int)))=true) (m:lit false (decide ((k:Int)<(b.length:Int)))=true) (f:(chk (.int .i64) (θ (ε ((δ (k:Int))*1) (ai a)) .dead))=true) (i:(decide (((0:Nat):Int)<=(k:Int)))=true) (j:(decide ((k:Int)<(a.length:Int)))=true) (h:lit true (decide ((k:Int)<(a.length:Int)))=true):ψ nt f151 ⟨[(0,.sl (ai a) a.length d),(1,.sl (ai b) b.length e),(6,ω (c:Int)),(7,ω (k:Int)),(5,.nilS)],[],.dead,[]⟩ (.normal) ⟨[(0,.sl (ai a) a.length d),(1,.sl (ai b) b.length e),(6,ω 1),(7,ω (γ .i64 ((k:Int)+((1:Nat):Int)))),(5,.ref 0 0 0 1)],[(0,⟨[ω (γ .i64 ((γ .i64 ((Γ (θ (ε ((δ (k:Int))*1) (ai a)) .dead)) - (c:Int)))+((16777216:Nat):Int)))],0,false,0,1,true⟩)],.dead,[]⟩:=pJ 151 [] 4 5 (.k 3 g (.c m (.c f (.c i (.c j (.c h .nil)))))) (.nil) l
theorem ah_ {nt:Nat} (l:41<=nt) (a b o:List Nat) (d e:Bool) (c k:Nat) (g:lit false (decide ((γ .i64 ((Γ (θ (ε ((δ (k:Int))*1) (ai a)) .dead)) - (c:Int)))<((0:Nat):Int)))=true) (m:lit false (decide ((k:Int)<(b.length:Int)))=true) (f:(chk (.int .i64) (θ (ε ((δ (k:Int))*1) (ai a)) .dead))=true) (i:(decide (((0:Nat):Int)<=(k:Int)))=true) (j:(decide ((k:Int)<(a.length:Int)))=true) (h:lit true (decide ((k:Int)<(a.length:Int)))=true):ψ nt f151 ⟨[(0,.sl (ai a) a.length d),(1,.sl (ai b) b.length e),(6,ω (c:Int)),(7,ω (k:Int)),(5,.nilS)],[],.dead,[]⟩ (.normal) ⟨[(0,.sl (ai a) a.length d),(1,.sl (ai b) b.length e),(6,ω 0),(7,ω (γ .i64 ((k:Int)+((1:Nat):Int)))),(5,.ref 0 0 0 1)],[(0,⟨[ω (γ .i64 ((Γ (θ (ε ((δ (k:Int))*1) (ai a)) .dead)) - (c:Int)))],0,false,0,1,true⟩)],.dead,[]⟩:=pJ 151 [] 4 1 (.k 3 g (.c m (.c f (.c i (.c j (.c h .nil)))))) (.nil) l
theorem aia {nt:Nat} (f:41<=nt) (a b o:List Nat) (e g:Bool) (c k:Nat) (d:lit false (decide ((k:Int)<(a.length:Int)))=true):ψ nt f151 ⟨[(0,.sl (ai a) a.length e),(1,.sl (ai b) b.length g),(6,ω (c:Int)),(7,ω (k:Int)),(5,.nilS)],[],.dead,[]⟩ (.exit 0) ⟨[(5,.nilS)],[],.dead,[]⟩:=pJ 151 [] 1 0 (.c d .nil) (.nil) f
theorem adg (a b o r:List Nat) (c d:Bool) (f:aK prog ap [] 41 (.block 0 (.loop (af 0 (ah f151)))) ⟨[(0,.sl (ai a) a.length c),(1,.sl (ai b) b.length d),(4,.nilS),(5,.nilS),(6,ω 0),(7,ω 0),(8,.dead),(12,.dead),(24,.dead),(32,.dead)],[],.dead,[]⟩ (.normal) ⟨[(5,.nilS)],[],.dead,[]⟩) (e:CO 185 [.nilS] (.ret (.sl (ai r) r.length false))):CO 151 [.sl (ai a) a.length c,.sl (ai b) b.length d] (.ret (.sl (ai r) r.length false)):=pK [0] 0 0 .nil (.c e (.l f .nil))
theorem ah2 {nt:Nat} (r:41<=nt) (a b o:List Nat) (f e:Bool) (c k:Nat) (h:(Φ (o.length+1) 1099511627776)=true) (j:(Φ (o.length*1) (ζ (ai o)))=true) (g:lit true (decide ((γ .i64 ((γ .i64 ((Γ (θ (ε ((δ (k:Int))*1) (ai a)) .dead)) - (c:Int))) - (Γ (θ (ε ((δ (k:Int))*1) (ai b)) .dead))))<((0:Nat):Int)))=true) (i:(chk (.int .i64) (θ (ε ((δ (k:Int))*1) (ai b)) .dead))=true) (d:(decide (((0:Nat):Int)<=(k:Int)))=true) (n:(decide ((k:Int)<(b.length:Int)))=true) (m:lit true (decide ((k:Int)<(b.length:Int)))=true) (p:(chk (.int .i64) (θ (ε ((δ (k:Int))*1) (ai a)) .dead))=true) (l:(decide ((k:Int)<(a.length:Int)))=true) (q:lit true (decide ((k:Int)<(a.length:Int)))=true):ψ nt f151 ⟨[(0,.sl (ai a) a.length f),(1,.sl (ai b) b.length e),(6,ω (c:Int)),(7,ω (k:Int)),(5,.ref 0 0 0 o.length)],[(0,⟨(ai o),0,false,0,1,true⟩)],.dead,[]⟩ (.normal) ⟨[(0,.sl (ai a) a.length f),(1,.sl (ai b) b.length e),(6,ω 1),(7,ω (γ .i64 ((k:Int)+((1:Nat):Int)))),(5,.ref 0 0 0 (o.length+1))],[(0,⟨((κ (o.length*1) (ai o))++ [ω (γ .i64 ((γ .i64 ((γ .i64 ((Γ (θ (ε ((δ (k:Int))*1) (ai a)) .dead)) - (c:Int))) - (Γ (θ (ε ((δ (k:Int))*1) (ai b)) .dead))))+((16777216:Nat):Int)))]),0,false,0,1,true⟩)],.dead,[]⟩:=pJ 151 [] 3 7 (.k 1 h (.c j (.k 1 g (.c i (.c d (.c n (.c m (.c p (.c d (.c l (.c q .nil))))))))))) (.nil) r
theorem ah3 {nt:Nat} (r:41<=nt) (a b o:List Nat) (f e:Bool) (c k:Nat) (h:(Φ (o.length+1) 1099511627776)=true) (j:(Φ (o.length*1) (ζ (ai o)))=true) (g:lit false (decide ((γ .i64 ((γ .i64 ((Γ (θ (ε ((δ (k:Int))*1) (ai a)) .dead)) - (c:Int))) - (Γ (θ (ε ((δ (k:Int))*1) (ai b)) .dead))))<((0:Nat):Int)))=true) (i:(chk (.int .i64) (θ (ε ((δ (k:Int))*1) (ai b)) .dead))=true) (d:(decide (((0:Nat):Int)<=(k:Int)))=true) (n:(decide ((k:Int)<(b.length:Int)))=true) (m:lit true (decide ((k:Int)<(b.length:Int)))=true) (p:(chk (.int .i64) (θ (ε ((δ (k:Int))*1) (ai a)) .dead))=true) (l:(decide ((k:Int)<(a.length:Int)))=true) (q:lit true (decide ((k:Int)<(a.length:Int)))=true):ψ nt f151 ⟨[(0,.sl (ai a) a.length f),(1,.sl (ai b) b.length e),(6,ω (c:Int)),(7,ω (k:Int)),(5,.ref 0 0 0 o.length)],[(0,⟨(ai o),0,false,0,1,true⟩)],.dead,[]⟩ (.normal) ⟨[(0,.sl (ai a) a.length f),(1,.sl (ai b) b.length e),(6,ω 0),(7,ω (γ .i64 ((k:Int)+((1:Nat):Int)))),(5,.ref 0 0 0 (o.length+1))],[(0,⟨((κ (o.length*1) (ai o))++ [ω (γ .i64 ((γ .i64 ((Γ (θ (ε ((δ (k:Int))*1) (ai a)) .dead)) - (c:Int))) - (Γ (θ (ε ((δ (k:Int))*1) (ai b)) .dead))))]),0,false,0,1,true⟩)],.dead,[]⟩:=pJ 151 [] 3 3 (.k 1 h (.c j (.k 1 g (.c i (.c d (.c n (.c m (.c p (.c d (.c l (.c q .nil))))))))))) (.nil) r
theorem ah4 {nt:Nat} (n:41<=nt) (a b o:List Nat) (d e:Bool) (c k:Nat) (h:(Φ (o.length+1) 1099511627776)=true) (p:(Φ (o.length*1) (ζ (ai o)))=true) (f:lit true (decide ((γ .i64 ((Γ (θ (ε ((δ (k:Int))*1) (ai a)) .dead)) - (c:Int)))<((0:Nat):Int)))=true) (l:lit false (decide ((k:Int)<(b.length:Int)))=true) (m:(chk (.int .i64) (θ (ε ((δ (k:Int))*1) (ai a)) .dead))=true) (i:(decide (((0:Nat):Int)<=(k:Int)))=true) (g:(decide ((k:Int)<(a.length:Int)))=true) (j:lit true (decide ((k:Int)<(a.length:Int)))=true):ψ nt f151 ⟨[(0,.sl (ai a) a.length d),(1,.sl (ai b) b.length e),(6,ω (c:Int)),(7,ω (k:Int)),(5,.ref 0 0 0 o.length)],[(0,⟨(ai o),0,false,0,1,true⟩)],.dead,[]⟩ (.normal) ⟨[(0,.sl (ai a) a.length d),(1,.sl (ai b) b.length e),(6,ω 1),(7,ω (γ .i64 ((k:Int)+((1:Nat):Int)))),(5,.ref 0 0 0 (o.length+1))],[(0,⟨((κ (o.length*1) (ai o))++ [ω (γ .i64 ((γ .i64 ((Γ (θ (ε ((δ (k:Int))*1) (ai a)) .dead)) - (c:Int)))+((16777216:Nat):Int)))]),0,false,0,1,true⟩)],.dead,[]⟩:=pJ 151 [] 3 5 (.k 1 h (.c p (.k 1 f (.c l (.c m (.c i (.c g (.c j .nil)))))))) (.nil) n
theorem ah5 {nt:Nat} (n:41<=nt) (a b o:List Nat) (d e:Bool) (c k:Nat) (h:(Φ (o.length+1) 1099511627776)=true) (p:(Φ (o.length*1) (ζ (ai o)))=true) (f:lit false (decide ((γ .i64 ((Γ (θ (ε ((δ (k:Int))*1) (ai a)) .dead)) - (c:Int)))<((0:Nat):Int)))=true) (l:lit false (decide ((k:Int)<(b.length:Int)))=true) (m:(chk (.int .i64) (θ (ε ((δ (k:Int))*1) (ai a)) .dead))=true) (i:(decide (((0:Nat):Int)<=(k:Int)))=true) (g:(decide ((k:Int)<(a.length:Int)))=true) (j:lit true (decide ((k:Int)<(a.length:Int)))=true):ψ nt f151 ⟨[(0,.sl (ai a) a.length d),(1,.sl (ai b) b.length e),(6,ω (c:Int)),(7,ω (k:Int)),(5,.ref 0 0 0 o.length)],[(0,⟨(ai o),0,false,0,1,true⟩)],.dead,[]⟩ (.normal) ⟨[(0,.sl (ai a) a.length d),(1,.sl (ai b) b.length e),(6,ω 0),(7,ω (γ .i64 ((k:Int)+((1:Nat):Int)))),(5,.ref 0 0 0 (o.length+1))],[(0,⟨((κ (o.length*1) (ai o))++ [ω (γ .i64 ((Γ (θ (ε ((δ (k:Int))*1) (ai a)) .dead)) - (c:Int)))]),0,false,0,1,true⟩)],.dead,[]⟩:=pJ 151 [] 3 1 (.k 1 h (.c p (.k 1 f (.c l (.c m (.c i (.c g (.c j .nil)))))))) (.nil) n
theorem ah6 {nt:Nat} (f:41<=nt) (a b o:List Nat) (e g:Bool) (c k:Nat) (d:lit false (decide ((k:Int)<(a.length:Int)))=true):ψ nt f151 ⟨[(0,.sl (ai a) a.length e),(1,.sl (ai b) b.length g),(6,ω (c:Int)),(7,ω (k:Int)),(5,.ref 0 0 0 o.length)],[(0,⟨(ai o),0,false,0,1,true⟩)],.dead,[]⟩ (.exit 0) ⟨[(5,.ref 0 0 0 o.length)],[(0,⟨(ai o),0,false,0,1,true⟩)],.dead,[]⟩:=pJ 151 [] 1 0 (.c d .nil) (.nil) f
theorem adf (a b o r:List Nat) (c d:Bool) (f:aK prog ap [] 41 (.block 0 (.loop (af 0 (ah f151)))) ⟨[(0,.sl (ai a) a.length c),(1,.sl (ai b) b.length d),(4,.nilS),(5,.nilS),(6,ω 0),(7,ω 0),(8,.dead),(12,.dead),(24,.dead),(32,.dead)],[],.dead,[]⟩ (.normal) ⟨[(5,.ref 0 0 0 o.length)],[(0,⟨(ai o),0,false,0,1,true⟩)],.dead,[]⟩) (e:CO 185 [.sl (κ (o.length*1) (ai o)) o.length true] (.ret (.sl (ai r) r.length false))):CO 151 [.sl (ai a) a.length c,.sl (ai b) b.length d] (.ret (.sl (ai r) r.length false)):=pK [0] 0 0 .nil (.c e (.l f .nil))
def nz:List UInt8->Nat
 | []=>0
 |c::r=>if c=0 then nz r+1 else 0
theorem aa3 (s:List UInt8):s.drop (nz s)=s.dropWhile (· ==0):=by
 induction s with
 |nil=>rfl
 |cons c r ih=>
  simp only [nz,Xx8];by_cases h:c=0
  .subst h;simpa using ih
  .simp [h]
theorem alT (s:List UInt8):nz s<=s.length:=by
 induction s with
 |nil=>exact χ _
 |cons c r ih=>simp only [nz,ν];split<;>omega
def aeH (s:List UInt8) (k:Nat):St:=⟨[(0,.str s),(3,ω (k:Int))],[],.dead,[]⟩
theorem TU {p r:List UInt8} {c:UInt8} {k:Nat} (h:k=p.length):(p++c::r).getD k 0=c:=by subst h;simp
theorem aeu (c:UInt8):(c.toNat=0)=(c=0):=by
 apply propext;constructor
 .intro h;apply UInt8.toNat_inj.1;simpa using h
 .intro h;subst h;rfl
theorem WM {nt:Nat} (b:19<=nt) (s:List UInt8) (hs:s.length<2^40):∀ (r p:List UInt8),p++r=s->az prog ap [] nt (af 0 (ah f133)) (λ_=> .exit 0) (aeH s) (aeH s) p.length (p.length+nz r):=by
 intro r
 induction r with
 |nil=>
  intro p h;have hp:p.length=s.length:=by rw [<- h];simp
  refine .done (ajN b s p.length ?_);rw [hp,aZ];simp [lit]
 | cons c r ih=>
  intro p h;have f:p.length+(r.length+1)=s.length:=by rw [<- h];simp
  have e:s.getD p.length 0=c:=by rw [<- h];exact TU rfl
  by_cases hc:c=0
  .have hnext:=ih (p++ [c]) (by simp [h]);rw [η,τ] at hnext;simp only [nz,if_pos hc];rw [show p.length+(nz r+1)=p.length+1+nz r by omega];refine .next ?_ hnext
   have a:=ajL b s p.length;have d:c.toNat=0:=by subst hc;rfl
   simp (disch:=first|omega|(simp [au,ay]<;>omega)) only [aC,e,d,jY,decide_true,bD,dG,bi,aZ,bQ,aS] at a;apply a<;>first|exact True.intro|omega|assumption|exact rfl
  .simp only [nz,if_neg hc,Xq1];refine .done ?_;have a:=ajM b s p.length;have d:¬ c.toNat=0:=by rw [aeu];exact hc
   simp (disch:=first|omega|(simp [au,ay]<;>omega)) only [aC,e,jY,dP,dY,fA,dG,bi,aZ,bD] at a;apply a<;>first|exact True.intro|omega|assumption|exact rfl
theorem iy (s:List UInt8) (hs:s.length<2^40):CO 133 [.str s] (.ret (.str (ae (ag s)))):=by
 have b:=alT s;have h:=afT s (nz s);simp (disch:=first|omega|(simp [au,ay]<;>omega)) only [dG,bi,aC,Xqz,aa3] at h;rw [Gi];apply h<;>first|exact True.intro|omega|assumption|exact rfl|skip
 .refine az.blk (λnt a=>WM a s hs s [] rfl) (by simp) rfl (aN.of ⟨rfl,rfl,trivial⟩) ?_;rw [Xqf,Ψ];exact aN.refl _
theorem QQ (l:List Nat) (d:Nat):κ l.length (ai (l++ [d]))=ai l:=by
 rw [dA];simp
theorem E5 (l:List Nat) (d:Nat):θ (ε l.length (ai (l++ [d]))) .dead= ω (d:Int):=by
 rw [fP (by simp)];simp
def TG (nn:Bool) (l:List Nat):St:=⟨[(0,.sl (ai l) l.length nn)],[],.dead,[]⟩
theorem Zq {nt:Nat} (f:21<=nt) (nn:Bool):∀ (k:Nat) (l:List Nat),l.length=k->k<2^40->az prog ap [] nt (af 0 (ah f185)) (λ_=> .exit 0) (TG nn) (TG nn) l (fE l):=by
 intro k
 induction k with
 |zero=>
  intro l b _;have:l= []:=Xxz b;subst this;exact .done (an4 f [] nn rfl)
 | succ k ih=>
  intro l b h;rcases Xzz l with rfl|⟨a,d,rfl⟩
  .simp at b
  .rw [Xz0] at b ⊢;have e:a.length=k:=by simpa using b
   have g:a.length+1 - 1=a.length:=by omega
   rw [qc];by_cases hd:d=0
   .rw [if_pos hd];refine .next ?_ (ih a e (by omega))
    have c:=an2 f (a++ [d]) nn;simp (disch:=first|omega|(simp [au,ay]<;>omega)) only [η,ν,Xqf,Ψ,kH,g,dG,bi,aC,Θ,E5,bf,jY,bD,eF,aZ,QQ,Xjq] at c;simp only [TG,η,τ];apply c<;>first|exact True.intro|omega|assumption|exact rfl
   .rw [if_neg hd];refine .done ?_;have c:=an3 f (a++ [d]) nn;simp (disch:=first|omega|(simp [au,ay]<;>omega)) only [η,ν,Xqf,Ψ,kH,g,aC,Θ,E5,bf,jY,dP,dY,fA,eF,dG,bi,aZ,bD] at c;simp only [TG,η,τ];apply c<;>first|exact True.intro|omega|assumption|exact rfl
theorem Am (l:List Nat) (nn:Bool) (a:l.length<2^40):CO 185 [.sl (ai l) l.length nn] (.ret (.sl (ai (fE l)) (fE l).length nn)):=
 aiG l (fE l) nn (az.blk (λnt b=>Zq b nn _ l rfl a) (by simp) rfl (aN.of ⟨rfl,trivial⟩) (aN.of ⟨rfl,trivial⟩))
end Go.Proofs.Tryz
