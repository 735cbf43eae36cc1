/- Contracts of functions that the law reaches, each by its own hypotheses; joined by a program of mine. -/
import Derived.Test.YtdmfgmmooalfnaaGreatDoorAp
import Derived.Test.YtdmfgmmooalfnaaGreatDoorChecked
import Derived.Eval
import Derived.Test.YtdmfgmmooalfnaaGreatDoorM5
set_option linter.unusedSimpArgs false
set_option linter.unusedVariables false
open Go AM
open List renaming range→Xq9,headD→ζ,drop→ε,take→ν,reverse_cons→Xz7,reverse_nil→Xw1,nil_append→Xqi,singleton_append→Xqu,dropWhile_cons→Xja,take_append_of_le_length→Xxn,take_of_length_le→υ,getD_eq_getElem?_getD→κ,getElem?_append_right→Xq2,eq_nil_of_length_eq_zero→Xxo,eq_nil_or_concat→Xzz,concat_eq_append→Xz0,length→θ,getD→Xjf,foldl_cons→Xjt,length_cons→ξ,ext_getElem?→Xj1,getElem?_set→Xzp,getElem?_eq_none→Xq7,length_set→Yqj,drop_eq_getElem_cons→Xxf,length_drop→Xxk,getElem?_eq_getElem→π,map_take→Xwl,map_drop→Xju,set_eq_take_append_cons_drop→Xjg,getElem?_map→Xq6,range_succ→Xwm,map_append→Xxx,replicate_succ'→Xj8,flatten_append→Xwf,getElem?_append_left→Xxb,length_append→η,length_reverse→Xzs,dropWhile_sublist→Xzv,take_length→Xq1,map_congr_left→Xjb,map→Xw6,map_map→Xz2,all→Xzx,range_succ_eq_map→Xwq,map_cons→Xqb,mem_cons_self→Xjv,mem_cons_of_mem→Xje,mem_of_mem_take→Xxz,replicate→μ,cons_append→Xxd,length_take→Xxa,length_nil→Xqa,append_assoc→τ,length_replicate→Xx9,append_nil→Γ,headD_cons→Xjl,headD_nil→Xwy,take_succ_cons→Xx6,drop_zero→Xjr,drop_succ_cons→Xwg,replicate_succ→Xxh,set_append_right→Xv9,length_tail→Xv3,length_singleton→φ,tail_cons→Xzn,tail_nil→Xvw,length_map→Xjm,dropWhile→Yqx
open IntKind renaming wrap→γ,bits→Xqh
open AV renaming toInt→χ,int→Xx0
open Int renaming toNat→δ,tmod→Xxj,tmod_lt_of_pos→Xwk,toNat_of_nonneg→Xw8,tdiv→Xxm,tdiv_eq_ediv_of_nonneg→Xz8,tmod_eq_emod_of_nonneg→Xvh,fdiv→Xq4,fdiv_eq_ediv_of_nonneg→Xz9,natCast_nonneg→Xkt,natCast_ediv→Yqc,natCast_mul→Xw9
open Nat renaming mul_one→Ξ,le_refl→Δ,sub_self→Xj4,sub_zero→Xzd,ble→Xqc,pow_succ→Xq5,mul_comm→Xqe,mul_assoc→Xqs,add_mul→Xxw,zero_mul→Xvj,zero_add→Xqd,mul_le_mul_right→Xqy,pow_add→Xxp,add_comm→Xx3,add_mul_div_right→Xz1,two_pow_pos→Xqv,div_lt_iff_lt_mul→Xqx,pow_le_pow_right→Ψ,mod_eq_of_lt→Θ,div_eq_of_lt→Xjc,add_mul_mod_self_right→Xvg,shiftLeft_add_eq_or_of_lt→Xw2,shiftLeft_eq→Yqb,or_comm→Yql,pow_mul→Xji,lt_of_le_of_lt→Xqk,ble_eq_true_of_le→Xql,lt_of_lt_of_le→Φ,le_total→Yxl,mod_one→Yqm,mod_lt→Xq3,one_mul→Xzt,div_div_eq_div_mul→Xx7,zero_le→Xx1,beq→Xqn,beq_refl→Xvk,div_add_mod→Xxg,min_eq_left→Xjd,mul_add→Xxe,pow_pos→Yqn,mul_zero→Xjk,pow_zero→Xvl,div_one→Xwr,succ_eq_add_one→Xkp,add_zero→Xq8,mul_le_mul_left→Xq0,le_trans→Xxr,mul_mod_mul_left→Xw5,mul_lt_mul_of_pos_left→Xzj,add_mul_mod_self_left→Xzm,add_mul_div_left→Xwa,div_le_self→Xjw,log2→Yja,log2_eq_iff→Yqp,add_assoc→Xxy,div_pos→Xva,eq_zero_or_pos→Xqg,le_div_iff_mul_le→Xzk,add_sub_cancel→Xvm,lt_or_ge→Xxc,mul_pos→Xjx,lt_of_mul_lt_mul_right→Xvi,lt_trans→Xqz,le_of_lt→Xw0,mul_div_mul_left→Xki,gcd→Xx2,gcd_comm→Xka,gcd_zero_left→Xwu,gcd_le_left→Xvb,gcd_pos_of_pos_right→Xj6,ble_eq→Xzq,strongRecOn→Xkb
open BitVec renaming toNat→Xxq,ofInt→Xqj,ofInt_natCast→Xkg,toNat_ofNat→Xks,toNat_or→Yqk
open UInt8 renaming toNat→Xxs,ofNat→Xqo
open Bool renaming false_and→Xqm,false_eq_true→Xx4,not_eq_true'→Xqw,eq_iff_iff→Xx5,and_eq_true→ο,eq_false_iff→Xvr
open Function renaming comp→Xvu
namespace Go.Proofs.Tryz
abbrev ψ (n:Nat) (f:Func):=au prog ap [] n (af 0 (ai f))
theorem ah3:(Xq9 ap.nty).map ap.ty.get=(Xq9 ap.nty).map (Zx prog):=by kernel_rfl
noncomputable def ah1 (i:Nat):Bool:=match ap.fn.get i with|some _=>true|_=>false
theorem ah2:(Xq9 ap.nfn).map (fun i=>(ap.fn.get i).map AF.fn)=(Xq9 ap.nfn).map fun i=>match ah1 i with|true=>prog.funcs[i]? |false=>none:=by kernel_rfl
theorem aab:(Xq9 ap.nfn).all (fun i=>EQ (ap.fn.get i))=true:=by kernel_rfl
theorem ank:iU prog ap:=aae ah3
theorem anK:KN prog ap:=abj ah2 aab
theorem mixed:prog.follows .mixedOrders=true:=Tryz.checked.mixed
end Go.Proofs.Tryz
namespace Go.Proofs.Tryz
open Go AM
theorem vH:Ef prog ap:=⟨ank,mixed,anK⟩
abbrev CO (f:Nat) (args:List AV) (out:kG):Prop:=aG prog ap f args [] out []
theorem cK {ans:List (kG × List bg)} {ps:List Prop} {f:Nat} {args:List AV} {h a:List bg} {out:kG} (hp:PS prog ap ps ans [] [])
  (he:uX ap (yu prog ap 3000 4) 3000 .dead f args h ⟨true,[],[],[],ans,[]⟩= .ok (out,a,.dead) ⟨true,[],[],ps,[],[]⟩:=by kernel_rfl):aG prog ap f args h out a:=ck vH hp he
theorem pK (ls:List Nat) (n k:Nat) {ans:List (kG × List bg)} {lps:yE} {hs:List wZ} {bs:List Bool} {ps:List Prop} {f:Nat} {args:List AV} {h a:List bg} {out:kG} (b:jw bs) (hp:PS prog ap ps ans lps hs)
  (he:Lc prog ap (yu prog ap 3000 4) 3000 ls f args h lps ⟨false,yL n k,[],[],ans,hs⟩= .ok (out,a,.dead) ⟨false,[],bs,ps,[],[]⟩:=by kernel_rfl):aG prog ap f args h out a:=pk vH ls n k b hp he
theorem pJ (f:Nat) (ls:List Nat) (n k:Nat) {nt b:Nat} {ans:List (kG × List bg)} {lps:yE} {hs:List wZ} {bs:List Bool} {ps:List Prop} {a:Code} {s s':St} {c:List bg} {e:bM} (g:jw bs) (hp:PS prog ap ps ans lps hs) (d:b≤nt)
  (he:PP prog ap c f b ls a s lps (yL n k) ans hs s'.env= .ok ((e,s'),[]) ⟨false,[],bs,ps,[],[]⟩:=by kernel_rfl):au prog ap c nt a s e s':=pj vH f ls n k g hp d he
theorem pN (f:Nat) (ls:List Nat) (n k:Nat) {nt b:Nat} {ans:List (kG × List bg)} {lps:yE} {hs:List wZ} {bs:List Bool} {ps:List Prop} {a:Code} {s s':St} {c:List bg} {e:bM} (g:jw bs) (hp:PS prog ap ps ans lps hs) (d:b≤nt)
  (he:PO prog ap c f b ls a s lps (yL n k) ans hs s'.env= .ok ((e,s'),[]) ⟨false,[],bs,ps,[],[]⟩:=by kernel_rfl):au prog ap c nt a s e s':=pn vH f ls n k g hp d he
end Go.Proofs.Tryz
set_option maxRecDepth 100000
open Go AM
namespace Go.Proofs.Tryz
theorem NW {nt:Nat} (g:21≤nt) (xs:List AV) (n:Nat) (nn:Bool) (a:(decide ((0:Int)≤(γ .i64 ((n:Int) - (1:Int)))))=true) (f:(decide ((γ .i64 ((n:Int) - (1:Int)))≤(n:Int)))=true) (c:lit true ((χ (ζ (ε ((δ (γ .i64 ((n:Int) - (1:Int))))*1) xs) .dead))==(0:Int))=true) (b:(chk (.int .u32) (ζ (ε ((δ (γ .i64 ((n:Int) - (1:Int))))*1) xs) .dead))=true) (d:(decide ((γ .i64 ((n:Int) - (1:Int)))<(n:Int)))=true) (e:lit true (decide ((0:Int)<(n:Int)))=true):ψ nt f162 ⟨[(0,.sl xs n nn)],[],.dead,[]⟩ (.normal) ⟨[(0,.sl (ν ((δ (γ .i64 ((n:Int) - (1:Int))))*1) xs) ((δ (γ .i64 ((n:Int) - (1:Int)))) - 0) nn)],[],.dead,[]⟩:=pJ 162 [] 2 3 (.k 1 a (.c f (.c c (.c b (.c a (.c d (.c e .nil))))))) (.nil) g
theorem NY {nt:Nat} (f:21≤nt) (xs:List AV) (n:Nat) (nn:Bool) (b:lit false ((χ (ζ (ε ((δ (γ .i64 ((n:Int) - (1:Int))))*1) xs) .dead))==(0:Int))=true) (e:(chk (.int .u32) (ζ (ε ((δ (γ .i64 ((n:Int) - (1:Int))))*1) xs) .dead))=true) (c:(decide ((0:Int)≤(γ .i64 ((n:Int) - (1:Int)))))=true) (a:(decide ((γ .i64 ((n:Int) - (1:Int)))<(n:Int)))=true) (d:lit true (decide ((0:Int)<(n:Int)))=true):ψ nt f162 ⟨[(0,.sl xs n nn)],[],.dead,[]⟩ (.exit 0) ⟨[(0,.sl xs n nn)],[],.dead,[]⟩:=pJ 162 [] 2 1 (.c b (.c e (.c c (.c a (.c d .nil))))) (.nil) f
theorem NZ {nt:Nat} (b:21≤nt) (xs:List AV) (n:Nat) (nn:Bool) (a:lit false (decide ((0:Int)<(n:Int)))=true):ψ nt f162 ⟨[(0,.sl xs n nn)],[],.dead,[]⟩ (.exit 0) ⟨[(0,.sl xs n nn)],[],.dead,[]⟩:=pJ 162 [] 2 0 (.k 1 a .nil) (.nil) b
theorem gK {x:Int} (h: -2^63≤x) (a:x<2^63):γ .i64 x=x:=by
 show (if (true && decide (x % 2^64≥2^63))=true then x % 2^64 - 2^64 else x % 2^64)=x;rw [Bool.true_and];by_cases hx:x % 2^64≥2^63
 ·rw [if_pos (by simpa using hx)];omega
 ·rw [if_neg (by simpa using hx)];omega
abbrev ci (n:Int):AV:= ω n
theorem agd (a n:Int) (c:lit true (decide ((Xxj a n)<(0:Int)))=true) (b:(!(n==(0:Int)))=true):CO 65 [ω a,ω n] (.ret (ω (γ .i64 ((Xxj a n)+n)))):=ul vH (lf:=3000) (n:=4) (ls:= []) (orc:= [true]) (ans:= []) (lps:= []) (.c c (.c b .nil):jw _) (.nil:qZ _) (by kernel_rfl)
theorem age (a n:Int) (c:lit false (decide ((Xxj a n)<(0:Int)))=true) (b:(!(n==(0:Int)))=true):CO 65 [ω a,ω n] (.ret (ω (Xxj a n))):=ul vH (lf:=3000) (n:=4) (ls:= []) (orc:= [false]) (ans:= []) (lps:= []) (.c c (.c b .nil):jw _) (.nil:qZ _) (by kernel_rfl)
theorem kk0:CO 63 [ω 1,ω 0] (.ret (.agg [.bool false,ω 1,ω 0])):=lQ vH (lf:=3000) (n:=4) (ans:= []) (.nil:qZ _) (by kernel_rfl)
theorem kk1:CO 63 [ω 0,ω 1] (.ret (.agg [.bool false,ω 0,ω 1])):=lQ vH (lf:=3000) (n:=4) (ans:= []) (.nil:qZ _) (by kernel_rfl)
theorem kk2:CO 63 [ω 0,ω 0] (.ret (.agg [.bool false,ω 0,ω 0])):=lQ vH (lf:=3000) (n:=4) (ans:= []) (.nil:qZ _) (by kernel_rfl)
theorem kk3:CO 64 [] (.ret (.agg [.bool true,ω 0,ω 0])):=lQ vH (lf:=3000) (n:=4) (ans:= []) (.nil:qZ _) (by kernel_rfl)
theorem kk4:CO 63 [ω 1,ω (-1)] (.ret (.agg [.bool false,ω 1,ω (-1)])):=lQ vH (lf:=3000) (n:=4) (ans:= []) (.nil:qZ _) (by kernel_rfl)
def HK0 (_q:Int):Prop:=True
theorem abw (q:Int) (_h:HK0 q) (a:CO 65 [ω q,ω 5] (.ret (ω 0))):CO 32 [ω q] (.ret (.agg [.bool false,ω 1,ω 0])):=ul vH (lf:=3000) (n:=4) (ls:= []) (orc:= []) (ans:= [(.ret (.agg [.bool false,ω 1,ω 0]),[]),(.ret (.agg [.bool false,ω 0,ω 1]),[]),(.ret (.agg [.bool false,ω 0,ω 0]),[]),(.ret (.agg [.bool true,ω 0,ω 0]),[]),(.ret (.agg [.bool false,ω 1,ω (-1)]),[]),(.ret (ω 0),[])]) (lps:= []) (.t (.t (.t (.t (.t (.t (.t (.t (.t .nil)))))))):jw _) (.cons a (.cons kk4 (.cons kk3 (.cons kk2 (.cons kk1 (.cons kk0 .nil))))):qZ _) (by kernel_rfl)
def HK1 (_q:Int):Prop:=True
theorem abx (q:Int) (_h:HK1 q) (a:CO 65 [ω q,ω 5] (.ret (ω 1))):CO 32 [ω q] (.ret (.agg [.bool false,ω 0,ω 1])):=ul vH (lf:=3000) (n:=4) (ls:= []) (orc:= []) (ans:= [(.ret (.agg [.bool false,ω 1,ω 0]),[]),(.ret (.agg [.bool false,ω 0,ω 1]),[]),(.ret (.agg [.bool false,ω 0,ω 0]),[]),(.ret (.agg [.bool true,ω 0,ω 0]),[]),(.ret (.agg [.bool false,ω 1,ω (-1)]),[]),(.ret (ω 1),[])]) (lps:= []) (.t (.t (.t (.t (.t (.t (.t (.t (.t .nil)))))))):jw _) (.cons a (.cons kk4 (.cons kk3 (.cons kk2 (.cons kk1 (.cons kk0 .nil))))):qZ _) (by kernel_rfl)
def HK2 (_q:Int):Prop:=True
theorem aby (q:Int) (_h:HK2 q) (a:CO 65 [ω q,ω 5] (.ret (ω 2))):CO 32 [ω q] (.ret (.agg [.bool false,ω 0,ω 0])):=ul vH (lf:=3000) (n:=4) (ls:= []) (orc:= []) (ans:= [(.ret (.agg [.bool false,ω 1,ω 0]),[]),(.ret (.agg [.bool false,ω 0,ω 1]),[]),(.ret (.agg [.bool false,ω 0,ω 0]),[]),(.ret (.agg [.bool true,ω 0,ω 0]),[]),(.ret (.agg [.bool false,ω 1,ω (-1)]),[]),(.ret (ω 2),[])]) (lps:= []) (.t (.t (.t (.t (.t (.t (.t (.t (.t .nil)))))))):jw _) (.cons a (.cons kk4 (.cons kk3 (.cons kk2 (.cons kk1 (.cons kk0 .nil))))):qZ _) (by kernel_rfl)
def HK3 (_q:Int):Prop:=True
theorem abz (q:Int) (_h:HK3 q) (a:CO 65 [ω q,ω 5] (.ret (ω 3))):CO 32 [ω q] (.ret (.agg [.bool true,ω 0,ω 0])):=ul vH (lf:=3000) (n:=4) (ls:= []) (orc:= []) (ans:= [(.ret (.agg [.bool false,ω 1,ω 0]),[]),(.ret (.agg [.bool false,ω 0,ω 1]),[]),(.ret (.agg [.bool false,ω 0,ω 0]),[]),(.ret (.agg [.bool true,ω 0,ω 0]),[]),(.ret (.agg [.bool false,ω 1,ω (-1)]),[]),(.ret (ω 3),[])]) (lps:= []) (.t (.t (.t (.t (.t (.t (.t (.t (.t .nil)))))))):jw _) (.cons a (.cons kk4 (.cons kk3 (.cons kk2 (.cons kk1 (.cons kk0 .nil))))):qZ _) (by kernel_rfl)
def HK4 (_q:Int):Prop:=True
theorem abA (q:Int) (_h:HK4 q) (a:CO 65 [ω q,ω 5] (.ret (ω 4))):CO 32 [ω q] (.ret (.agg [.bool false,ω 1,ω (-1)])):=ul vH (lf:=3000) (n:=4) (ls:= []) (orc:= []) (ans:= [(.ret (.agg [.bool false,ω 1,ω 0]),[]),(.ret (.agg [.bool false,ω 0,ω 1]),[]),(.ret (.agg [.bool false,ω 0,ω 0]),[]),(.ret (.agg [.bool true,ω 0,ω 0]),[]),(.ret (.agg [.bool false,ω 1,ω (-1)]),[]),(.ret (ω 4),[])]) (lps:= []) (.t (.t (.t (.t (.t (.t (.t (.t (.t .nil)))))))):jw _) (.cons a (.cons kk4 (.cons kk3 (.cons kk2 (.cons kk1 (.cons kk0 .nil))))):qZ _) (by kernel_rfl)
def af4:Nat→AV
 |0=> .agg [.bool false,.int .i64 1,.int .i64 0]
 |1=> .agg [.bool false,.int .i64 0,.int .i64 1]
 |2=> .agg [.bool false,.int .i64 0,.int .i64 0]
 |3=> .agg [.bool true,.int .i64 0,.int .i64 0]
 |_=> .agg [.bool false,.int .i64 1,.int .i64 (-1)]
theorem Yg (a:Int) (n:Nat) (g:0<n) (d:n<1000):∃ k:Nat,k<n∧CO 65 [ω a,ω n] (.ret (ω k)):=by
 have c:(!((n:Int)==(0:Int)))=true:=by
  simp;omega
 have f:=Xwk a (b:=(n:Int)) (by omega);have e: -(n:Int)<Xxj a n:=by
  have:=Xwk (-a) (b:=(n:Int)) (by omega);rw [Int.neg_tmod] at this;omega
 by_cases h:Xxj a n<0
 ·have hp:=agd a n (by simpa [lit] using h) c;rw [gK (by omega) (by omega)] at hp;refine ⟨(Xxj a n+n).toNat,by omega, ?_⟩;rw [Xw8 (by omega)];exact hp
 ·have hp:=age a n (by simpa [lit] using h) c;refine ⟨(Xxj a n).toNat,by omega, ?_⟩;rw [Xw8 (by omega)];exact hp
theorem abB (q:Int):∃ k:Nat,k<5∧CO 32 [ω q] (.ret (af4 k)):=by
 obtain ⟨k,b,a⟩:=Yg q 5 (by omega) (by omega);refine ⟨k,b, ?_⟩
 match k,b,a with
 |0,_,a=>exact abw q trivial a
 |1,_,a=>exact abx q trivial a
 |2,_,a=>exact aby q trivial a
 |3,_,a=>exact abz q trivial a
 |4,_,a=>exact abA q trivial a
def ak (l:List Nat):List AV:=l.map fun (d:Nat)=>Xx0 .u32 (d:Int)
theorem ay (l:List Nat):(ak l).length=l.length:=by simp [ak]
theorem C9 (l r:List Nat):ak (l++r)=ak l++ak r:=by simp [ak]
def eY (l:List Nat):List Nat:=(l.reverse.dropWhile (· ==0)).reverse
theorem pR (l:List Nat) (d:Nat):eY (l++ [d])=if d=0 then eY l else l++ [d]:=by
 unfold eY;rw [List.reverse_append];simp only [Xz7,Xw1,Xqi,Xqu,Xja];by_cases h:d=0
 ·subst h;simp
 ·simp [h]
theorem VE (l:List Nat) (d:Nat):ν (l.length*1) (ak (l++ [d]))=ak l:=by
 rw [C9,Ξ,Xxn (by rw [ay];exact Δ _),υ (by rw [ay];exact Δ _)]
theorem AL (l:List Nat) (d:Nat):ζ (ε (l.length*1) (ak (l++ [d]))) .dead= .int .u32 (d:Int):=by
 rw [oQ,C9,Ξ,κ,Xq2 (by rw [ay];exact Δ _),ay,Xj4];rfl
def ZC (nn:Bool) (l:List Nat):St:=⟨[(0,.sl (ak l) l.length nn)],[],.dead,[]⟩
theorem VM {nt:Nat} (h:21≤nt) (nn:Bool):∀ (k:Nat) (l:List Nat),l.length=k→k<2^40→aC prog ap [] nt (af 0 (ai f162)) (fun _=> .exit 0) (ZC nn) (ZC nn) l (eY l):=by
 intro k
 induction k with
 |zero=>
  intro l f _;have:l= []:=Xxo f;subst this;exact .done (NZ h (ak []) 0 nn (by rfl))
 | succ k ih=>
  intro l f p;rcases Xzz l with rfl|⟨a,d,rfl⟩
  ·simp at f
  ·rw [Xz0] at f ⊢;have e:a.length=k:=by simpa using f
   have b:(a++ [d]).length=k+1:=by simp [e]
   have g:γ .i64 ((((a++ [d]).length:Nat):Int) - 1)=(k:Int):=by
    rw [b,gK (by omega) (by omega)];omega
   have c:(δ (γ .i64 ((((a++ [d]).length:Nat):Int) - 1)))=a.length:=by rw [g];omega
   have m:decide ((0:Int)≤γ .i64 ((((a++ [d]).length:Nat):Int) - 1))=true:=by rw [g];simp
   have o:decide (γ .i64 ((((a++ [d]).length:Nat):Int) - 1)≤(((a++ [d]).length:Nat):Int))=true:=by rw [g,b];simp;omega
   have n:decide (γ .i64 ((((a++ [d]).length:Nat):Int) - 1)<(((a++ [d]).length:Nat):Int))=true:=by rw [g,b];simp;omega
   have i:lit true (decide ((0:Int)<(((a++ [d]).length:Nat):Int)))=true:=by rw [b];simp [lit]
   have j:chk (.int .u32) (ζ (ε (δ (γ .i64 ((((a++ [d]).length:Nat):Int) - 1))*1) (ak (a++ [d]))) .dead)=true:=by rw [c,AL];rfl
   rw [pR];by_cases hd:d=0
   ·rw [if_pos hd];refine .next ?_ (ih a e (by omega))
    have:=NW h (ak (a++ [d])) (a++ [d]).length nn m o (by rw [c,AL];subst hd;rfl) j n i;rw [c,VE,Xzd] at this;exact this
   ·rw [if_neg hd];refine .done (NY h (ak (a++ [d])) (a++ [d]).length nn (by rw [c,AL];simp [lit,χ,hd]) j m n i)
theorem Qo (l:List Nat) (nn:Bool) (b:l.length<2^40):CO 162 [.sl (ak l) l.length nn] (.ret (.sl (ak (eY l)) (eY l).length nn)):=pK [0] 0 0 .nil (.l (aC.blk (fun nt a=>VM a nn _ l rfl b) (by simp) rfl (aP.of ⟨rfl,trivial⟩) (aP.of ⟨rfl,trivial⟩):aN prog ap [] 21 (.block 0 (.loop (af 0 (ai f162)))) ⟨[(0,.sl (ak l) l.length nn),(2,.nilS),(14,.dead)],[],.dead,[]⟩ (.normal) ⟨[(0,.sl (ak (eY l)) (eY l).length nn)],[],.dead,[]⟩) .nil)
theorem U8 {nt:Nat} (j:38≤nt) (s:List UInt8) (a:List AV) (L:Nat) (n k:Int) (f:(Xqc (((0+(δ (γ .i64 (Xxm k (4:Int)))))*1)+1) (θ a))=true) (c:(decide ((0:Int)≤(γ .i64 (Xxm k (4:Int)))))=true) (b:(decide ((γ .i64 (Xxm k (4:Int)))<(L:Int)))=true) (e:(decide ((0:Int)≤(γ .i64 ((8:Int)*(Xxj k (4:Int))))))=true) (h:(decide ((0:Int)≤(γ .i64 ((γ .i64 ((((θ s):Nat):Int) - (1:Int))) - k))))=true) (i:(decide ((γ .i64 ((γ .i64 ((((θ s):Nat):Int) - (1:Int))) - k))<(((θ s):Nat):Int)))=true) (d:(chk (.int .u32) (ζ (ε ((0+(δ (γ .i64 (Xxm k (4:Int)))))*1) a) .dead))=true) (g:lit true (decide (k<n))=true):ψ nt f119 ⟨[(0,.str s),(3,.ref 0 0 0 L),(12,ω n),(13,ω k)],[(0,⟨a,0,false,0,1,true⟩)],.dead,[]⟩ (.normal) ⟨[(0,.str s),(3,.ref 0 0 0 L),(12,ω n),(13,ω (γ .i64 (k+(1:Int))))],[(0,⟨(ν ((0+(δ (γ .i64 (Xxm k (4:Int)))))*1) a++ [.int .u32 (γ .u32 (Xxq (Xqj (Xqh .u32) (χ (ζ (ε ((0+(δ (γ .i64 (Xxm k (4:Int)))))*1) a) .dead))|||Xqj (Xqh .u32) (γ .u32 ((γ .u32 ((Xxs (Xjf s (δ (γ .i64 ((γ .i64 ((((θ s):Nat):Int) - (1:Int))) - k))) 0):Nat):Int))*2^(min (δ (γ .i64 ((8:Int)*(Xxj k (4:Int))))) (Xqh .u32)))))))]++ε (((0+(δ (γ .i64 (Xxm k (4:Int)))))*1)+1) a),0,false,0,1,true⟩)],.dead,[]⟩:=pJ 119 [] 1 1 (.c f (.c c (.c b (.c e (.k 1 h (.c i (.c d (.c c (.c b (.k 1 g .nil)))))))))) (.nil) j
theorem U9 {nt:Nat} (c:38≤nt) (s:List UInt8) (a:List AV) (L:Nat) (n k:Int) (b:lit false (decide (k<n))=true):ψ nt f119 ⟨[(0,.str s),(3,.ref 0 0 0 L),(12,ω n),(13,ω k)],[(0,⟨a,0,false,0,1,true⟩)],.dead,[]⟩ (.exit 0) ⟨[(0,.str s),(3,.ref 0 0 0 L),(12,ω n),(13,ω k)],[(0,⟨a,0,false,0,1,true⟩)],.dead,[]⟩:=pJ 119 [] 1 0 (.c b .nil) (.nil) c
def ah (s:List UInt8):Nat:=s.foldl (fun a b=>a*256+b.toNat) 0
theorem Iy (s:List UInt8):∀ a,s.foldl (fun a b=>a*256+b.toNat) a=a*256^s.length+ah s:=by
 induction s with
 |nil=>intro a;simp [ah]
 | cons b r ih=>
  intro a;simp only [Xjt,ah,ξ,Xq5];rw [ih,ih (0*256+b.toNat)];have:a*(256^r.length*256)=a*256*256^r.length:=by
   rw [Xqe (256^r.length) 256,Xqs]
  rw [this];simp only [Xxw,Xvj,Xqd];omega
theorem jE (b:UInt8) (r:List UInt8):ah (b::r)=b.toNat*256^r.length+ah r:=by
 show (b::r).foldl _ 0=_;rw [Xjt,Iy];simp
theorem wY (s:List UInt8):ah s<256^s.length:=by
 induction s with
 |nil=>simp [ah]
 |cons b r ih=>
  rw [jE,ξ,Xq5];have:=b.toNat_lt;have h:b.toNat*256^r.length≤255*256^r.length:=Xqy _ (by omega);omega
def bT (m n:Nat):List Nat:=(Xq9 m).map fun i=>n / 2^(32*i) % 2^32
theorem aY (m n:Nat):(bT m n).length=m:=by simp [bT]
theorem sH {m n i:Nat} (h:i<m):(bT m n)[i]? =some (n / 2^(32*i) % 2^32):=by simp [bT,h]
theorem YH {m j n b:Nat} (k:n<2^(8*j)) (l:b<256):
  bT m (b*2^(8*j)+n)=(bT m n).set (j / 4) (n / 2^(32*(j / 4)) % 2^32+b*2^(8*(j % 4))):=by
 apply Xj1;intro i;by_cases hi:i<m
 ·rw [sH hi,Xzp];have p:j=4*(j / 4)+j % 4:=by omega
  generalize g:j / 4=q at*
  generalize d:j % 4=r at*
  have o:r<4:=by omega
  by_cases h1:q=i
  ·subst h1;rw [if_pos rfl,if_pos (by rw [aY];exact hi)];congr 1;have e:8*j=8*r+32*q:=by omega
   rw [e,Xxp,← Xqs,Xx3,Xz1 _ _ (Xqv _)];have c:n / 2^(32*q)<2^(8*r):=by
    rw [Xqx (Xqv _),← Xxp,← e];exact k
   have a:2^(8*r)≤2^24:=Ψ (by omega) (by omega);have f:b*2^(8*r)≤255*2^(8*r):=Xqy _ (by omega);rw [Θ (by omega),Θ (by omega)]
  ·rw [if_neg h1,sH hi];congr 1;rcases Nat.lt_or_gt_of_ne h1 with h|h
   ·
    have e:8*j+8≤32*i:=by omega
    have c:b*2^(8*j)+n<2^(32*i):=by
     have a:2^(8*j+8)≤2^(32*i):=Ψ (by omega) e;have f:b*2^(8*j)≤255*2^(8*j):=Xqy _ (by omega);rw [Xxp] at a;omega
    rw [Xjc c,Xjc (by omega)]
   ·
    have e:8*j=(8*j - 32*i - 32)+32+32*i:=by omega
    rw [e,Xxp,Xxp,← Xqs,← Xqs,Xx3,Xz1 _ _ (Xqv _),Xvg]
 ·rw [Xq7 (by rw [aY];omega),Xq7 (by rw [Yqj,aY];omega)]
theorem GK {x:Int} (h:0≤x) (a:x<2^32):γ .u32 x=x:=by
 show (if (false && decide (x % 2^32≥2^31))=true then x % 2^32 - 2^32 else x % 2^32)=x;simp only [Xqm,Xx4,if_false];omega
theorem ags {a b r:Nat} (h:a<2^(8*r)) (j:b<256) (k:r<4):
  γ .u32 (Xxq (Xqj (Xqh .u32) (a:Int)|||Xqj (Xqh .u32) (γ .u32 ((b:Int)*2^(8*r)))))=((a+b*2^(8*r):Nat):Int):=by
 have i:2^(8*r)≤2^24:=Ψ (by omega) (by omega);have l:b*2^(8*r)≤255*2^(8*r):=Xqy _ (by omega);have e:((b:Int)*2^(8*r))=((b*2^(8*r):Nat):Int):=by simp
 have g:γ .u32 ((b*2^(8*r):Nat):Int)=((b*2^(8*r):Nat):Int):=GK (by omega) (by omega);rw [e,g];have c:∀ x:Nat,x<2^32→(Xqj (Xqh .u32) (x:Int)).toNat=x:=by
  intro x f;show (Xqj 32 (x:Int)).toNat=x;rw [Xkg,Xks,Θ f]
 rw [Yqk,c a (by omega),c _ (by omega)];have d:a|||b*2^(8*r)=a+b*2^(8*r):=by
  have:=Xw2 h b;rw [Yqb] at this;rw [Yql,← this,Xx3]
 rw [d,GK (by omega) (by omega)]
theorem aam {s:List UInt8} {j:Nat} (d:j<s.length):ah (s.drop (s.length - (j+1)))=(s.getD (s.length - 1 - j) 0).toNat*2^(8*j)+ah (s.drop (s.length - j)):=by
 have a:s.length - (j+1)<s.length:=by omega
 rw [Xxf a,jE];have c:s.length - (j+1)+1=s.length - j:=by omega
 rw [c,Xxk];have b:s.length - (s.length - j)=j:=by omega
 rw [b,κ,show s.length - 1 - j=s.length - (j+1) by omega,π a];have:(256:Nat)^j=2^(8*j):=by rw [Xji]
 rw [this];rfl
def akR (s:List UInt8) (L:Nat) (j:Nat):St:=⟨[(0,.str s),(3,.ref 0 0 0 L),(12,ω (s.length:Int)),(13,ω (j:Int))],[(0,⟨ak (bT L (ah (s.drop (s.length - j)))),0,false,0,1,true⟩)],.dead,[]⟩
theorem Tj (l:List Nat) (i:Nat) (x:Nat) (a:i<l.length):ν i (ak l)++ [Xx0 .u32 (x:Int)]++ε (i+1) (ak l)=ak (l.set i x):=by
 unfold ak;rw [← Xwl,← Xju,Xjg,if_pos a];simp
theorem acg {nt:Nat} (h:38≤nt) (s:List UInt8) (hs:s.length<2^40):∀ (d j:Nat),j+d=s.length→aC prog ap [] nt (af 0 (ai f119)) (fun _=> .exit 0) (akR s ((s.length+3) / 4)) (akR s ((s.length+3) / 4)) j s.length:=by
 intro d
 induction d with
 |zero=>
  intro j i;have:j=s.length:=by omega
  subst this;exact .done (U9 h s _ _ (s.length:Int) (s.length:Int) (by simp [lit]))
 | succ d ih=>
  intro j i;refine .next ?_ (ih (j+1) (by omega))
  have b:j<s.length:=by omega
  have g:j / 4<(s.length+3) / 4:=by omega
  have t:γ .i64 (Xxm (j:Int) 4)=((j / 4:Nat):Int):=by
   rw [Xz8 (by omega),gK (by omega) (by omega)];omega
  have r:Xxj (j:Int) 4=((j % 4:Nat):Int):=by
   rw [Xvh (by omega)];omega
  have l:γ .i64 ((8:Int)*((j % 4:Nat):Int))=((8*(j % 4):Nat):Int):=by
   rw [gK (by omega) (by omega)];omega
  have k:γ .i64 (γ .i64 ((s.length:Int) - 1) - (j:Int))=((s.length - 1 - j:Nat):Int):=by
   have o:γ .i64 ((s.length:Int) - 1)=((s.length - 1:Nat):Int):=by
    rw [gK (by omega) (by omega)];omega
   rw [o,gK (by omega) (by omega)];omega
  have n:(0+δ ((j / 4:Nat):Int))*1=j / 4:=by omega
  have m:γ .i64 ((j:Int)+1)=((j+1:Nat):Int):=by
   rw [gK (by omega) (by omega)];omega
  have e:ah (s.drop (s.length - j))<2^(8*j):=by
   have:=wY (s.drop (s.length - j));rw [Xxk,show s.length - (s.length - j)=j by omega] at this;rw [Xji];exact this
  have f:(s.getD (s.length - 1 - j) 0).toNat<256:=(s.getD (s.length - 1 - j) 0).toNat_lt;have hcell:ζ (ε (j / 4) (ak (bT ((s.length+3) / 4) (ah (s.drop (s.length - j)))))) .dead= .int .u32 ((ah (s.drop (s.length - j)) / 2^(32*(j / 4)) % 2^32:Nat):Int):=by
   rw [oQ,κ];unfold ak;rw [Xq6,sH g];rfl
  have a:ah (s.drop (s.length - j)) / 2^(32*(j / 4)) % 2^32<2^(8*(j % 4)):=by
   have p:ah (s.drop (s.length - j)) / 2^(32*(j / 4))<2^(8*(j % 4)):=by
    rw [Xqx (Xqv _),← Xxp,show 8*(j % 4)+32*(j / 4)=8*j by omega];exact e
   exact Xqk (Nat.mod_le _ _) p
  have hbody:=U8 h s (ak (bT ((s.length+3) / 4) (ah (s.drop (s.length - j))))) ((s.length+3) / 4) (s.length:Int) (j:Int);rw [t,r,l,k,n,m] at hbody;rw [hcell] at hbody;have u:min (δ ((8*(j % 4):Nat):Int)) (Xqh .u32)=8*(j % 4):=by
   show min (δ ((8*(j % 4):Nat):Int)) 32=_;omega
  have q:δ ((s.length - 1 - j:Nat):Int)=s.length - 1 - j:=by omega
  have c:γ .u32 (((s.getD (s.length - 1 - j) 0).toNat:Nat):Int)=(((s.getD (s.length - 1 - j) 0).toNat:Nat):Int):=GK (by omega) (by omega);rw [u,q,c] at hbody;simp only [χ] at hbody;rw [ags a f (by omega)] at hbody;rw [Tj _ _ _ (by rw [aY];exact g),← YH e f,← aam b] at hbody;exact hbody (by rw [ay,aY];exact Xql (by omega)) (Yq0 (by omega)) (Yq0 (by omega)) (Yq0 (by omega)) (Yq0 (by omega)) (Yq0 (by omega)) rfl (Yq0 (by omega))
def digs (n:Nat):List Nat:=eY (bT n n)
theorem Zr (m n:Nat):ν (m*1) (ak (bT m n))=ak (bT m n):=by
 rw [Ξ,υ (by rw [ay,aY];exact Δ _)]
theorem wo {n:Nat}:∀ (d m:Nat),n<2^(32*m)→eY (bT (m+d) n)=eY (bT m n)
 |0,m,_=>rfl
 | d+1,m,h=>by
  have a:n / 2^(32*(m+d)) % 2^32=0:=by
   have:n<2^(32*(m+d)):=Φ h (Ψ (by omega) (by omega));rw [Xjc this]
  have e:bT (m+(d+1)) n=bT (m+d) n++ [n / 2^(32*(m+d)) % 2^32]:=by
   unfold bT;rw [show m+(d+1)=(m+d)+1 by omega,Xwm,Xxx];rfl
  rw [e,pR,if_pos a];exact wo d m h
theorem mg (n:Nat):n<2^(32*n):=by
 have a:n<2^n:=Nat.lt_two_pow_self;exact Φ a (Ψ (by omega) (by omega))
theorem DJ {m n:Nat} (h:n<2^(32*m)):eY (bT m n)=digs n:=by
 unfold digs;rcases Yxl m n with hm|hm
 ·have:=wo (n - m) m h;rw [show m+(n - m)=n by omega] at this;exact this.symm
 ·have:=wo (m - n) n (mg n);rw [show n+(m - n)=m by omega] at this;exact this
theorem BP (s:List UInt8):ah s<2^(32*((s.length+3) / 4)):=by
 have h:=wY s;have e:(256:Nat)^s.length=2^(8*s.length):=by rw [Xji]
 rw [e] at h;exact Φ h (Ψ (by omega) (by omega))
theorem ZF (s:List UInt8) (hs:s.length<2^40):CO 162 [.sl (ak (bT ((s.length+3) / 4) (ah s))) ((s.length+3) / 4) true] (.ret (.sl (ak (digs (ah s))) (digs (ah s)).length true)):=by
 have h:=Qo (bT ((s.length+3) / 4) (ah s)) true (by rw [aY];omega);rw [aY,DJ (BP s)] at h;exact h
theorem JW (s:List UInt8) (hs:s.length<2^40):γ .i64 (Xxm (γ .i64 ((γ .i64 ((s.length:Int)+(4:Int))) - (1:Int))) (4:Int))=(((s.length+3) / 4:Nat):Int):=by
 rw [gK (x:=(s.length:Int)+4) (by omega) (by omega),gK (x:=(s.length:Int)+4 - 1) (by omega) (by omega),Xz8 (by omega),gK (by omega) (by omega)];omega
theorem Sr (m:Nat):gQ m [Xx0 .u32 0]=ak (bT m 0):=by
 unfold gQ ak bT
 induction m with
 |zero=>rfl
 |succ m ih=>
  rw [Xj8,Xwf,ih,Xwm,Xxx,Xxx];simp
theorem yC (n:Nat):δ (n:Int)=n:=by omega
theorem W9 (s:List UInt8):ah (s.drop (s.length - 0))=0:=by simp [ah]
theorem Yw (s:List UInt8) (hs:s.length<2^40):gQ (δ (γ .i64 (Xxm (γ .i64 ((γ .i64 ((s.length:Int)+(4:Int))) - (1:Int))) (4:Int)))) [Xx0 .u32 0]=ak (bT ((s.length+3) / 4) (ah (s.drop (s.length - 0)))):=by
 rw [JW s hs,yC,Sr,W9]
theorem Uz (s:List UInt8):ah (s.drop (s.length - s.length))=ah s:=by simp
theorem aom (s:List UInt8) (hs:s.length<2^40) (a:(decide ((0:Int)≤(γ .i64 (Xxm (γ .i64 ((γ .i64 ((((θ s):Nat):Int)+(4:Int))) - (1:Int))) (4:Int)))))=true) (c:(decide ((γ .i64 (Xxm (γ .i64 ((γ .i64 ((((θ s):Nat):Int)+(4:Int))) - (1:Int))) (4:Int)))=(γ .i64 (Xxm (γ .i64 ((γ .i64 ((((θ s):Nat):Int)+(4:Int))) - (1:Int))) (4:Int)))))=true) (b:(decide ((γ .i64 (Xxm (γ .i64 ((γ .i64 ((((θ s):Nat):Int)+(4:Int))) - (1:Int))) (4:Int)))≤(1099511627776:Int)))=true):CO 119 [.str s] (.ret (.sl (ak (digs (ah s))) (digs (ah s)).length true)):=pK [0] 0 0 (.c a (.c c (.c b (.n 1 .nil)))) (.c (by rw [Zr];exact ZF s hs:CO 162 [.sl (ν (((s.length+3) / 4)*1) (ak (bT ((s.length+3) / 4) (ah s)))) ((s.length+3) / 4) true] (.ret (.sl (ak (digs (ah s))) (digs (ah s)).length true))) (.l (by rw [Yw s hs,JW s hs,yC,← Uz s];exact aC.blk (fun nt d=>acg d s hs s.length 0 (by omega)) (by simp) rfl (aP.of ⟨rfl,rfl,rfl,rfl,trivial⟩) (aP.of ⟨rfl,trivial⟩):aN prog ap [] 38 (.block 0 (.loop (af 0 (ai f119)))) ⟨[(0,.str s),(2,.nilS),(3,.ref 0 0 0 (δ (γ .i64 (Xxm (γ .i64 ((γ .i64 ((((θ s):Nat):Int)+(4:Int))) - (1:Int))) (4:Int))))),(4,.dead),(12,ω (((θ s):Nat):Int)),(13,ω 0),(14,.dead)],[(0,⟨(gQ (δ (γ .i64 (Xxm (γ .i64 ((γ .i64 ((((θ s):Nat):Int)+(4:Int))) - (1:Int))) (4:Int)))) [.int .u32 0]),0,false,0,1,true⟩)],.dead,[]⟩ (.normal) ⟨[(3,.ref 0 0 0 ((s.length+3) / 4))],[(0,⟨(ak (bT ((s.length+3) / 4) (ah s))),0,false,0,1,true⟩)],.dead,[]⟩) .nil))
theorem vS (s:List UInt8) (hs:s.length<2^40):CO 119 [.str s] (.ret (.sl (ak (digs (ah s))) (digs (ah s)).length true)):=
 aom s hs (by rw [JW s hs];exact Yq0 (by omega)) (Yq0 rfl) (by rw [JW s hs];exact Yq0 (by omega))
theorem OD {nt:Nat} (m:43≤nt) (xs a:List AV) (n b:Nat) (h d:Bool) (k:Int) (g:lit true (decide ((χ (ζ (ε ((δ k)*1) xs) .dead))<(χ (ζ (ε ((δ k)*1) a) .dead))))=true) (l:(chk (.int .u32) (ζ (ε ((δ k)*1) a) .dead))=true) (c:(decide ((0:Int)≤k))=true) (f:(decide (k<(b:Int)))=true) (i:(chk (.int .u32) (ζ (ε ((δ k)*1) xs) .dead))=true) (j:(decide (k<(n:Int)))=true) (e:lit true (decide ((0:Int)≤k))=true):ψ nt f210 ⟨[(0,.sl xs n h),(1,.sl a b d),(5,ω k)],[],.dead,[]⟩ (.ret) ⟨[(4,ω (-1))],[],.dead,[]⟩:=pJ 210 [] 2 3 (.c g (.c l (.c c (.c f (.c i (.c c (.c j (.c e .nil)))))))) (.nil) m
theorem OE {nt:Nat} (o:43≤nt) (xs b:List AV) (n c:Nat) (m h:Bool) (k:Int) (l:lit true (decide ((χ (ζ (ε ((δ k)*1) b) .dead))<(χ (ζ (ε ((δ k)*1) xs) .dead))))=true) (g:(chk (.int .u32) (ζ (ε ((δ k)*1) b) .dead))=true) (a:(decide ((0:Int)≤k))=true) (d:(decide (k<(c:Int)))=true) (e:(chk (.int .u32) (ζ (ε ((δ k)*1) xs) .dead))=true) (f:(decide (k<(n:Int)))=true) (i:lit false (decide ((χ (ζ (ε ((δ k)*1) xs) .dead))<(χ (ζ (ε ((δ k)*1) b) .dead))))=true) (j:lit true (decide ((0:Int)≤k))=true):ψ nt f210 ⟨[(0,.sl xs n m),(1,.sl b c h),(5,ω k)],[],.dead,[]⟩ (.ret) ⟨[(4,ω 1)],[],.dead,[]⟩:=pJ 210 [] 3 5 (.c l (.c g (.c a (.c d (.c e (.c a (.c f (.c i (.c g (.c a (.c d (.c e (.c a (.c f (.c j .nil))))))))))))))) (.nil) o
theorem OG {nt:Nat} (o:43≤nt) (xs a:List AV) (n c:Nat) (f d:Bool) (k:Int) (m:lit false (decide ((χ (ζ (ε ((δ k)*1) a) .dead))<(χ (ζ (ε ((δ k)*1) xs) .dead))))=true) (i:(chk (.int .u32) (ζ (ε ((δ k)*1) a) .dead))=true) (b:(decide ((0:Int)≤k))=true) (e:(decide (k<(c:Int)))=true) (g:(chk (.int .u32) (ζ (ε ((δ k)*1) xs) .dead))=true) (h:(decide (k<(n:Int)))=true) (j:lit false (decide ((χ (ζ (ε ((δ k)*1) xs) .dead))<(χ (ζ (ε ((δ k)*1) a) .dead))))=true) (l:lit true (decide ((0:Int)≤k))=true):ψ nt f210 ⟨[(0,.sl xs n f),(1,.sl a c d),(5,ω k)],[],.dead,[]⟩ (.normal) ⟨[(0,.sl xs n f),(1,.sl a c d),(5,ω (γ .i64 (k - (1:Int))))],[],.dead,[]⟩:=pJ 210 [] 3 1 (.c m (.c i (.c b (.c e (.c g (.c b (.c h (.c j (.c i (.c b (.c e (.c g (.c b (.c h (.c l .nil))))))))))))))) (.nil) o
theorem OH {nt:Nat} (f:43≤nt) (xs d:List AV) (n b:Nat) (e a:Bool) (k:Int) (c:lit false (decide ((0:Int)≤k))=true):ψ nt f210 ⟨[(0,.sl xs n e),(1,.sl d b a),(5,ω k)],[],.dead,[]⟩ (.exit 0) ⟨[],[],.dead,[]⟩:=pJ 210 [] 1 0 (.c c .nil) (.nil) f
def uI (a b:List Nat):Nat→Int
 |0=>0
 |k+1=>if a.getD k 0<b.getD k 0 then -1 else if b.getD k 0<a.getD k 0 then 1 else uI a b k
def aiQ (a b:List Nat) (na nb:Bool) (k:Nat):St:=⟨[(0,.sl (ak a) a.length na),(1,.sl (ak b) b.length nb),(5,ω ((k:Int) - 1))],[],.dead,[]⟩
def aeS (r:Int):St:=⟨if r=0 then [] else [(4,ω r)],[],.dead,[]⟩
def WN (r:Int):bM:=if r=0 then .exit 0 else .ret
theorem Ky {l:List Nat} {k:Nat} (h:k<l.length):ζ (ε (k*1) (ak l)) .dead= .int .u32 ((l.getD k 0:Nat):Int):=by
 rw [oQ,Ξ,κ];unfold ak;rw [Xq6,κ,π h];rfl
theorem ED {nt:Nat} (f:43≤nt) (a b:List Nat) (c d:Bool) (j:a.length=b.length) (t:a.length<2^40):∀ (k:Nat),k≤a.length→aC prog ap [] nt (af 0 (ai f210)) WN (aiQ a b c d) aeS k (uI a b k)
 |0,_=>by
  refine .done ?_;exact OH f (ak a) (ak b) a.length b.length c d (((0:Nat):Int) - 1) (by decide)
 | k +1,hk=>by
  have n:(((k+1:Nat):Int) - 1)=(k:Int):=by omega
  have q:δ (k:Int)=k:=by omega
  have u:=Ky (l:=a) (k:=k) (by omega);have s:=Ky (l:=b) (k:=k) (by omega);have e:decide ((0:Int)≤(k:Int))=true:=Yq0 (by omega);have h:decide ((k:Int)<(a.length:Int))=true:=Yq0 (by omega);have o:decide ((k:Int)<(b.length:Int))=true:=Yq0 (by omega);have i:=OD f (ak a) (ak b) a.length b.length c d (k:Int);have m:=OE f (ak a) (ak b) a.length b.length c d (k:Int);have g:=OG f (ak a) (ak b) a.length b.length c d (k:Int);rw [q,u,s] at i m g;simp only [χ] at i m g;simp only [uI];by_cases h1:a.getD k 0<b.getD k 0
  ·rw [if_pos h1];refine .done ?_;have:=i (by simp only [lit];exact Yq0 (by omega)) rfl e o rfl h (by simp only [lit];exact e);show au _ _ _ _ _ ⟨[_,_,(5,ω (((k+1:Nat):Int) - 1))],[],.dead,[]⟩ _ _;rw [n];exact this
  ·rw [if_neg h1];have p:lit false (decide (((a.getD k 0:Nat):Int)<((b.getD k 0:Nat):Int)))=true:=by
    simp only [lit,Xqw];exact Yq1 (by omega)
   by_cases h2:b.getD k 0<a.getD k 0
   ·rw [if_pos h2];refine .done ?_;have:=m (by simp only [lit];exact Yq0 (by omega)) rfl e o rfl h p (by simp only [lit];exact e);show au _ _ _ _ _ ⟨[_,_,(5,ω (((k+1:Nat):Int) - 1))],[],.dead,[]⟩ _ _;rw [n];exact this
   ·rw [if_neg h2];refine .next ?_ (ED f a b c d j t k (by omega))
    have r:lit false (decide (((b.getD k 0:Nat):Int)<((a.getD k 0:Nat):Int)))=true:=by
     simp only [lit,Xqw];exact Yq1 (by omega)
    have:=g r rfl e o rfl h p (by simp only [lit];exact e);rw [gK (by omega) (by omega)] at this;show au _ _ _ _ _ ⟨[_,_,(5,ω (((k+1:Nat):Int) - 1))],[],.dead,[]⟩ _ _;rw [n];exact this
theorem MC {n:Nat} (h:n<2^40):γ .i64 ((n:Int) - (1:Int))=(n:Int) - 1:=gK (by omega) (by omega)
theorem aeP (a b:List Nat) (e c:Bool) (d:lit true (decide ((a.length:Int)<(b.length:Int)))=true) (f:lit true (!((a.length:Int)==(b.length:Int)))=true):CO 210 [.sl (ak a) a.length e,.sl (ak b) b.length c] (.ret (ω (-1))):=pK [0] 2 3 (.c d (.c f .nil)) (.nil)
theorem aeQ (a b:List Nat) (e c:Bool) (d:lit false (decide ((a.length:Int)<(b.length:Int)))=true) (f:lit true (!((a.length:Int)==(b.length:Int)))=true):CO 210 [.sl (ak a) a.length e,.sl (ak b) b.length c] (.ret (ω 1)):=pK [0] 2 1 (.c d (.c f .nil)) (.nil)
theorem aeR (a b:List Nat) (e c:Bool) (f:a.length<2^40) (d:a.length=b.length) (g:uI a b a.length=0) (h:lit false (!((a.length:Int)==(b.length:Int)))=true):CO 210 [.sl (ak a) a.length e,.sl (ak b) b.length c] (.ret (ω 0)):=pK [0] 1 0 (.c h .nil) (.l (by exact aC.blk (fun nt i=>ED i a b e c d f _ (Δ _)) (by simp [WN,g]) (by simp [WN,g,qw]) (aP.of ⟨rfl,rfl,congrArg _ (MC f),trivial⟩) (aP.of trivial):aN prog ap [] 43 (.block 0 (.loop (af 0 (ai f210)))) ⟨[(0,.sl (ak a) a.length e),(1,.sl (ak b) b.length c),(4,ω 0),(5,ω (γ .i64 ((a.length:Int) - (1:Int)))),(10,.bool (!((a.length:Int)==(b.length:Int)))),(15,.dead),(20,.dead),(23,.dead),(33,.dead)],[],.dead,[]⟩ (.normal) ⟨[],[],.dead,[]⟩) .nil)
theorem aeT (a b:List Nat) (e c:Bool) (g:a.length<2^40) (d:a.length=b.length) (f:¬ uI a b a.length=0) (h:lit false (!((a.length:Int)==(b.length:Int)))=true):CO 210 [.sl (ak a) a.length e,.sl (ak b) b.length c] (.ret (ω (uI a b a.length))):=pK [0] 1 0 (.c h .nil) (.l (by exact aC.blk (fun nt i=>ED i a b e c d g _ (Δ _)) (by simp [WN,f]) (by simp [WN,f,qw]) (aP.of ⟨rfl,rfl,congrArg _ (MC g),trivial⟩) (aP.of ⟨by rw [if_neg f];rfl,trivial⟩):aN prog ap [] 43 (.block 0 (.loop (af 0 (ai f210)))) ⟨[(0,.sl (ak a) a.length e),(1,.sl (ak b) b.length c),(4,ω 0),(5,ω (γ .i64 ((a.length:Int) - (1:Int)))),(10,.bool (!((a.length:Int)==(b.length:Int)))),(15,.dead),(20,.dead),(23,.dead),(33,.dead)],[],.dead,[]⟩ (.ret) ⟨[(4,ω (uI a b a.length))],[],.dead,[]⟩) .nil)
def aav (a b:List Nat):Int:=if a.length<b.length then -1 else if b.length<a.length then 1 else uI a b a.length
theorem xK (a b:List Nat) (e d:Bool) (g:a.length<2^40):CO 210 [.sl (ak a) a.length e,.sl (ak b) b.length d] (.ret (ω (aav a b))):=by
 unfold aav;by_cases h1:a.length<b.length
 ·rw [if_pos h1];exact aeP a b e d (by simp only [lit];exact Yq0 (by omega)) (by simp [lit];omega)
 ·rw [if_neg h1];by_cases h2:b.length<a.length
  ·rw [if_pos h2];exact aeQ a b e d (by simp only [lit,Xqw];exact Yq1 (by omega)) (by simp [lit];omega)
  ·rw [if_neg h2];have c:a.length=b.length:=by omega
   have f:lit false (!((a.length:Int)==(b.length:Int)))=true:=by simp [lit,c]
   by_cases hz:uI a b a.length=0
   ·rw [hz];exact aeR a b e d g c hz f
   ·exact aeT a b e d g c hz f
theorem vT (m n:Nat):bT (m+1) n=bT m n++ [n / 2^(32*m) % 2^32]:=by
 unfold bT;rw [Xwm,Xxx];rfl
theorem yY (n:Nat):∀ (k:Nat),(digs n).getD k 0=n / 2^(32*k) % 2^32:=by
 have key:∀ (m k:Nat),(eY (bT m n)).getD k 0=if k<m then n / 2^(32*k) % 2^32 else 0:=by
  intro m
  induction m with
  |zero=>intro k;simp [bT,eY]
  | succ m ih=>
   intro k;rw [vT,pR];by_cases hd:n / 2^(32*m) % 2^32=0
   ·rw [if_pos hd,ih];by_cases hk:k<m
    ·rw [if_pos hk,if_pos (by omega)]
    ·rw [if_neg hk];by_cases hkm:k=m
     ·subst hkm;rw [if_pos (by omega),hd]
     ·rw [if_neg (by omega)]
   ·rw [if_neg hd,κ];by_cases hk:k<m
    ·rw [Xxb (by rw [aY];exact hk),sH hk,if_pos (by omega)];rfl
    ·by_cases hkm:k=m
     ·subst hkm;rw [Xq2 (by rw [aY];exact Δ _),aY,Xj4,if_pos (by omega)];rfl
     ·rw [Xq7 (by rw [η,aY];simp;omega),if_neg (by omega)];rfl
 intro k;unfold digs;rw [key];by_cases hk:k<n
 ·rw [if_pos hk]
 ·rw [if_neg hk];have:n<2^(32*k):=Φ (mg n) (Ψ (by omega) (by omega));rw [Xjc this]
theorem ZB (l:List Nat):(eY l).length≤l.length:=by
 unfold eY;rw [Xzs];have:=(Xzv (· ==0) (l:=l.reverse)).length_le;simpa using this
theorem jK {n m:Nat} (h:n<2^(32*m)):(digs n).length≤m:=by
 rw [← DJ h];have:=ZB (bT m n);rwa [aY] at this
theorem jY {n m:Nat} (h:(digs n).length≤m):n<2^(32*m):=by
 have key:∀ d,n<2^(32*(m+d))→n<2^(32*m):=by
  intro d
  induction d with
  |zero=>exact fun h=>h
  | succ d ih=>
   intro b;refine ih ?_;have c:=yY n (m+d);rw [κ,Xq7 (by omega)] at c;have e:n / 2^(32*(m+d))<2^32:=by
    rw [Xqx (Xqv _),← Xxp,show 32+32*(m+d)=32*(m+(d+1)) by omega];exact b
   have a:n / 2^(32*(m+d)) % 2^32=0:=c.symm;rw [Θ e] at a;rcases Nat.div_eq_zero_iff.1 a with h2|h2
   ·have:=Xqv (32*(m+d));omega
   ·exact h2
 refine key n ?_;exact Φ (mg n) (Ψ (by omega) (by omega))
def mG (x y:Nat):Int:=if x<y then -1 else if y<x then 1 else 0
theorem Bg (x k:Nat):x % 2^(32*(k+1))=x / 2^(32*k) % 2^32*2^(32*k)+x % 2^(32*k):=by
 rw [show 32*(k+1)=32*k+32 by omega,Xxp,Nat.mod_mul];rw [Xx3,Xqe (2^(32*k))]
theorem Ez (x y:Nat):∀ k,uI (digs x) (digs y) k=mG (x % 2^(32*k)) (y % 2^(32*k))
 |0=>by simp [uI,mG,Yqm]
 | k +1=>by
  simp only [uI,yY];rw [Ez x y k,Bg x k,Bg y k];have f:=Xq3 x (Xqv (32*k));have g:=Xq3 y (Xqv (32*k));generalize x / 2^(32*k) % 2^32=a;generalize y / 2^(32*k) % 2^32=b;generalize x % 2^(32*k)=c at f ⊢;generalize y % 2^(32*k)=d at g ⊢;generalize 2^(32*k)=M at f g ⊢;unfold mG;by_cases h1:a<b
  ·rw [if_pos h1];have e:a*M+M≤b*M:=by
    have:=Xqy M (show a+1≤b from h1);rw [Xxw,Xzt] at this;exact this
   rw [if_pos (by omega)]
  ·rw [if_neg h1];by_cases e:b<a
   ·rw [if_pos e];have h:b*M+M≤a*M:=by
     have:=Xqy M (show b+1≤a from e);rw [Xxw,Xzt] at this;exact this
    rw [if_neg (by omega),if_pos (by omega)]
   ·rw [if_neg e];have:a=b:=by omega
    subst this;simp only [Nat.add_lt_add_iff_left]
theorem AB (x y:Nat):aav (digs x) (digs y)=mG x y:=by
 have b:=jY (n:=x) (Δ _);have c:=jY (n:=y) (Δ _);unfold aav;by_cases h1:(digs x).length<(digs y).length
 ·rw [if_pos h1];have a:¬ y<2^(32*(digs x).length):=fun h=>by have:=jK h;omega
  unfold mG;rw [if_pos (by omega)]
 ·rw [if_neg h1];by_cases a:(digs y).length<(digs x).length
  ·rw [if_pos a];have e:¬ x<2^(32*(digs y).length):=fun h=>by have:=jK h;omega
   unfold mG;rw [if_neg (by omega),if_pos (by omega)]
  ·rw [if_neg a,Ez];have d:(digs x).length=(digs y).length:=by omega
   rw [Θ b,Θ (by rw [d];exact c)]
theorem EG {s:List UInt8} (hs:s.length<2^40):(digs (ah s)).length<2^40:=by
 have:=jK (BP s);omega
theorem ahR (s t:List UInt8) (hs:s.length<2^40) (a:t.length<2^40):CO 189 [.str s,.str t] (.ret (ω (mG (ah s) (ah t)))):=pK [] 0 0 .nil (.c (by rw [← AB];exact xK _ _ _ _ (EG hs):CO 210 [.sl (ak (digs (ah s))) (digs (ah s)).length true,.sl (ak (digs (ah t))) (digs (ah t)).length true] (.ret (ω (mG (ah s) (ah t))))) (.c (vS t a) (.c (vS s hs) .nil)))
theorem Yk (s:List UInt8) (a:lit true (s== [])=true):CO 159 [.str s] (.ret (.bool true)):=pK [] 1 1 (.c a .nil) (.nil)
theorem Yl (s:List UInt8) (b:(decide ((0:Int)<(((θ s):Nat):Int)))=true) (a:lit false (s== [])=true):CO 159 [.str s] (.ret (.bool (!(((Xxs (Xjf s 0 0):Nat):Int)==(0:Int))))):=pK [] 1 0 (.k 1 b (.c a .nil)) (.nil)
theorem PK {nt:Nat} (j:37≤nt) (xs a:List AV) (L M:Nat) (nn:Bool) (n k:Int) (d:(Xqc (((0+(δ (γ .i64 ((γ .i64 ((M:Int) - (1:Int))) - k))))*1)+1) (θ a))=true) (i:(decide ((0:Int)≤(γ .i64 ((γ .i64 ((M:Int) - (1:Int))) - k))))=true) (e:(decide ((γ .i64 ((γ .i64 ((M:Int) - (1:Int))) - k))<(M:Int)))=true) (c:(decide ((0:Int)≤(γ .i64 ((8:Int)*(Xxj k (4:Int))))))=true) (g:(chk (.int .u32) (ζ (ε ((δ (γ .i64 (Xxm k (4:Int))))*1) xs) .dead))=true) (h:(decide ((0:Int)≤(γ .i64 (Xxm k (4:Int)))))=true) (b:(decide ((γ .i64 (Xxm k (4:Int)))<(L:Int)))=true) (f:lit true (decide (k<n))=true):ψ nt f117 ⟨[(0,.sl xs L nn),(3,.ref 0 0 0 M),(12,ω n),(13,ω k)],[(0,⟨a,0,false,0,1,true⟩)],.dead,[]⟩ (.normal) ⟨[(0,.sl xs L nn),(3,.ref 0 0 0 M),(12,ω n),(13,ω (γ .i64 (k+(1:Int))))],[(0,⟨(ν ((0+(δ (γ .i64 ((γ .i64 ((M:Int) - (1:Int))) - k))))*1) a++ [.int .u8 (γ .u8 (Xq4 (χ (ζ (ε ((δ (γ .i64 (Xxm k (4:Int))))*1) xs) .dead)) (2^(min (δ (γ .i64 ((8:Int)*(Xxj k (4:Int))))) (Xqh .u32)))))]++ε (((0+(δ (γ .i64 ((γ .i64 ((M:Int) - (1:Int))) - k))))*1)+1) a),0,false,0,1,true⟩)],.dead,[]⟩:=pJ 117 [] 1 1 (.c d (.c i (.c e (.c c (.k 1 g (.c h (.c b (.k 1 f .nil)))))))) (.nil) j
theorem PL {nt:Nat} (c:37≤nt) (xs a:List AV) (L M:Nat) (nn:Bool) (n k:Int) (b:lit false (decide (k<n))=true):ψ nt f117 ⟨[(0,.sl xs L nn),(3,.ref 0 0 0 M),(12,ω n),(13,ω k)],[(0,⟨a,0,false,0,1,true⟩)],.dead,[]⟩ (.exit 0) ⟨[(3,.ref 0 0 0 M)],[(0,⟨a,0,false,0,1,true⟩)],.dead,[]⟩:=pJ 117 [] 1 0 (.c b .nil) (.nil) c
theorem Qj {nt:Nat} (g:17≤nt) (s:List UInt8) (c:Int) (b:(decide ((1:Int)≤(((θ s):Nat):Int)))=true) (f:(decide ((((θ s):Nat):Int)≤(((θ s):Nat):Int)))=true) (d:lit true (((Xxs (Xjf s 0 0):Nat):Int)==c)=true) (a:(decide ((0:Int)<(((θ s):Nat):Int)))=true) (e:lit true (decide ((0:Int)<(((θ s):Nat):Int)))=true):ψ nt f192 ⟨[(0,.str s),(1,.int .u8 c)],[],.dead,[]⟩ (.normal) ⟨[(0,.str (ε 1 (ν (δ (((θ s):Nat):Int)) s))),(1,.int .u8 c)],[],.dead,[]⟩:=pJ 192 [] 2 3 (.k 1 b (.c f (.c d (.k 1 a (.c e .nil))))) (.nil) g
theorem Qk {nt:Nat} (e:17≤nt) (s:List UInt8) (c:Int) (a:lit false (((Xxs (Xjf s 0 0):Nat):Int)==c)=true) (d:(decide ((0:Int)<(((θ s):Nat):Int)))=true) (b:lit true (decide ((0:Int)<(((θ s):Nat):Int)))=true):ψ nt f192 ⟨[(0,.str s),(1,.int .u8 c)],[],.dead,[]⟩ (.exit 0) ⟨[(0,.str s)],[],.dead,[]⟩:=pJ 192 [] 2 1 (.c a (.k 1 d (.c b .nil))) (.nil) e
theorem Ql {nt:Nat} (b:17≤nt) (s:List UInt8) (c:Int) (a:lit false (decide ((0:Int)<(((θ s):Nat):Int)))=true):ψ nt f192 ⟨[(0,.str s),(1,.int .u8 c)],[],.dead,[]⟩ (.exit 0) ⟨[(0,.str s)],[],.dead,[]⟩:=pJ 192 [] 2 0 (.k 1 a .nil) (.nil) b
def ao6 (c:UInt8) (s:List UInt8):St:=⟨[(0,.str s),(1,.int .u8 (c.toNat:Int))],[],.dead,[]⟩
def amN (s:List UInt8):St:=⟨[(0,.str s)],[],.dead,[]⟩
theorem NT {nt:Nat} (d:17≤nt) (c:UInt8):∀ (s:List UInt8),aC prog ap [] nt (af 0 (ai f192)) (fun _=> .exit 0) (ao6 c) amN s (s.dropWhile (· ==c))
 | []=> .done (Ql d [] (c.toNat:Int) (by simp [lit]))
 | b::r=>by
  have a:decide ((0:Int)<(((b::r).length:Nat):Int))=true:=Yq0 (by simp only [ξ];omega);have g:decide ((1:Int)≤(((b::r).length:Nat):Int))=true:=Yq0 (by simp only [ξ];omega);have f:decide ((((b::r).length:Nat):Int)≤(((b::r).length:Nat):Int))=true:=Yq0 (Int.le_refl _);rw [Xja];by_cases hb:b=c
  ·subst hb;rw [if_pos (by simp)];refine .next ?_ (NT d b r)
   have:=Qj d (b::r) (b.toNat:Int) g f (by simp [lit]) a (by simp only [lit];exact a);rw [show δ (((b::r).length:Nat):Int)=(b::r).length by omega,Xq1] at this;exact this
  ·rw [if_neg (by simpa using hb)];refine .done ?_;have e:¬ (b.toNat:Int)=(c.toNat:Int):=fun h=>hb (UInt8.toNat_inj.1 (by omega))
   exact Qk d (b::r) (c.toNat:Int) (by simp [lit];omega) a (by simp only [lit];exact a)
def pX (l:List Nat):List AV:=l.map fun (d:Nat)=>Xx0 .u8 (d:Int)
def qg (m k x:Nat):List Nat:=(Xq9 m).map fun i=>if m - k≤i then x / 2^(8*(m - 1 - i)) % 256 else 0
theorem jm (m k x:Nat):(qg m k x).length=m:=by simp [qg]
theorem MR {m k x i:Nat} (h:i<m):(qg m k x)[i]? =some (if m - k≤i then x / 2^(8*(m - 1 - i)) % 256 else 0):=by simp [qg,h]
theorem Yq {m k x:Nat} (a:k<m):qg m (k+1) x=(qg m k x).set (m - 1 - k) (x / 2^(8*k) % 256):=by
 apply Xj1;intro i;by_cases hi:i<m
 ·rw [MR hi,Xzp];by_cases h:m - 1 - k=i
  ·rw [if_pos (show m - (k+1)≤i by omega),if_pos h,if_pos (by rw [jm];omega),show m - 1 - i=k by omega]
  ·rw [if_neg h,MR hi];by_cases h2:m - k≤i
   ·rw [if_pos h2,if_pos (by omega)]
   ·rw [if_neg h2,if_neg (by omega)]
 ·rw [Xq7 (by rw [jm];omega),Xq7 (by rw [Yqj,jm];omega)]
theorem az (l:List Nat):(pX l).length=l.length:=by simp [pX]
theorem ahg (l:List Nat) (i:Nat) (x:Nat) (a:i<l.length):ν i (pX l)++ [Xx0 .u8 (x:Int)]++ε (i+1) (pX l)=pX (l.set i x):=by
 unfold pX;rw [← Xwl,← Xju,Xjg,if_pos a];simp
theorem adE (x:Nat):γ .u8 (x:Int)=((x % 256:Nat):Int):=by
 show (if (false && decide ((x:Int) % 2^8≥2^7))=true then (x:Int) % 2^8 - 2^8 else (x:Int) % 2^8)=_;simp only [Xqm,Xx4,if_false];omega
theorem aan (x k:Nat):x / 2^(32*(k / 4)) % 2^32 / 2^(8*(k % 4)) % 256=x / 2^(8*k) % 256:=by
 have b:8*k=32*(k / 4)+8*(k % 4):=by omega
 rw [b,Xxp,← Xx7];generalize x / 2^(32*(k / 4))=y;have a:k % 4<4:=by omega
 generalize k % 4=r at a
 match r,a with
 |0,_=>omega
 |1,_=>omega
 |2,_=>omega
 |3,_=>omega
def akG (xs:List AV) (L:Nat) (nn:Bool) (x M k:Nat):St:=⟨[(0,.sl xs L nn),(3,.ref 0 0 0 M),(12,ω (M:Int)),(13,ω (k:Int))],[(0,⟨pX (qg M k x),0,false,0,1,true⟩)],.dead,[]⟩
def agm (x M k:Nat):St:=⟨[(3,.ref 0 0 0 M)],[(0,⟨pX (qg M k x),0,false,0,1,true⟩)],.dead,[]⟩
theorem Yp {nt:Nat} (c:37≤nt) (x:Nat) (nn:Bool) (r:(digs x).length<2^40):∀ (d k:Nat),k+d=4*(digs x).length→aC prog ap [] nt (af 0 (ai f117)) (fun _=> .exit 0) (akG (ak (digs x)) (digs x).length nn x (4*(digs x).length)) (agm x (4*(digs x).length)) k (4*(digs x).length):=by
 intro d
 induction d with
 |zero=>
  intro k n;have:k=4*(digs x).length:=by omega
  subst this;exact .done (PL c _ _ _ _ nn _ _ (by simp [lit]))
 | succ d ih=>
  intro k n;refine .next ?_ (ih (k+1) (by omega))
  generalize s:4*(digs x).length=M at*
  have a:k<M:=by omega
  have m:k / 4<(digs x).length:=by omega
  have p:γ .i64 (Xxm (k:Int) 4)=((k / 4:Nat):Int):=by
   rw [Xz8 (by omega),gK (by omega) (by omega)];omega
  have o:Xxj (k:Int) 4=((k % 4:Nat):Int):=by
   rw [Xvh (by omega)];omega
  have f:γ .i64 ((8:Int)*((k % 4:Nat):Int))=((8*(k % 4):Nat):Int):=by
   rw [gK (by omega) (by omega)];omega
  have e:γ .i64 (γ .i64 ((M:Int) - 1) - (k:Int))=((M - 1 - k:Nat):Int):=by
   have i:γ .i64 ((M:Int) - 1)=((M - 1:Nat):Int):=by
    rw [gK (by omega) (by omega)];omega
   rw [i,gK (by omega) (by omega)];omega
  have h:(0+δ ((M - 1 - k:Nat):Int))*1=M - 1 - k:=by omega
  have g:γ .i64 ((k:Int)+1)=((k+1:Nat):Int):=by
   rw [gK (by omega) (by omega)];omega
  have q:min (δ ((8*(k % 4):Nat):Int)) (Xqh .u32)=8*(k % 4):=by
   show min (δ ((8*(k % 4):Nat):Int)) 32=_;omega
  have j:δ ((k / 4:Nat):Int)=k / 4:=by omega
  have hcell:=Ky (l:=digs x) m;rw [yY] at hcell;have hbody:=PK c (ak (digs x)) (pX (qg M k x)) (digs x).length M nn (M:Int) (k:Int);rw [p,o,f,e,h,g,q,j,hcell] at hbody;simp only [χ] at hbody;have b:Xq4 ((x / 2^(32*(k / 4)) % 2^32:Nat):Int) (2^(8*(k % 4)))=((x / 2^(32*(k / 4)) % 2^32 / 2^(8*(k % 4)):Nat):Int):=by
   have:((2:Int)^(8*(k % 4)))=((2^(8*(k % 4)):Nat):Int):=by simp
   rw [this,Xz9 _ (Xkt _)];exact (Yqc _ _).symm
  rw [b,adE,aan,ahg _ _ _ (by rw [jm];omega),← Yq a] at hbody;exact hbody (by rw [az,jm];exact Xql (by omega)) (Yq0 (by omega)) (Yq0 (by omega)) (Yq0 (by omega)) rfl (Yq0 (by omega)) (Yq0 (by omega)) (Yq0 (by omega))
theorem amO (s:List UInt8) (c:UInt8):CO 192 [.str s,.int .u8 (c.toNat:Int)] (.ret (.str (s.dropWhile (· ==c)))):=pK [0] 0 0 .nil (.l (aC.blk (fun nt a=>NT a c s) (by simp) rfl (aP.of ⟨rfl,rfl,trivial⟩) (aP.of ⟨rfl,trivial⟩):aN prog ap [] 17 (.block 0 (.loop (af 0 (ai f192)))) ⟨[(0,.str s),(1,.int .u8 (c.toNat:Int)),(4,.str []),(13,.dead)],[],.dead,[]⟩ (.normal) ⟨[(0,.str (s.dropWhile (· ==c)))],[],.dead,[]⟩) .nil)
theorem Oj (s:List UInt8) (a:lit true (s== [])=true):CO 163 [.str s,.str [0]] (.ret (.str s)):=pK [] 2 3 (.k 1 a .nil) (.nil)
theorem Ol (s:List UInt8) (a:lit false (s== [])=true):CO 163 [.str s,.str [0]] (.ret (.str (s.dropWhile (· ==0)))):=pK [] 4 12 (.k 7 a .nil) (.c (amO s 0) .nil)
theorem KT (s:List UInt8):CO 163 [.str s,.str [0]] (.ret (.str (s.dropWhile (· ==0)))):=by
 by_cases h:s= []
 ·subst h;exact Oj [] rfl
 ·exact Ol s (by simp [lit,h])
def kw (m x:Nat):List UInt8:=(Xq9 m).map fun i=>Xqo (x / 2^(8*(m - 1 - i)) % 256)
def ae (x:Nat):List UInt8:=(kw (4*(digs x).length) x).dropWhile (· ==0)
theorem JU (x:Nat) (h:(digs x).length<2^40):γ .i64 ((4:Int)*(((digs x).length:Nat):Int))=((4*(digs x).length:Nat):Int):=by
 rw [gK (by omega) (by omega)];omega
theorem agI (m x:Nat):gQ m [Xx0 .u8 0]=pX (qg m 0 x):=by
 have e:qg m 0 x=(Xq9 m).map fun _=>0:=by
  unfold qg;apply Xjb;intro i a;rw [if_neg (by have:=List.mem_range.1 a;omega)]
 rw [e];unfold gQ pX
 induction m with
 |zero=>rfl
 | succ m ih=>
  rw [Xj8,Xwf,Xwm,Xxx,Xxx];have b:qg m 0 x=(Xq9 m).map fun _=>0:=by
   unfold qg;apply Xjb;intro i a;rw [if_neg (by have:=List.mem_range.1 a;omega)]
  rw [ih b];simp
theorem U7 (m x:Nat):Xw6 (fun c=>Xqo (δ (χ c))) (pX (qg m m x))=kw m x:=by
 unfold pX qg kw;rw [Xz2,Xz2];apply Xjb;intro i _;simp only [Xvu,Xj4,Xx1,if_true,χ];congr 1
theorem aeC (l:List Nat):Xzx (pX l) (chk (.int .u8))=true:=by
 unfold pX;rw [List.all_map];exact List.all_eq_true.2 fun x _=>rfl
theorem Gv (m k x:Nat):ν (m*1) (pX (qg m k x))=pX (qg m k x):=by
 rw [Ξ,υ (by rw [az,jm];exact Δ _)]
theorem Yt (l:List Nat) (x:Nat) (nn:Bool) (a:eY l=digs x) (f:l.length<2^40) (hd:(digs x).length<2^40) (d:(Xqn (θ (ν ((4*(digs x).length)*1) (pX (qg (4*(digs x).length) (4*(digs x).length) x)))) (4*(digs x).length))=true) (h:(Xzx (ν ((4*(digs x).length)*1) (pX (qg (4*(digs x).length) (4*(digs x).length) x))) (chk (.int .u8)))=true) (e:(decide ((0:Int)≤(γ .i64 ((4:Int)*(((digs x).length:Nat):Int)))))=true) (b:(decide ((γ .i64 ((4:Int)*(((digs x).length:Nat):Int)))=(γ .i64 ((4:Int)*(((digs x).length:Nat):Int)))))=true) (g:(decide ((γ .i64 ((4:Int)*(((digs x).length:Nat):Int)))≤(1099511627776:Int)))=true):CO 117 [.sl (ak l) l.length nn] (.ret (.str (ae x))):=pK [0] 0 0 (.c d (.c h (.c e (.c b (.c g .nil))))) (.c (by rw [Gv,U7];exact KT _:CO 163 [.str (Xw6 (fun c=>Xqo (δ (χ c))) (ν ((4*(digs x).length)*1) (pX (qg (4*(digs x).length) (4*(digs x).length) x)))),.str [0]] (.ret (.str (ae x)))) (.l (by rw [JU x hd,yC,agI _ x];exact aC.blk (fun nt i=>Yp i x nn hd (4*(digs x).length) 0 (by omega)) (by simp) rfl (aP.of ⟨rfl,rfl,rfl,rfl,trivial⟩) (aP.of ⟨rfl,trivial⟩):aN prog ap [] 37 (.block 0 (.loop (af 0 (ai f117)))) ⟨[(0,.sl (ak (digs x)) (digs x).length nn),(2,.str []),(3,.ref 0 0 0 (δ (γ .i64 ((4:Int)*(((digs x).length:Nat):Int))))),(4,.dead),(12,ω (((δ (γ .i64 ((4:Int)*(((digs x).length:Nat):Int)))):Nat):Int)),(13,ω 0),(14,.dead)],[(0,⟨(gQ (δ (γ .i64 ((4:Int)*(((digs x).length:Nat):Int)))) [.int .u8 0]),0,false,0,1,true⟩)],.dead,[]⟩ (.normal) ⟨[(3,.ref 0 0 0 (4*(digs x).length))],[(0,⟨(pX (qg (4*(digs x).length) (4*(digs x).length) x)),0,false,0,1,true⟩)],.dead,[]⟩) (.c (by rw [← a];exact Qo l nn f:CO 162 [.sl (ak l) l.length nn] (.ret (.sl (ak (digs x)) (digs x).length nn))) .nil)))
theorem sG (l:List Nat) (x:Nat) (nn:Bool) (a:eY l=digs x) (b:l.length<2^40) (hd:(digs x).length<2^36):CO 117 [.sl (ak l) l.length nn] (.ret (.str (ae x))):=
 Yt l x nn a b (by omega)
  (by rw [Gv,az,jm];exact Xvk _) (by rw [Gv];exact aeC _)
  (by rw [JU x (by omega)];exact Yq0 (by omega)) (Yq0 rfl) (by rw [JU x (by omega)];exact Yq0 (by omega))
theorem tu (m x:Nat):kw (m+1) x=Xqo (x / 2^(8*m) % 256)::kw m x:=by
 unfold kw;rw [Xwq,Xqb,Xz2];congr 1;apply Xjb;intro i a;simp only [Xvu];have:=List.mem_range.1 a;rw [show m+1 - 1 - (i+1)=m - 1 - i by omega]
theorem Ih:∀ (m:Nat) (b x:Nat),kw m (b*2^(8*m)+x)=kw m x:=by
 intro m b x;unfold kw;apply Xjb;intro i a;have a:=List.mem_range.1 a;have e:8*m=(8*m - 8*(m - 1 - i) - 8)+8+8*(m - 1 - i):=by omega
 congr 1
 conv=>lhs;rw [e]
 rw [Xxp,Xxp,← Xqs,← Xqs,Xx3,Xz1 _ _ (Xqv _)];exact Xvg _ _ 256
theorem Ii:∀ (s:List UInt8),kw s.length (ah s)=s
 | []=>rfl
 |b::r=>by
  rw [ξ,tu,jE,show (256:Nat)^r.length=2^(8*r.length) by rw [Xji],Ih,Ii r];have h:=wY r;rw [show (256:Nat)^r.length=2^(8*r.length) by rw [Xji]] at h;have a:=b.toNat_lt;rw [Xx3,Xz1 _ _ (Xqv _),Xjc h,Xqd,Θ (by omega)];congr 1;exact UInt8.ofNat_toNat
theorem xJ (x:Nat):∀ (d m:Nat),x<2^(8*m)→(kw (m+d) x).dropWhile (· ==0)=(kw m x).dropWhile (· ==0)
 |0,_,_=>rfl
 |d+1,m,h=>by
  rw [show m+(d+1)=(m+d)+1 by omega,tu];have a:x<2^(8*(m+d)):=Φ h (Ψ (by omega) (by omega));rw [Xjc a,Xja,if_pos (by rfl)];exact xJ x d m h
theorem RG {m x:Nat} (h:x<2^(8*m)):(kw m x).dropWhile (· ==0)=ae x:=by
 unfold ae;have a:x<2^(8*(4*(digs x).length)):=by
  have:=jY (n:=x) (Δ _);rwa [show 8*(4*(digs x).length)=32*(digs x).length by omega]
 rcases Yxl m (4*(digs x).length) with hm|hm
 ·have:=xJ x (4*(digs x).length - m) m h;rw [show m+(4*(digs x).length - m)=4*(digs x).length by omega] at this;exact this.symm
 ·have:=xJ x (m - 4*(digs x).length) (4*(digs x).length) a;rw [show 4*(digs x).length+(m - 4*(digs x).length)=m by omega] at this;exact this
theorem FM (s:List UInt8):ae (ah s)=s.dropWhile (· ==0):=by
 have h:=wY s;rw [show (256:Nat)^s.length=2^(8*s.length) by rw [Xji]] at h;rw [← RG h,Ii]
theorem N_:∀ (s:List UInt8),ah (s.dropWhile (· ==0))=ah s
 | []=>rfl
 | b::r=>by
  rw [Xja];by_cases hb:b=0
  ·subst hb;rw [if_pos (by rfl),N_ r,jE];simp
  ·rw [if_neg (by simpa using hb)]
theorem I9:∀ (m x:Nat),x<2^(8*m)→ah (kw m x)=x
 |0,x,h=>by simp at h;subst h;rfl
 | m+1,x,h=>by
  rw [tu,jE];have d:(kw m x).length=m:=by simp [kw]
  have a:x / 2^(8*m)<256:=by
   rw [Xqx (Xqv _)];have e:(2:Nat)^(8*(m+1))=256*2^(8*m):=by rw [show 8*(m+1)=8+8*m by omega,Xxp]
   rw [← e];exact h
  have b:ah (kw m x)=x % 2^(8*m):=by
   have e:x=x / 2^(8*m)*2^(8*m)+x % 2^(8*m):=by
    have:=Xxg x (2^(8*m));rw [Xqe] at this;omega
   conv=>lhs;rw [e]
   rw [Ih];exact I9 m _ (Xq3 _ (Xqv _))
  rw [d,b,Θ a];have c:(Xqo (x / 2^(8*m))).toNat=x / 2^(8*m):=by
   rw [UInt8.toNat_ofNat'];exact Θ a
  rw [c,show (256:Nat)^m=2^(8*m) by rw [Xji]];have:=Xxg x (2^(8*m));rw [Xqe] at this;exact this
theorem aH (x:Nat):ah (ae x)=x:=by
 unfold ae;rw [N_];refine I9 _ _ ?_;have:=jY (n:=x) (Δ _);rwa [show 8*(4*(digs x).length)=32*(digs x).length by omega]
end Go.Proofs.Tryz
set_option maxRecDepth 100000
open Go
namespace AM
theorem bH {x:Int} (h: -9223372036854775808≤x) (a:x<9223372036854775808):γ .i64 x=x:=by
 show (if (true && decide (x % 2^64≥2^63))=true then x % 2^64 - 2^64 else x % 2^64)=x;by_cases hx:x % 2^64≥2^63
 ·rw [if_pos (by simpa using hx)];omega
 ·rw [if_neg (by simpa using hx)];omega
theorem bC {a:Nat} (h:a<9223372036854775808):γ .i64 (a:Int)=(a:Int):=bH (by omega) (by omega)
theorem adD {a b:Nat} (h:a+b<9223372036854775808):γ .i64 ((a:Int)+(b:Int))=((a+b:Nat):Int):=by
 rw [bH (by omega) (by omega)];omega
theorem jU {a b:Nat} (h:b≤a) (c:a<9223372036854775808):γ .i64 ((a:Int) - (b:Int))=((a - b:Nat):Int):=by
 rw [bH (by omega) (by omega)];omega
theorem TT {a b:Nat} (h:a*b<9223372036854775808):γ .i64 ((a:Int)*(b:Int))=((a*b:Nat):Int):=by
 rw [← Xw9,bC h]
theorem ZK (k:IntKind) (a:k.signed=false) (x:Int):γ k x=x % 2^k.bits:=by
 show (if (k.signed && _)=true then _ else _)=_;rw [a];rfl
theorem Qr {w:Nat} {k:IntKind} (c:k.signed=false) (b:k.bits=w) (a:Nat):γ k (a:Int)=((a % 2^w:Nat):Int):=by
 rw [ZK k c,b];simp
theorem w8u (a:Nat):γ .u8 (a:Int)=((a % 256:Nat):Int):=Qr (w:=8) rfl rfl a
theorem sS (a:Nat):γ .u32 (a:Int)=((a % 4294967296:Nat):Int):=Qr (w:=32) rfl rfl a
theorem pV (a:Nat):γ .u64 (a:Int)=((a % 18446744073709551616:Nat):Int):=Qr (w:=64) rfl rfl a
theorem lF (a b:Nat):γ .u64 ((a:Int) - (b:Int))=(((a+(18446744073709551616 - b % 18446744073709551616)) % 18446744073709551616:Nat):Int):=by
 rw [ZK .u64 rfl,show Xqh .u64=64 from rfl];omega
theorem dI (a b:Nat):((a:Int)+(b:Int))=((a+b:Nat):Int):=(Int.natCast_add a b).symm
theorem yQ (a b:Nat):((a:Int)*(b:Int))=((a*b:Nat):Int):=(Xw9 a b).symm
theorem tC (a b:Nat):Xxm (a:Int) (b:Int)=((a / b:Nat):Int):=(Int.ofNat_tdiv a b).symm
theorem uV (a b:Nat):Xxj (a:Int) (b:Int)=((a % b:Nat):Int):=(Int.ofNat_tmod a b).symm
theorem Et (a n:Nat):((a:Int)*2^n)=((2^n*a:Nat):Int):=by rw [Xqe];simp
theorem sD {a b:Nat} (h:a≤b):min a b=a:=Xjd h
theorem Rz {a:Nat} (h:a≤64):min a (Xqh .u64)=a:=Xjd h
theorem Ry {a:Nat} (h:a≤32):min a (Xqh .u32)=a:=Xjd h
theorem nZ:(2:Nat)^32=4294967296:=by decide
theorem ak1:(2:Nat)^63=9223372036854775808:=by decide
theorem lI (a n:Nat):Xq4 (a:Int) (2^n)=((a / 2^n:Nat):Int):=by
 have:((2:Int)^n)=((2^n:Nat):Int):=by simp
 rw [this,Xz9 _ (Xkt _)];exact (Yqc _ _).symm
theorem aK (a:Nat):δ (a:Int)=a:=rfl
theorem wL {w x:Nat} (h:x<2^w):(Xqj w (x:Int)).toNat=x:=by
 rw [Xkg,Xks,Θ h]
theorem QA {w a b:Nat} (d:a<2^w) (c:b<2^w):Xxq (Xqj w (a:Int)|||Xqj w (b:Int))=a|||b:=by
 rw [Yqk,wL d,wL c]
theorem KY {w a b:Nat} (d:a<2^w) (c:b<2^w):Xxq (Xqj w (a:Int) &&& Xqj w (b:Int))=a &&& b:=by
 rw [BitVec.toNat_and,wL d,wL c]
theorem YE {a b:Nat} (c:a<18446744073709551616) (d:b<18446744073709551616):Xxq (Xqj (Xqh .u64) (a:Int)|||Xqj (Xqh .u64) (b:Int))=a|||b:=QA (w:=64) c d
theorem ak0 {a b:Nat} (c:a<4294967296) (d:b<4294967296):Xxq (Xqj (Xqh .u32) (a:Int)|||Xqj (Xqh .u32) (b:Int))=a|||b:=QA (w:=32) c d
theorem ah4 {a b:Nat} (c:a<18446744073709551616) (d:b<18446744073709551616):Xxq (Xqj (Xqh .u64) (a:Int) &&& Xqj (Xqh .u64) (b:Int))=a &&& b:=KY (w:=64) c d
theorem anj {a b:Nat} (c:a<18446744073709551616) (d:b<18446744073709551616):Xxq (Xqj (Xqh .i64) (a:Int) &&& Xqj (Xqh .i64) (b:Int))=a &&& b:=KY (w:=64) c d
theorem Bl {a b k:Nat} (h:b<2^k):a*2^k|||b=a*2^k+b:=by
 have:=Xw2 h a;rw [Yqb] at this;exact this.symm
theorem Wn (a k:Nat):a &&& (2^k - 1)=a % 2^k:=Nat.and_two_pow_sub_one_eq_mod a k
theorem En (a:Nat):a &&& 4294967295=a % 4294967296:=Wn a 32
theorem eU (a b:Nat):decide ((a:Int)≤(b:Int))=decide (a≤b):=by
 by_cases h:a≤b<;>simp [h]
theorem bK (a b:Nat):decide ((a:Int)<(b:Int))=decide (a<b):=by
 by_cases h:a<b<;>simp [h]
theorem d_eq (a b:Nat):decide ((a:Int)=(b:Int))=decide (a=b):=by
 by_cases h:a=b
 ·simp [h]
 ·rw [Yq1 h,Yq1 (by omega)]
theorem qK (a b:Nat):((a:Int)==(b:Int))=decide (a=b):=d_eq a b
theorem gy (a b:Nat):Xqc a b=decide (a≤b):=by
 by_cases h:a≤b
 ·rw [Yq0 h];exact Xql h
 ·rw [Yq1 h];cases c:Xqc a b with
  |false=>rfl
  |true=>exact absurd (Nat.le_of_ble_eq_true c) h
theorem JP (a b:Nat):Xqn a b=decide (a=b):=by
 by_cases h:a=b
 ·rw [Yq0 h,h];exact Xvk _
 ·rw [Yq1 h];cases c:Xqn a b with
  |false=>rfl
  |true=>exact absurd (Nat.eq_of_beq_eq_true c) h
theorem bU (b:Bool):lit true b=b:=rfl
theorem fK (b:Bool):lit false b= !b:=rfl
theorem gV (b:Bool):((!b)=true)=(b=false):=by cases b<;>simp
theorem Yn (b:Bool):((!b)=false)=(b=true):=by cases b<;>simp
theorem bJ (p:Prop) [Decidable p]:(decide p=true)=p:=by simp
theorem iD (p:Prop) [Decidable p]:(decide p=false)=¬ p:=by simp
end AM
set_option maxRecDepth 100000
open Go AM
namespace Go.Proofs.Tryz
def aI:List Nat→Nat
 | []=>0
 |d::r=>d+4294967296*aI r
def bQ (l:List Nat):Prop:=∀ d ∈ l,d<4294967296
theorem bQ.nil:bQ []:=fun _ h=>(by cases h)
theorem bQ.cons {d:Nat} {l:List Nat} (h:d<4294967296) (b:bQ l):bQ (d::l):=by
 intro x a;rcases List.mem_cons.1 a with rfl|h1
 ·exact h
 ·exact b x h1
theorem bQ.head {d:Nat} {l:List Nat} (h:bQ (d::l)):d<4294967296:=h d (Xjv ..)
theorem bQ.tail {d:Nat} {l:List Nat} (h:bQ (d::l)):bQ l:=fun x a=>h x (Xje _ a)
theorem bQ.app {a b:List Nat} (h:bQ a) (d:bQ b):bQ (a++b):=fun x c=>(List.mem_append.1 c).elim (h x) (d x)
theorem bQ.take {a:List Nat} (h:bQ a) (n:Nat):bQ (a.take n):=fun x b=>h x (Xxz b)
theorem bQ.drop {a:List Nat} (h:bQ a) (n:Nat):bQ (a.drop n):=fun x b=>h x (List.mem_of_mem_drop b)
theorem bQ.getD {a:List Nat} (h:bQ a) (n:Nat):a.getD n 0<4294967296:=by
 rw [κ];cases b:a[n]? with
 |none=>simp
 |some x=>simpa using h x (List.mem_of_getElem? b)
theorem bQ.zeros (n:Nat):bQ (μ n 0):=fun x a=>by rw [(List.mem_replicate.1 a).2];omega
theorem nC (a b:List Nat):aI (a++b)=aI a+4294967296^a.length*aI b:=by
 induction a with
 |nil=>simp [aI]
 |cons d a ih=>
  simp only [Xxd,aI,ih,ξ,Xq5,Xxe,← Xqs];rw [Xqe (4294967296^a.length) 4294967296];omega
theorem qI {l:List Nat} (h:bQ l):aI l<4294967296^l.length:=by
 induction l with
 |nil=>simp [aI]
 |cons d l ih=>
  have b:=ih h.tail;have a:=h.head;simp only [aI,ξ,Xq5];omega
theorem mX (k:Nat):(2:Nat)^(32*k)=4294967296^k:=by rw [Xji]
theorem iJ (k:Nat):0<4294967296^k:=Yqn (by omega)
theorem FY {l:List Nat} (h:bQ l):bT l.length (aI l)=l:=by
 unfold bT
 induction l with
 |nil=>rfl
 | cons d l ih=>
  rw [ξ,Xwq,Xqb,Xz2];congr 1
  ·have:=h.head;simp only [aI,Xjk,Xvl,Xwr];omega
  ·refine Eq.trans ?_ (ih h.tail);apply Xjb;intro i _;simp only [Xvu];have e:(2:Nat)^(32*(i+1))=4294967296*2^(32*i):=by rw [Xxe,Xxp,Xqe]
   rw [Xkp,e,← Xx7];have:aI (d::l) / 4294967296=aI l:=by have:=h.head;simp only [aI];omega
   rw [this]
theorem jP {l:List Nat} (h:bQ l):eY l=digs (aI l):=by
 have a:=DJ (m:=l.length) (n:=aI l) (by rw [mX];exact qI h);rw [FY h] at a;exact a
theorem wX (m n:Nat):aI (bT m n)=n % 2^(32*m):=by
 induction m with
 |zero=>simp [bT,aI,Yqm]
 |succ m ih=>
  rw [vT,nC,ih,aY,Bg];simp only [aI,mX,Xjk,Xq8];rw [Xqe,Xx3]
theorem bQ.pad (m n:Nat):bQ (bT m n):=by
 intro x a;obtain ⟨i,_,rfl⟩:=List.mem_map.1 a;exact Xq3 _ (by omega)
theorem VL:∀ (l:List Nat),aI (eY l)=aI l:=by
 intro l
 induction h:l.length generalizing l with
 |zero=>rw [List.length_eq_zero_iff.1 h];rfl
 | succ n ih=>
  rcases Xzz l with rfl|⟨r,d,rfl⟩
  ·rfl
  ·rw [Xz0,pR];split
   ·next hd=>subst hd;rw [ih r (by simpa using h),nC];simp [aI]
   ·rfl
theorem VK {x:Nat}:∀ (l:List Nat),x ∈ eY l→x ∈ l:=by
 intro l a;unfold eY at a;have:=List.dropWhile_suffix (fun x:Nat=>x==0) (l:=l.reverse)|>.subset (List.mem_reverse.1 a)
 exact List.mem_reverse.1 this
theorem fM (n:Nat):aI (digs n)=n:=by
 unfold digs;rw [VL,wX,Θ (mg n)]
theorem bQ.digs (n:Nat):bQ (digs n):=fun x a=>bQ.pad n n x (VK _ a)
theorem VV {l:List Nat} {k:Nat} (h:k<l.length):aI (l.drop k)=l.getD k 0+4294967296*aI (l.drop (k+1)):=by
 rw [Xxf h,κ,π h];rfl
theorem GG (l:List Nat) (k:Nat) (h:k≤l.length):aI l=aI (l.take k)+4294967296^k*aI (l.drop k):=by
 have:=nC (l.take k) (l.drop k);rwa [List.take_append_drop,Xxa,Xjd h] at this
theorem Aj {l:List Nat} {k:Nat} (h:k<l.length):ζ (ε k (ak l)) .dead= .int .u32 ((l.getD k 0:Nat):Int):=by
 have:=Ky h;rwa [Ξ] at this
theorem jT {p s:List Nat} {x k:Nat} (h:k=p.length):ζ (ε k (ak (p++x::s))) .dead= .int .u32 (x:Int):=by
 subst h;rw [Aj (by simp)];simp
theorem mF {p s:List Nat} {x y k:Nat} (h:k=p.length):ν k (ak (p++x::s))++ [Xx0 .u32 (y:Int)]++ε (k+1) (ak (p++x::s))=ak (p++y::s):=by
 subst h;rw [Tj _ _ _ (by simp)];simp
theorem jR (x:Int):chk (.int .u32) (.int .u32 x)=true:=rfl
theorem bi (k:IntKind) (x:Int):χ (.int k x)=x:=rfl
theorem qE (m:Nat):gQ m [Xx0 .u32 0]=ak (μ m 0):=by
 rw [Sr];congr 1;unfold bT;apply List.ext_getElem
 ·simp
 ·intro i b a;simp
theorem pO (l:List Nat) (k:Nat):ν k (ak l)=ak (l.take k):=by unfold ak;rw [Xwl]
theorem W_ (l:List Nat) (k:Nat):ε k (ak l)=ak (l.drop k):=by unfold ak;rw [Xju]
theorem Vy {nt:Nat} (l:44≤nt) (a:List Nat) (nn:Bool) (b r M:Nat) (k:Int) (c:List AV) (g:(Xqc (((0+(δ k))*1)+1) (θ c))=true) (e:(decide (((0:Nat):Int)≤k))=true) (h:(decide (k<(M:Int)))=true) (d:(!((γ .u64 (b:Int))==((0:Nat):Int)))=true) (i:(chk (.int .u32) (ζ (ε ((δ k)*1) (ak a)) .dead))=true) (j:(decide (k<(a.length:Int)))=true) (f:lit true (decide (((0:Nat):Int)≤k))=true):ψ nt f220 ⟨[(0,.sl (ak a) a.length nn),(1,.int .u32 (b:Int)),(6,.ref 0 0 0 M),(7,.int .u64 (r:Int)),(8,ω k)],[(0,⟨c,0,false,0,1,true⟩)],.dead,[]⟩ (.normal) ⟨[(0,.sl (ak a) a.length nn),(1,.int .u32 (b:Int)),(6,.ref 0 0 0 M),(7,.int .u64 (Xxj (γ .u64 (Xxq (Xqj (Xqh .u64) (γ .u64 ((r:Int)*2^(min 32 64)))|||Xqj (Xqh .u64) (γ .u64 (χ (ζ (ε ((δ k)*1) (ak a)) .dead)))))) (γ .u64 (b:Int)))),(8,ω (γ .i64 (k - ((1:Nat):Int))))],[(0,⟨(ν ((0+(δ k))*1) c++ [.int .u32 (γ .u32 (γ .u64 (Xxm (γ .u64 (Xxq (Xqj (Xqh .u64) (γ .u64 ((r:Int)*2^(min 32 64)))|||Xqj (Xqh .u64) (γ .u64 (χ (ζ (ε ((δ k)*1) (ak a)) .dead)))))) (γ .u64 (b:Int)))))]++ε (((0+(δ k))*1)+1) c),0,false,0,1,true⟩)],.dead,[]⟩:=pJ 220 [] 1 1 (.c g (.c e (.c h (.c d (.c d (.c i (.c e (.c j (.k 1 f .nil))))))))) (.nil) l
theorem Vz {nt:Nat} (e:44≤nt) (a:List Nat) (nn:Bool) (b r M:Nat) (k:Int) (c:List AV) (d:lit false (decide (((0:Nat):Int)≤k))=true):ψ nt f220 ⟨[(0,.sl (ak a) a.length nn),(1,.int .u32 (b:Int)),(6,.ref 0 0 0 M),(7,.int .u64 (r:Int)),(8,ω k)],[(0,⟨c,0,false,0,1,true⟩)],.dead,[]⟩ (.exit 0) ⟨[(0,.sl (ak a) a.length nn),(1,.int .u32 (b:Int)),(6,.ref 0 0 0 M),(7,.int .u64 (r:Int)),(8,ω k)],[(0,⟨c,0,false,0,1,true⟩)],.dead,[]⟩:=pJ 220 [] 1 0 (.c d .nil) (.nil) e
theorem VS {nt:Nat} (m:41≤nt) (a:List Nat) (nn:Bool) (n M k:Nat) (b:List AV) (i:(Xqc (((0+(δ (γ .i64 ((k:Int)+((1:Nat):Int)))))*1)+1) (θ (ν ((0+(δ (k:Int)))*1) b++ [.int .u32 (γ .u32 (Xxq (Xqj (Xqh .u32) (χ (ζ (ε ((0+(δ (k:Int)))*1) b) .dead))|||Xqj (Xqh .u32) (γ .u32 (γ .u64 ((γ .u64 (χ (ζ (ε ((δ (k:Int))*1) (ak a)) .dead)))*2^(min (δ (n:Int)) (Xqh .u64))))))))]++ε (((0+(δ (k:Int)))*1)+1) b)))=true) (l:(decide (((0:Nat):Int)≤(γ .i64 ((k:Int)+((1:Nat):Int)))))=true) (j:(decide ((γ .i64 ((k:Int)+((1:Nat):Int)))<(M:Int)))=true) (h:(Xqc (((0+(δ (k:Int)))*1)+1) (θ b))=true) (d:(decide (((0:Nat):Int)≤(k:Int)))=true) (e:(decide ((k:Int)<(M:Int)))=true) (g:(chk (.int .u32) (ζ (ε ((0+(δ (k:Int)))*1) b) .dead))=true) (o:(decide (((0:Nat):Int)≤(n:Int)))=true) (p:(chk (.int .u32) (ζ (ε ((δ (k:Int))*1) (ak a)) .dead))=true) (f:(decide ((k:Int)<(a.length:Int)))=true) (c:lit true (decide ((k:Int)<(a.length:Int)))=true):ψ nt f222 ⟨[(5,.ref 0 0 0 M),(1,ω (n:Int)),(13,.sl (ak a) a.length nn),(14,ω (a.length:Int)),(15,ω (k:Int))],[(0,⟨b,0,false,0,1,true⟩)],.dead,[]⟩ (.normal) ⟨[(5,.ref 0 0 0 M),(1,ω (n:Int)),(13,.sl (ak a) a.length nn),(14,ω (a.length:Int)),(15,ω (γ .i64 ((k:Int)+((1:Nat):Int))))],[(0,⟨(ν ((0+(δ (γ .i64 ((k:Int)+((1:Nat):Int)))))*1) (ν ((0+(δ (k:Int)))*1) b++ [.int .u32 (γ .u32 (Xxq (Xqj (Xqh .u32) (χ (ζ (ε ((0+(δ (k:Int)))*1) b) .dead))|||Xqj (Xqh .u32) (γ .u32 (γ .u64 ((γ .u64 (χ (ζ (ε ((δ (k:Int))*1) (ak a)) .dead)))*2^(min (δ (n:Int)) (Xqh .u64))))))))]++ε (((0+(δ (k:Int)))*1)+1) b)++ [.int .u32 (γ .u32 (Xq4 (γ .u64 ((γ .u64 (χ (ζ (ε ((δ (k:Int))*1) (ak a)) .dead)))*2^(min (δ (n:Int)) (Xqh .u64)))) (2^(min 32 64))))]++ε (((0+(δ (γ .i64 ((k:Int)+((1:Nat):Int)))))*1)+1) (ν ((0+(δ (k:Int)))*1) b++ [.int .u32 (γ .u32 (Xxq (Xqj (Xqh .u32) (χ (ζ (ε ((0+(δ (k:Int)))*1) b) .dead))|||Xqj (Xqh .u32) (γ .u32 (γ .u64 ((γ .u64 (χ (ζ (ε ((δ (k:Int))*1) (ak a)) .dead)))*2^(min (δ (n:Int)) (Xqh .u64))))))))]++ε (((0+(δ (k:Int)))*1)+1) b)),0,false,0,1,true⟩)],.dead,[]⟩:=pJ 222 [] 1 1 (.c i (.c l (.c j (.k 1 h (.c d (.c e (.c g (.c d (.c e (.c o (.c p (.c d (.c f (.c c .nil)))))))))))))) (.nil) m
theorem VT {nt:Nat} (d:41≤nt) (a:List Nat) (nn:Bool) (n M k:Nat) (b:List AV) (c:lit false (decide ((k:Int)<(a.length:Int)))=true):ψ nt f222 ⟨[(5,.ref 0 0 0 M),(1,ω (n:Int)),(13,.sl (ak a) a.length nn),(14,ω (a.length:Int)),(15,ω (k:Int))],[(0,⟨b,0,false,0,1,true⟩)],.dead,[]⟩ (.exit 0) ⟨[(5,.ref 0 0 0 M)],[(0,⟨b,0,false,0,1,true⟩)],.dead,[]⟩:=pJ 222 [] 1 0 (.c c .nil) (.nil) d
theorem Ut {nt:Nat} (p:48≤nt) (a:List Nat) (nn:Bool) (n M k:Nat) (b:List AV) (o:(Xqc (((0+(δ (k:Int)))*1)+1) (θ (ν ((0+(δ (k:Int)))*1) b++ [.int .u32 (Xq4 (χ (ζ (ε ((δ (k:Int))*1) (ak a)) .dead)) (2^(min (δ (n:Int)) (Xqh .u32))))]++ε (((0+(δ (k:Int)))*1)+1) b)))=true) (c:(decide (((0:Nat):Int)≤(k:Int)))=true) (g:(decide ((k:Int)<(M:Int)))=true) (m:(decide (((0:Nat):Int)≤(γ .i64 (((32:Nat):Int) - (n:Int)))))=true) (s:(chk (.int .u32) (ζ (ε ((δ (γ .i64 ((k:Int)+((1:Nat):Int))))*1) (ak a)) .dead))=true) (j:(decide (((0:Nat):Int)≤(γ .i64 ((k:Int)+((1:Nat):Int)))))=true) (l:(decide ((γ .i64 ((k:Int)+((1:Nat):Int)))<(a.length:Int)))=true) (q:(chk (.int .u32) (ζ (ε ((0+(δ (k:Int)))*1) (ν ((0+(δ (k:Int)))*1) b++ [.int .u32 (Xq4 (χ (ζ (ε ((δ (k:Int))*1) (ak a)) .dead)) (2^(min (δ (n:Int)) (Xqh .u32))))]++ε (((0+(δ (k:Int)))*1)+1) b)) .dead))=true) (r:lit true (decide ((γ .i64 ((k:Int)+((1:Nat):Int)))<(a.length:Int)))=true) (i:(Xqc (((0+(δ (k:Int)))*1)+1) (θ b))=true) (h:(decide (((0:Nat):Int)≤(n:Int)))=true) (d:(chk (.int .u32) (ζ (ε ((δ (k:Int))*1) (ak a)) .dead))=true) (f:(decide ((k:Int)<(a.length:Int)))=true) (e:lit true (decide ((k:Int)<(a.length:Int)))=true):ψ nt f226 ⟨[(0,.sl (ak a) a.length nn),(1,ω (n:Int)),(5,.ref 0 0 0 M),(11,.sl (ak a) a.length nn),(12,ω (a.length:Int)),(13,ω (k:Int))],[(0,⟨b,0,false,0,1,true⟩)],.dead,[]⟩ (.normal) ⟨[(0,.sl (ak a) a.length nn),(1,ω (n:Int)),(5,.ref 0 0 0 M),(11,.sl (ak a) a.length nn),(12,ω (a.length:Int)),(13,ω (γ .i64 ((k:Int)+((1:Nat):Int))))],[(0,⟨(ν ((0+(δ (k:Int)))*1) (ν ((0+(δ (k:Int)))*1) b++ [.int .u32 (Xq4 (χ (ζ (ε ((δ (k:Int))*1) (ak a)) .dead)) (2^(min (δ (n:Int)) (Xqh .u32))))]++ε (((0+(δ (k:Int)))*1)+1) b)++ [.int .u32 (γ .u32 (Xxq (Xqj (Xqh .u32) (χ (ζ (ε ((0+(δ (k:Int)))*1) (ν ((0+(δ (k:Int)))*1) b++ [.int .u32 (Xq4 (χ (ζ (ε ((δ (k:Int))*1) (ak a)) .dead)) (2^(min (δ (n:Int)) (Xqh .u32))))]++ε (((0+(δ (k:Int)))*1)+1) b)) .dead))|||Xqj (Xqh .u32) (γ .u32 (γ .u64 ((γ .u64 (χ (ζ (ε ((δ (γ .i64 ((k:Int)+((1:Nat):Int))))*1) (ak a)) .dead)))*2^(min (δ (γ .i64 (((32:Nat):Int) - (n:Int)))) (Xqh .u64))))))))]++ε (((0+(δ (k:Int)))*1)+1) (ν ((0+(δ (k:Int)))*1) b++ [.int .u32 (Xq4 (χ (ζ (ε ((δ (k:Int))*1) (ak a)) .dead)) (2^(min (δ (n:Int)) (Xqh .u32))))]++ε (((0+(δ (k:Int)))*1)+1) b)),0,false,0,1,true⟩)],.dead,[]⟩:=pJ 226 [] 2 3 (.c o (.c c (.c g (.c m (.c s (.c j (.c l (.c q (.c c (.c g (.c r (.c i (.c c (.c g (.c h (.c d (.c c (.c f (.c e .nil))))))))))))))))))) (.nil) p
theorem Uu {nt:Nat} (l:48≤nt) (a:List Nat) (nn:Bool) (n M k:Nat) (b:List AV) (f:lit false (decide ((γ .i64 ((k:Int)+((1:Nat):Int)))<(a.length:Int)))=true) (j:(Xqc (((0+(δ (k:Int)))*1)+1) (θ b))=true) (c:(decide (((0:Nat):Int)≤(k:Int)))=true) (e:(decide ((k:Int)<(M:Int)))=true) (h:(decide (((0:Nat):Int)≤(n:Int)))=true) (i:(chk (.int .u32) (ζ (ε ((δ (k:Int))*1) (ak a)) .dead))=true) (d:(decide ((k:Int)<(a.length:Int)))=true) (g:lit true (decide ((k:Int)<(a.length:Int)))=true):ψ nt f226 ⟨[(0,.sl (ak a) a.length nn),(1,ω (n:Int)),(5,.ref 0 0 0 M),(11,.sl (ak a) a.length nn),(12,ω (a.length:Int)),(13,ω (k:Int))],[(0,⟨b,0,false,0,1,true⟩)],.dead,[]⟩ (.normal) ⟨[(0,.sl (ak a) a.length nn),(1,ω (n:Int)),(5,.ref 0 0 0 M),(11,.sl (ak a) a.length nn),(12,ω (a.length:Int)),(13,ω (γ .i64 ((k:Int)+((1:Nat):Int))))],[(0,⟨(ν ((0+(δ (k:Int)))*1) b++ [.int .u32 (Xq4 (χ (ζ (ε ((δ (k:Int))*1) (ak a)) .dead)) (2^(min (δ (n:Int)) (Xqh .u32))))]++ε (((0+(δ (k:Int)))*1)+1) b),0,false,0,1,true⟩)],.dead,[]⟩:=pJ 226 [] 2 1 (.c f (.c j (.c c (.c e (.c h (.c i (.c c (.c d (.c g .nil))))))))) (.nil) l
theorem Uw {nt:Nat} (d:48≤nt) (a:List Nat) (nn:Bool) (n M k:Nat) (b:List AV) (c:lit false (decide ((k:Int)<(a.length:Int)))=true):ψ nt f226 ⟨[(0,.sl (ak a) a.length nn),(1,ω (n:Int)),(5,.ref 0 0 0 M),(11,.sl (ak a) a.length nn),(12,ω (a.length:Int)),(13,ω (k:Int))],[(0,⟨b,0,false,0,1,true⟩)],.dead,[]⟩ (.exit 0) ⟨[(5,.ref 0 0 0 M)],[(0,⟨b,0,false,0,1,true⟩)],.dead,[]⟩:=pJ 226 [] 1 0 (.c c .nil) (.nil) d
def nK (b:Nat):List Nat→List Nat→Nat→List Nat × Nat
 | [],q,r=>(q,r)
 |x::l,q,r=>nK b l ((4294967296*r+x) / b::q) ((4294967296*r+x) % b)
theorem Gs {b r x:Nat} (a:0<b) (c:r<b) (d:x<4294967296):(4294967296*r+x) / b<4294967296:=by
 rw [Xqx a];have e:4294967296*(r+1)≤4294967296*b:=Xq0 _ c;omega
theorem Zh {b r x v:Nat}:((4294967296*r+x) / b+4294967296*v)*b+(4294967296*r+x) % b=4294967296*(v*b+r)+x:=by
 have a:=Xxg (4294967296*r+x) b;generalize (4294967296*r+x) / b=y at*
 generalize (4294967296*r+x) % b=z at*
 rw [Xxw,Xqs,Xqe y b];omega
theorem P7 {b:Nat} (d:0<b) (l:List Nat):∀ (q:List Nat) (r:Nat),r<b→bQ l→bQ q→
  (nK b l q r).2<b∧bQ (nK b l q r).1∧(nK b l q r).1.length=q.length+l.length∧aI (nK b l q r).1*b+(nK b l q r).2=4294967296^l.length*(aI q*b+r)+aI l.reverse:=by
 induction l with
 |nil=>
  intro q r a _ c;refine ⟨a,c,rfl, ?_⟩;simp only [nK,Xqa,Xvl,Xzt,Xw1,aI,Xq8]
 |cons x l ih=>
  intro q r a e c;obtain ⟨g,h,i,f⟩:=ih ((4294967296*r+x) / b::q) ((4294967296*r+x) % b) (Xq3 _ d) e.tail (c.cons (Gs d a e.head));refine ⟨g,h, ?_, ?_⟩
  ·simp only [nK];rw [i,ξ,ξ];omega
  simp only [nK];rw [f,Xz7,nC,Xzs,ξ,Xq5];simp only [aI,Xjk,Xq8];rw [Zh,Xxe,Xqs];omega
def Vx (a:List Nat) (nn:Bool) (b:Nat) (k:Nat) (q:List Nat) (r:Nat):St:=⟨[(0,.sl (ak a) a.length nn),(1,.int .u32 (b:Int)),(6,.ref 0 0 0 a.length),(7,.int .u64 (r:Int)),(8,ω ((k:Int) - 1))],[(0,⟨ak (μ k 0++q),0,false,0,1,true⟩)],.dead,[]⟩
theorem P8 {nt:Nat} (n:44≤nt) (a:List Nat) (nn:Bool) (b:Nat) (g:0<b) (p:b<4294967296) (v:a.length<2^40) (f:bQ a):
  ∀ (l q d:List Nat) (r:Nat),r<b→l.reverse++d=a→q.length=d.length→aC prog ap [] nt (af 0 (ai f220)) (fun _=> .exit 0) (fun (x:Nat × List Nat × Nat)=>Vx a nn b x.1 x.2.1 x.2.2) (fun (x:List Nat × Nat)=>Vx a nn b 0 x.1 x.2) (l.length,q,r) (nK b l q r):=by
 intro l
 induction l with
 |nil=>
  intro q d r i hd m;have hbody:=Vz n a nn b r a.length (-1) (ak q) rfl;exact .done (by simpa [Vx,nK] using hbody)
 | cons x l ih=>
  intro q d r i hd m;have j:x<4294967296:=f x (by rw [← hd];simp);have h:l.length+1+d.length=a.length:=by rw [← hd];simp;omega
  refine .next ?_ (ih ((4294967296*r+x) / b::q) (x::d) ((4294967296*r+x) % b) (Xq3 _ g) (by rw [← hd];simp) (by simp [m]))
  have hbody:=Vy n a nn b r a.length (l.length:Int) (ak (μ l.length 0++0::q));have c:ζ (ε l.length (ak a)) .dead= .int .u32 (x:Int):=by
   rw [← hd,Xz7,τ];exact jT (by simp)
  have o:(((x::l).length:Nat):Int) - 1=(l.length:Int):=by simp
  have s:μ (x::l).length 0++q=μ l.length 0++0::q:=by rw [ξ,Xj8,τ];rfl
  have e:4294967296*r|||x=4294967296*r+x:=by
   have:=Bl (a:=r) (b:=x) (k:=32) j;rwa [nZ,Xqe] at this
  have u:=Gs g i j;have t:=Xq3 (4294967296*r+x) g;simp (disch:=first|omega|(simp [ay,az]<;>omega)) only [aK,Xqd,Ξ,ay,η,Xx9,ξ,gy,bJ,eU,bK,pV,Θ,qK,gV,iD,c,jR,bU,sD,Et,nZ,bi,YE,e,uV,tC,sS,mF] at hbody;rw [bH (by omega) (by omega)] at hbody;simp only [Vx,o,s];exact hbody (by omega) (by omega) (by omega) (by omega) trivial (by omega) (by omega)
theorem Fa {n:Nat} (h:n<2^40):γ .i64 ((n:Int) - ((1:Nat):Int))=(n:Int) - 1:=bH (by omega) (by omega)
theorem aej (q:List Nat) (nn:Bool) (x:Nat) (a:eY q=digs x) (h:q.length<2^40):CO 162 [.sl (ak q) q.length nn] (.ret (.sl (ak (digs x)) (digs x).length nn)):=by
 have:=Qo q nn h;rwa [a] at this
theorem NQ {l:List Nat} {n:Nat} (h:l.length=n):ν (n*1) (ak l)=ak l:=by
 rw [Ξ,υ (by rw [ay,h];exact Δ _)]
theorem CZ (q:List Nat) (n x:Nat) (a:q.length=n) (b:eY q=digs x) (h:n<2^40):CO 162 [.sl (ν (n*1) (ak q)) n true] (.ret (.sl (ak (digs x)) (digs x).length true)):=by
 rw [NQ a];subst a;exact aej q true x b h
theorem Hw (n:Nat):μ n 0++([]:List Nat)=μ n 0:=Γ _
theorem ac9 (a:List Nat) (nn:Bool) (b:Nat) (q:List Nat) (r x:Nat) (d:a.length<2^40) (c:q.length=a.length) (h:eY q=digs x) (hloop:∀ nt,44≤nt→aC prog ap [] nt (af 0 (ai f220)) (fun _=> .exit 0) (fun (x:Nat × List Nat × Nat)=>Vx a nn b x.1 x.2.1 x.2.2) (fun (x:List Nat × Nat)=>Vx a nn b 0 x.1 x.2) (a.length,[],0) (q,r)) (e:(decide (((0:Nat):Int)≤(a.length:Int)))=true) (g:(decide ((a.length:Int)=(a.length:Int)))=true) (f:(decide ((a.length:Int)≤((1099511627776:Nat):Int)))=true):CO 220 [.sl (ak a) a.length nn,.int .u32 (b:Int)] (.ret (.tup [.sl (ak (digs x)) (digs x).length true,.int .u32 (γ .u32 (r:Int))])):=pK [0] 0 0 (.c e (.c g (.c f .nil))) (.c (CZ q _ x c h d) (.l (by rw [aK,qE,← Hw];exact aC.blk hloop (by simp) rfl (aP.of ⟨rfl,rfl,rfl,rfl,congrArg (Xx0 .i64) (Fa d),trivial⟩) (aP.of ⟨rfl,rfl,trivial⟩):aN prog ap [] 44 (.block 0 (.loop (af 0 (ai f220)))) ⟨[(0,.sl (ak a) a.length nn),(1,.int .u32 (b:Int)),(4,.nilS),(5,.int .u32 0),(6,.ref 0 0 0 (δ (a.length:Int))),(7,.int .u64 0),(8,ω (γ .i64 ((a.length:Int) - ((1:Nat):Int)))),(9,.dead),(17,.dead)],[(0,⟨(gQ (δ (a.length:Int)) [.int .u32 0]),0,false,0,1,true⟩)],.dead,[]⟩ (.normal) ⟨[(6,.ref 0 0 0 a.length),(7,.int .u64 (r:Int))],[(0,⟨(ak q),0,false,0,1,true⟩)],.dead,[]⟩) .nil))
theorem Zi (a:List Nat) (nn:Bool) (b:Nat) (d:0<b) (h:b<4294967296) (m:a.length<2^40) (c:bQ a):CO 220 [.sl (ak a) a.length nn,.int .u32 (b:Int)] (.ret (.tup [.sl (ak (digs (aI a / b))) (digs (aI a / b)).length true,.int .u32 ((aI a % b:Nat):Int)])):=by
 have f:bQ a.reverse:=fun x o=>c x (List.mem_reverse.1 o)
 obtain ⟨i,l,g,e⟩:=P7 d a.reverse [] 0 d f bQ.nil;rw [Xzs,Xqa,Xqd] at g;simp only [aI,Xvj,Xjk,Xqd,Xq8,List.reverse_reverse] at e;have j:=fun nt (hn:44≤nt)=>P8 hn a nn b d h m c a.reverse [] [] 0 d (by simp) rfl
 rw [Xzs] at j;generalize hp:nK b a.reverse [] 0=p at*
 obtain ⟨q,r⟩:=p;simp only at i l g e;have n:aI q=aI a / b:=by rw [← e,Xqe,Nat.mul_add_div d,Xjc i,Xq8]
 have s:r=aI a % b:=by rw [← e,Xqe,Nat.mul_add_mod,Θ i]
 have k:=ac9 a nn b q r (aI a / b) m g (by rw [jP l,n]) j (Yq0 (by omega)) (Yq0 rfl) (Yq0 (by omega));rw [sS,Θ (by omega),s] at k;exact k
def N9 (n c:Nat):List Nat→List Nat
 | []=> [c]
 |x::l=>(c+2^n*x % 4294967296)::N9 n (2^n*x / 4294967296) l
theorem uD (n:Nat) (l:List Nat):∀ c,(N9 n c l).length=l.length+1:=by
 induction l with
 |nil=>intro c;rfl
 |cons x l ih=>intro c;simp only [N9,ξ,ih]
theorem TR (n:Nat) (l:List Nat):∀ c,aI (N9 n c l)=c+2^n*aI l:=by
 induction l with
 |nil=>intro c;simp only [N9,aI,Xjk]
 |cons x l ih=>
  intro c;simp only [N9,aI,ih,Xxe];have h:=Xxg (2^n*x) 4294967296;rw [← Xqs 4294967296 (2^n),← Xqs (2^n) 4294967296,Xqe (2^n) 4294967296];omega
theorem BJ {n x:Nat} (g:n≤31) (c:x<4294967296):2^n*x<18446744073709551616∧2^n*x / 4294967296<2^n∧2^n*x % 4294967296=2^n*(x % 2^(32 - n))∧2^n*x % 4294967296+2^n≤4294967296∧2^n≤2147483648:=by
 have hp:(2:Nat)^n*2^(32 - n)=4294967296:=by rw [← Xxp,show n+(32 - n)=32 by omega,nZ]
 have f:2^n≤2147483648:=Xxr (Ψ (by omega) g) (by decide);have h:2^n*x≤2^n*4294967295:=Xq0 _ (by omega);have a:2^n*x % 4294967296=2^n*(x % 2^(32 - n)):=by rw [← hp,Xw5]
 have e:x % 2^(32 - n)+1≤2^(32 - n):=Xq3 _ (Xqv _);have b:2^n*(x % 2^(32 - n)+1)≤2^n*2^(32 - n):=Xq0 _ e;rw [hp,Xxe,Ξ,← a] at b;have d:2^n*x / 4294967296<2^n:=by
  rw [Xqx (by omega)];exact Xzj c (Xqv _)
 exact ⟨by omega,d,a,b,f⟩
theorem ahh {n x c:Nat} (d:n≤31) (a:x<4294967296) (b:c<2^n):c|||2^n*x % 4294967296=c+2^n*x % 4294967296:=by
 rw [(BJ d a).2.2.1,Yql,Xqe,Bl b,Xx3]
theorem TQ {n:Nat} (b:n≤31) (l:List Nat):∀ c,c<2^n→bQ l→bQ (N9 n c l):=by
 induction l with
 |nil=>
  intro c d _;have g:2^n≤2147483648:=Xxr (Ψ (by omega) b) (by decide);exact bQ.cons (by omega) bQ.nil
 |cons x l ih=>
  intro c d a;obtain ⟨_,e,_,f,_⟩:=BJ b a.head;exact bQ.cons (by omega) (ih _ e a.tail)
theorem Za {p s:List Nat} {v x y k:Nat} (h:k=p.length+1):ν k (ak (p++v::x::s))++ [Xx0 .u32 (y:Int)]++ε (k+1) (ak (p++v::x::s))=ak (p++v::y::s):=by
 have:=mF (p:=p++ [v]) (s:=s) (x:=x) (y:=y) (k:=k) (by simpa using h);simpa using this
def amT (a:List Nat) (nn:Bool) (n:Nat) (k:Nat) (o:List Nat):St:=⟨[(5,.ref 0 0 0 (a.length+1)),(1,ω (n:Int)),(13,.sl (ak a) a.length nn),(14,ω (a.length:Int)),(15,ω (k:Int))],[(0,⟨ak o,0,false,0,1,true⟩)],.dead,[]⟩
def ael (a o:List Nat):St:=⟨[(5,.ref 0 0 0 (a.length+1))],[(0,⟨ak o,0,false,0,1,true⟩)],.dead,[]⟩
theorem adC {nt:Nat} (p:41≤nt) (a:List Nat) (nn:Bool) (n:Nat) (e:n≤31) (v:a.length<2^40) (g:bQ a):
  ∀ (l d o:List Nat) (c:Nat),c<2^n→d++l=a→o.length=d.length→aC prog ap [] nt (af 0 (ai f222)) (fun _=> .exit 0) (fun (x:Nat × List Nat)=>amT a nn n x.1 x.2) (ael a) (d.length,o++c::μ l.length 0) (o++N9 n c l):=by
 intro l
 induction l with
 |nil=>
  intro d o c j hd k;have h:d=a:=by simpa using hd
  have hbody:=VT p a nn n (a.length+1) a.length (ak (o++ [c])) (by rw [bK];simp [lit]);rw [h];exact .done hbody
 | cons x l ih=>
  intro d o c j hd k;have i:d.length+(l.length+1)=a.length:=by rw [← hd];simp
  have m:x<4294967296:=g x (by rw [← hd];simp);obtain ⟨u,q,t,r,s⟩:=BJ e m;have hnext:=ih (d++ [x]) (o++ [c+2^n*x % 4294967296]) (2^n*x / 4294967296) q (by rw [← hd];simp) (by simp [k]);rw [η,τ,τ] at hnext;refine .next ?_ hnext
  have f:=ahh e m j;have hbody:=VS p a nn n (a.length+1) d.length (ak (o++c::0::μ l.length 0));have b:ζ (ε d.length (ak a)) .dead= .int .u32 (x:Int):=by
   rw [← hd];exact jT rfl
  simp (disch:=first|omega|(simp [ay,az]<;>omega)) only [dI,bC,aK,Xqd,Ξ,jT,bi,b,pV,Θ,Rz,Et,sS,ak0,f,mF,ay,η,ξ,Xx9,gy,bJ,eU,bK,jR,bU,sD,lI,nZ,Za] at hbody;exact hbody (by omega) (by omega) (by omega) (by omega) (by omega) (by omega) trivial (by omega) trivial (by omega) (by omega)
def yZ (n:Nat):List Nat→List Nat
 | []=> []
 |x::l=>(x / 2^n+2^(32 - n)*l.headD 0 % 4294967296)::yZ n l
theorem Jn (n:Nat) (l:List Nat):(yZ n l).length=l.length:=by
 induction l with
 |nil=>rfl
 |cons x l ih=>simp only [yZ,ξ,ih]
theorem Vg {n:Nat} (a:n≤31):(2:Nat)^(32 - n)*2^n=4294967296:=by rw [← Xxp,show 32 - n+n=32 by omega,nZ]
theorem abN {n:Nat} (a:n≤31) (l:List Nat):aI l % 2^n=l.headD 0 % 2^n:=by
 cases l with
 |nil=>rfl
 |cons h l=>
  simp only [aI,Xjl];rw [← Vg a,Xqe (2^(32 - n)),Xqs,Xzm]
theorem EH {n h:Nat} (a:n≤31):2^(32 - n)*h % 4294967296=2^(32 - n)*(h % 2^n):=by
 rw [← Vg a,Xw5]
theorem Uy {n:Nat} (a:n≤31) (l:List Nat):aI (yZ n l)=aI l / 2^n:=by
 induction l with
 |nil=>simp [yZ,aI]
 | cons x l ih=>
  simp only [yZ,aI];rw [ih,EH a,← abN a];have c:=Xxg (aI l) (2^n);have b:x+4294967296*aI l=x+2^n*(2^(32 - n)*aI l):=by rw [← Xqs,Xqe (2^n),Vg a]
  rw [b,Xwa _ _ (Xqv _)];have d:2^(32 - n)*aI l=4294967296*(aI l / 2^n)+2^(32 - n)*(aI l % 2^n):=by
   rw [← Vg a,Xqs,← Xxe,c]
  omega
theorem adT {n x:Nat} (a:n≤31) (b:x<4294967296):x / 2^n<2^(32 - n):=by
 rw [Xqx (Xqv _),Vg a];exact b
theorem ajd {n x h:Nat} (a:n≤31) (b:x<4294967296):x / 2^n|||2^(32 - n)*h % 4294967296=x / 2^n+2^(32 - n)*h % 4294967296:=by
 rw [EH a,Yql,Xqe (2^(32 - n)),Bl (adT a b),Xx3]
theorem WV {n x h:Nat} (a:n≤31) (b:x<4294967296):x / 2^n+2^(32 - n)*h % 4294967296<4294967296:=by
 rw [EH a];have d:h % 2^n+1≤2^n:=Xq3 _ (Xqv _);have c:2^(32 - n)*(h % 2^n+1)≤2^(32 - n)*2^n:=Xq0 _ d;rw [Vg a,Xxe,Ξ] at c;have:=adT a b;omega
theorem Ux {n:Nat} (a:n≤31) (l:List Nat):bQ l→bQ (yZ n l):=by
 induction l with
 |nil=>exact fun h=>h
 |cons x l ih=>exact fun h=>bQ.cons (WV a h.head) (ih h.tail)
def ajc (a:List Nat) (nn:Bool) (n:Nat) (k:Nat) (o:List Nat):St:=⟨[(0,.sl (ak a) a.length nn),(1,ω (n:Int)),(5,.ref 0 0 0 a.length),(11,.sl (ak a) a.length nn),(12,ω (a.length:Int)),(13,ω (k:Int))],[(0,⟨ak o,0,false,0,1,true⟩)],.dead,[]⟩
def adS (a o:List Nat):St:=⟨[(5,.ref 0 0 0 a.length)],[(0,⟨ak o,0,false,0,1,true⟩)],.dead,[]⟩
theorem aaI {nt:Nat} (j:48≤nt) (a:List Nat) (nn:Bool) (n:Nat) (f:n≤31) (v:a.length<2^40) (e:bQ a):
  ∀ (l d o:List Nat),d++l=a→o.length=d.length→aC prog ap [] nt (af 0 (ai f226)) (fun _=> .exit 0) (fun (x:Nat × List Nat)=>ajc a nn n x.1 x.2) (adS a) (d.length,o++μ l.length 0) (o++yZ n l):=by
 intro l
 induction l with
 |nil=>
  intro d o hd k;have i:d=a:=by simpa using hd
  have hbody:=Uw j a nn n a.length a.length (ak (o++ [])) (by rw [bK];simp [lit]);rw [i];exact .done hbody
 | cons x l ih=>
  intro d o hd k;have b:d.length+(l.length+1)=a.length:=by rw [← hd];simp
  have p:x<4294967296:=e x (by rw [← hd];simp);have hnext:=ih (d++ [x]) (o++ [x / 2^n+2^(32 - n)*l.headD 0 % 4294967296]) (by rw [← hd];simp) (by simp [k]);rw [η,τ,τ] at hnext;refine .next ?_ hnext
  have c:ζ (ε d.length (ak a)) .dead= .int .u32 (x:Int):=by
   rw [← hd];exact jT rfl
  have q:x / 2^n≤x:=Xjw _ _;cases l with
  |nil=>
   have hbody:=Uu j a nn n a.length d.length (ak (o++0::μ 0 0));simp only [Xqa] at b;simp (disch:=first|omega|(simp [ay,az]<;>omega)) only [dI,bC,bK,fK,gV,iD,aK,Xqd,Ξ,ay,η,ξ,Xx9,gy,bJ,eU,c,jR,bU,bi,Ry,lI,mF] at hbody;simp only [Xwy,Xjk,Nat.zero_mod,Xq8];exact hbody (by omega) (by omega) (by omega) (by omega) (by omega) trivial (by omega) (by omega)
  | cons y l=>
   have t:y<4294967296:=e y (by rw [← hd];simp);simp only [ξ] at b;have hget1:ζ (ε (d.length+1) (ak a)) .dead= .int .u32 (y:Int):=by
    rw [← hd,show d++x::y::l=(d++ [x])++y::l by simp];exact jT (by simp)
   have g:=ajd (h:=y) f p;have m:=WV (h:=y) f p;have u:2^(32 - n)*y<18446744073709551616:=by
    have r:2^(32 - n)≤4294967296:=Xxr (Ψ (by omega) (show 32 - n≤32 by omega)) (by decide);have s:2^(32 - n)*y≤4294967296*y:=Xqy _ r;omega
   have hbody:=Ut j a nn n a.length d.length (ak (o++0::μ (y::l).length 0));simp (disch:=first|omega|(simp [ay,az]<;>omega)) only [aK,Xqd,Ξ,ξ,c,bi,Ry,lI,mF,ay,η,Xx9,gy,bJ,eU,bK,jU,dI,bC,hget1,jR,jT,bU,pV,Θ,Rz,Et,sS,ak0,g] at hbody;exact hbody (by omega) (by omega) (by omega) (by omega) trivial (by omega) (by omega) trivial (by omega) (by omega) (by omega) trivial (by omega) (by omega)
theorem apd (a:List Nat) (nn:Bool) (n:Nat) (q:List Nat) (e:a.length<2^40) (hloop:∀ nt,41≤nt→aC prog ap [] nt (af 0 (ai f222)) (fun _=> .exit 0) (fun (x:Nat × List Nat)=>amT a nn n x.1 x.2) (ael a) (0,μ (a.length+1) 0) (q)) (b:(decide (((0:Nat):Int)≤(γ .i64 ((a.length:Int)+((1:Nat):Int)))))=true) (d:(decide ((γ .i64 ((a.length:Int)+((1:Nat):Int)))=(γ .i64 ((a.length:Int)+((1:Nat):Int)))))=true) (c:(decide ((γ .i64 ((a.length:Int)+((1:Nat):Int)))≤((1099511627776:Nat):Int)))=true):CO 222 [.sl (ak a) a.length nn,ω (n:Int)] (.ret (.own (ν ((a.length+1)*1) (ak q)) (a.length+1) 1)):=pK [0] 0 0 (.c b (.c d (.c c .nil))) (.l (by rw [dI,bC (by omega),aK,qE];exact aC.blk hloop (by simp) rfl (aP.of ⟨rfl,rfl,rfl,rfl,rfl,trivial⟩) (aP.of ⟨rfl,trivial⟩):aN prog ap [] 41 (.block 0 (.loop (af 0 (ai f222)))) ⟨[(0,.sl (ak a) a.length nn),(1,ω (n:Int)),(4,.nilS),(5,.ref 0 0 0 (δ (γ .i64 ((a.length:Int)+((1:Nat):Int))))),(6,.dead),(7,.dead),(8,.dead),(13,.sl (ak a) a.length nn),(14,ω (a.length:Int)),(15,ω 0),(16,.dead)],[(0,⟨(gQ (δ (γ .i64 ((a.length:Int)+((1:Nat):Int)))) [.int .u32 0]),0,false,0,1,true⟩)],.dead,[]⟩ (.normal) ⟨[(5,.ref 0 0 0 (a.length+1))],[(0,⟨(ak q),0,false,0,1,true⟩)],.dead,[]⟩) .nil)
theorem aem (a:List Nat) (nn:Bool) (n:Nat) (d:n≤31) (e:a.length<2^39) (c:bQ a):CO 222 [.sl (ak a) a.length nn,ω (n:Int)] (.ret (.own (ak (N9 n 0 a)) (a.length+1) 1)):=by
 have h:=apd a nn n (N9 n 0 a) (by omega) (fun nt b=>adC b a nn n d (by omega) c a [] [] 0 (Xqv _) rfl rfl);rw [NQ (uD n a 0),dI,bC (by omega)] at h;exact h (Yq0 (by omega)) (Yq0 rfl) (Yq0 (by omega))
theorem ae0 (a:List Nat) (nn:Bool) (n x:Nat) (q:List Nat) (e:a.length<2^40) (b:q.length=a.length) (g:eY q=digs x) (hloop:∀ nt,48≤nt→aC prog ap [] nt (af 0 (ai f226)) (fun _=> .exit 0) (fun (x:Nat × List Nat)=>ajc a nn n x.1 x.2) (adS a) (0,μ a.length 0) (q)) (c:(decide (((0:Nat):Int)≤(a.length:Int)))=true) (f:(decide ((a.length:Int)=(a.length:Int)))=true) (d:(decide ((a.length:Int)≤((1099511627776:Nat):Int)))=true):CO 226 [.sl (ak a) a.length nn,ω (n:Int)] (.ret (.sl (ak (digs x)) (digs x).length true)):=pK [0] 0 0 (.c c (.c f (.c d .nil))) (.c (CZ q _ x b g e) (.l (by rw [aK,qE];exact aC.blk hloop (by simp) rfl (aP.of ⟨rfl,rfl,rfl,rfl,rfl,rfl,trivial⟩) (aP.of ⟨rfl,trivial⟩):aN prog ap [] 48 (.block 0 (.loop (af 0 (ai f226)))) ⟨[(0,.sl (ak a) a.length nn),(1,ω (n:Int)),(4,.nilS),(5,.ref 0 0 0 (δ (a.length:Int))),(6,.dead),(7,.dead),(11,.sl (ak a) a.length nn),(12,ω (a.length:Int)),(13,ω 0),(14,.dead),(28,.dead)],[(0,⟨(gQ (δ (a.length:Int)) [.int .u32 0]),0,false,0,1,true⟩)],.dead,[]⟩ (.normal) ⟨[(5,.ref 0 0 0 a.length)],[(0,⟨(ak q),0,false,0,1,true⟩)],.dead,[]⟩) .nil))
theorem aaJ (a:List Nat) (nn:Bool) (n:Nat) (d:n≤31) (e:a.length<2^40) (b:bQ a):CO 226 [.sl (ak a) a.length nn,ω (n:Int)] (.ret (.sl (ak (digs (aI a / 2^n))) (digs (aI a / 2^n)).length true)):=
 ae0 a nn n _ (yZ n a) e (Jn n a) (by rw [jP (Ux d a b),Uy d]) (fun nt c=>aaI c a nn n d e b a [] [] rfl rfl) (Yq0 (by omega)) (Yq0 rfl) (Yq0 (by omega))
def g_ (x:Nat):Nat:=if x=0 then 0 else Yja x+1
theorem abH {x m:Nat} (h:2^m≤x) (b:x<2^(m+1)):g_ x=m+1:=by
 have a:x ≠ 0:=by have:=Xqv m;omega
 unfold g_;rw [if_neg a,(Yqp a).2 ⟨h,b⟩]
theorem wJ {x:Nat} (h:0<x):∃ m,g_ x=m+1∧2^m≤x∧x<2^(m+1):=by
 have a:x ≠ 0:=by omega
 have:=(Yqp (k:=Yja x) a).1 rfl;exact ⟨Yja x,by unfold g_;rw [if_neg a],this.1,this.2⟩
theorem Pj {x y:Nat} (k:Nat) (a:0<x) (e:y<2^k):g_ (2^k*x+y)=k+g_ x:=by
 obtain ⟨m,d,c,b⟩:=wJ a;rw [d,← Xxy];apply abH
 ·rw [Xxp];exact Xxr (Xq0 _ c) (Nat.le_add_right _ _)
 ·rw [Xxy,Xxp];have:2^k*(x+1)≤2^k*2^(m+1):=Xq0 _ b;rw [Xxe,Ξ] at this;omega
theorem zD {x k:Nat} (h:2^k≤x):g_ x=k+g_ (x / 2^k):=by
 have a:=Xxg x (2^k);have b:0<x / 2^k:=Xva h (Xqv _);have:=Pj (x:=x / 2^k) (y:=x % 2^k) k b (Xq3 _ (Xqv _));rwa [a] at this
theorem jA {x k:Nat} (h:x<2^k):g_ x≤k:=by
 rcases Xqg x with rfl|hx
 ·exact Xx1 _
 ·obtain ⟨m,c,b,_⟩:=wJ hx;have:=(Nat.pow_lt_pow_iff_right (a:=2) (by omega)).1 (Xqk b h);omega
def VC:List UInt8:= [0,1,2,2,3,3,3,3,4,4,4,4,4,4,4,4,5,5,5,5,5,5,5,5,5,5,5,5,5,5,5,5,6,6,6,6,6,6,6,6,6,6,6,6,6,6,6,6,6,6,6,6,6,6,6,6,6,6,6,6,6,6,6,6,7,7,7,7,7,7,7,7,7,7,7,7,7,7,7,7,7,7,7,7,7,7,7,7,7,7,7,7,7,7,7,7,7,7,7,7,7,7,7,7,7,7,7,7,7,7,7,7,7,7,7,7,7,7,7,7,7,7,7,7,7,7,7,7,8,8,8,8,8,8,8,8,8,8,8,8,8,8,8,8,8,8,8,8,8,8,8,8,8,8,8,8,8,8,8,8,8,8,8,8,8,8,8,8,8,8,8,8,8,8,8,8,8,8,8,8,8,8,8,8,8,8,8,8,8,8,8,8,8,8,8,8,8,8,8,8,8,8,8,8,8,8,8,8,8,8,8,8,8,8,8,8,8,8,8,8,8,8,8,8,8,8,8,8,8,8,8,8,8,8,8,8,8,8,8,8,8,8,8,8,8,8,8,8,8,8,8,8,8,8,8,8]
theorem Zq:∀ i:Fin 256,(VC.getD i.val 0).toNat=g_ i.val:=by decide
theorem D8 {i:Nat} (h:i<256):(VC.getD i 0).toNat=g_ i:=Zq ⟨i,h⟩
theorem abC (x:Nat) (b:(decide (((0:Nat):Int)≤(γ .u8 (Xq4 (Xq4 (x:Int) (2^(min 16 32))) (2^(min 8 32))))))=true) (d:(decide ((γ .u8 (Xq4 (Xq4 (x:Int) (2^(min 16 32))) (2^(min 8 32))))<((256:Nat):Int)))=true) (c:lit true (decide (((256:Nat):Int)≤(Xq4 (x:Int) (2^(min 16 32)))))=true) (a:lit true (decide (((65536:Nat):Int)≤(x:Int)))=true):CO 161 [.int .u32 (x:Int)] (.ret (ω (γ .i64 (((24:Nat):Int)+(γ .i64 ((Xxs (Xjf VC (δ (γ .u8 (Xq4 (Xq4 (x:Int) (2^(min 16 32))) (2^(min 8 32))))) 0):Nat):Int)))))):=pK [] 2 3 (.c b (.c d (.k 1 c (.k 1 a .nil)))) (.nil)
theorem abD (x:Nat) (b:(decide (((0:Nat):Int)≤(γ .u8 (Xq4 (x:Int) (2^(min 16 32))))))=true) (d:(decide ((γ .u8 (Xq4 (x:Int) (2^(min 16 32))))<((256:Nat):Int)))=true) (c:lit false (decide (((256:Nat):Int)≤(Xq4 (x:Int) (2^(min 16 32)))))=true) (a:lit true (decide (((65536:Nat):Int)≤(x:Int)))=true):CO 161 [.int .u32 (x:Int)] (.ret (ω (γ .i64 (((16:Nat):Int)+(γ .i64 ((Xxs (Xjf VC (δ (γ .u8 (Xq4 (x:Int) (2^(min 16 32))))) 0):Nat):Int)))))):=pK [] 2 1 (.c b (.c d (.c c (.k 1 a .nil)))) (.nil)
theorem abE (x:Nat) (b:(decide (((0:Nat):Int)≤(γ .u8 (Xq4 (x:Int) (2^(min 8 32))))))=true) (d:(decide ((γ .u8 (Xq4 (x:Int) (2^(min 8 32))))<((256:Nat):Int)))=true) (c:lit true (decide (((256:Nat):Int)≤(x:Int)))=true) (a:lit false (decide (((65536:Nat):Int)≤(x:Int)))=true):CO 161 [.int .u32 (x:Int)] (.ret (ω (γ .i64 (((8:Nat):Int)+(γ .i64 ((Xxs (Xjf VC (δ (γ .u8 (Xq4 (x:Int) (2^(min 8 32))))) 0):Nat):Int)))))):=pK [] 2 2 (.c b (.c d (.k 1 c (.c a .nil)))) (.nil)
theorem abG (x:Nat) (b:(decide (((0:Nat):Int)≤(γ .u8 (x:Int))))=true) (d:(decide ((γ .u8 (x:Int))<((256:Nat):Int)))=true) (c:lit false (decide (((256:Nat):Int)≤(x:Int)))=true) (a:lit false (decide (((65536:Nat):Int)≤(x:Int)))=true):CO 161 [.int .u32 (x:Int)] (.ret (ω (γ .i64 (((0:Nat):Int)+(γ .i64 ((Xxs (Xjf VC (δ (γ .u8 (x:Int))) 0):Nat):Int)))))):=pK [] 2 0 (.c b (.c d (.c c (.c a .nil)))) (.nil)
theorem agt:(2:Nat)^16=65536:=by decide
theorem p_8:(2:Nat)^8=256:=by decide
theorem Me (x:Nat) (d:x<4294967296):CO 161 [.int .u32 (x:Int)] (.ret (ω ((g_ x:Nat):Int))):=by
 by_cases h1:65536≤x
 ·have c:=zD (k:=16) h1;rw [agt] at c;by_cases h2:256≤x / 65536
  ·have a:=zD (k:=8) h2;rw [p_8] at a;have h:=abC x;simp (disch:=first|omega|(simp [ay,az]<;>omega)) only [sD,lI,agt,p_8,w8u,Θ,eU,bJ,bK,bU,aK,D8] at h;have b:g_ (x / 65536 / 256)≤8:=jA (by omega);rw [bC (by omega),dI,bC (by omega)] at h;rw [c,a,← Xxy];exact h (by omega) (by omega) (by omega) (by omega)
  ·have h:=abD x;simp (disch:=first|omega|(simp [ay,az]<;>omega)) only [sD,lI,agt,w8u,Θ,eU,bJ,bK,fK,gV,iD,bU,aK,D8] at h;have b:g_ (x / 65536)≤8:=jA (by omega);rw [bC (by omega),dI,bC (by omega)] at h;rw [c];exact h (by omega) (by omega) (by omega) (by omega)
 ·by_cases h2:256≤x
  ·have a:=zD (k:=8) h2;rw [p_8] at a;have h:=abE x;simp (disch:=first|omega|(simp [ay,az]<;>omega)) only [sD,lI,p_8,w8u,Θ,eU,bJ,bK,bU,fK,gV,iD,aK,D8] at h;have b:g_ (x / 256)≤8:=jA (by omega);rw [bC (by omega),dI,bC (by omega)] at h;rw [a];exact h (by omega) (by omega) (by omega) (by omega)
  ·have h:=abG x;simp (disch:=first|omega|(simp [ay,az]<;>omega)) only [w8u,Θ,eU,bJ,bK,fK,gV,iD,aK,D8] at h;have b:g_ x≤8:=jA (by omega);rw [bC (by omega),dI,bC (by omega),Xqd] at h;exact h (by omega) (by omega) (by omega) (by omega)
theorem agc (x:Nat) (a:x<4294967296):CO 221 [.int .u32 (x:Int)] (.ret (ω (γ .i64 (((32:Nat):Int) - ((g_ x:Nat):Int))))):=pK [] 0 0 .nil (.c (Me x a) .nil)
theorem abP (x:Nat) (a:x<4294967296):CO 221 [.int .u32 (x:Int)] (.ret (ω ((32 - g_ x:Nat):Int))):=by
 have h:=agc x a;have b:g_ x≤32:=jA a;simp (disch:=first|omega|(simp [ay,az]<;>omega)) only [jU] at h;exact h
theorem OX {nt:Nat} (c:52≤nt) (u2 u1 u0 v1 v0 q r:Nat) (a:lit true (decide (((4294967295:Nat):Int)<(γ .u64 ((r:Int)+(γ .u64 (v1:Int))))))=true) (b:lit true (decide (((4294967295:Nat):Int)<(q:Int)))=true):ψ nt f223 ⟨[(2,.ptr 0 0 0),(3,.ptr 1 0 0),(6,.int .u64 (q:Int)),(7,.int .u64 (r:Int))],[(0,⟨[.int .u32 (u2:Int),.int .u32 (u1:Int),.int .u32 (u0:Int)],0,false,0,0,true⟩),(1,⟨[.int .u32 (v1:Int),.int .u32 (v0:Int),.int .u32 0],0,false,0,0,true⟩)],.dead,[]⟩ (.exit 0) ⟨[(6,.int .u64 (γ .u64 ((q:Int) - ((1:Nat):Int))))],[(0,⟨[.int .u32 (u2:Int),.int .u32 (u1:Int),.int .u32 (u0:Int)],0,false,0,0,true⟩),(1,⟨[.int .u32 (v1:Int),.int .u32 (v0:Int),.int .u32 0],0,false,0,0,true⟩)],.dead,[]⟩:=pJ 223 [] 3 7 (.c a (.k 4 b .nil)) (.nil) c
theorem OY {nt:Nat} (c:52≤nt) (u2 u1 u0 v1 v0 q r:Nat) (a:lit false (decide (((4294967295:Nat):Int)<(γ .u64 ((r:Int)+(γ .u64 (v1:Int))))))=true) (b:lit true (decide (((4294967295:Nat):Int)<(q:Int)))=true):ψ nt f223 ⟨[(2,.ptr 0 0 0),(3,.ptr 1 0 0),(6,.int .u64 (q:Int)),(7,.int .u64 (r:Int))],[(0,⟨[.int .u32 (u2:Int),.int .u32 (u1:Int),.int .u32 (u0:Int)],0,false,0,0,true⟩),(1,⟨[.int .u32 (v1:Int),.int .u32 (v0:Int),.int .u32 0],0,false,0,0,true⟩)],.dead,[]⟩ (.normal) ⟨[(2,.ptr 0 0 0),(3,.ptr 1 0 0),(6,.int .u64 (γ .u64 ((q:Int) - ((1:Nat):Int)))),(7,.int .u64 (γ .u64 ((r:Int)+(γ .u64 (v1:Int)))))],[(0,⟨[.int .u32 (u2:Int),.int .u32 (u1:Int),.int .u32 (u0:Int)],0,false,0,0,true⟩),(1,⟨[.int .u32 (v1:Int),.int .u32 (v0:Int),.int .u32 0],0,false,0,0,true⟩)],.dead,[]⟩:=pJ 223 [] 3 3 (.c a (.k 4 b .nil)) (.nil) c
theorem OZ {nt:Nat} (d:52≤nt) (u2 u1 u0 v1 v0 q r:Nat) (a:lit true (decide (((4294967295:Nat):Int)<(γ .u64 ((r:Int)+(γ .u64 (v1:Int))))))=true) (c:lit true (decide ((γ .u64 (Xxq (Xqj (Xqh .u64) (γ .u64 ((r:Int)*2^(min 32 64)))|||Xqj (Xqh .u64) (γ .u64 (u0:Int)))))<(γ .u64 ((q:Int)*(γ .u64 (v0:Int))))))=true) (b:lit false (decide (((4294967295:Nat):Int)<(q:Int)))=true):ψ nt f223 ⟨[(2,.ptr 0 0 0),(3,.ptr 1 0 0),(6,.int .u64 (q:Int)),(7,.int .u64 (r:Int))],[(0,⟨[.int .u32 (u2:Int),.int .u32 (u1:Int),.int .u32 (u0:Int)],0,false,0,0,true⟩),(1,⟨[.int .u32 (v1:Int),.int .u32 (v0:Int),.int .u32 0],0,false,0,0,true⟩)],.dead,[]⟩ (.exit 0) ⟨[(6,.int .u64 (γ .u64 ((q:Int) - ((1:Nat):Int))))],[(0,⟨[.int .u32 (u2:Int),.int .u32 (u1:Int),.int .u32 (u0:Int)],0,false,0,0,true⟩),(1,⟨[.int .u32 (v1:Int),.int .u32 (v0:Int),.int .u32 0],0,false,0,0,true⟩)],.dead,[]⟩:=pJ 223 [] 3 6 (.c a (.k 3 c (.k 7 b .nil))) (.nil) d
theorem O0 {nt:Nat} (d:52≤nt) (u2 u1 u0 v1 v0 q r:Nat) (a:lit false (decide (((4294967295:Nat):Int)<(γ .u64 ((r:Int)+(γ .u64 (v1:Int))))))=true) (c:lit true (decide ((γ .u64 (Xxq (Xqj (Xqh .u64) (γ .u64 ((r:Int)*2^(min 32 64)))|||Xqj (Xqh .u64) (γ .u64 (u0:Int)))))<(γ .u64 ((q:Int)*(γ .u64 (v0:Int))))))=true) (b:lit false (decide (((4294967295:Nat):Int)<(q:Int)))=true):ψ nt f223 ⟨[(2,.ptr 0 0 0),(3,.ptr 1 0 0),(6,.int .u64 (q:Int)),(7,.int .u64 (r:Int))],[(0,⟨[.int .u32 (u2:Int),.int .u32 (u1:Int),.int .u32 (u0:Int)],0,false,0,0,true⟩),(1,⟨[.int .u32 (v1:Int),.int .u32 (v0:Int),.int .u32 0],0,false,0,0,true⟩)],.dead,[]⟩ (.normal) ⟨[(2,.ptr 0 0 0),(3,.ptr 1 0 0),(6,.int .u64 (γ .u64 ((q:Int) - ((1:Nat):Int)))),(7,.int .u64 (γ .u64 ((r:Int)+(γ .u64 (v1:Int)))))],[(0,⟨[.int .u32 (u2:Int),.int .u32 (u1:Int),.int .u32 (u0:Int)],0,false,0,0,true⟩),(1,⟨[.int .u32 (v1:Int),.int .u32 (v0:Int),.int .u32 0],0,false,0,0,true⟩)],.dead,[]⟩:=pJ 223 [] 3 2 (.c a (.k 3 c (.k 7 b .nil))) (.nil) d
theorem O1 {nt:Nat} (c:52≤nt) (u2 u1 u0 v1 v0 q r:Nat) (a:lit false (decide ((γ .u64 (Xxq (Xqj (Xqh .u64) (γ .u64 ((r:Int)*2^(min 32 64)))|||Xqj (Xqh .u64) (γ .u64 (u0:Int)))))<(γ .u64 ((q:Int)*(γ .u64 (v0:Int))))))=true) (b:lit false (decide (((4294967295:Nat):Int)<(q:Int)))=true):ψ nt f223 ⟨[(2,.ptr 0 0 0),(3,.ptr 1 0 0),(6,.int .u64 (q:Int)),(7,.int .u64 (r:Int))],[(0,⟨[.int .u32 (u2:Int),.int .u32 (u1:Int),.int .u32 (u0:Int)],0,false,0,0,true⟩),(1,⟨[.int .u32 (v1:Int),.int .u32 (v0:Int),.int .u32 0],0,false,0,0,true⟩)],.dead,[]⟩ (.exit 0) ⟨[(6,.int .u64 (q:Int))],[(0,⟨[.int .u32 (u2:Int),.int .u32 (u1:Int),.int .u32 (u0:Int)],0,false,0,0,true⟩),(1,⟨[.int .u32 (v1:Int),.int .u32 (v0:Int),.int .u32 0],0,false,0,0,true⟩)],.dead,[]⟩:=pJ 223 [] 2 0 (.c a (.k 7 b .nil)) (.nil) c
def w_ (u2 u1 u0 v1 v0:Nat):Nat:=min 4294967295 ((4294967296*(4294967296*u2+u1)+u0) / (4294967296*v1+v0))
theorem A7 {u2 u1 u0 v1 v0 x:Nat} (a:0<v1):x≤w_ u2 u1 u0 v1 v0↔x≤4294967295∧x*(4294967296*v1+v0)≤4294967296*(4294967296*u2+u1)+u0:=by
 unfold w_;rw [Nat.le_min,Xzk (by omega)]
theorem Ju {a u0 v1 v0 q r:Nat} (h:q*v1+r=a):q*(4294967296*v1+v0)≤4294967296*a+u0↔q*v0≤4294967296*r+u0:=by
 rw [← h,Xxe q,Xxe 4294967296,← Xqs q,Xqe q 4294967296,Xqs];omega
def adW (u2 u1 u0 v1 v0 q r:Nat):St:=⟨[(2,.ptr 0 0 0),(3,.ptr 1 0 0),(6,.int .u64 (q:Int)),(7,.int .u64 (r:Int))],[(0,⟨[.int .u32 (u2:Int),.int .u32 (u1:Int),.int .u32 (u0:Int)],0,false,0,0,true⟩),(1,⟨[.int .u32 (v1:Int),.int .u32 (v0:Int),.int .u32 0],0,false,0,0,true⟩)],.dead,[]⟩
def XD (u2 u1 u0 v1 v0 q:Nat):St:=⟨[(6,.int .u64 (q:Int))],[(0,⟨[.int .u32 (u2:Int),.int .u32 (u1:Int),.int .u32 (u0:Int)],0,false,0,0,true⟩),(1,⟨[.int .u32 (v1:Int),.int .u32 (v0:Int),.int .u32 0],0,false,0,0,true⟩)],.dead,[]⟩
theorem XE {nt:Nat} (i:52≤nt) (u2 u1 u0 v1 v0:Nat) (s:u2≤v1) (z:u1<4294967296) (g:u0<4294967296) (w:v1<4294967296) (A:v0<4294967296) (l:0<v1):
  ∀ (d q r:Nat),q=w_ u2 u1 u0 v1 v0+d→q<8589934592→r<4294967296→q*v1+r=4294967296*u2+u1→aC prog ap [] nt (af 0 (ai f223)) (fun _=> .exit 0) (fun (x:Nat × Nat)=>adW u2 u1 u0 v1 v0 x.1 x.2) (XD u2 u1 u0 v1 v0) (q,r) (w_ u2 u1 u0 v1 v0):=by
 intro d
 induction d with
 | zero=>
  intro q r u m y c;obtain ⟨p,t⟩:=(A7 (u2:=u2) (u1:=u1) (u0:=u0) (v0:=v0) (x:=q) l).1 (by omega);rw [Ju c] at t;have e:4294967296*r|||u0=4294967296*r+u0:=by
   have:=Bl (a:=r) (b:=u0) (k:=32) g;rwa [nZ,Xqe] at this
  have o:q*v0<18446744073709551616:=Xqk t (by omega);have hbody:=O1 i u2 u1 u0 v1 v0 q r;simp (disch:=first|omega|(simp [ay,az]<;>omega)) only [sD,Et,nZ,pV,Θ,YE,e,yQ,bK,fK,gV,iD] at hbody;have:=hbody (by omega) (by omega);rw [u] at this ⊢;exact .done this
 | succ d ih=>
  intro q r u m y c;have p:¬ q≤w_ u2 u1 u0 v1 v0:=by omega
  rw [A7 l,Ju c] at p;have e:4294967296*r|||u0=4294967296*r+u0:=by
   have:=Bl (a:=r) (b:=u0) (k:=32) g;rwa [nZ,Xqe] at this
  have hinv':(q - 1)*v1+(r+v1)=4294967296*u2+u1:=by
   rw [← c,show q=(q - 1)+1 by omega,Xxw,Xzt];simp only [Xvm];omega
  by_cases h6:4294967295<r+v1
  ·
   have n:q - 1=w_ u2 u1 u0 v1 v0:=by
    refine Nat.le_antisymm ((A7 l).2 ⟨?_,(Ju hinv').2 ?_⟩) (by omega)
    ·rcases Xxc (q - 1) 4294967296 with h|h
     ·omega
     ·have j:4294967296*v1≤(q - 1)*v1:=Xqy _ h;have v:4294967296*u2≤4294967296*v1:=Xq0 _ s;omega
    ·rcases Xxc (q - 1) 4294967297 with h|h
     ·have j:(q - 1)*v0≤4294967296*v0:=Xqy _ (by omega);omega
     ·have j:4294967297*v1≤(q - 1)*v1:=Xqy _ h;have v:4294967296*u2≤4294967296*v1:=Xq0 _ s;omega
   by_cases j:4294967295<q
   ·have hbody:=OX i u2 u1 u0 v1 v0 q r;have f:γ .u64 ((q:Int) - ((1:Nat):Int))=((q - 1:Nat):Int):=by rw [lF];omega
    rw [f] at hbody;simp (disch:=first|omega|(simp [ay,az]<;>omega)) only [pV,Θ,dI,bK,bU,bJ,n] at hbody;exact .done (hbody (by omega) (by omega))
   ·have o:q*v0<18446744073709551616:=by
     have:q*v0≤4294967295*v0:=Xqy _ (by omega);omega
    have hbody:=OZ i u2 u1 u0 v1 v0 q r;have f:γ .u64 ((q:Int) - ((1:Nat):Int))=((q - 1:Nat):Int):=by rw [lF];omega
    rw [f] at hbody;simp (disch:=first|omega|(simp [ay,az]<;>omega)) only [pV,Θ,dI,bK,bU,bJ,sD,Et,nZ,YE,e,yQ,fK,gV,iD,n] at hbody;exact .done (hbody (by omega) (by omega) (by omega))
  ·refine .next ?_ (ih (q - 1) (r+v1) (by omega) (by omega) (by omega) hinv')
   by_cases j:4294967295<q
   ·have hbody:=OY i u2 u1 u0 v1 v0 q r;have f:γ .u64 ((q:Int) - ((1:Nat):Int))=((q - 1:Nat):Int):=by rw [lF];omega
    rw [f] at hbody;simp (disch:=first|omega|(simp [ay,az]<;>omega)) only [pV,Θ,dI,bK,fK,gV,iD,bU,bJ] at hbody;exact hbody (by omega) (by omega)
   ·have o:q*v0<18446744073709551616:=by
     have:q*v0≤4294967295*v0:=Xqy _ (by omega);omega
    have hbody:=O0 i u2 u1 u0 v1 v0 q r;have f:γ .u64 ((q:Int) - ((1:Nat):Int))=((q - 1:Nat):Int):=by rw [lF];omega
    rw [f] at hbody;simp (disch:=first|omega|(simp [ay,az]<;>omega)) only [pV,Θ,dI,bK,fK,gV,iD,sD,Et,nZ,YE,e,yQ,bU,bJ] at hbody;exact hbody (by omega) (by omega) (by omega)
theorem ajR (u2 u1 u0 v1 v0:Nat) (d:u2<4294967296) (f:u1<4294967296) (e:v1<4294967296) (g:0<v1) (a:4294967296*u2|||u1=4294967296*u2+u1) (c:(4294967296*u2+u1) / v1<8589934592) (hloop:∀ nt,52≤nt→aC prog ap [] nt (af 0 (ai f223)) (fun _=> .exit 0) (fun (x:Nat × Nat)=>adW u2 u1 u0 v1 v0 x.1 x.2) (XD u2 u1 u0 v1 v0) ((4294967296*u2+u1) / v1,(4294967296*u2+u1) % v1) (w_ u2 u1 u0 v1 v0)) (b:(!((γ .u64 (v1:Int))==((0:Nat):Int)))=true):CO 223 [.agg [.int .u32 (u2:Int),.int .u32 (u1:Int),.int .u32 (u0:Int)],.agg [.int .u32 (v1:Int),.int .u32 (v0:Int),.int .u32 0]] (.ret (.int .u64 ((w_ u2 u1 u0 v1 v0:Nat):Int))):=pK [0] 0 0 (.c b (.k 3 b (.n 10 .nil))) (.l (by simp (disch:=first|omega|(simp [ay,az]<;>omega)) only [pV,Θ,sD,Et,nZ,YE,a,tC,uV];exact aC.blk hloop (by simp) rfl (aP.of ⟨rfl,rfl,rfl,rfl,trivial⟩) (aP.of ⟨rfl,trivial⟩):aN prog ap [] 52 (.block 0 (.loop (af 0 (ai f223)))) ⟨[(0,.agg [.int .u32 (u2:Int),.int .u32 (u1:Int),.int .u32 (u0:Int)]),(1,.agg [.int .u32 (v1:Int),.int .u32 (v0:Int),.int .u32 0]),(2,.ptr 0 0 0),(3,.ptr 1 0 0),(4,.int .u64 0),(5,.int .u64 (γ .u64 (Xxq (Xqj (Xqh .u64) (γ .u64 ((γ .u64 (u2:Int))*2^(min 32 64)))|||Xqj (Xqh .u64) (γ .u64 (u1:Int)))))),(6,.int .u64 (γ .u64 (Xxm (γ .u64 (Xxq (Xqj (Xqh .u64) (γ .u64 ((γ .u64 (u2:Int))*2^(min 32 64)))|||Xqj (Xqh .u64) (γ .u64 (u1:Int))))) (γ .u64 (v1:Int))))),(7,.int .u64 (Xxj (γ .u64 (Xxq (Xqj (Xqh .u64) (γ .u64 ((γ .u64 (u2:Int))*2^(min 32 64)))|||Xqj (Xqh .u64) (γ .u64 (u1:Int))))) (γ .u64 (v1:Int)))),(41,.dead),(50,.dead)],[(0,⟨[.int .u32 (u2:Int),.int .u32 (u1:Int),.int .u32 (u0:Int)],0,false,0,0,true⟩),(1,⟨[.int .u32 (v1:Int),.int .u32 (v0:Int),.int .u32 0],0,false,0,0,true⟩)],.dead,[]⟩ (.normal) ⟨[(6,.int .u64 ((w_ u2 u1 u0 v1 v0:Nat):Int))],[(0,⟨[.int .u32 (u2:Int),.int .u32 (u1:Int),.int .u32 (u0:Int)],0,false,0,0,true⟩),(1,⟨[.int .u32 (v1:Int),.int .u32 (v0:Int),.int .u32 0],0,false,0,0,true⟩)],.dead,[]⟩) .nil)
theorem afu (u2 u1 u0 v1 v0:Nat) (i:u2≤v1) (c:u1<4294967296) (f:u0<4294967296) (d:v1<4294967296) (g:v0<4294967296) (n:2147483648≤v1):CO 223 [.agg [.int .u32 (u2:Int),.int .u32 (u1:Int),.int .u32 (u0:Int)],.agg [.int .u32 (v1:Int),.int .u32 (v0:Int),.int .u32 0]] (.ret (.int .u64 ((w_ u2 u1 u0 v1 v0:Nat):Int))):=by
 have e:4294967296*u2|||u1=4294967296*u2+u1:=by
  have:=Bl (a:=u2) (b:=u1) (k:=32) c;rwa [nZ,Xqe] at this
 have l:w_ u2 u1 u0 v1 v0≤(4294967296*u2+u1) / v1:=by
  obtain ⟨p,j⟩:=(A7 (u2:=u2) (u1:=u1) (u0:=u0) (v0:=v0) (v1:=v1) (by omega)).1 (Δ _);rw [Xzk (by omega)];rw [Xxe,← Xqs,Xqe _ 4294967296,Xqs] at j;omega
 have hd:(4294967296*u2+u1) / v1<8589934592:=by
  rw [Xqx (by omega)];omega
 have o:(4294967296*u2+u1) % v1<v1:=Xq3 _ (by omega);have h:=ajR u2 u1 u0 v1 v0 (by omega) c d (by omega) e hd (fun nt m=>XE m u2 u1 u0 v1 v0 i c f d g (by omega) _ _ _ (Nat.add_sub_cancel' l).symm hd (by omega) (by rw [Xqe];exact Xxg _ _));simp (disch:=first|omega|(simp [ay,az]<;>omega)) only [pV,Θ,qK,gV,iD] at h;exact h (by omega)
theorem VF {nt:Nat} (l:66≤nt) (U0 U v:List Nat) (e:Bool) (j M q c b i:Nat) (k:(Xqc (((j+(δ (i:Int)))*1)+1) (θ (ak U)))=true) (a:(decide (((0:Nat):Int)≤(i:Int)))=true) (d:(decide ((i:Int)<(M:Int)))=true) (h:(chk (.int .u32) (ζ (ε ((j+(δ (i:Int)))*1) (ak U)) .dead))=true) (m:(chk (.int .u32) (ζ (ε ((δ (i:Int))*1) (ak v)) .dead))=true) (f:(decide ((i:Int)<(v.length:Int)))=true) (g:lit true (decide ((i:Int)<(v.length:Int)))=true):au prog ap [⟨(ak U0),0,false,0,1,true⟩] nt (af 0 (ai f224)) ⟨[(0,.ref 0 0 j M),(1,.sl (ak v) v.length e),(2,.int .u64 (q:Int)),(7,.int .u64 (c:Int)),(8,.int .u64 (b:Int)),(14,ω (v.length:Int)),(15,ω (i:Int))],[(0,⟨(ak U),0,false,0,1,true⟩)],.dead,[]⟩ (.normal) ⟨[(0,.ref 0 0 j M),(1,.sl (ak v) v.length e),(2,.int .u64 (q:Int)),(7,.int .u64 (Xq4 (γ .u64 ((γ .u64 ((q:Int)*(γ .u64 (χ (ζ (ε ((δ (i:Int))*1) (ak v)) .dead)))))+(c:Int))) (2^(min 32 64)))),(8,.int .u64 (Xq4 (γ .u64 ((γ .u64 ((γ .u64 (χ (ζ (ε ((j+(δ (i:Int)))*1) (ak U)) .dead))) - (γ .u64 (Xxq (Xqj (Xqh .u64) (γ .u64 ((γ .u64 ((q:Int)*(γ .u64 (χ (ζ (ε ((δ (i:Int))*1) (ak v)) .dead)))))+(c:Int))) &&& Xqj (Xqh .u64) ((4294967295:Nat):Int)))))) - (b:Int))) (2^(min 63 64)))),(14,ω (v.length:Int)),(15,ω (γ .i64 ((i:Int)+((1:Nat):Int))))],[(0,⟨(ν ((j+(δ (i:Int)))*1) (ak U)++ [.int .u32 (γ .u32 (γ .u64 ((γ .u64 ((γ .u64 (χ (ζ (ε ((j+(δ (i:Int)))*1) (ak U)) .dead))) - (γ .u64 (Xxq (Xqj (Xqh .u64) (γ .u64 ((γ .u64 ((q:Int)*(γ .u64 (χ (ζ (ε ((δ (i:Int))*1) (ak v)) .dead)))))+(c:Int))) &&& Xqj (Xqh .u64) ((4294967295:Nat):Int)))))) - (b:Int))))]++ε (((j+(δ (i:Int)))*1)+1) (ak U)),0,false,0,1,true⟩)],.dead,[]⟩:=pJ 224 [] 1 1 (.c k (.c a (.c d (.k 1 h (.c a (.c d (.k 1 m (.c a (.c f (.c g .nil)))))))))) (.nil) l
theorem VG {nt:Nat} (e:66≤nt) (U0 U v:List Nat) (a:Bool) (j M q c b i:Nat) (d:lit false (decide ((i:Int)<(v.length:Int)))=true):au prog ap [⟨(ak U0),0,false,0,1,true⟩] nt (af 0 (ai f224)) ⟨[(0,.ref 0 0 j M),(1,.sl (ak v) v.length a),(2,.int .u64 (q:Int)),(7,.int .u64 (c:Int)),(8,.int .u64 (b:Int)),(14,ω (v.length:Int)),(15,ω (i:Int))],[(0,⟨(ak U),0,false,0,1,true⟩)],.dead,[]⟩ (.exit 0) ⟨[(0,.ref 0 0 j M),(1,.sl (ak v) v.length a),(7,.int .u64 (c:Int)),(8,.int .u64 (b:Int))],[(0,⟨(ak U),0,false,0,1,true⟩)],.dead,[]⟩:=pJ 224 [] 1 0 (.c d .nil) (.nil) e
theorem UO {nt:Nat} (l:42≤nt) (U0 U v:List Nat) (d:Bool) (j M c i:Nat) (g:(Xqc (((j+(δ (i:Int)))*1)+1) (θ (ak U)))=true) (a:(decide (((0:Nat):Int)≤(i:Int)))=true) (b:(decide ((i:Int)<(M:Int)))=true) (f:(chk (.int .u32) (ζ (ε ((δ (i:Int))*1) (ak v)) .dead))=true) (h:(decide ((i:Int)<(v.length:Int)))=true) (k:(chk (.int .u32) (ζ (ε ((j+(δ (i:Int)))*1) (ak U)) .dead))=true) (e:lit true (decide ((i:Int)<(v.length:Int)))=true):au prog ap [⟨(ak U0),0,false,0,1,true⟩] nt (af 0 (ai f225)) ⟨[(0,.ref 0 0 j M),(1,.sl (ak v) v.length d),(4,.int .u64 (c:Int)),(8,ω (v.length:Int)),(9,ω (i:Int))],[(0,⟨(ak U),0,false,0,1,true⟩)],.dead,[]⟩ (.normal) ⟨[(0,.ref 0 0 j M),(1,.sl (ak v) v.length d),(4,.int .u64 (Xq4 (γ .u64 ((γ .u64 ((γ .u64 (χ (ζ (ε ((j+(δ (i:Int)))*1) (ak U)) .dead)))+(γ .u64 (χ (ζ (ε ((δ (i:Int))*1) (ak v)) .dead)))))+(c:Int))) (2^(min 32 64)))),(8,ω (v.length:Int)),(9,ω (γ .i64 ((i:Int)+((1:Nat):Int))))],[(0,⟨(ν ((j+(δ (i:Int)))*1) (ak U)++ [.int .u32 (γ .u32 (γ .u64 ((γ .u64 ((γ .u64 (χ (ζ (ε ((j+(δ (i:Int)))*1) (ak U)) .dead)))+(γ .u64 (χ (ζ (ε ((δ (i:Int))*1) (ak v)) .dead)))))+(c:Int))))]++ε (((j+(δ (i:Int)))*1)+1) (ak U)),0,false,0,1,true⟩)],.dead,[]⟩:=pJ 225 [] 1 1 (.c g (.c a (.c b (.k 1 f (.c a (.c h (.c k (.c a (.c b (.c e .nil)))))))))) (.nil) l
theorem UQ {nt:Nat} (d:42≤nt) (U0 U v:List Nat) (a:Bool) (j M c i:Nat) (b:lit false (decide ((i:Int)<(v.length:Int)))=true):au prog ap [⟨(ak U0),0,false,0,1,true⟩] nt (af 0 (ai f225)) ⟨[(0,.ref 0 0 j M),(1,.sl (ak v) v.length a),(4,.int .u64 (c:Int)),(8,ω (v.length:Int)),(9,ω (i:Int))],[(0,⟨(ak U),0,false,0,1,true⟩)],.dead,[]⟩ (.exit 0) ⟨[(0,.ref 0 0 j M),(1,.sl (ak v) v.length a),(4,.int .u64 (c:Int))],[(0,⟨(ak U),0,false,0,1,true⟩)],.dead,[]⟩:=pJ 225 [] 1 0 (.c b .nil) (.nil) d
def dN (u s b:Nat):Nat:=((u+(18446744073709551616 - s)) % 18446744073709551616+(18446744073709551616 - b)) % 18446744073709551616
theorem Jl {u s b:Nat} (c:u<4294967296) (hs:s<4294967296) (a:b≤1):dN u s b % 4294967296+s+b=u+4294967296*(dN u s b / 9223372036854775808)∧dN u s b / 9223372036854775808≤1∧dN u s b<18446744073709551616:=by
 unfold dN;omega
def nP (q:Nat):List Nat→List Nat→Nat→Nat→List Nat × Nat × Nat
 | [],_,c,b=>([],c,b)
 |_::_,[],c,b=>([],c,b)
 |v::vs,u::us,c,b=>
  let r:=nP q vs us ((q*v+c) / 4294967296) (dN u ((q*v+c) % 4294967296) b / 9223372036854775808)
  (dN u ((q*v+c) % 4294967296) b % 4294967296::r.1,r.2)
theorem Yj {q v c:Nat} (d:q<4294967296) (b:v<4294967296) (a:c<4294967296):q*v<18446744073709551616∧q*v+c<18446744073709551616∧(q*v+c) / 4294967296<4294967296:=by
 have h:q*v≤q*4294967295:=Xq0 _ (by omega);omega
theorem VD {q:Nat} (n:q<4294967296) (vs:List Nat):∀ (a:List Nat) (c b:Nat),c<4294967296→b≤1→bQ vs→bQ a→vs.length≤a.length→
  (nP q vs a c b).2.1<4294967296∧(nP q vs a c b).2.2≤1∧bQ (nP q vs a c b).1∧(nP q vs a c b).1.length=vs.length∧
  aI (nP q vs a c b).1+q*aI vs+c+b=aI (a.take vs.length)+4294967296^vs.length*((nP q vs a c b).2.1+(nP q vs a c b).2.2):=by
 induction vs with
 |nil=>intro a c b f g _ _ _;exact ⟨f,g,bQ.nil,rfl,by simp [nP,aI]⟩
 | cons v vs ih=>
  intro a c b f g e d h;cases a with
  |nil=>simp at h
  |cons u a=>
   obtain ⟨p,w,j⟩:=Yj n e.head f;obtain ⟨x,i,t⟩:=Jl (u:=u) (s:=(q*v+c) % 4294967296) (b:=b) d.head (Xq3 _ (by omega)) g;obtain ⟨k,l,m,o,r⟩:=ih a _ _ j i e.tail d.tail (by simpa using h);simp only [nP];refine ⟨k,l,bQ.cons (Xq3 _ (by omega)) m,by simp [o], ?_⟩;simp only [aI,ξ,Xx6];have y:=Xxg (q*v+c) 4294967296;rw [Xxe q,Xqe q (4294967296*aI vs),Xqs,Xqe (aI vs) q,Xq5,Xqe (4294967296^vs.length),Xqs];omega
def amL (v:List Nat) (nv:Bool) (j M q:Nat) (i:Nat) (U:List Nat) (c b:Nat):St:=⟨[(0,.ref 0 0 j M),(1,.sl (ak v) v.length nv),(2,.int .u64 (q:Int)),(7,.int .u64 (c:Int)),(8,.int .u64 (b:Int)),(14,ω (v.length:Int)),(15,ω (i:Int))],[(0,⟨ak U,0,false,0,1,true⟩)],.dead,[]⟩
def aeh (v:List Nat) (nv:Bool) (j M:Nat) (U:List Nat) (c b:Nat):St:=⟨[(0,.ref 0 0 j M),(1,.sl (ak v) v.length nv),(7,.int .u64 (c:Int)),(8,.int .u64 (b:Int))],[(0,⟨ak U,0,false,0,1,true⟩)],.dead,[]⟩
def qm (U0:List Nat):List bg:= [⟨ak U0,0,false,0,1,true⟩]
theorem ado {nt:Nat} (m:66≤nt) (U0 v:List Nat) (g:Bool) (j M q:Nat) (z:q<4294967296) (t:bQ v) (C:v.length<M) (y:v.length<2^40):
  ∀ (vs d a pre:List Nat) (c b:Nat),d++vs=v→pre.length=j+d.length→vs.length≤a.length→c<4294967296→b≤1→bQ a→
  aC prog ap (qm U0) nt (af 0 (ai f224)) (fun _=> .exit 0) (fun (x:Nat × List Nat × Nat × Nat)=>amL v g j M q x.1 x.2.1 x.2.2.1 x.2.2.2) (fun (x:List Nat × Nat × Nat)=>aeh v g j M x.1 x.2.1 x.2.2) (d.length,pre++a,c,b) (pre++(nP q vs a c b).1++a.drop vs.length,(nP q vs a c b).2.1,(nP q vs a c b).2.2):=by
 intro vs
 induction vs with
 |nil=>
  intro d a pre c b hd hp h l o e;have k:d=v:=by simpa using hd
  have hbody:=VG m U0 (pre++a) v g j M q c b v.length (by rw [bK];simp [lit]);refine .done ?_;simp only [nP,Γ,Xqa,Xjr,k];exact hbody
 | cons x vs ih=>
  intro d a pre c b hd hp h l o e;cases a with
  |nil=>simp at h
  | cons u a=>
   have w:x<4294967296:=t x (by rw [← hd];simp);have n:d.length+(vs.length+1)=v.length:=by rw [← hd];simp
   have A:=e.head;obtain ⟨D,E,p⟩:=Yj z w l;obtain ⟨F,r,B⟩:=Jl (u:=u) (s:=(q*x+c) % 4294967296) (b:=b) A (Xq3 _ (by omega)) o;have hnext:=ih (d++ [x]) a (pre++ [dN u ((q*x+c) % 4294967296) b % 4294967296]) ((q*x+c) / 4294967296) (dN u ((q*x+c) % 4294967296) b / 9223372036854775808) (by rw [← hd];simp) (by simp;omega) (by simpa using h) p r e.tail;simp only [nP,ξ,Xwg];rw [η] at hnext;simp only [τ,Xxd,Xqi,ξ,Xqa] at hnext ⊢;refine .next ?_ hnext
   have f:ζ (ε d.length (ak v)) .dead= .int .u32 (x:Int):=by
    rw [← hd];exact jT rfl
   have hbody:=VF m U0 (pre++u::a) v g j M q c b d.length;have i:((u+(18446744073709551616 - (q*x+c) % 4294967296)) % 18446744073709551616+(18446744073709551616 - b)) % 18446744073709551616=dN u ((q*x+c) % 4294967296) b:=rfl;simp (disch:=first|omega|(simp [ay,az]<;>omega)) only [aK,Ξ,ay,η,ξ,gy,bJ,eU,bK,jT,jR,f,bU,bi,pV,Θ,yQ,dI,sD,lI,nZ,ah4,En,lF,i,ak1,bC,sS,mF] at hbody;exact hbody (by omega) (by omega) (by omega) trivial trivial (by omega) (by omega)
def rX:List Nat→List Nat→Nat→List Nat × Nat
 | [],_,c=>([],c)
 |_::_,[],c=>([],c)
 |v::vs,u::us,c=>
  let r:=rX vs us ((u+v+c) / 4294967296)
  ((u+v+c) % 4294967296::r.1,r.2)
theorem UN (vs:List Nat):∀ (a:List Nat) (c:Nat),c≤1→bQ vs→bQ a→vs.length≤a.length→
  (rX vs a c).2≤1∧bQ (rX vs a c).1∧(rX vs a c).1.length=vs.length∧
  aI (rX vs a c).1+4294967296^vs.length*(rX vs a c).2=aI (a.take vs.length)+aI vs+c:=by
 induction vs with
 |nil=>intro a c e _ _ _;exact ⟨e,bQ.nil,rfl,by simp [rX,aI]⟩
 | cons v vs ih=>
  intro a c e d b f;cases a with
  |nil=>simp at f
  |cons u a=>
   have k:=d.head;have l:=b.head;obtain ⟨g,h,i,j⟩:=ih a ((u+v+c) / 4294967296) (by omega) d.tail b.tail (by simpa using f);simp only [rX];refine ⟨g,bQ.cons (Xq3 _ (by omega)) h,by simp [i], ?_⟩;simp only [aI,ξ,Xx6];rw [Xq5,Xqe (4294967296^vs.length),Xqs];omega
def aj_ (v:List Nat) (nv:Bool) (j M:Nat) (i:Nat) (U:List Nat) (c:Nat):St:=⟨[(0,.ref 0 0 j M),(1,.sl (ak v) v.length nv),(4,.int .u64 (c:Int)),(8,ω (v.length:Int)),(9,ω (i:Int))],[(0,⟨ak U,0,false,0,1,true⟩)],.dead,[]⟩
def adY (v:List Nat) (nv:Bool) (j M:Nat) (U:List Nat) (c:Nat):St:=⟨[(0,.ref 0 0 j M),(1,.sl (ak v) v.length nv),(4,.int .u64 (c:Int))],[(0,⟨ak U,0,false,0,1,true⟩)],.dead,[]⟩
theorem abp {nt:Nat} (k:42≤nt) (U0 v:List Nat) (f:Bool) (j M:Nat) (m:bQ v) (o:v.length<M) (n:v.length<2^40):
  ∀ (vs b a pre:List Nat) (c:Nat),b++vs=v→pre.length=j+b.length→vs.length≤a.length→c≤1→bQ a→
  aC prog ap (qm U0) nt (af 0 (ai f225)) (fun _=> .exit 0) (fun (x:Nat × List Nat × Nat)=>aj_ v f j M x.1 x.2.1 x.2.2) (fun (x:List Nat × Nat)=>adY v f j M x.1 x.2) (b.length,pre++a,c) (pre++(rX vs a c).1++a.drop vs.length,(rX vs a c).2):=by
 intro vs
 induction vs with
 |nil=>
  intro b a pre c hd hp h l d;have g:b=v:=by simpa using hd
  have hbody:=UQ k U0 (pre++a) v f j M c v.length (by rw [bK];simp [lit]);refine .done ?_;simp only [rX,Γ,Xqa,Xjr,g];exact hbody
 | cons x vs ih=>
  intro b a pre c hd hp h l d;cases a with
  |nil=>simp at h
  | cons u a=>
   have p:x<4294967296:=m x (by rw [← hd];simp);have i:b.length+(vs.length+1)=v.length:=by rw [← hd];simp
   have q:=d.head;have hnext:=ih (b++ [x]) a (pre++ [(u+x+c) % 4294967296]) ((u+x+c) / 4294967296) (by rw [← hd];simp) (by simp;omega) (by simpa using h) (by omega) d.tail;simp only [rX,ξ,Xwg];rw [η] at hnext;simp only [τ,Xxd,Xqi,ξ,Xqa] at hnext ⊢;refine .next ?_ hnext
   have e:ζ (ε b.length (ak v)) .dead= .int .u32 (x:Int):=by
    rw [← hd];exact jT rfl
   have hbody:=UO k U0 (pre++u::a) v f j M c b.length;simp (disch:=first|omega|(simp [ay,az]<;>omega)) only [aK,Ξ,ay,η,ξ,gy,bJ,eU,bK,e,jR,jT,bU,bi,pV,Θ,dI,sD,lI,nZ,bC,sS,mF] at hbody;exact hbody (by omega) (by omega) (by omega) trivial (by omega) trivial (by omega)
theorem ahv (U W v:List Nat) (a:Bool) (j M q c b:Nat) (hloop:∀ nt,66≤nt→aC prog ap (qm U) nt (af 0 (ai f224)) (fun _=> .exit 0) (fun (x:Nat × List Nat × Nat × Nat)=>amL v a j M q x.1 x.2.1 x.2.2.1 x.2.2.2) (fun (x:List Nat × Nat × Nat)=>aeh v a j M x.1 x.2.1 x.2.2) (0,U,0,0) (W,c,b)) (g:(Xqc (((j+(δ (v.length:Int)))*1)+1) (θ (ak W)))=true) (e:(decide (((0:Nat):Int)≤(v.length:Int)))=true) (d:(decide ((v.length:Int)<(M:Int)))=true) (f:(chk (.int .u32) (ζ (ε ((j+(δ (v.length:Int)))*1) (ak W)) .dead))=true):aG prog ap 224 [.ref 0 0 j M,.sl (ak v) v.length a,.int .u64 (q:Int)] [⟨(ak U),0,false,0,1,true⟩] (.ret (.bool (!((Xq4 (γ .u64 ((γ .u64 ((γ .u64 (χ (ζ (ε ((j+(δ (v.length:Int)))*1) (ak W)) .dead))) - (c:Int))) - (b:Int))) (2^(min 63 64)))==((0:Nat):Int))))) [⟨(ν ((j+(δ (v.length:Int)))*1) (ak W)++ [.int .u32 (γ .u32 (γ .u64 ((γ .u64 ((γ .u64 (χ (ζ (ε ((j+(δ (v.length:Int)))*1) (ak W)) .dead))) - (c:Int))) - (b:Int))))]++ε (((j+(δ (v.length:Int)))*1)+1) (ak W)),0,false,0,1,true⟩]:=pK [0] 0 0 (.k 1 g (.c e (.c d (.c f (.c e (.c d .nil)))))) (.l (by exact aC.blk hloop (by simp) rfl (aP.of ⟨rfl,rfl,rfl,rfl,rfl,rfl,rfl,trivial⟩) (aP.of ⟨rfl,rfl,rfl,rfl,trivial⟩):aN prog ap [⟨(ak U),0,false,0,1,true⟩] 66 (.block 0 (.loop (af 0 (ai f224)))) ⟨[(0,.ref 0 0 j M),(1,.sl (ak v) v.length a),(2,.int .u64 (q:Int)),(6,.bool false),(7,.int .u64 0),(8,.int .u64 0),(9,.dead),(10,.dead),(11,.dead),(12,.dead),(14,ω (v.length:Int)),(15,ω 0),(16,.dead)],[(0,⟨(ak U),0,false,0,1,true⟩)],.dead,[]⟩ (.normal) ⟨[(0,.ref 0 0 j M),(1,.sl (ak v) v.length a),(7,.int .u64 (c:Int)),(8,.int .u64 (b:Int))],[(0,⟨(ak W),0,false,0,1,true⟩)],.dead,[]⟩) .nil)
theorem afU (U W v:List Nat) (a:Bool) (j M c:Nat) (hloop:∀ nt,42≤nt→aC prog ap (qm U) nt (af 0 (ai f225)) (fun _=> .exit 0) (fun (x:Nat × List Nat × Nat)=>aj_ v a j M x.1 x.2.1 x.2.2) (fun (x:List Nat × Nat)=>adY v a j M x.1 x.2) (0,U,0) (W,c)) (f:(Xqc (((j+(δ (v.length:Int)))*1)+1) (θ (ak W)))=true) (d:(decide (((0:Nat):Int)≤(v.length:Int)))=true) (b:(decide ((v.length:Int)<(M:Int)))=true) (e:(chk (.int .u32) (ζ (ε ((j+(δ (v.length:Int)))*1) (ak W)) .dead))=true):aG prog ap 225 [.ref 0 0 j M,.sl (ak v) v.length a] [⟨(ak U),0,false,0,1,true⟩] (.ret (.tup [])) [⟨(ν ((j+(δ (v.length:Int)))*1) (ak W)++ [.int .u32 (γ .u32 ((χ (ζ (ε ((j+(δ (v.length:Int)))*1) (ak W)) .dead))+(γ .u32 (c:Int))))]++ε (((j+(δ (v.length:Int)))*1)+1) (ak W)),0,false,0,1,true⟩]:=pK [0] 0 0 (.c f (.c d (.c b (.c e (.c d (.c b .nil)))))) (.l (by exact aC.blk hloop (by simp) rfl (aP.of ⟨rfl,rfl,rfl,rfl,rfl,trivial⟩) (aP.of ⟨rfl,rfl,rfl,trivial⟩):aN prog ap [⟨(ak U),0,false,0,1,true⟩] 42 (.block 0 (.loop (af 0 (ai f225)))) ⟨[(0,.ref 0 0 j M),(1,.sl (ak v) v.length a),(4,.int .u64 0),(5,.dead),(6,.dead),(8,ω (v.length:Int)),(9,ω 0),(10,.dead)],[(0,⟨(ak U),0,false,0,1,true⟩)],.dead,[]⟩ (.normal) ⟨[(0,.ref 0 0 j M),(1,.sl (ak v) v.length a),(4,.int .u64 (c:Int))],[(0,⟨(ak W),0,false,0,1,true⟩)],.dead,[]⟩) .nil)
theorem Df (n W:Nat) (post:List Nat):ν n (bT (n+1) W++post)=bT n W:=by
 rw [vT,τ,Xxn (by rw [aY];exact Δ _),υ (by rw [aY];exact Δ _)]
theorem Dc (n W:Nat) (post:List Nat):ε n (bT (n+1) W++post)=W / 2^(32*n) % 2^32::post:=by
 rw [vT,τ,List.drop_append_of_le_length (by rw [aY];exact Δ _),List.drop_of_length_le (by rw [aY];exact Δ _)];rfl
theorem PN {l:List Nat} {m:Nat} (h:bQ l) (a:l.length=m):l=bT m (aI l):=by subst a;exact (FY h).symm
theorem adk (pre post v:List Nat) (m:Bool) (n W q:Nat) (j:v.length=n) (C:bQ v) (F:q<4294967296) (G:W<4294967296^(n+1)) (hpost:bQ post) (P:pre.length+n<2^40):
  aG prog ap 224 [.ref 0 0 pre.length (n+1),.sl (ak v) n m,.int .u64 (q:Int)] (qm (pre++bT (n+1) W++post)) (.ret (.bool (decide (W<q*aI v)))) (qm (pre++bT (n+1) (if W<q*aI v then W+4294967296^(n+1) - q*aI v else W - q*aI v)++post)):=by
 have h:bQ (bT (n+1) W++post):=bQ.app (bQ.pad _ _) hpost;obtain ⟨A,B,E,i,w⟩:=VD F v (bT (n+1) W++post) 0 0 (by omega) (by omega) C h (by simp [aY];omega);have hloop:=fun nt (hnt:66≤nt)=>ado hnt (pre++bT (n+1) W++post) v m pre.length (n+1) q F C (by omega) (by omega) v [] (bT (n+1) W++post) pre 0 0 rfl rfl (by simp [aY];omega) (by omega) (by omega) h
 rw [j,Df,wX,mX] at w;rw [j,Dc,mX,nZ] at hloop;generalize R:nP q v (bT (n+1) W++post) 0 0=r at*
 obtain ⟨y,c,b⟩:=r;simp only [Xq8,Xqa,← τ] at A B E i w hloop;have D:W / 4294967296^n<4294967296:=by
  rw [Xqx (iJ n),Xqe,← Xq5];exact G
 rw [Θ D] at hloop;have H:=Xxg W (4294967296^n);generalize J:W / 4294967296^n=x at*
 obtain ⟨I,Q,M⟩:=Jl (u:=x) (s:=c) (b:=b) D A B;have htake:=ahv (pre++bT (n+1) W++post) (pre++y++x::post) v m pre.length (n+1) q c b hloop;have d:pre.length+n=(pre++y).length:=by simp [i,j]
 have t:((x+(18446744073709551616 - c)) % 18446744073709551616+(18446744073709551616 - b)) % 18446744073709551616=dN x c b:=rfl;rw [j] at htake i;have k:ζ (ε (pre.length+n) (ak (pre++y++x::post))) .dead= .int .u32 (x:Int):=jT d;have e:∀ z:Nat,ν (pre.length+n) (ak (pre++y++x::post))++ [Xx0 .u32 (z:Int)]++ε (pre.length+n+1) (ak (pre++y++x::post))=ak (pre++y++z::post):=fun z=>mF d
 simp (disch:=first|omega|(simp [ay,az]<;>omega)) only [aK,Ξ,ay,η,ξ,gy,bJ,eU,bK,k,jR,bi,pV,Θ,lF,t,sD,lI,ak1,qK,sS,e] at htake;have htake:=htake (by omega) (by omega) (by omega) trivial;generalize O:dN x c b / 9223372036854775808=f at*
 generalize N:dN x c b % 4294967296=z at*
 have l:z<4294967296:=by omega
 have g:bQ (y++ [z]):=bQ.app E (bQ.cons l bQ.nil);have a:aI (y++ [z])+q*aI v=W+4294967296^(n+1)*f:=by
  rw [nC,i];simp only [aI,Xjk,Xq8];have L:4294967296^n*(z+c+b)=4294967296^n*(x+4294967296*f):=by rw [I]
  rw [Xq5,Xqs];rw [Xxe,Xxe,Xxe] at L;rw [Xxe] at w;omega
 have p:=qI g;have hlen2:(y++ [z]).length=n+1:=by simp [i]
 rw [hlen2] at p;have hlist:pre++y++z::post=pre++(y++ [z])++post:=by simp
 have o:(!decide (f=0))=decide (W<q*aI v):=by
  rcases Xqg f with h0|h0
  ·rw [h0,Xjk,Xq8] at a;rw [h0,Yq0 rfl,Yq1 (by omega)];rfl
  ·rw [show f=1 by omega,Ξ] at a;rw [Yq1 (by omega),Yq0 (by omega)];rfl
 have K:aI (y++ [z])=if W<q*aI v then W+4294967296^(n+1) - q*aI v else W - q*aI v:=by
  rcases Xqg f with h0|h0
  ·rw [h0,Xjk,Xq8] at a;rw [if_neg (by omega)];omega
  ·rw [show f=1 by omega,Ξ] at a;rw [if_pos (by omega)];omega
 rw [hlist,PN g hlen2,K,o] at htake;exact htake
theorem abn (pre post v:List Nat) (k:Bool) (n W:Nat) (i:v.length=n) (m:bQ v) (s:W<4294967296^(n+1)) (hpost:bQ post) (D:pre.length+n<2^40):
  aG prog ap 225 [.ref 0 0 pre.length (n+1),.sl (ak v) n k] (qm (pre++bT (n+1) W++post)) (.ret (.tup [])) (qm (pre++bT (n+1) ((W+aI v) % 4294967296^(n+1))++post)):=by
 have d:bQ (bT (n+1) W++post):=bQ.app (bQ.pad _ _) hpost;obtain ⟨A,p,h,l⟩:=UN v (bT (n+1) W++post) 0 (by omega) m d (by simp [aY];omega);have hloop:=fun nt (hnt:42≤nt)=>abp hnt (pre++bT (n+1) W++post) v k pre.length (n+1) m (by omega) (by omega) v [] (bT (n+1) W++post) pre 0 rfl rfl (by simp [aY];omega) (by omega) d
 rw [i,Df,wX,mX] at l;rw [i,Dc,mX,nZ] at hloop;generalize C:rX v (bT (n+1) W++post) 0=r at*
 obtain ⟨y,c⟩:=r;simp only [Xq8,Xqa,← τ] at A p h l hloop;have u:W / 4294967296^n<4294967296:=by
  rw [Xqx (iJ n),Xqe,← Xq5];exact s
 rw [Θ u] at hloop;have q:=Xxg W (4294967296^n);generalize t:W / 4294967296^n=x at*
 have hgive:=afU (pre++bT (n+1) W++post) (pre++y++x::post) v k pre.length (n+1) c hloop;have a:pre.length+n=(pre++y).length:=by simp [h,i]
 rw [i] at hgive h;have j:ζ (ε (pre.length+n) (ak (pre++y++x::post))) .dead= .int .u32 (x:Int):=jT a;have b:∀ z:Nat,ν (pre.length+n) (ak (pre++y++x::post))++ [Xx0 .u32 (z:Int)]++ε (pre.length+n+1) (ak (pre++y++x::post))=ak (pre++y++z::post):=fun z=>mF a
 rw [sS,Θ (show c<4294967296 by omega)] at hgive;have o:γ .u32 ((x:Int)+(c:Int))=(((x+c) % 4294967296:Nat):Int):=by rw [dI,sS]
 simp (disch:=first|omega|(simp [ay,az]<;>omega)) only [aK,Ξ,ay,η,ξ,gy,bJ,eU,bK,j,jR,bi,dI,sS,b] at hgive;have hgive:=hgive (by omega) (by omega) (by omega) trivial;have g:bQ (y++ [(x+c) % 4294967296]):=bQ.app p (bQ.cons (Xq3 _ (by omega)) bQ.nil);have f:aI (y++ [(x+c) % 4294967296])+4294967296^(n+1)*((x+c) / 4294967296)=W+aI v:=by
  rw [nC,h];simp only [aI,Xjk,Xq8];have B:4294967296^n*(x+c)=4294967296^n*(4294967296*((x+c) / 4294967296)+(x+c) % 4294967296):=by rw [Xxg]
  rw [Xq5,Xqs];rw [Xxe,Xxe] at B;omega
 have e:=qI g;have hlen2:(y++ [(x+c) % 4294967296]).length=n+1:=by simp [h]
 rw [hlen2] at e;have hlist:pre++y++(x+c) % 4294967296::post=pre++(y++ [(x+c) % 4294967296])++post:=by simp
 have w:aI (y++ [(x+c) % 4294967296])=(W+aI v) % 4294967296^(n+1):=by
  rw [← f,Xzm,Θ e]
 rw [hlist,PN g hlen2,w] at hgive;exact hgive
theorem aji {nt:Nat} (B:130≤nt) (Q U U1 U2 v:List Nat) (d r M n j q:Nat) (z:(Xqc (((0+(δ (j:Int)))*1)+1) (θ (ak Q)))=true) (e:(decide (((0:Nat):Int)≤(j:Int)))=true) (A:(decide ((j:Int)<(d:Int)))=true) (p:(decide ((j:Int)≤(γ .i64 ((γ .i64 ((j:Int)+(n:Int)))+((1:Nat):Int)))))=true) (s:(decide ((γ .i64 ((γ .i64 ((j:Int)+(n:Int)))+((1:Nat):Int)))≤(M:Int)))=true) (x:(chk (.int .u32) (ζ (ε ((δ (γ .i64 ((n:Int) - ((2:Nat):Int))))*1) (ak v)) .dead))=true) (y:(decide (((0:Nat):Int)≤(γ .i64 ((n:Int) - ((2:Nat):Int)))))=true) (D:(decide ((γ .i64 ((n:Int) - ((2:Nat):Int)))<(v.length:Int)))=true) (E:(chk (.int .u32) (ζ (ε ((δ (γ .i64 ((n:Int) - ((1:Nat):Int))))*1) (ak v)) .dead))=true) (t:(decide (((0:Nat):Int)≤(γ .i64 ((n:Int) - ((1:Nat):Int)))))=true) (i:(decide ((γ .i64 ((n:Int) - ((1:Nat):Int)))<(v.length:Int)))=true) (a:(chk (.int .u32) (ζ (ε ((0+(δ (γ .i64 ((γ .i64 ((j:Int)+(n:Int))) - ((2:Nat):Int)))))*1) (ak U)) .dead))=true) (c:(decide (((0:Nat):Int)≤(γ .i64 ((γ .i64 ((j:Int)+(n:Int))) - ((2:Nat):Int)))))=true) (b:(decide ((γ .i64 ((γ .i64 ((j:Int)+(n:Int))) - ((2:Nat):Int)))<(M:Int)))=true) (m:(chk (.int .u32) (ζ (ε ((0+(δ (γ .i64 ((γ .i64 ((j:Int)+(n:Int))) - ((1:Nat):Int)))))*1) (ak U)) .dead))=true) (k:(decide (((0:Nat):Int)≤(γ .i64 ((γ .i64 ((j:Int)+(n:Int))) - ((1:Nat):Int)))))=true) (f:(decide ((γ .i64 ((γ .i64 ((j:Int)+(n:Int))) - ((1:Nat):Int)))<(M:Int)))=true) (o:(chk (.int .u32) (ζ (ε ((0+(δ (γ .i64 ((j:Int)+(n:Int)))))*1) (ak U)) .dead))=true) (l:(decide (((0:Nat):Int)≤(γ .i64 ((j:Int)+(n:Int)))))=true) (g:(decide ((γ .i64 ((j:Int)+(n:Int)))<(M:Int)))=true) (h:lit true (decide (((0:Nat):Int)≤(j:Int)))=true) (u:CO 223 [.agg [.int .u32 (χ (ζ (ε ((0+(δ (γ .i64 ((j:Int)+(n:Int)))))*1) (ak U)) .dead)),.int .u32 (χ (ζ (ε ((0+(δ (γ .i64 ((γ .i64 ((j:Int)+(n:Int))) - ((1:Nat):Int)))))*1) (ak U)) .dead)),.int .u32 (χ (ζ (ε ((0+(δ (γ .i64 ((γ .i64 ((j:Int)+(n:Int))) - ((2:Nat):Int)))))*1) (ak U)) .dead))],.agg [.int .u32 (χ (ζ (ε ((δ (γ .i64 ((n:Int) - ((1:Nat):Int))))*1) (ak v)) .dead)),.int .u32 (χ (ζ (ε ((δ (γ .i64 ((n:Int) - ((2:Nat):Int))))*1) (ak v)) .dead)),.int .u32 0]] (.ret (.int .u64 (q:Int)))) (C:aG prog ap 224 [.ref 0 0 (0+(δ (j:Int))) ((δ (γ .i64 ((γ .i64 ((j:Int)+(n:Int)))+((1:Nat):Int)))) - (δ (j:Int))),.sl (ak v) v.length true,.int .u64 (q:Int)] [⟨(ak U),0,false,0,1,true⟩] (.ret (.bool true)) [⟨(ak U1),0,false,0,1,true⟩]) (w:aG prog ap 225 [.ref 0 0 (0+(δ (j:Int))) ((δ (γ .i64 ((γ .i64 ((j:Int)+(n:Int)))+((1:Nat):Int)))) - (δ (j:Int))),.sl (ak v) v.length true] [⟨(ak U1),0,false,0,1,true⟩] (.ret (.tup [])) [⟨(ak U2),0,false,0,1,true⟩]):au prog ap [] nt (af 1 (ai f211)) ⟨[(4,.ref 0 0 0 d),(8,ω (r:Int)),(9,.ref 1 0 0 M),(10,.sl (ak v) v.length true),(11,ω (n:Int)),(12,ω (j:Int))],[(0,⟨(ak Q),0,false,0,1,true⟩),(1,⟨(ak U),0,false,0,1,true⟩)],.dead,[]⟩ (.normal) ⟨[(4,.ref 0 0 0 d),(8,ω (r:Int)),(9,.ref 1 0 0 M),(10,.sl (ak v) v.length true),(11,ω (n:Int)),(12,ω (γ .i64 ((j:Int) - ((1:Nat):Int))))],[(0,⟨(ν ((0+(δ (j:Int)))*1) (ak Q)++ [.int .u32 (γ .u32 (γ .u64 ((q:Int) - ((1:Nat):Int))))]++ε (((0+(δ (j:Int)))*1)+1) (ak Q)),0,false,0,1,true⟩),(1,⟨(ak U2),0,false,0,1,true⟩)],.dead,[]⟩:=pJ 211 [] 2 3 (.c z (.c e (.c A (.c e (.c p (.c s (.k 1 e (.c p (.c s (.c x (.c y (.c D (.c E (.c t (.c i (.c a (.c c (.c b (.c m (.c k (.c f (.c o (.c l (.c g (.c h .nil))))))))))))))))))))))))) (.c w (.c C (.c u .nil))) B
theorem ajg {nt:Nat} (z:130≤nt) (Q U U1 U2 v:List Nat) (d p M n j q:Nat) (x:(Xqc (((0+(δ (j:Int)))*1)+1) (θ (ak Q)))=true) (o:(decide (((0:Nat):Int)≤(j:Int)))=true) (y:(decide ((j:Int)<(d:Int)))=true) (w:(decide ((j:Int)≤(γ .i64 ((γ .i64 ((j:Int)+(n:Int)))+((1:Nat):Int)))))=true) (D:(decide ((γ .i64 ((γ .i64 ((j:Int)+(n:Int)))+((1:Nat):Int)))≤(M:Int)))=true) (t:(chk (.int .u32) (ζ (ε ((δ (γ .i64 ((n:Int) - ((2:Nat):Int))))*1) (ak v)) .dead))=true) (u:(decide (((0:Nat):Int)≤(γ .i64 ((n:Int) - ((2:Nat):Int)))))=true) (B:(decide ((γ .i64 ((n:Int) - ((2:Nat):Int)))<(v.length:Int)))=true) (C:(chk (.int .u32) (ζ (ε ((δ (γ .i64 ((n:Int) - ((1:Nat):Int))))*1) (ak v)) .dead))=true) (r:(decide (((0:Nat):Int)≤(γ .i64 ((n:Int) - ((1:Nat):Int)))))=true) (h:(decide ((γ .i64 ((n:Int) - ((1:Nat):Int)))<(v.length:Int)))=true) (a:(chk (.int .u32) (ζ (ε ((0+(δ (γ .i64 ((γ .i64 ((j:Int)+(n:Int))) - ((2:Nat):Int)))))*1) (ak U)) .dead))=true) (c:(decide (((0:Nat):Int)≤(γ .i64 ((γ .i64 ((j:Int)+(n:Int))) - ((2:Nat):Int)))))=true) (b:(decide ((γ .i64 ((γ .i64 ((j:Int)+(n:Int))) - ((2:Nat):Int)))<(M:Int)))=true) (l:(chk (.int .u32) (ζ (ε ((0+(δ (γ .i64 ((γ .i64 ((j:Int)+(n:Int))) - ((1:Nat):Int)))))*1) (ak U)) .dead))=true) (i:(decide (((0:Nat):Int)≤(γ .i64 ((γ .i64 ((j:Int)+(n:Int))) - ((1:Nat):Int)))))=true) (e:(decide ((γ .i64 ((γ .i64 ((j:Int)+(n:Int))) - ((1:Nat):Int)))<(M:Int)))=true) (m:(chk (.int .u32) (ζ (ε ((0+(δ (γ .i64 ((j:Int)+(n:Int)))))*1) (ak U)) .dead))=true) (k:(decide (((0:Nat):Int)≤(γ .i64 ((j:Int)+(n:Int)))))=true) (f:(decide ((γ .i64 ((j:Int)+(n:Int)))<(M:Int)))=true) (g:lit true (decide (((0:Nat):Int)≤(j:Int)))=true) (s:CO 223 [.agg [.int .u32 (χ (ζ (ε ((0+(δ (γ .i64 ((j:Int)+(n:Int)))))*1) (ak U)) .dead)),.int .u32 (χ (ζ (ε ((0+(δ (γ .i64 ((γ .i64 ((j:Int)+(n:Int))) - ((1:Nat):Int)))))*1) (ak U)) .dead)),.int .u32 (χ (ζ (ε ((0+(δ (γ .i64 ((γ .i64 ((j:Int)+(n:Int))) - ((2:Nat):Int)))))*1) (ak U)) .dead))],.agg [.int .u32 (χ (ζ (ε ((δ (γ .i64 ((n:Int) - ((1:Nat):Int))))*1) (ak v)) .dead)),.int .u32 (χ (ζ (ε ((δ (γ .i64 ((n:Int) - ((2:Nat):Int))))*1) (ak v)) .dead)),.int .u32 0]] (.ret (.int .u64 (q:Int)))) (A:aG prog ap 224 [.ref 0 0 (0+(δ (j:Int))) ((δ (γ .i64 ((γ .i64 ((j:Int)+(n:Int)))+((1:Nat):Int)))) - (δ (j:Int))),.sl (ak v) v.length true,.int .u64 (q:Int)] [⟨(ak U),0,false,0,1,true⟩] (.ret (.bool false)) [⟨(ak U1),0,false,0,1,true⟩]):au prog ap [] nt (af 1 (ai f211)) ⟨[(4,.ref 0 0 0 d),(8,ω (p:Int)),(9,.ref 1 0 0 M),(10,.sl (ak v) v.length true),(11,ω (n:Int)),(12,ω (j:Int))],[(0,⟨(ak Q),0,false,0,1,true⟩),(1,⟨(ak U),0,false,0,1,true⟩)],.dead,[]⟩ (.normal) ⟨[(4,.ref 0 0 0 d),(8,ω (p:Int)),(9,.ref 1 0 0 M),(10,.sl (ak v) v.length true),(11,ω (n:Int)),(12,ω (γ .i64 ((j:Int) - ((1:Nat):Int))))],[(0,⟨(ν ((0+(δ (j:Int)))*1) (ak Q)++ [.int .u32 (γ .u32 (q:Int))]++ε (((0+(δ (j:Int)))*1)+1) (ak Q)),0,false,0,1,true⟩),(1,⟨(ak U1),0,false,0,1,true⟩)],.dead,[]⟩:=pJ 211 [] 2 1 (.c x (.c o (.c y (.k 1 o (.c w (.c D (.c t (.c u (.c B (.c C (.c r (.c h (.c a (.c c (.c b (.c l (.c i (.c e (.c m (.c k (.c f (.c g .nil)))))))))))))))))))))) (.c A (.c s .nil)) z
theorem ajf {nt:Nat} (c:130≤nt) (Q U U1 U2 v:List Nat) (b a M n j q:Nat):au prog ap [] nt (af 1 (ai f211)) ⟨[(4,.ref 0 0 0 b),(8,ω (a:Int)),(9,.ref 1 0 0 M),(10,.sl (ak v) v.length true),(11,ω (n:Int)),(12,ω (-1))],[(0,⟨(ak Q),0,false,0,1,true⟩),(1,⟨(ak U),0,false,0,1,true⟩)],.dead,[]⟩ (.exit 1) ⟨[(4,.ref 0 0 0 b),(8,ω (a:Int)),(9,.ref 1 0 0 M),(10,.sl (ak v) v.length true),(11,ω (n:Int)),(12,ω (-1))],[(0,⟨(ak Q),0,false,0,1,true⟩),(1,⟨(ak U),0,false,0,1,true⟩)],.dead,[]⟩:=pJ 211 [] 1 0 (.n 1 .nil) (.nil) c
theorem MX {q Q k:Nat} (a:q<4294967296):bT (k+1) (4294967296*Q+q)=q::bT k Q:=by
 unfold bT;rw [Xwq,Xqb,Xz2];congr 1
 ·simp only [Xjk,Xvl,Xwr,nZ];omega
 ·apply Xjb;intro i _;simp only [Xvu,Xkp];rw [show 32*(i+1)=32+32*i by omega,Xxp,← Xx7,nZ,show (4294967296*Q+q) / 4294967296=Q by omega]
theorem O3 {k W V:Nat} (o:V<4294967296^(k+2)) (g:2147483648*4294967296^(k+1)≤V) (n:W<V*4294967296):
  W / V≤w_ (W / 4294967296^(k+2) % 4294967296) (W / 4294967296^(k+1) % 4294967296) (W / 4294967296^k % 4294967296) (V / 4294967296^(k+1) % 4294967296) (V / 4294967296^k % 4294967296)∧
  w_ (W / 4294967296^(k+2) % 4294967296) (W / 4294967296^(k+1) % 4294967296) (W / 4294967296^k % 4294967296) (V / 4294967296^(k+1) % 4294967296) (V / 4294967296^k % 4294967296)≤W / V+1∧
  W / 4294967296^(k+2) % 4294967296≤V / 4294967296^(k+1) % 4294967296∧2147483648≤V / 4294967296^(k+1) % 4294967296:=by
 have a:0<4294967296^k:=iJ k;have G:4294967296^(k+1)=4294967296^k*4294967296:=Xq5 ..;have u:4294967296^(k+2)=4294967296^k*4294967296*4294967296:=by rw [Xq5,Xq5]
 rw [u] at o ⊢;rw [G] at g ⊢;generalize 4294967296^k=P at*
 simp only [← Xx7];have J:=Xxg W P;have H:=Xq3 W a;have v:=Xxg V P;have C:=Xq3 V a;have hVpos:0<V:=by
  have:=Xjx (show 0<2147483648 by omega) (Xjx a (show 0<4294967296 by omega));omega
 generalize m:W / P=T at*
 generalize f:V / P=D at*
 generalize N:W % P=w at*
 generalize hd:V % P=d at*
 have j:2147483648*4294967296≤D:=by
  rw [← f,Xzk a]
  calc 2147483648*4294967296*P=2147483648*(P*4294967296):=by rw [Xqs,Xqe 4294967296 P]
   _≤V:=g
 have B:D<4294967296*4294967296:=by
  rw [← f,Xqx a]
  calc V<P*4294967296*4294967296:=o
   _=4294967296*4294967296*P:=by rw [Xqs,Xqe P]
 have E:T<(D+1)*4294967296:=by
  rw [← m,Xqx a]
  calc W<V*4294967296:=n
   _≤(D+1)*P*4294967296:=Xqy _ (by rw [Xxw,Xqe D];omega)
   _=(D+1)*4294967296*P:=by rw [Xqs,Xqs,Xqe P]
 have i:W / V≤4294967295:=by
  have:W / V<4294967296:=by rw [Xqx hVpos,Xqe];exact n
  omega
 have z:=Xxg W V;have A:=Xq3 W hVpos;have y:T / 4294967296 / 4294967296<4294967296:=by omega
 have b:4294967296*(4294967296*(T / 4294967296 / 4294967296 % 4294967296)+T / 4294967296 % 4294967296)+T % 4294967296=T:=by omega
 have c:4294967296*(D / 4294967296 % 4294967296)+D % 4294967296=D:=by omega
 have q:0<D / 4294967296 % 4294967296:=by omega
 refine ⟨?_, ?_,by omega,by omega⟩
 ·rw [A7 q,b,c];refine ⟨i, ?_⟩;have h:W / V*D*P<(T+1)*P:=by
   have p:W / V*D*P=W / V*(P*D):=by rw [Xqs,Xqe D]
   have l:W / V*(P*D)≤W / V*V:=Xq0 _ (by omega);rw [Xqe (W / V) V] at l;rw [Xxw,Xqe T P];omega
  have:=Xvi h;omega
 ·generalize r:w_ _ _ _ _ _=e;have h:=(A7 (x:=e) q).1 (by rw [r];exact Δ _);rw [b,c] at h;obtain ⟨p,l⟩:=h;have I:e*V<W+V:=by
   have M:e*V=e*(P*D)+e*d:=by rw [← Xxe,v]
   have O:e*(P*D)=e*D*P:=by rw [Xqe P,Xqs]
   have F:e*D*P≤T*P:=Xqy _ l;have K:e*d≤e*P:=Xq0 _ (by omega);have L:e*P≤4294967295*P:=Xqy _ p;have s:2147483648*4294967296*P≤D*P:=Xqy _ j;rw [Xqe D] at s;rw [Xqe T] at F;omega
  have t:e*V<(W / V+2)*V:=by
   rw [Xxw,Xqe (W / V)];omega
  have:=Xvi t;omega
def ZT (a v:List Nat) (m j:Nat):List Nat:=μ j 0++bT (m - j) (aI (a.drop j) / aI v)
def ZU (a v:List Nat) (m j:Nat):List Nat:=a.take j++bT v.length (aI (a.drop j) % aI v)++μ (m - j) 0
def OQ (a v:List Nat) (sh m j:Nat):St:=⟨[(4,.ref 0 0 0 m),(8,ω (sh:Int)),(9,.ref 1 0 0 (m+v.length)),(10,.sl (ak v) v.length true),(11,ω (v.length:Int)),(12,ω ((j:Int) - 1))],[(0,⟨ak (ZT a v m j),0,false,0,1,true⟩),(1,⟨ak (ZU a v m j),0,false,0,1,true⟩)],.dead,[]⟩
theorem acm {n r:Nat} (h:r<4294967296^n):bT (n+1) r=bT n r++ [0]:=by
 rw [vT,mX,Xjc h]
theorem aaN {a v:List Nat} {m j:Nat} (c:j<m) (f:a.length=m+v.length) (e:bQ v) (b:bQ a) (d:0<aI v):ZU a v m (j+1)=a.take j++bT (v.length+1) (4294967296*(aI (a.drop (j+1)) % aI v)+a.getD j 0)++μ (m - j - 1) 0:=by
 unfold ZU;rw [MX (b.getD j),List.take_add_one,show m - (j+1)=m - j - 1 by omega];have:a[j]? =some (a.getD j 0):=by rw [κ,π (by omega)];rfl
 rw [this];simp
theorem aaM {a v:List Nat} {m j:Nat} (d:j<m) (c:bQ v) (b:0<aI v):ZU a v m j=a.take j++bT (v.length+1) (aI (a.drop j) % aI v)++μ (m - j - 1) 0:=by
 unfold ZU;rw [acm (Xqz (Xq3 _ b) (qI c)),show m - j=(m - j - 1)+1 by omega,Xxh];simp
theorem aaL {a v:List Nat} {m j:Nat}:ZT a v m (j+1)=μ j 0++0::bT (m - j - 1) (aI (a.drop (j+1)) / aI v):=by
 unfold ZT;rw [Xj8,show m - (j+1)=m - j - 1 by omega];simp
theorem ae1 {V R' Q' x H:Nat} (a:0<V) (h:H=V*Q'+R'):(x+4294967296*H) / V=4294967296*Q'+(4294967296*R'+x) / V∧(x+4294967296*H) % V=(4294967296*R'+x) % V:=by
 subst h;have e:x+4294967296*(V*Q'+R')=4294967296*R'+x+V*(4294967296*Q'):=by
  rw [Xxe,Nat.mul_left_comm];omega
 rw [e];constructor
 ·rw [Xwa _ _ a,Xx3]
 ·rw [Xzm]
theorem KD {pre post:List Nat} {n W i:Nat} (h:i≤n):(pre++bT (n+1) W++post).getD (pre.length+i) 0=W / 4294967296^i % 4294967296:=by
 rw [κ,Xxb (by simp [aY];omega),Xq2 (by omega),Nat.add_sub_cancel_left,sH (by omega),mX,nZ];rfl
theorem Rq {v:List Nat} (a:bQ v) {i:Nat} (h:i<v.length):v.getD i 0=aI v / 4294967296^i % 4294967296:=by
 have e:=sH (n:=aI v) h;rw [FY a,mX,nZ] at e;rw [κ,e];rfl
def dvS (sh m M n:Nat) (v Q U:List Nat) (j:Int):St:=⟨[(4,.ref 0 0 0 m),(8,ω (sh:Int)),(9,.ref 1 0 0 M),(10,.sl (ak v) v.length true),(11,ω (n:Int)),(12,ω j)],[(0,⟨ak Q,0,false,0,1,true⟩),(1,⟨ak U,0,false,0,1,true⟩)],.dead,[]⟩
abbrev ajQ (x2 x1 x0 y1 y0:Nat):List AV:= [.agg [.int .u32 (x2:Int),.int .u32 (x1:Int),.int .u32 (x0:Int)],.agg [.int .u32 (y1:Int),.int .u32 (y0:Int),.int .u32 0]]
theorem ajj {nt:Nat} (g:130≤nt) (Q R U U1 U2 v:List Nat) (c m n j q:Nat) (o:v.length=n) (i:2≤n) (p:U.length=m+n) (l:j<m) (k:m+n<2^40) (s:q<4294967296) (h:0<q) (r:Q.length=m) (a:∀ y:Nat,ν j (ak Q)++ [Xx0 .u32 (y:Int)]++ε (j+1) (ak Q)=ak (Q.set j y)) (e:Q.set j (q - 1)=R)
  (c0:CO 223 (ajQ (U.getD (j+n) 0) (U.getD (j+n - 1) 0) (U.getD (j+n - 2) 0) (v.getD (n - 1) 0) (v.getD (n - 2) 0)) (.ret (.int .u64 (q:Int))))
  (c1:aG prog ap 224 [.ref 0 0 j (n+1),.sl (ak v) v.length true,.int .u64 (q:Int)] (qm U) (.ret (.bool true)) (qm U1))
  (c2:aG prog ap 225 [.ref 0 0 j (n+1),.sl (ak v) v.length true] (qm U1) (.ret (.tup [])) (qm U2)):
  au prog ap [] nt (af 1 (ai f211)) (dvS c m (m+n) n v Q U (j:Int)) .normal (dvS c m (m+n) n v R U2 ((j:Int) - 1)):=by
 have hbody:=aji g Q U U1 U2 v m c (m+n) n j q;have d:γ .i64 ((j:Int) - ((1:Nat):Int))=(j:Int) - 1:=bH (by omega) (by omega);have b:(q+(18446744073709551616 - 1)) % 18446744073709551616=q - 1:=by omega
 have f:j+n+1 - j=n+1:=by omega
 simp (disch:=first|omega|(simp [ay,az]<;>omega)) only [aK,Xqd,Ξ,ay,gy,bJ,eU,bK,dI,bC,jU,Aj,jR,bU,bi,f,d,lF,Θ,b,sS,a] at hbody;rw [e] at hbody;unfold dvS;apply hbody<;>first|exact True.intro|omega|assumption
theorem ajh {nt:Nat} (f:130≤nt) (Q R U U1 v:List Nat) (b m n j q:Nat) (k:v.length=n) (g:2≤n) (l:U.length=m+n) (i:j<m) (h:m+n<2^40) (p:q<4294967296) (o:Q.length=m) (a:∀ y:Nat,ν j (ak Q)++ [Xx0 .u32 (y:Int)]++ε (j+1) (ak Q)=ak (Q.set j y)) (d:Q.set j q=R)
  (c0:CO 223 (ajQ (U.getD (j+n) 0) (U.getD (j+n - 1) 0) (U.getD (j+n - 2) 0) (v.getD (n - 1) 0) (v.getD (n - 2) 0)) (.ret (.int .u64 (q:Int))))
  (c1:aG prog ap 224 [.ref 0 0 j (n+1),.sl (ak v) v.length true,.int .u64 (q:Int)] (qm U) (.ret (.bool false)) (qm U1)):
  au prog ap [] nt (af 1 (ai f211)) (dvS b m (m+n) n v Q U (j:Int)) .normal (dvS b m (m+n) n v R U1 ((j:Int) - 1)):=by
 have hbody:=ajg f Q U U1 U v m b (m+n) n j q;have c:γ .i64 ((j:Int) - ((1:Nat):Int))=(j:Int) - 1:=bH (by omega) (by omega);have e:j+n+1 - j=n+1:=by omega
 simp (disch:=first|omega|(simp [ay,az]<;>omega)) only [aK,Xqd,Ξ,ay,gy,bJ,eU,bK,dI,bC,jU,Aj,jR,bU,bi,e,c,sS,Θ,a] at hbody;rw [d] at hbody;unfold dvS;apply hbody<;>first|exact True.intro|omega|assumption
theorem TP {l:List Nat} {j:Nat} (h:j<l.length) (y:Nat):ν j (ak l)++ [Xx0 .u32 (y:Int)]++ε (j+1) (ak l)=ak (l.set j y):=by
 rw [pO,W_,Xjg,if_pos h];simp [ak]
theorem abd (a b c d e:Nat):w_ a b c d e<4294967296:=Xqk (Nat.min_le_left _ _) (by omega)
theorem aaP {nt:Nat} (P:130≤nt) (a v:List Nat) (C m j k:Nat) (A:v.length=k+2) (B:j<m) (Y:a.length=m+v.length) (r:bQ v) (y:bQ a) (R:a.length<2^40) (s:2147483648*4294967296^(k+1)≤aI v):
  au prog ap [] nt (af 1 (ai f211)) (OQ a v C m (j+1)) .normal (OQ a v C m j):=by
 have p:=qI r;have hVpos:0<aI v:=by have:=Xjx (show 0<2147483648 by omega) (iJ (k+1));omega
 have hx:=y.getD j;have M:=Xq3 (aI (a.drop (j+1))) hVpos;have K:=Xxg (aI (a.drop (j+1))) (aI v);have L:aI (a.drop j)=a.getD j 0+4294967296*aI (a.drop (j+1)):=VV (by omega);obtain ⟨t,u⟩:=ae1 (x:=a.getD j 0) hVpos K.symm;rw [← L] at t u;unfold OQ;rw [show (((j+1:Nat):Int) - 1)=(j:Int) by omega];rw [aaN B Y r y hVpos,aaM B r hVpos,aaL,u];have hQ:ZT a v m j=μ j 0++(4294967296*(aI (a.drop (j+1)) % aI v)+a.getD j 0) / aI v::bT (m - j - 1) (aI (a.drop (j+1)) / aI v):=by
  unfold ZT;rw [t,show m - j=(m - j - 1)+1 by omega,MX]
  ·rfl
  ·rw [Xqx hVpos];omega
 rw [hQ];have N:4294967296*(aI (a.drop (j+1)) % aI v)+a.getD j 0<aI v*4294967296:=by omega
 generalize aI (a.drop (j+1)) / aI v=Q' at*
 generalize 4294967296*(aI (a.drop (j+1)) % aI v)+a.getD j 0=W at*
 have h:(a.take j).length=j:=by simp;omega
 generalize a.take j=pre at*
 obtain ⟨b1,Z,X,b4⟩:=O3 (k:=k) (W:=W) (by rw [← A];exact p) s N;have hpost:bQ (μ (m - j - 1) 0):=bQ.zeros _;have G:W<4294967296^(v.length+1):=by
  rw [Xq5];exact Φ N (Xqy _ (Xw0 p))
 have D:=KD (pre:=pre) (post:=μ (m - j - 1) 0) (n:=v.length) (W:=W) (i:=k+2) (by omega);have J:=KD (pre:=pre) (post:=μ (m - j - 1) 0) (n:=v.length) (W:=W) (i:=k+1) (by omega);have I:=KD (pre:=pre) (post:=μ (m - j - 1) 0) (n:=v.length) (W:=W) (i:=k) (by omega);have v1:=Rq r (i:=k+1) (by omega);have v0:=Rq r (i:=k) (by omega);rw [h] at D J I;have S:j+v.length=j+(k+2):=by rw [A]
 have T:j+v.length - 1=j+(k+1):=by omega
 have O:j+v.length - 2=j+k:=by omega
 have U:v.length - 1=k+1:=by omega
 have Q:v.length - 2=k:=by omega
 have V:=Xq3 (W / 4294967296^(k+1)) (show 0<4294967296 by omega);have H:=Xq3 (W / 4294967296^k) (show 0<4294967296 by omega);have E:=Xq3 (aI v / 4294967296^(k+1)) (show 0<4294967296 by omega);have z:=Xq3 (aI v / 4294967296^k) (show 0<4294967296 by omega);have f:=afu _ _ _ _ _ X V H E z b4;generalize hE:w_ _ _ _ _ _=q at b1 Z f;have g:q<4294967296:=by rw [← hE];exact abd ..
 have w:(pre++bT (v.length+1) W++μ (m - j - 1) 0).length=m+v.length:=by simp [aY,h];omega
 have htake:=adk pre (μ (m - j - 1) 0) v true v.length W q rfl r g G hpost (by omega);have hqm:=Xxg W (aI v);have hql:=Xq3 W hVpos;rw [h] at htake;rcases Xxc (W / aI v) q with hlt|hge
 ·have o:q=W / aI v+1:=by omega
  have b:W<q*aI v:=by rw [o,Xxw,Xqe (W / aI v)];omega
  rw [if_pos b,Yq0 b] at htake;have hgive:=abn pre (μ (m - j - 1) 0) v true v.length (W+4294967296^(v.length+1) - q*aI v) rfl r (by omega) hpost (by omega);rw [h] at hgive;have d:(W+4294967296^(v.length+1) - q*aI v+aI v) % 4294967296^(v.length+1)=W % aI v:=by
   have e:W+4294967296^(v.length+1) - q*aI v+aI v=W % aI v+4294967296^(v.length+1):=by
    have:q*aI v=aI v*(W / aI v)+aI v:=by rw [o,Xxw,Xqe (W / aI v)];omega
    omega
   rw [e,Nat.add_mod_right,Θ];have:=Ψ (show 0<4294967296 by omega) (show v.length≤v.length+1 by omega);omega
  rw [d] at hgive;have c:=TP (l:=μ j 0++0::bT (m - j - 1) Q') (j:=j) (by simp);have F:(μ j 0++0::bT (m - j - 1) Q').set j (q - 1)=μ j 0++W / aI v::bT (m - j - 1) Q':=by
   rw [Xv9 _ _ (by simp),show q - 1=W / aI v by rw [o,Xvm]];simp
  have:=ajj P _ _ _ _ _ v C m v.length j q rfl (by omega) w B (by omega) g (by rw [o];exact Nat.succ_pos _) (by simp [aY];omega) c F (by rw [T,O,U,Q,S,D,J,I,v1,v0];exact f) htake hgive;exact this
 ·have o:q=W / aI v:=by omega
  have b:¬ W<q*aI v:=by rw [o,Xqe];omega
  rw [if_neg b,Yq1 b] at htake;have d:W - q*aI v=W % aI v:=by rw [o,Xqe];omega
  rw [d] at htake;have c:=TP (l:=μ j 0++0::bT (m - j - 1) Q') (j:=j) (by simp);have F:(μ j 0++0::bT (m - j - 1) Q').set j q=μ j 0++W / aI v::bT (m - j - 1) Q':=by
   rw [Xv9 _ _ (by simp),o];simp
  have:=ajh P _ _ _ _ v C m v.length j q rfl (by omega) w B (by omega) g (by simp [aY];omega) c F (by rw [T,O,U,Q,S,D,J,I,v1,v0];exact f) htake;exact this
theorem aaO {nt:Nat} (g:130≤nt) (a v:List Nat) (d m k:Nat) (f:v.length=k+2) (i:a.length=m+v.length) (h:bQ v) (e:bQ a) (b:a.length<2^40) (c:2147483648*4294967296^(k+1)≤aI v):
  ∀ j,j≤m→aC prog ap [] nt (af 1 (ai f211)) (fun _=> .exit 1) (OQ a v d m) (OQ a v d m) j 0:=by
 intro j
 induction j with
 |zero=>exact fun _=> .done (ajf g (ZT a v m 0) (ZU a v m 0) [] [] v m d (m+v.length) v.length 0 0)
 |succ j ih=>exact fun l=> .next (aaP g a v d m j k f (by omega) i h e b c) (ih (by omega))
theorem ai9 (x y s r X1 c:Nat) (A Y Q U v:List Nat) (a:lit true (decide ((mG x y)<((0:Nat):Int)))=true) (b:CO 210 [.sl (ak (digs x)) (digs x).length false,.sl (ak (digs y)) (digs y).length false] (.ret (ω (mG x y)))):CO 211 [.sl (ak (digs x)) (digs x).length false,.sl (ak (digs y)) (digs y).length false] (.ret (.tup [.nilS,.sl (ak (digs x)) (digs x).length false])):=pK [1] 1 1 (.c a .nil) (.c b .nil)
theorem ai_ (x y s r X1 h:Nat) (A Y Q U v:List Nat) (b:(chk (.int .u32) (ζ (ak (digs y)) .dead))=true) (g:(decide (((0:Nat):Int)<(((digs y).length:Nat):Int)))=true) (c:lit true ((((digs y).length:Nat):Int)==((1:Nat):Int))=true) (a:lit false (decide ((mG x y)<((0:Nat):Int)))=true) (d:CO 210 [.sl (ak (digs x)) (digs x).length false,.sl (ak (digs y)) (digs y).length false] (.ret (ω (mG x y)))) (e:CO 220 [.sl (ak (digs x)) (digs x).length false,.int .u32 (χ (ζ (ak (digs y)) .dead))] (.ret (.tup [.sl (ak (digs X1)) (digs X1).length false,.int .u32 (r:Int)]))) (f:CO 162 [.sl [.int .u32 (r:Int)] 1 true] (.ret (.sl (ak (digs r)) (digs r).length false))):CO 211 [.sl (ak (digs x)) (digs x).length false,.sl (ak (digs y)) (digs y).length false] (.ret (.tup [.sl (ak (digs X1)) (digs X1).length false,.sl (ak (digs r)) (digs r).length false])):=pK [1] 2 2 (.c b (.k 1 g (.c c (.c a .nil)))) (.c f (.c e (.c d .nil)))
theorem aja (x y s r X1 a:Nat) (A Y Q U v:List Nat) (h:(decide (((0:Nat):Int)≤(v.length:Int)))=true) (k:(decide ((v.length:Int)≤(A.length:Int)))=true) (i:(decide (((0:Nat):Int)≤(γ .i64 ((A.length:Int) - (v.length:Int)))))=true) (g:(decide ((γ .i64 ((A.length:Int) - (v.length:Int)))=(γ .i64 ((A.length:Int) - (v.length:Int)))))=true) (t:(decide ((γ .i64 ((A.length:Int) - (v.length:Int)))≤((1099511627776:Nat):Int)))=true) (e:(chk (.int .u32) (ζ (ε ((δ (γ .i64 ((((digs y).length:Nat):Int) - ((1:Nat):Int))))*1) (ak (digs y))) .dead))=true) (f:(decide (((0:Nat):Int)≤(γ .i64 ((((digs y).length:Nat):Int) - ((1:Nat):Int)))))=true) (o:(decide ((γ .i64 ((((digs y).length:Nat):Int) - ((1:Nat):Int)))<(((digs y).length:Nat):Int)))=true) (q:lit false ((((digs y).length:Nat):Int)==((1:Nat):Int))=true) (b:lit false (decide ((mG x y)<((0:Nat):Int)))=true) (c:CO 210 [.sl (ak (digs x)) (digs x).length false,.sl (ak (digs y)) (digs y).length false] (.ret (ω (mG x y)))) (l:CO 221 [.int .u32 (χ (ζ (ε ((δ (γ .i64 ((((digs y).length:Nat):Int) - ((1:Nat):Int))))*1) (ak (digs y))) .dead))] (.ret (ω (s:Int)))) (d:CO 222 [.sl (ak (digs x)) (digs x).length false,ω (s:Int)] (.ret (.own (ak A) A.length 1))) (m:CO 222 [.sl (ak (digs y)) (digs y).length false,ω (s:Int)] (.ret (.own (ak Y) Y.length 1))) (u:CO 162 [.sl (ν (Y.length*1) (ak Y)) Y.length true] (.ret (.sl (ak v) v.length true))) (p:aN prog ap [] 130 (.block 1 (.loop (af 1 (ai f211)))) ⟨[(0,.sl (ak (digs x)) (digs x).length false),(1,.sl (ak (digs y)) (digs y).length false),(4,.ref 0 0 0 (δ (γ .i64 ((A.length:Int) - (v.length:Int))))),(5,.nilS),(6,.dead),(7,.dead),(8,ω (s:Int)),(9,.ref 1 0 0 A.length),(10,.sl (ak v) v.length true),(11,ω (v.length:Int)),(12,ω (γ .i64 ((((δ (γ .i64 ((A.length:Int) - (v.length:Int)))):Nat):Int) - ((1:Nat):Int)))),(13,.dead),(14,.bool (decide ((mG x y)<((0:Nat):Int)))),(20,.bool ((((digs y).length:Nat):Int)==((1:Nat):Int))),(61,.dead),(106,.dead)],[(0,⟨(gQ (δ (γ .i64 ((A.length:Int) - (v.length:Int)))) [.int .u32 0]),0,false,0,1,true⟩),(1,⟨(ak A),0,false,0,1,true⟩)],.dead,[]⟩ (.normal) ⟨[(4,.ref 0 0 0 a),(8,ω (s:Int)),(9,.ref 1 0 0 A.length),(11,ω (v.length:Int))],[(0,⟨(ak Q),0,false,0,1,true⟩),(1,⟨(ak U),0,false,0,1,true⟩)],.dead,[]⟩) (j:CO 162 [.sl (ν (a*1) (ak Q)) a true] (.ret (.sl (ak (digs X1)) (digs X1).length false))) (n:CO 226 [.sl (ν (((δ (v.length:Int)) - 0)*1) (ak U)) ((δ (v.length:Int)) - 0) true,ω (s:Int)] (.ret (.sl (ak (digs r)) (digs r).length false))):CO 211 [.sl (ak (digs x)) (digs x).length false,.sl (ak (digs y)) (digs y).length false] (.ret (.tup [.sl (ak (digs X1)) (digs X1).length false,.sl (ak (digs r)) (digs r).length false])):=pK [1] 2 0 (.k 1 h (.c k (.c i (.c g (.c t (.c e (.c f (.c o (.c q (.c b .nil)))))))))) (.c n (.c j (.l p (.c u (.c m (.c d (.c l (.c c .nil))))))))
abbrev dvB (x y s m:Nat) (A v:List Nat):St:=⟨[(0,.sl (ak (digs x)) (digs x).length false),(1,.sl (ak (digs y)) (digs y).length false),(4,.ref 0 0 0 m),(5,.nilS),(6,.dead),(7,.dead),(8,ω (s:Int)),(9,.ref 1 0 0 A.length),(10,.sl (ak v) v.length true),(11,ω (v.length:Int)),(12,ω ((m:Int) - 1)),(13,.dead),(14,.bool (decide (mG x y<((0:Nat):Int)))),(20,.bool (decide ((digs y).length=1))),(61,.dead),(106,.dead)],[(0,⟨ak (μ m 0),0,false,0,1,true⟩),(1,⟨ak A,0,false,0,1,true⟩)],.dead,[]⟩
abbrev dvC (s m:Nat) (A v Q U:List Nat):St:=⟨[(4,.ref 0 0 0 m),(8,ω (s:Int)),(9,.ref 1 0 0 A.length),(11,ω (v.length:Int))],[(0,⟨ak Q,0,false,0,1,true⟩),(1,⟨ak U,0,false,0,1,true⟩)],.dead,[]⟩
theorem ajb (x y s r z m:Nat) (A Y Q U v:List Nat) (i:A.length=m+v.length) (c:A.length<2^40) (f:2≤(digs y).length) (d:(digs y).length<2^40) (j:0<m) (k:v.length≤U.length) (e:¬ mG x y<((0:Nat):Int)) (g:CO 210 [.sl (ak (digs x)) (digs x).length false,.sl (ak (digs y)) (digs y).length false] (.ret (ω (mG x y))))
  (c1:CO 221 [.int .u32 (((digs y).getD ((digs y).length - 1) 0:Nat):Int)] (.ret (ω (s:Int))))
  (c2:CO 222 [.sl (ak (digs x)) (digs x).length false,ω (s:Int)] (.ret (.own (ak A) A.length 1)))
  (c3:CO 222 [.sl (ak (digs y)) (digs y).length false,ω (s:Int)] (.ret (.own (ak Y) Y.length 1)))
  (c4:CO 162 [.sl (ak (ν Y.length Y)) Y.length true] (.ret (.sl (ak v) v.length true)))
  (l0:aN prog ap [] 130 (.block 1 (.loop (af 1 (ai f211)))) (dvB x y s m A v) .normal (dvC s m A v Q U))
  (c5:CO 162 [.sl (ak (ν m Q)) m true] (.ret (.sl (ak (digs z)) (digs z).length false)))
  (c6:CO 226 [.sl (ak (ν v.length U)) v.length true,ω (s:Int)] (.ret (.sl (ak (digs r)) (digs r).length false))):CO 211 [.sl (ak (digs x)) (digs x).length false,.sl (ak (digs y)) (digs y).length false] (.ret (.tup [.sl (ak (digs z)) (digs z).length false,.sl (ak (digs r)) (digs r).length false])):=by
 have h:=aja x y s r z m A Y Q U v;have b:γ .i64 ((m:Int) - ((1:Nat):Int))=(m:Int) - 1:=Fa (by omega);have a:A.length - v.length=m:=by omega
 simp (disch:=first|omega|(simp [ay,az]<;>omega)) only [eU,bJ,jU,a,decide_true,aK,Ξ,Aj,jR,bK,qK,fK,gV,iD,bi,pO,b,qE,Xzd] at h;apply h<;>first|exact True.intro|omega|assumption
abbrev dS (x:Nat):AV:= .sl (ak (digs x)) (digs x).length false
theorem jG.sl1 (xs:List AV) (n:Nat) (nn:Bool):jG (.ret (.sl xs n nn)) (.ret (.sl xs n false)):=jG.ret rfl rfl (aQ.sl xs n nn)
theorem vg {x:Nat} (h:0<x):0<(digs x).length:=by
 rcases Xqg (digs x).length with h0|h0
 ·have:=jY (n:=x) (m:=0) (by omega);simp at this;omega
 ·exact h0
theorem WU {x:Nat} (h:(digs x).length=1):digs x= [x]∧x<4294967296:=by
 have b:=jY (n:=x) (m:=1) (by omega);rw [Ξ,nZ] at b;have a:=fM x
 match hd:digs x,h with
 | [d],_=>rw [hd] at a;simp [aI] at a;subst a;exact ⟨rfl,b⟩
theorem nU (x:Nat):x<4294967296^(digs x).length:=by
 have:=jY (n:=x) (Δ _);rwa [mX] at this
theorem QN {x k:Nat} (h:(digs x).length=k+1):4294967296^k≤x:=by
 rcases Xxc x (4294967296^k) with h1|h1
 ·have:=jK (n:=x) (m:=k) (by rw [mX];exact h1);omega
 ·exact h1
theorem Jm {x k:Nat} (h:x<4294967296^k):(digs x).length≤k:=jK (by rw [mX];exact h)
theorem aaG {x k:Nat} (h:4294967296^k≤x) (a:x<4294967296^(k+1)):(digs x).length=k+1:=by
 have b:=Jm a;have c:=nU x;rcases Xxc (digs x).length (k+1) with h3|h3
 ·have:=Ψ (show 0<4294967296 by omega) (show (digs x).length≤k by omega);omega
 ·omega
theorem rJ {x y:Nat} (h:x≤y):(digs x).length≤(digs y).length:=Jm (Xqk h (nU y))
theorem BL {y k:Nat} (h:(digs y).length=k+1):(digs y).getD k 0=y / 4294967296^k∧0<y / 4294967296^k∧y / 4294967296^k<4294967296:=by
 have b:=yY y k;have d:=QN h;have c:=nU y;rw [h] at c;have a:y / 4294967296^k<4294967296:=by
  rw [Xqx (iJ k),Xqe,← Xq5];exact c
 rw [mX,nZ,Θ a] at b;exact ⟨b,Xva d (iJ k),a⟩
theorem Ym {y k:Nat} (h:(digs y).length=k+1):let s:=32 - g_ (y / 4294967296^k)
  s≤31∧2147483648*4294967296^k≤2^s*y∧2^s*y<4294967296^(k+1):=by
 obtain ⟨_,j,d⟩:=BL h;obtain ⟨e,a,g,i⟩:=wJ j;have l:e+1≤32:=by rw [← a];exact jA d
 intro s;have hs:s=31 - e:=by show 32 - g_ (y / 4294967296^k)=_;rw [a];omega
 rw [hs];refine ⟨by omega, ?_, ?_⟩
 ·have c:2147483648=2^(31 - e)*2^e:=by rw [← Xxp,show 31 - e+e=31 by omega]
  rw [c,Xqs];refine Xq0 _ ?_;exact (Xzk (iJ k)).1 g
 ·have f:y<2^(e+1)*4294967296^k:=(Xqx (iJ k)).1 i;have b:4294967296^(k+1)=2^(31 - e)*(2^(e+1)*4294967296^k):=by
   rw [← Xqs,← Xxp,show 31 - e+(e+1)=32 by omega,nZ,Xq5,Xqe]
  rw [b];exact Xzj f (Xqv _)
theorem VW {a:List Nat} {m:Nat} (d:bQ a) (h:m≤a.length):aI (a.drop m)=aI a / 4294967296^m:=by
 have c:=GG a m h;have b:=qI (d.take m);rw [Xxa,Xjd h] at b;rw [c,Xwa _ _ (iJ m),Xjc b,Xqd]
theorem UA (a v:List Nat) (m:Nat):ZT a v m m=μ m 0:=by unfold ZT;rw [Xj4];simp [bT]
theorem UB {a v:List Nat} {m:Nat} (c:a.length=m+v.length) (b:bQ a) (h:aI (a.drop m)<aI v):ZU a v m m=a:=by
 unfold ZU;rw [Xj4,Θ h,← PN (b.drop m) (by rw [Xxk];omega)];simp
theorem Il (x y:Nat) (t:0<y) (hx:(digs x).length<2^39) (E:(digs y).length<2^39):CO 211 [dS x,dS y] (.ret (.tup [dS (x / y),dS (x % y)])):=by
 have a:=xK (digs x) (digs y) false false (by omega);rw [AB] at a;rcases Xxc x y with hlt|hge
 ·have hs:mG x y= -1:=by unfold mG;rw [if_pos hlt]
  have h:=ai9 x y 0 0 0 0 [] [] [] [] [] (by rw [hs];rfl) a;rw [Xjc hlt,Θ hlt];exact h.out (jG.tup (.fit rfl rfl (aQ.nilS false rfl) (.same .nil)))
 ·have hs:lit false (decide (mG x y<((0:Nat):Int)))=true:=by
   unfold mG;rw [if_neg (by omega)];split<;>rfl
  rcases Xxc (digs y).length 2 with h1|h1
  ·have I:(digs y).length=1:=by have:=vg t;omega
   obtain ⟨L,T⟩:=WU I;have n:=Zi (digs x) false y t T (by omega) (bQ.digs x);rw [fM] at n;have hr:x % y<y:=Xq3 _ t;have ht:=aej [x % y] true (x % y) (by
    have h4:=jP (l:= [x % y]) (bQ.cons (by omega) bQ.nil);simpa [aI] using h4) (by simp)
   have h:=ai_ x y 0 (x % y) (x / y) 0 [] [] [] [] [];have H:dS y= .sl (ak [y]) [y].length false:=by unfold dS;rw [L]
   rw [L] at h a;rw [H];refine h ?_ ?_ ?_ hs a (n.out (jG.tup (.fit rfl rfl (aQ.sl _ _ _) (.same .nil)))) (ht.out (jG.sl1 _ _ _))
   all_goals rfl
  ·obtain ⟨k,N⟩:∃ k,(digs y).length=k+2:=⟨(digs y).length - 2,by omega⟩
   obtain ⟨e,C,K⟩:=Ym N;generalize B:32 - g_ (y / 4294967296^(k+1))=s at*
   obtain ⟨U,t2,t3⟩:=BL N;have d:=abP _ t3;rw [B,← U] at d;have b:=aem (digs x) false s e hx (bQ.digs x);have c:=aem (digs y) false s e E (bQ.digs y);have g:(digs (2^s*y)).length=k+2:=aaG (Xxr (by have:=iJ (k+1);omega) C) K;have R:bQ (N9 s 0 (digs y)):=TQ e _ _ (Xqv _) (bQ.digs y);have u:bQ (N9 s 0 (digs x)):=TQ e _ _ (Xqv _) (bQ.digs x);have W:aI (N9 s 0 (digs y))=2^s*y:=by rw [TR,fM,Xqd]
   have w:aI (N9 s 0 (digs x))=2^s*x:=by rw [TR,fM,Xqd]
   have P:=CZ (N9 s 0 (digs y)) _ (2^s*y) rfl (by rw [jP R,W]) (by rw [uD];omega);have hmono:=rJ hge;have X5:=uD s (digs x) 0;have o:=uD s (digs y) 0;rw [← X5] at b;rw [← o] at c;generalize N9 s 0 (digs x)=A at*
   generalize N9 s 0 (digs y)=Y at*
   have q:aI (digs (2^s*y))=2^s*y:=fM _;have lv:bQ (digs (2^s*y)):=bQ.digs _;have S:0<2^s*y:=Xjx (Xqv _) t;generalize Q:digs (2^s*y)=v at*
   obtain ⟨m,j⟩:∃ m,A.length=m+v.length:=⟨A.length - v.length,by omega⟩
   have O:aI (A.drop m)<aI v:=by
    rw [VW u (by omega),w,q];refine Φ ?_ C;rw [Xqx (iJ m),Xqs,← Xxp];have J:2^s*x<2^s*4294967296^(digs x).length:=Xzj (nU x) (Xqv _);have D:2^s≤2^31:=Ψ (by omega) e;have Z:2^s*4294967296^(digs x).length≤2147483648*4294967296^(digs x).length:=Xqy _ (Xxr D (by decide));have X:(digs x).length=k+1+m:=by omega
    rw [X] at J Z;omega
   have hloop:=fun nt V=>aaO (nt:=nt) V A v s m k g j lv u (by omega) (by rw [q];exact C) m (Δ _)
   have G:ZT A v m 0=bT m (x / y):=by
    unfold ZT;rw [Xjr,Xzd,w,q,Xki _ _ (Xqv s),List.replicate_zero,Xqi]
   have F:ZU A v m 0=bT v.length (2^s*(x % y))++μ m 0:=by
    unfold ZU;rw [Xjr,Xzd,w,q,Xw5,List.take_zero,Xqi]
   have p:x / y<4294967296^m:=by
    have H:=GG A m (by omega);have J:=qI (u.take m);rw [Xxa,Xjd (by omega)] at J;rw [← Xki x y (Xqv s),← w,Xqx S,H,← q];have D:4294967296^m*(aI (A.drop m)+1)≤4294967296^m*aI v:=Xq0 _ O;rw [Xxe,Ξ] at D;omega
   have M:=CZ (bT m (x / y)) m (x / y) (aY ..) (DJ (by rw [mX];exact p)) (by omega);have f:2^s*(x % y)<4294967296^v.length:=by
    rw [g];refine Xqz ?_ K;exact Xzj (Xq3 _ t) (Xqv _)
   have r:=aaJ (bT v.length (2^s*(x % y))) true s e (by rw [aY];omega) (bQ.pad _ _);rw [wX,mX,Θ f,Nat.mul_div_cancel_left _ (Xqv s),aY] at r;have z:ν v.length (ak (bT v.length (2^s*(x % y))++μ m 0))=ak (bT v.length (2^s*(x % y))):=by
    rw [pO,Xxn (by rw [aY];exact Δ _),υ (by rw [aY];exact Δ _)]
   have i:(digs y).length - 1=k+1:=by omega
   rw [← i] at d;refine ajb x y s (x % y) (x / y) m A Y (bT m (x / y)) (bT v.length (2^s*(x % y))++μ m 0) v j (by omega) (by omega) (by omega) (by omega) (by rw [η,aY];omega) (by simpa [lit] using hs) a d b c ?_ ?_ ?_ ?_
   ·rw [Xq1];rw [Ξ,pO,Xq1] at P;exact P
   ·refine aC.blk hloop (by simp) rfl ?_ ?_
    ·unfold OQ;rw [UA,UB j u O,← j];exact aP.of ⟨rfl,rfl,rfl,rfl,rfl,rfl,trivial⟩
    ·unfold OQ;rw [G,F,← j];exact aP.of ⟨rfl,rfl,rfl,rfl,trivial⟩
   ·rw [Ξ,pO] at M;exact M.out (jG.sl1 _ _ _)
   ·rw [← pO,z];exact r.out (jG.sl1 _ _ _)
theorem alm (s t:List UInt8) (a:lit false ((((digs (ah t)).length:Nat):Int)==((0:Nat):Int))=true) (b:CO 119 [.str t] (.ret (.sl (ak (digs (ah t))) (digs (ah t)).length false))) (e:CO 119 [.str s] (.ret (.sl (ak (digs (ah s))) (digs (ah s)).length false))) (d:CO 211 [.sl (ak (digs (ah s))) (digs (ah s)).length false,.sl (ak (digs (ah t))) (digs (ah t)).length false] (.ret (.tup [.sl (ak (digs ((ah s) / (ah t)))) (digs ((ah s) / (ah t))).length false,.sl (ak (digs ((ah s) % (ah t)))) (digs ((ah s) % (ah t))).length false]))) (f:CO 117 [.sl (ak (digs ((ah s) / (ah t)))) (digs ((ah s) / (ah t))).length false] (.ret (.str (ae ((ah s) / (ah t)))))) (c:CO 117 [.sl (ak (digs ((ah s) % (ah t)))) (digs ((ah s) % (ah t))).length false] (.ret (.str (ae ((ah s) % (ah t)))))):CO 191 [.str s,.str t] (.ret (.tup [.str (ae ((ah s) / (ah t))),.str (ae ((ah s) % (ah t))),.bool true])):=pK [] 1 0 (.c a .nil) (.c c (.c f (.c d (.c e (.c b .nil)))))
theorem aj8 (s t:List UInt8) (g:Nat) (a:CO 119 [.str s] (.ret (.sl (ak (digs (ah s))) (digs (ah s)).length false))) (d:CO 119 [.str t] (.ret (.sl (ak (digs (ah t))) (digs (ah t)).length false))) (b:aN prog ap [] 26 (.block 0 (.loop (af 0 (ai f190)))) ⟨[(0,.str s),(1,.str t),(4,.str []),(5,.sl (ak (digs (ah s))) (digs (ah s)).length false),(6,.sl (ak (digs (ah t))) (digs (ah t)).length false),(8,.dead),(15,.dead)],[],.dead,[]⟩ (.normal) ⟨[(5,.sl (ak (digs g)) (digs g).length false)],[],.dead,[]⟩) (c:CO 117 [.sl (ak (digs g)) (digs g).length false] (.ret (.str (ae g)))):CO 190 [.str s,.str t] (.ret (.str (ae g))):=pK [0] 0 0 .nil (.c c (.l b (.c d (.c a .nil))))
theorem aj6 {nt:Nat} (c:26≤nt) (x y:Nat) (a:lit true (decide (((0:Nat):Int)<(((digs y).length:Nat):Int)))=true) (b:CO 211 [.sl (ak (digs x)) (digs x).length false,.sl (ak (digs y)) (digs y).length false] (.ret (.tup [.sl (ak (digs (x / y))) (digs (x / y)).length false,.sl (ak (digs (x % y))) (digs (x % y)).length false]))):ψ nt f190 ⟨[(5,.sl (ak (digs x)) (digs x).length false),(6,.sl (ak (digs y)) (digs y).length false)],[],.dead,[]⟩ (.normal) ⟨[(5,.sl (ak (digs y)) (digs y).length false),(6,.sl (ak (digs (x % y))) (digs (x % y)).length false)],[],.dead,[]⟩:=pJ 190 [] 1 1 (.c a .nil) (.c b .nil) c
theorem aj7 {nt:Nat} (b:26≤nt) (x y:Nat) (a:lit false (decide (((0:Nat):Int)<(((digs y).length:Nat):Int)))=true):ψ nt f190 ⟨[(5,.sl (ak (digs x)) (digs x).length false),(6,.sl (ak (digs y)) (digs y).length false)],[],.dead,[]⟩ (.exit 0) ⟨[(5,.sl (ak (digs x)) (digs x).length false)],[],.dead,[]⟩:=pJ 190 [] 1 0 (.c a .nil) (.nil) b
theorem aeK (s:List UInt8) (k:Nat) (b:lit true ((((digs (ah s)).length:Nat):Int)==((0:Nat):Int))=true) (a:CO 119 [.str s] (.ret (.sl (ak (digs (ah s))) (digs (ah s)).length false))):CO 116 [.str s] (.ret (ω 0)):=pK [] 1 1 (.c b .nil) (.c a .nil)
theorem aeL (s:List UInt8) (k:Nat) (b:(chk (.int .u32) (ζ (ε ((δ (γ .i64 ((((digs (ah s)).length:Nat):Int) - ((1:Nat):Int))))*1) (ak (digs (ah s)))) .dead))=true) (f:(decide (((0:Nat):Int)≤(γ .i64 ((((digs (ah s)).length:Nat):Int) - ((1:Nat):Int)))))=true) (c:(decide ((γ .i64 ((((digs (ah s)).length:Nat):Int) - ((1:Nat):Int)))<(((digs (ah s)).length:Nat):Int)))=true) (a:lit false ((((digs (ah s)).length:Nat):Int)==((0:Nat):Int))=true) (d:CO 119 [.str s] (.ret (.sl (ak (digs (ah s))) (digs (ah s)).length false))) (e:CO 161 [.int .u32 (χ (ζ (ε ((δ (γ .i64 ((((digs (ah s)).length:Nat):Int) - ((1:Nat):Int))))*1) (ak (digs (ah s)))) .dead))] (.ret (ω (k:Int)))):CO 116 [.str s] (.ret (ω (γ .i64 ((γ .i64 (((32:Nat):Int)*(γ .i64 ((((digs (ah s)).length:Nat):Int) - ((1:Nat):Int)))))+(k:Int))))):=pK [] 1 0 (.c b (.c f (.c c (.c a .nil)))) (.c e (.c d .nil))
theorem rM {s:List UInt8} {n:Nat} (h:s.length≤4*n):(digs (ah s)).length≤n:=by
 have:=jK (BP s);omega
theorem U_ (s:List UInt8) (hs:s.length<2^38):CO 119 [.str s] (.ret (dS (ah s))):=(vS s (by omega)).out (jG.sl1 _ _ _)
theorem wV (x:Nat):eY (digs x)=digs x:=by
 have:=jP (bQ.digs x);rwa [fM] at this
theorem Yr (x:Nat) (h:(digs x).length<2^36):CO 117 [dS x] (.ret (.str (ae x))):=sG (digs x) x false (wV x) (by omega) h
theorem aaH {x:Nat}:(digs x).length=0↔x=0:=by
 constructor
 ·intro h;rcases Xqg x with h0|h0
  ·exact h0
  ·have:=vg h0;omega
 ·intro h;subst h;rfl
theorem PT (s t:List UInt8) (hs:s.length<2^37) (e:t.length<2^37) (a:0<ah t):CO 191 [.str s,.str t] (.ret (.tup [.str (ae (ah s / ah t)),.str (ae (ah s % ah t)),.bool true])):=by
 have b:=rM (s:=s) (n:=2^35) (by omega);have c:=rM (s:=t) (n:=2^35) (by omega);have hp:=vg a;have d:=rJ (Xjw (ah s) (ah t));have f:=rJ (Xw0 (Xq3 (ah s) a));have h:=alm s t;simp (disch:=first|omega|(simp [ay,az]<;>omega)) only [qK,fK,gV,iD] at h;exact h (by omega) (U_ t (by omega)) (U_ s (by omega)) (Il _ _ a (by omega) (by omega)) (Yr _ (by omega)) (Yr _ (by omega))
def anR (p:Nat × Nat):St:=⟨[(5,dS p.1),(6,dS p.2)],[],.dead,[]⟩
def aj3 (x:Nat):St:=⟨[(5,dS x)],[],.dead,[]⟩
theorem XK {nt:Nat} (a:26≤nt):∀ (n y x:Nat),y<n→(digs x).length<2^36→(digs y).length<2^36→aC prog ap [] nt (af 0 (ai f190)) (fun _=> .exit 0) anR aj3 (x,y) (Xx2 x y):=by
 intro n
 induction n with
 |zero=>intro y x h;omega
 | succ n ih=>
  intro y x h d c;rcases Xqg y with rfl|h0
  ·rw [Nat.gcd_zero_right];exact .done (aj7 a x 0 rfl)
  ·have b:=Xq3 x h0;have e:=rJ (Xw0 b);have hnext:=ih (x % y) y (by omega) c (by omega);rw [show Xx2 y (x % y)=Xx2 x y by rw [Xka y,← Nat.gcd_rec,Xka]] at hnext;refine .next ?_ hnext
   have hp:=vg h0;exact aj6 a x y (by rw [bK,bU];exact Yq0 hp) (Il _ _ h0 (by omega) (by omega))
theorem afR (s t:List UInt8) (hs:s.length<2^37) (e:t.length<2^37):CO 190 [.str s,.str t] (.ret (.str (ae (Xx2 (ah s) (ah t))))):=by
 have a:=rM (s:=s) (n:=2^35) (by omega);have c:=rM (s:=t) (n:=2^35) (by omega);have b:(digs (Xx2 (ah s) (ah t))).length<2^36:=by
  rcases Xqg (ah s) with h|h
  ·rw [h,Xwu];omega
  ·have:=rJ (Xvb (ah t) h);omega
 exact aj8 s t _ (U_ s (by omega)) (U_ t (by omega)) (aC.blk (fun nt d=>XK d (ah t+1) (ah t) (ah s) (by omega) (by omega) (by omega)) (by simp) rfl (aP.of ⟨rfl,rfl,trivial⟩) (aP.of ⟨rfl,trivial⟩)) (Yr _ b)
theorem X6 {y k:Nat} (h:(digs y).length=k+1):g_ y=32*k+g_ ((digs y).getD k 0):=by
 obtain ⟨b,_,_⟩:=BL h;have a:=QN h;rw [← mX] at a;rw [b,zD a,mX]
theorem Qz (s:List UInt8) (hs:s.length<2^37):CO 116 [.str s] (.ret (ω ((g_ (ah s):Nat):Int))):=by
 have f:=rM (s:=s) (n:=2^35) (by omega);rcases Xqg (ah s) with h0|h0
 ·have hp:=aaH.2 h0;have h:=aeK s 0 (by rw [hp];rfl) (U_ s (by omega));rw [h0];exact h
 ·have hp:=vg h0;obtain ⟨k,e⟩:∃ k,(digs (ah s)).length=k+1:=⟨(digs (ah s)).length - 1,by omega⟩
  have c:(digs (ah s)).getD k 0<4294967296:=bQ.getD (bQ.digs _) k;have j:=Me _ c;have i:g_ ((digs (ah s)).getD k 0)≤32:=jA c;rw [X6 e];have h:=aeL s (g_ ((digs (ah s)).getD k 0));rw [e] at h;have d:k+1 - 1=k:=rfl;have g:k<(digs (ah s)).length:=by omega
  generalize g_ ((digs (ah s)).getD k 0)=b at*
  simp (disch:=first|omega|(simp [ay,az]<;>omega)) only [jU,d,aK,Ξ,Aj,jR,eU,bJ,bK,qK,fK,gV,iD,bi,yQ,bC,dI] at h;have a:=U_ s (by omega);unfold dS at a;rw [e] at a;apply h<;>first|exact True.intro|omega|assumption|exact rfl
def nR (s:List UInt8):Bool:=match s with| []=>true|c::_=> !(c==0)
def BA (s:List UInt8):Bool:=nR s && decide (0<ah s)
def je (neg:Bool) (n d:List UInt8):Bool:=nR n && nR d && decide (0<ah d) && decide (Xx2 (ah n) (ah d)=1) && (!neg||decide (0<ah n))
theorem ak3 (s:List UInt8) (c:lit true (nR s)=true) (a:CO 159 [.str s] (.ret (.bool (nR s)))) (b:CO 189 [.str s,.str []] (.ret (ω (mG (ah s) (ah []))))):CO 158 [.agg [.str []],.str s] (.ret (.bool (decide (((0:Nat):Int)<(mG (ah s) (ah [])))))):=pK [] 1 1 (.k 1 c .nil) (.c b (.c a .nil))
theorem ak4 (s:List UInt8) (b:lit false (nR s)=true) (a:CO 159 [.str s] (.ret (.bool (nR s)))):CO 158 [.agg [.str []],.str s] (.ret (.bool false)):=pK [] 1 0 (.c b .nil) (.c a .nil)
theorem akm (a:Bool) (n d:List UInt8) (g:Nat) (b:lit true a=true) (c:CO 190 [.str n,.str d] (.ret (.str (ae g)))) (f:CO 191 [.str n,.str (ae g)] (.ret (.tup [.str (ae (ah n / g)),.str (ae (ah n % g)),.bool true]))) (e:CO 191 [.str d,.str (ae g)] (.ret (.tup [.str (ae (ah d / g)),.str (ae (ah d % g)),.bool true]))):CO 160 [.bool a,.str n,.str d] (.ret (.agg [.bool (!((ae (ah n / g))== [])),.str (ae (ah n / g)),.str (ae (ah d / g))])):=pK [] 1 1 (.k 4 b .nil) (.c e (.c f (.c c .nil)))
theorem akn (a:Bool) (n d:List UInt8) (g:Nat) (b:lit false a=true) (c:CO 190 [.str n,.str d] (.ret (.str (ae g)))) (f:CO 191 [.str n,.str (ae g)] (.ret (.tup [.str (ae (ah n / g)),.str (ae (ah n % g)),.bool true]))) (e:CO 191 [.str d,.str (ae g)] (.ret (.tup [.str (ae (ah d / g)),.str (ae (ah d % g)),.bool true]))):CO 160 [.bool a,.str n,.str d] (.ret (Ω false (ae (ah n / g)) (ae (ah d / g)))):=pK [] 1 0 (.k 4 b .nil) (.c e (.c f (.c c .nil)))
theorem YT (b a:Bool) (n d c e:List UInt8) (f:lit true (nR n)=true) (j:lit true (BA d)=true) (g:CO 158 [.agg [.str []],.str d] (.ret (.bool (BA d)))) (h:CO 159 [.str n] (.ret (.bool (nR n)))) (i:CO 160 [.bool b,.str n,.str d] (.ret (Ω a c e))):CO 115 [Ω b n d] (.ret (.bool ((a==b) && ((c==n) && ((e==d) && true))))):=pK [] 2 3 (.k 6 f (.k 1 j (.n 1 .nil))) (.c i (.c h (.c g .nil)))
theorem YU (a b:Bool) (n d h i:List UInt8) (c:lit false (nR n)=true) (g:lit true (BA d)=true) (e:CO 158 [.agg [.str []],.str d] (.ret (.bool (BA d)))) (f:CO 159 [.str n] (.ret (.bool (nR n)))):CO 115 [Ω a n d] (.ret (.bool false)):=pK [] 2 1 (.c c (.k 1 g (.n 1 .nil))) (.c f (.c e .nil))
theorem YV (a b:Bool) (n d f g:List UInt8) (c:lit false (BA d)=true) (e:CO 158 [.agg [.str []],.str d] (.ret (.bool (BA d)))):CO 115 [Ω a n d] (.ret (.bool false)):=pK [] 2 0 (.k 1 c (.n 1 .nil)) (.c e .nil)
theorem afN (a:Bool) (n d:List UInt8) (b:lit true (decide ((((g_ (ah n)):Nat):Int)≤((400:Nat):Int)))=true) (g:lit true (je a n d)=true) (c:CO 115 [Ω a n d] (.ret (.bool (je a n d)))) (e:CO 116 [.str n] (.ret (ω (((g_ (ah n)):Nat):Int)))) (f:CO 116 [.str d] (.ret (ω (((g_ (ah d)):Nat):Int)))):CO 70 [Ω a n d] (.ret (.bool (decide ((((g_ (ah d)):Nat):Int)≤((400:Nat):Int))))):=pK [] 2 3 (.k 1 b (.k 1 g (.n 3 .nil))) (.c f (.c e (.c c .nil)))
theorem afO (a:Bool) (n d:List UInt8) (b:lit false (decide ((((g_ (ah n)):Nat):Int)≤((400:Nat):Int)))=true) (f:lit true (je a n d)=true) (c:CO 115 [Ω a n d] (.ret (.bool (je a n d)))) (e:CO 116 [.str n] (.ret (ω (((g_ (ah n)):Nat):Int)))):CO 70 [Ω a n d] (.ret (.bool false)):=pK [] 2 1 (.c b (.k 1 f (.n 3 .nil))) (.c e (.c c .nil))
theorem afP (a:Bool) (n d:List UInt8) (b:lit false (je a n d)=true) (c:CO 115 [Ω a n d] (.ret (.bool (je a n d)))):CO 70 [Ω a n d] (.ret (.bool false)):=pK [] 2 0 (.k 1 b (.n 3 .nil)) (.c c .nil)
theorem eF:ae 0= []:=FM []
theorem eu {x k:Nat} (h:x<2^(8*k)):(ae x).length≤k:=by
 rw [← RG h];have a:=(Xzv (· ==0) (l:=kw k x)).length_le;have b:(kw k x).length=k:=by
  have:∀ m,(kw m x).length=m:=by
   intro m
   induction m with
   |zero=>rfl
   |succ m ih=>rw [tu,ξ,ih]
  exact this k
 omega
theorem lD (s:List UInt8):ah s<2^(8*s.length):=by
 have h:=wY s;rwa [show (256:Nat)=2^8 from rfl,← Xji] at h
theorem nY {x:Nat} {s:List UInt8} (h:x≤ah s):(ae x).length≤s.length:=eu (Xqk h (lD s))
theorem ji {x:Nat}:ae x= []↔x=0:=by
 constructor
 ·intro h;have:=aH x;rw [h] at this;exact this.symm
 ·intro h;subst h;exact eF
theorem FK {x y:Nat} (h:ae x=ae y):x=y:=by rw [← aH x,h,aH]
theorem pq (s:List UInt8):nR s=true↔ae (ah s)=s:=by
 rw [FM];cases s with
 |nil=>simp [nR]
 | cons c r=>
  simp only [nR,Xja];by_cases h:c=0
  ·subst h;simp only [beq_self_eq_true,Bool.not_true,Xx4,if_true,false_iff];intro a;have:=(Xzv (· ==(0:UInt8)) (l:=r)).length_le;rw [a] at this;simp at this;omega
  ·simp [h]
theorem zK (x:Nat):nR (ae x)=true:=(pq _).2 (by rw [aH])
theorem Bh (s:List UInt8):CO 159 [.str s] (.ret (.bool (nR s))):=by
 cases s with
 |nil=>exact Yk [] rfl
 | cons c r=>
  have h:=Yl (c::r) (by simp) rfl;have e:(!((((c::r).getD 0 0).toNat:Int)==(0:Int)))=nR (c::r):=by
   simp only [List.getD_cons_zero,nR];by_cases hc:c=0
   ·subst hc;rfl
   ·have:c.toNat ≠ 0:=fun h=>hc (by apply UInt8.toNat_inj.1;simpa using h)
    have a:((c.toNat:Int)==(0:Int))=false:=by simp;omega
    rw [a];simp [hc]
  rw [e] at h;exact h
theorem Zg (x:Nat):decide (((0:Nat):Int)<mG x (ah []))=decide (0<x):=by
 have:ah []=0:=rfl;rw [this];unfold mG;rcases Xqg x with rfl|h
 ·rfl
 ·rw [if_neg (by omega),if_pos h,Yq0 h];rfl
theorem YJ (s:List UInt8) (hs:s.length<2^37):CO 158 [.agg [.str []],.str s] (.ret (.bool (BA s))):=by
 have a:=Bh s;unfold BA;cases b:nR s with
 |true=>
  have h:=ak3 s (by rw [b];rfl) a (ahR s [] (by omega) (by simp));rw [Zg] at h;exact h
 |false=>
  exact ak4 s (by rw [b];rfl) a
abbrev Vk (neg:Bool) (n d:Nat):AV:= .agg [.bool neg,.str (ae n),.str (ae d)]
abbrev anZ (neg:Bool) (n d:Nat):AV:=Vk (neg && decide (0<n)) (n / Xx2 n d) (d / Xx2 n d)
theorem Ls {n d:Nat} (h:0<n):0<n / Xx2 n d:=Xva (Xvb d h) (Nat.gcd_pos_of_pos_left d h)
theorem X9 (a:Bool) (n d:List UInt8) (m:n.length<2^36) (hd:d.length<2^36) (g:0<ah d):CO 160 [.bool a,.str n,.str d] (.ret (anZ a (ah n) (ah d))):=by
 have i:=afR n d (by omega) (by omega);have b:0<Xx2 (ah n) (ah d):=Xj6 _ g;have k:(ae (Xx2 (ah n) (ah d))).length≤d.length:=nY (Nat.gcd_le_right _ g);have c:=PT n (ae (Xx2 (ah n) (ah d))) (by omega) (by omega) (by rw [aH];exact b);have f:=PT d (ae (Xx2 (ah n) (ah d))) (by omega) (by omega) (by rw [aH];exact b);rw [aH] at c f;cases a with
 | true=>
  have h:=akm true n d (Xx2 (ah n) (ah d)) rfl i c f;have e:(!(ae (ah n / Xx2 (ah n) (ah d))== []))=(true && decide (0<ah n)):=by
   rcases Xqg (ah n) with h1|h1
   ·rw [h1,Nat.zero_div,eF];rfl
   ·have l:=Ls (d:=ah d) h1;have j:ae (ah n / Xx2 (ah n) (ah d)) ≠ []:=fun h=>by have:=ji.1 h;omega
    simp [j,h1]
  rw [e] at h;exact h
 |false=>exact akn false n d (Xx2 (ah n) (ah d)) rfl i c f
theorem kW {a:Bool} {n d:List UInt8}:je a n d=true↔nR n=true∧nR d=true∧0<ah d∧Xx2 (ah n) (ah d)=1∧(a=true→0<ah n):=by
 unfold je;cases a<;>simp [and_assoc]
theorem Vq {f:Bool} {n d:List UInt8} (k:nR n=true) (i:nR d=true) (g:0<ah d):(((f && decide (0<ah n))==f) && ((ae (ah n / Xx2 (ah n) (ah d))==n) && ((ae (ah d / Xx2 (ah n) (ah d))==d) && true)))=je f n d:=by
 rw [Xx5,kW];simp only [ο,beq_iff_eq,and_true];have l:0<Xx2 (ah n) (ah d):=Xj6 _ g;constructor
 ·rintro ⟨a,b,c⟩
  refine ⟨k,i,g, ?_, ?_⟩
  ·have e:=congrArg ah c;rw [aH] at e;have j:=Nat.div_mul_cancel (Nat.gcd_dvd_right (ah n) (ah d));rw [e] at j;exact Nat.eq_of_mul_eq_mul_left g (by rw [j,Ξ])
  ·intro h;subst h;simpa using a
 ·rintro ⟨_,_,_,hg,h⟩
  rw [hg,Xwr,Xwr];refine ⟨?_,(pq n).1 k,(pq d).1 i⟩;cases f with
  |false=>rfl
  |true=>simp [h rfl]
theorem mY (a:Bool) (n d:List UInt8) (l:n.length<2^36) (hd:d.length<2^36):CO 115 [Ω a n d] (.ret (.bool (je a n d))):=by
 have hp:=YJ d (by omega);have i:=Bh n;cases c:BA d with
 | false=>
  have h:=YV a a n d n d (by rw [c];rfl) hp;have e:je a n d=false:=by
   rw [Xvr];intro g;obtain ⟨_,k,j,_⟩:=kW.1 g;simp [BA,k,j] at c
  rw [e];exact h
 | true=>
  have b:nR d=true∧0<ah d:=by simpa [BA] using c
  cases f:nR n with
  | false=>
   have h:=YU a a n d n d (by rw [f];rfl) (by rw [c];rfl) hp i;have e:je a n d=false:=by
    rw [Xvr];intro g;have:=(kW.1 g).1;rw [f] at this;cases this
   rw [e];exact h
  |true=>
   have h:=YT a (a && decide (0<ah n)) n d (ae (ah n / Xx2 (ah n) (ah d))) (ae (ah d / Xx2 (ah n) (ah d))) (by rw [f];rfl) (by rw [c];rfl) hp i (X9 a n d l hd b.2);rw [Vq f b.1 b.2] at h;exact h
def fF (neg:Bool) (n d:List UInt8):Bool:=je neg n d && decide (g_ (ah n)≤400) && decide (g_ (ah d)≤400)
theorem eQ (a:Bool) (n d:List UInt8) (g:n.length<2^36) (hd:d.length<2^36):CO 70 [Ω a n d] (.ret (.bool (fF a n d))):=by
 have c:=mY a n d g hd;have e:=Qz n (by omega);have f:=Qz d (by omega);unfold fF;cases b:je a n d with
 |false=>exact afP a n d (by rw [b];rfl) c
 | true=>
  by_cases h3:g_ (ah n)≤400
  ·have h:=afN a n d (by rw [eU,Yq0 h3];rfl) (by rw [b];rfl) c e f;rw [eU] at h;rw [Yq0 h3];exact h
  ·have h:=afO a n d (by rw [eU,Yq1 h3];rfl) (by rw [b];rfl) c e;rw [Yq1 h3];exact h
theorem ab5 (x:Nat) (a:lit true (decide ((x:Int)≤((0:Nat):Int)))=true):CO 72 [ω (x:Int)] (.ret (.str [])):=pK [] 1 1 (.c a .nil) (.nil)
theorem ab6 (x:Nat) (b:lit false (decide ((x:Int)≤((0:Nat):Int)))=true) (a:CO 117 [.sl [.int .u32 (γ .u32 (γ .i64 (Xxq (Xqj (Xqh .i64) (x:Int) &&& Xqj (Xqh .i64) ((4294967295:Nat):Int))))),.int .u32 (γ .u32 (Xq4 (x:Int) (2^(min 32 64))))] 2 true] (.ret (.str (ae x)))):CO 72 [ω (x:Int)] (.ret (.str (ae x))):=pK [] 1 0 (.k 1 b .nil) (.c a .nil)
theorem acI (x:Nat) (c:lit false (decide ((x:Int)<((0:Nat):Int)))=true) (a:CO 72 [ω (x:Int)] (.ret (.str (ae x)))) (b:CO 72 [ω 1] (.ret (.str (ae 1)))):CO 42 [ω (x:Int)] (.ret (Ω false (ae x) (ae 1))):=pK [] 1 0 (.k 4 c .nil) (.c b (.c a .nil))
theorem acU (a:Bool) (n d:List UInt8) (b:lit true (!(je a n d))=true) (c:CO 115 [Ω a n d] (.ret (.bool (je a n d)))):CO 121 [Ω a n d] (.ret (ω 0)):=pK [] 2 3 (.k 1 b (.n 3 .nil)) (.c c .nil)
theorem acV (a:Bool) (n d:List UInt8) (b:lit true ((a==false) && ((n==(ae 0)) && ((d==(ae 1)) && true)))=true) (f:lit false (!(je a n d))=true) (c:CO 115 [Ω a n d] (.ret (.bool (je a n d)))) (e:CO 42 [ω 0] (.ret (Ω false (ae 0) (ae 1)))):CO 121 [Ω a n d] (.ret (ω 0)):=pK [] 2 2 (.c b (.k 3 f (.n 3 .nil))) (.c e (.c c .nil))
theorem acW (a:Bool) (n d:List UInt8) (b:lit true a=true) (g:lit false ((a==false) && ((n==(ae 0)) && ((d==(ae 1)) && true)))=true) (c:lit false (!(je a n d))=true) (e:CO 115 [Ω a n d] (.ret (.bool (je a n d)))) (f:CO 42 [ω 0] (.ret (Ω false (ae 0) (ae 1)))):CO 121 [Ω a n d] (.ret (ω (-1))):=pK [] 3 4 (.c b (.k 1 g (.k 3 c (.n 3 .nil)))) (.c f (.c e .nil))
theorem acX (a:Bool) (n d:List UInt8) (b:lit false a=true) (g:lit false ((a==false) && ((n==(ae 0)) && ((d==(ae 1)) && true)))=true) (c:lit false (!(je a n d))=true) (e:CO 115 [Ω a n d] (.ret (.bool (je a n d)))) (f:CO 42 [ω 0] (.ret (Ω false (ae 0) (ae 1)))):CO 121 [Ω a n d] (.ret (ω 1)):=pK [] 3 0 (.c b (.k 1 g (.k 3 c (.n 3 .nil)))) (.c f (.c e .nil))
theorem ZH {x:Nat} (a:x<9223372036854775808):eY [x % 4294967296,x / 4294967296]=digs x:=by
 have h:=jP (l:= [x % 4294967296,x / 4294967296]) (bQ.cons (Xq3 _ (by omega)) (bQ.cons (by omega) bQ.nil));rw [h];congr 1;simp only [aI,Xjk,Xq8];omega
theorem OM {x:Nat} (a:x<9223372036854775808):(digs x).length≤2:=Jm (Φ a (by decide))
theorem FN (x:Nat) (c:x<9223372036854775808):CO 72 [ω (x:Int)] (.ret (.str (ae x))):=by
 rcases Xqg x with rfl|h0
 ·rw [eF];exact ab5 0 rfl
 ·have hd:=OM c;have b:=sG [x % 4294967296,x / 4294967296] x true (ZH c) (by simp) (by omega);have h:=ab6 x;have d:(4294967295:Nat)<18446744073709551616:=by omega
  simp (disch:=first|omega|(simp [ay,az]<;>omega)) only [eU,fK,gV,iD,anj,En,bC,sS,Θ,sD,lI,nZ] at h;have a:¬ x≤0:=by omega
  apply h
  ·exact a
  ·exact b
theorem F_ (x:Nat) (a:x<9223372036854775808):CO 42 [ω (x:Int)] (.ret (Vk false x 1)):=
 acI x (by rw [bK];exact (by simp [lit])) (FN x a) (FN 1 (by omega))
theorem iY:CO 42 [ω 0] (.ret (Vk false 0 1)):=F_ 0 (by omega)
theorem uo:CO 42 [ω 1] (.ret (Vk false 1 1)):=F_ 1 (by omega)
def sN (neg:Bool) (n d:List UInt8):Int:=if je neg n d=true∧0<ah n then (if neg then -1 else 1) else 0
theorem EY {a:Bool} {n d:List UInt8} (h:je a n d=true):((a==false) && ((n==ae 0) && ((d==ae 1) && true)))=decide (ah n=0):=by
 obtain ⟨j,g,k,b,i⟩:=kW.1 h;have e:=(pq n).1 j;have c:=(pq d).1 g;rw [Xx5];simp only [ο,beq_iff_eq,and_true,decide_eq_true_eq];constructor
 ·rintro ⟨_,hn,_⟩
  rw [hn,aH]
 ·intro f;rw [f] at e b;rw [Xwu] at b;rw [b] at c;refine ⟨?_,e.symm,c.symm⟩;cases a with
  |false=>rfl
  |true=>have:=i rfl;omega
theorem pM (a:Bool) (n d:List UInt8) (e:n.length<2^36) (hd:d.length<2^36):CO 121 [Ω a n d] (.ret (ω (sN a n d))):=by
 have c:=mY a n d e hd;unfold sN;cases b:je a n d with
 |false=>
  have h:=acU a n d (by rw [b];rfl) c;rw [if_neg (by simp)];exact h
 | true=>
  by_cases h0:ah n=0
  ·have h:=acV a n d (by rw [EY b,Yq0 h0];rfl) (by rw [b];rfl) c iY;rw [if_neg (by omega)];exact h
  ·rw [if_pos ⟨rfl,by omega⟩];cases a with
   |true=>exact acW true n d rfl (by rw [EY b,Yq1 h0];rfl) (by rw [b];rfl) c iY
   |false=>exact acX false n d rfl (by rw [EY b,Yq1 h0];rfl) (by rw [b];rfl) c iY
theorem xk {i:Nat} (h:i<2^62):ω (γ .i64 ((i:Int)+((1:Nat):Int)))= ω ((i+1:Nat):Int):=by rw [bH]<;>first|rfl|omega
def cy (fd fc:Nat→Nat→Nat→Nat):List Nat→List Nat→Nat→List Nat × Nat
 | [],_,c=>([],c)
 |x::l,m,c=>(fd x (m.headD 0) c::(cy fd fc l m.tail (fc x (m.headD 0) c)).1,(cy fd fc l m.tail (fc x (m.headD 0) c)).2)
def D7 (x y c:Nat):Nat:=(x+y+c) % 4294967296
def BK (x y c:Nat):Nat:=(x+y+c) / 4294967296
def CB (x y c:Nat):Nat:=(x+4294967296 - y - c) % 4294967296
def xZ (x y c:Nat):Nat:=if x<y+c then 1 else 0
def smA (x c:Nat):Nat:=x+c
def smB (x y c:Nat):Nat:=x+y+c
def lsA (x c:Nat):Nat:=(x+18446744073709551616 - c) % 18446744073709551616
def lsB (x y c:Nat):Nat:=(x+18446744073709551616 - y - c) % 18446744073709551616
theorem OJ (fd fc:Nat→Nat→Nat→Nat):∀ (l m:List Nat) (c:Nat),(cy fd fc l m c).1.length=l.length
 | [],_,_=>rfl
 |_::l,m,_=>by simp only [cy,ξ,OJ fd fc l m.tail _]
theorem OL {fd fc:Nat→Nat→Nat→Nat} (h:∀ x y c,fd x y c<4294967296):∀ (l m:List Nat) (c:Nat),bQ (cy fd fc l m c).1
 | [],_,_=>bQ.nil
 |_::l,m,_=>bQ.cons (h _ _ _) (OL h l m.tail _)
theorem adZ (m:List Nat):aI m=m.headD 0+4294967296*aI m.tail:=by cases m with|nil=>rfl|cons x l=>rfl
theorem bQ.hd {m:List Nat} (h:bQ m):m.headD 0<4294967296:=by cases m with|nil=>show 0<_;omega|cons x l=>exact h.head
theorem bQ.tl {m:List Nat} (h:bQ m):bQ m.tail:=by cases m with|nil=>exact h|cons x l=>exact h.tail
theorem Zm:∀ (l m:List Nat) (c:Nat),m.length≤l.length→aI (cy D7 BK l m c).1+4294967296^l.length*(cy D7 BK l m c).2=aI l+aI m+c
 | [],m,c,h=>by
  have:m= []:=List.length_eq_zero_iff.1 (by simpa using h);subst this;simp [cy,aI]
 |x::l,m,c,h=>by
  have d:=Zm l m.tail (BK x (m.headD 0) c) (by rw [Xv3];simp only [ξ] at h;omega);have a:=adZ m;have hd:=Xxg (x+m.headD 0+c) 4294967296;simp only [cy,aI,ξ,Xq5];have e:4294967296^l.length*4294967296*(cy D7 BK l m.tail (BK x (m.headD 0) c)).2=4294967296*(4294967296^l.length*(cy D7 BK l m.tail (BK x (m.headD 0) c)).2):=by rw [Xqe (4294967296^l.length),Xqs]
  rw [e,a];generalize 4294967296^l.length*(cy D7 BK l m.tail (BK x (m.headD 0) c)).2=P at*
  generalize aI (cy D7 BK l m.tail (BK x (m.headD 0) c)).1=V at*
  have f:D7 x (m.headD 0) c=(x+m.headD 0+c) % 4294967296:=rfl;have b:BK x (m.headD 0) c=(x+m.headD 0+c) / 4294967296:=rfl;rw [b] at d;rw [f];omega
theorem Yb:∀ (l m:List Nat) (c:Nat),bQ l→bQ m→c≤1→m.length≤l.length→aI (cy CB xZ l m c).1+aI m+c=aI l+4294967296^l.length*(cy CB xZ l m c).2
 | [],m,c,_,_,_,h=>by
  have:m= []:=List.length_eq_zero_iff.1 (by simpa using h);subst this;simp [cy,aI]
 |x::l,m,c,hl,hm1,hc,h=>by
  have b:xZ x (m.headD 0) c≤1:=by unfold xZ;split<;>omega
  have g:=Yb l m.tail (xZ x (m.headD 0) c) hl.tail hm1.tl b (by rw [Xv3];simp only [ξ] at h;omega);have a:=adZ m;have d:=hl.head;have f:=hm1.hd;simp only [cy,aI,ξ,Xq5];have e:4294967296^l.length*4294967296*(cy CB xZ l m.tail (xZ x (m.headD 0) c)).2=4294967296*(4294967296^l.length*(cy CB xZ l m.tail (xZ x (m.headD 0) c)).2):=by rw [Xqe (4294967296^l.length),Xqs]
  rw [e,a];generalize 4294967296^l.length*(cy CB xZ l m.tail (xZ x (m.headD 0) c)).2=P at*
  generalize aI (cy CB xZ l m.tail (xZ x (m.headD 0) c)).1=V at*
  generalize m.headD 0=y at*
  have hd:CB x y c+y+c=x+4294967296*xZ x y c:=by unfold CB xZ;split<;>omega
  omega
theorem amm {x c:Nat} (a:x<4294967296) (b:c≤1):Xx0 .u64 (γ .u64 ((γ .u64 (x:Int))+(c:Int)))= .int .u64 ((smA x c:Nat):Int):=by
 rw [pV,dI,pV];unfold smA;congr 2;omega
theorem ao3 {x y c:Nat} (a:x<4294967296) (d:y<4294967296) (b:c≤1):Xx0 .u64 (γ .u64 (((smA x c:Nat):Int)+(γ .u64 (y:Int))))= .int .u64 ((smB x y c:Nat):Int):=by
 unfold smA smB;rw [pV,dI,pV];congr 2;omega
theorem ao5 (x y c:Nat):Xx0 .u32 (γ .u32 ((smB x y c:Nat):Int))= .int .u32 ((D7 x y c:Nat):Int):=by
 unfold smB D7;rw [sS]
theorem ao4 (x y c:Nat):Xx0 .u64 (Xq4 ((smB x y c:Nat):Int) (2^(min 32 64)))= .int .u64 ((BK x y c:Nat):Int):=by
 unfold smB BK;rw [show min 32 64=32 from rfl,lI]
theorem amo (x c:Nat):Xx0 .u32 (γ .u32 ((smA x c:Nat):Int))= .int .u32 ((D7 x 0 c:Nat):Int):=by
 unfold smA D7;rw [sS];rfl
theorem amn (x c:Nat):Xx0 .u64 (Xq4 ((smA x c:Nat):Int) (2^(min 32 64)))= .int .u64 ((BK x 0 c:Nat):Int):=by
 unfold smA BK;rw [show min 32 64=32 from rfl,lI];rfl
theorem ako {x c:Nat} (a:x<4294967296) (b:c≤1):Xx0 .u64 (γ .u64 ((γ .u64 (x:Int)) - (c:Int)))= .int .u64 ((lsA x c:Nat):Int):=by
 rw [pV,lF];unfold lsA;congr 2;omega
theorem an0 {x y c:Nat} (a:x<4294967296) (d:y<4294967296) (b:c≤1):Xx0 .u64 (γ .u64 (((lsA x c:Nat):Int) - (γ .u64 (y:Int))))= .int .u64 ((lsB x y c:Nat):Int):=by
 unfold lsA lsB;rw [pV,lF];congr 2;omega
theorem an2 {x y c:Nat} (a:x<4294967296) (d:y<4294967296) (b:c≤1):Xx0 .u32 (γ .u32 ((lsB x y c:Nat):Int))= .int .u32 ((CB x y c:Nat):Int):=by
 unfold lsB CB;rw [sS];congr 2;omega
theorem p63:(2:Nat)^63=9223372036854775808:=by decide
theorem an1 {x y c:Nat} (a:x<4294967296) (d:y<4294967296) (b:c≤1):Xx0 .u64 (Xq4 ((lsB x y c:Nat):Int) (2^(min 63 64)))= .int .u64 ((xZ x y c:Nat):Int):=by
 unfold lsB xZ;rw [show min 63 64=63 from rfl,lI,p63];congr 2;split<;>omega
theorem akq {x c:Nat} (a:x<4294967296) (b:c≤1):Xx0 .u32 (γ .u32 ((lsA x c:Nat):Int))= .int .u32 ((CB x 0 c:Nat):Int):=by
 unfold lsA CB;rw [sS];congr 2;omega
theorem akp {x c:Nat} (a:x<4294967296) (b:c≤1):Xx0 .u64 (Xq4 ((lsA x c:Nat):Int) (2^(min 63 64)))= .int .u64 ((xZ x 0 c:Nat):Int):=by
 unfold lsA xZ;rw [show min 63 64=63 from rfl,lI,p63];congr 2;split<;>omega
theorem P_ {x y c:Nat} (a:x<4294967296) (d:y<4294967296) (b:c≤1):BK x y c≤1:=by unfold BK;omega
theorem X_ {x y c:Nat}:xZ x y c≤1:=by unfold xZ;split<;>omega
theorem Ai {d l:List Nat} {x:Nat}:ε ((δ (d.length:Int))*1) (ak (d++x::l))= [Xx0 .u32 (x:Int)]++ak l:=by
 rw [aK,Ξ];unfold ak;rw [Xxx,List.drop_left' (by simp)];rfl
theorem Ak {p s:List Nat} {x y:Nat}:ν ((0+(δ (p.length:Int)))*1) (ak (p++x::s))++ [Xx0 .u32 (y:Int)]++ε (((0+(δ (p.length:Int)))*1)+1) (ak (p++x::s))=ak (p++y::s):=by
 rw [aK,Xqd,Ξ];exact mF rfl
def Qa (a b:List Nat) (na nb:Bool) (p:Nat × List Nat × Nat):St:=⟨[(0,.sl (ak a) a.length na),(1,.sl (ak b) b.length nb),(5,.ref 0 0 0 p.2.1.length),(6,.int .u64 (p.2.2:Int)),(21,ω (a.length:Int)),(22,ω (p.1:Int))],[(0,⟨(ak p.2.1),0,false,0,1,true⟩)],.dead,[]⟩
def NK (a b:List Nat) (na nb:Bool) (p:List Nat × Nat):St:=⟨[(0,.sl (ak a) a.length na),(1,.sl (ak b) b.length nb),(5,.ref 0 0 0 p.1.length),(6,.int .u64 (p.2:Int))],[(0,⟨(ak p.1),0,false,0,1,true⟩)],.dead,[]⟩
theorem adb {nt:Nat} (E:59≤nt) (a b:List Nat) (M N:Bool) (G:bQ a) (I:bQ b) (R:a.length<2^40) (t:List Nat):∀ (l d o e m:List Nat) (c:Nat),c≤1→d++l=a→o.length=d.length→e++m=b→(e.length=d.length∨(m= []∧e.length≤d.length))→
  aC prog ap [] nt (af 0 (ai f118)) (fun _=> .exit 0) (Qa a b M N) (NK a b M N) (d.length,o++(μ l.length 0++t),c) (o++((cy D7 BK l m c).1++t),(cy D7 BK l m c).2):=by
 intro l
 induction l with
 |nil=>
  intro d o e m c J hd C q j;rw [Γ] at hd;subst hd;have Q:decide ((d.length:Int)<(d.length:Int))=false:=Yq1 (by omega);exact .done (pN 118 [] 1 0 (.c (aF Q) .nil) .nil E)
 | cons x l ih=>
  intro d o e m c J hd C q j;have i:x<4294967296:=G x (by rw [← hd];simp);have g:=J;have L:d.length+(l.length+1)=a.length:=by rw [← hd];simp
  have F:(ε ((δ (d.length:Int))*1) (ak a))= [Xx0 .u32 (x:Int)]++ak l:=by rw [← hd];exact Ai
  generalize ak l=ra at F;obtain ⟨w,r⟩:∃ w,w=o++(μ (x::l).length 0++t):=⟨_,rfl⟩
  have n:∀ v:Nat,ν ((0+(δ (d.length:Int)))*1) (ak w)++ [Xx0 .u32 (v:Int)]++ε (((0+(δ (d.length:Int)))*1)+1) (ak w)=ak ((o++ [v])++(μ l.length 0++t)):=by
   intro v;rw [r,← C,ξ,Xxh,Xxd,Ak,τ];rfl
  have D:w.length=o.length+(l.length+1)+t.length:=by rw [r];simp;omega
  have p:∀ v:Nat,((o++ [v])++(μ l.length 0++t)).length=w.length:=by intro v;rw [D];simp;omega
  have s:decide (((0:Nat):Int)≤(d.length:Int))=true:=Yq0 (by omega);have B:decide ((d.length:Int)<(a.length:Int))=true:=Yq0 (by omega);have K:decide ((d.length:Int)<(w.length:Int))=true:=Yq0 (by omega);have P:(Xqc (((0+(δ (d.length:Int)))*1)+1) (θ (ak w)))=true:=by rw [Xzq,aK,ay];omega
  rw [← r];cases m with
  |cons y m=>
   have z:e.length=d.length:=by rcases j with h|h;exact h;cases h.1
   have u:y<4294967296:=I y (by rw [← q];simp);have O:(ε ((δ (d.length:Int))*1) (ak b))= [Xx0 .u32 (y:Int)]++ak m:=by rw [← q,← z];exact Ai
   generalize ak m=rb at O;have A:decide ((d.length:Int)<(b.length:Int))=true:=Yq0 (by rw [← q];simp;omega);have f:=ih (d++ [x]) (o++ [D7 x y c]) (e++ [y]) m (BK x y c) (P_ i u g) (by rw [← hd];simp) (by simp [C]) (by rw [← q];simp) (.inl (by simp [z]));rw [η,φ] at f;simp only [τ,Xqu] at f;simp only [cy,Xjl,Xzn,Xwy,Xvw,Xxd];refine .next ?_ f
   unfold Qa;rw [show o++(D7 x y c::(μ l.length 0++t))=(o++ [D7 x y c])++(μ l.length 0++t) by simp,p,← n];have H:d.length<2^62:=by omega
   generalize d.length=k at*
   exact pN 118 [] 2 3 (.c P (.c s (.c K (.k 2 s (.c A (.c (aA A) (.k 1 s (.c B (.c (aA B) .nil))))))))) (.v 50 (.eq (xk H)) (.v 48 (.eq (ao4 x y c)) (.v 46 (.eq (ao5 x y c)) (.v 42 (.eq (ao3 i u g)) (.v 39 (.ppt O) (.v 31 (.eq (amm i g)) (.v 27 (.ppt F) .nil))))))) E
  |nil=>
   have A:decide ((d.length:Int)<(b.length:Int))=false:=Yq1 (by rw [← q,Γ];rcases j with h|h<;>omega);have f:=ih (d++ [x]) (o++ [D7 x 0 c]) e [] (BK x 0 c) (P_ i (by omega) g) (by rw [← hd];simp) (by simp [C]) q (.inr ⟨rfl,by rw [η];rcases j with h|h<;>omega⟩);rw [η,φ] at f;simp only [τ,Xqu] at f;simp only [cy,Xjl,Xzn,Xwy,Xvw,Xxd];refine .next ?_ f
   unfold Qa;rw [show o++(D7 x 0 c::(μ l.length 0++t))=(o++ [D7 x 0 c])++(μ l.length 0++t) by simp,p,← n];have H:d.length<2^62:=by omega
   generalize d.length=k at*
   exact pN 118 [] 2 1 (.c P (.c s (.c K (.k 1 (aF A) (.k 1 s (.c B (.c (aA B) .nil))))))) (.v 50 (.eq (xk H)) (.v 48 (.eq (amn x c)) (.v 46 (.eq (amo x c)) (.v 31 (.eq (amm i g)) (.v 27 (.ppt F) .nil))))) E
def UV (a b:List Nat) (na nb:Bool) (p:Nat × List Nat × Nat):St:=⟨[(0,.sl (ak a) a.length na),(1,.sl (ak b) b.length nb),(5,.ref 0 0 0 p.2.1.length),(6,.int .u64 (p.2.2:Int)),(13,ω (a.length:Int)),(14,ω (p.1:Int))],[(0,⟨(ak p.2.1),0,false,0,1,true⟩)],.dead,[]⟩
def Ya (a b:List Nat) (na nb:Bool) (p:List Nat × Nat):St:=⟨[(0,.sl (ak a) a.length na),(1,.sl (ak b) b.length nb),(5,.ref 0 0 0 p.1.length),(6,.int .u64 (p.2:Int))],[(0,⟨(ak p.1),0,false,0,1,true⟩)],.dead,[]⟩
theorem abO {nt:Nat} (E:45≤nt) (a b:List Nat) (M N:Bool) (G:bQ a) (I:bQ b) (R:a.length<2^40) (t:List Nat):∀ (l d o e m:List Nat) (c:Nat),c≤1→d++l=a→o.length=d.length→e++m=b→(e.length=d.length∨(m= []∧e.length≤d.length))→
  aC prog ap [] nt (af 0 (ai f216)) (fun _=> .exit 0) (UV a b M N) (Ya a b M N) (d.length,o++(μ l.length 0++t),c) (o++((cy CB xZ l m c).1++t),(cy CB xZ l m c).2):=by
 intro l
 induction l with
 |nil=>
  intro d o e m c J hd C q j;rw [Γ] at hd;subst hd;have Q:decide ((d.length:Int)<(d.length:Int))=false:=Yq1 (by omega);exact .done (pN 216 [] 1 0 (.c (aF Q) .nil) .nil E)
 | cons x l ih=>
  intro d o e m c J hd C q j;have i:x<4294967296:=G x (by rw [← hd];simp);have g:=J;have L:d.length+(l.length+1)=a.length:=by rw [← hd];simp
  have F:(ε ((δ (d.length:Int))*1) (ak a))= [Xx0 .u32 (x:Int)]++ak l:=by rw [← hd];exact Ai
  generalize ak l=ra at F;obtain ⟨w,r⟩:∃ w,w=o++(μ (x::l).length 0++t):=⟨_,rfl⟩
  have n:∀ v:Nat,ν ((0+(δ (d.length:Int)))*1) (ak w)++ [Xx0 .u32 (v:Int)]++ε (((0+(δ (d.length:Int)))*1)+1) (ak w)=ak ((o++ [v])++(μ l.length 0++t)):=by
   intro v;rw [r,← C,ξ,Xxh,Xxd,Ak,τ];rfl
  have D:w.length=o.length+(l.length+1)+t.length:=by rw [r];simp;omega
  have p:∀ v:Nat,((o++ [v])++(μ l.length 0++t)).length=w.length:=by intro v;rw [D];simp;omega
  have u:decide (((0:Nat):Int)≤(d.length:Int))=true:=Yq0 (by omega);have B:decide ((d.length:Int)<(a.length:Int))=true:=Yq0 (by omega);have K:decide ((d.length:Int)<(w.length:Int))=true:=Yq0 (by omega);have P:(Xqc (((0+(δ (d.length:Int)))*1)+1) (θ (ak w)))=true:=by rw [Xzq,aK,ay];omega
  rw [← r];cases m with
  |cons y m=>
   have z:e.length=d.length:=by rcases j with h|h;exact h;cases h.1
   have s:y<4294967296:=I y (by rw [← q];simp);have O:(ε ((δ (d.length:Int))*1) (ak b))= [Xx0 .u32 (y:Int)]++ak m:=by rw [← q,← z];exact Ai
   generalize ak m=rb at O;have A:decide ((d.length:Int)<(b.length:Int))=true:=Yq0 (by rw [← q];simp;omega);have f:=ih (d++ [x]) (o++ [CB x y c]) (e++ [y]) m (xZ x y c) X_ (by rw [← hd];simp) (by simp [C]) (by rw [← q];simp) (.inl (by simp [z]));rw [η,φ] at f;simp only [τ,Xqu] at f;simp only [cy,Xjl,Xzn,Xwy,Xvw,Xxd];refine .next ?_ f
   unfold UV;rw [show o++(CB x y c::(μ l.length 0++t))=(o++ [CB x y c])++(μ l.length 0++t) by simp,p,← n];have H:d.length<2^62:=by omega
   generalize d.length=k at*
   exact pN 216 [] 2 3 (.c P (.c u (.c K (.k 2 u (.c A (.c (aA A) (.k 1 u (.c B (.c (aA B) .nil))))))))) (.v 42 (.eq (xk H)) (.v 40 (.eq (an1 i s g)) (.v 38 (.eq (an2 i s g)) (.v 34 (.eq (an0 i s g)) (.v 31 (.ppt O) (.v 23 (.eq (ako i g)) (.v 19 (.ppt F) .nil))))))) E
  |nil=>
   have A:decide ((d.length:Int)<(b.length:Int))=false:=Yq1 (by rw [← q,Γ];rcases j with h|h<;>omega);have f:=ih (d++ [x]) (o++ [CB x 0 c]) e [] (xZ x 0 c) X_ (by rw [← hd];simp) (by simp [C]) q (.inr ⟨rfl,by rw [η];rcases j with h|h<;>omega⟩);rw [η,φ] at f;simp only [τ,Xqu] at f;simp only [cy,Xjl,Xzn,Xwy,Xvw,Xxd];refine .next ?_ f
   unfold UV;rw [show o++(CB x 0 c::(μ l.length 0++t))=(o++ [CB x 0 c])++(μ l.length 0++t) by simp,p,← n];have H:d.length<2^62:=by omega
   generalize d.length=k at*
   exact pN 216 [] 2 1 (.c P (.c u (.c K (.k 1 (aF A) (.k 1 u (.c B (.c (aA B) .nil))))))) (.v 42 (.eq (xk H)) (.v 40 (.eq (akp i g)) (.v 38 (.eq (akq i g)) (.v 23 (.eq (ako i g)) (.v 19 (.ppt F) .nil))))) E
theorem aho (a b w:List Nat) (e d:Bool) (c z:Nat) (f:(Xqc (((0+(δ (a.length:Int)))*1)+1) (θ (ak w)))=true) (m:(decide (((0:Nat):Int)≤(a.length:Int)))=true) (g:(decide ((a.length:Int)<(w.length:Int)))=true) (j:(decide (((0:Nat):Int)≤(γ .i64 ((a.length:Int)+((1:Nat):Int)))))=true) (l:(decide ((γ .i64 ((a.length:Int)+((1:Nat):Int)))=(γ .i64 ((a.length:Int)+((1:Nat):Int)))))=true) (n:(decide ((γ .i64 ((a.length:Int)+((1:Nat):Int)))≤((1099511627776:Nat):Int)))=true) (i:(decide ((a.length:Int)<(b.length:Int)))=false) (h:CO 162 [.sl (ν (w.length*1) (ν ((0+(δ (a.length:Int)))*1) (ak w)++ [.int .u32 (γ .u32 (c:Int))]++ε (((0+(δ (a.length:Int)))*1)+1) (ak w))) w.length true] (.ret (.sl (ak (digs z)) (digs z).length true))) (k:aN prog ap [] 59 (.block 0 (.loop (af 0 (ai f118)))) ⟨[(0,.sl (ak a) a.length e),(1,.sl (ak b) b.length d),(4,.nilS),(5,.ref 0 0 0 (δ (γ .i64 ((a.length:Int)+((1:Nat):Int))))),(6,.int .u64 0),(7,.dead),(8,.dead),(13,.bool (decide ((a.length:Int)<(b.length:Int)))),(21,ω (a.length:Int)),(22,ω 0),(23,.dead),(35,.dead)],[(0,⟨(gQ (δ (γ .i64 ((a.length:Int)+((1:Nat):Int)))) [.int .u32 0]),0,false,0,1,true⟩)],.dead,[]⟩ (.normal) ⟨[(0,.sl (ak a) a.length e),(1,.sl (ak b) b.length d),(5,.ref 0 0 0 w.length),(6,.int .u64 (c:Int))],[(0,⟨(ak w),0,false,0,1,true⟩)],.dead,[]⟩):CO 118 [.sl (ak a) a.length e,.sl (ak b) b.length d] (.ret (.sl (ak (digs z)) (digs z).length true)):=pK [0] 1 0 (.c f (.c m (.c g (.c j (.c l (.c n (.c (aF i) .nil))))))) (.c h (.l k .nil))
theorem ahp (a b w:List Nat) (e d:Bool) (c z:Nat) (f:(Xqc (((0+(δ (b.length:Int)))*1)+1) (θ (ak w)))=true) (m:(decide (((0:Nat):Int)≤(b.length:Int)))=true) (g:(decide ((b.length:Int)<(w.length:Int)))=true) (j:(decide (((0:Nat):Int)≤(γ .i64 ((b.length:Int)+((1:Nat):Int)))))=true) (l:(decide ((γ .i64 ((b.length:Int)+((1:Nat):Int)))=(γ .i64 ((b.length:Int)+((1:Nat):Int)))))=true) (n:(decide ((γ .i64 ((b.length:Int)+((1:Nat):Int)))≤((1099511627776:Nat):Int)))=true) (i:(decide ((a.length:Int)<(b.length:Int)))=true) (h:CO 162 [.sl (ν (w.length*1) (ν ((0+(δ (b.length:Int)))*1) (ak w)++ [.int .u32 (γ .u32 (c:Int))]++ε (((0+(δ (b.length:Int)))*1)+1) (ak w))) w.length true] (.ret (.sl (ak (digs z)) (digs z).length true))) (k:aN prog ap [] 59 (.block 0 (.loop (af 0 (ai f118)))) ⟨[(0,.sl (ak b) b.length d),(1,.sl (ak a) a.length e),(4,.nilS),(5,.ref 0 0 0 (δ (γ .i64 ((b.length:Int)+((1:Nat):Int))))),(6,.int .u64 0),(7,.dead),(8,.dead),(13,.bool (decide ((a.length:Int)<(b.length:Int)))),(21,ω (b.length:Int)),(22,ω 0),(23,.dead),(35,.dead)],[(0,⟨(gQ (δ (γ .i64 ((b.length:Int)+((1:Nat):Int)))) [.int .u32 0]),0,false,0,1,true⟩)],.dead,[]⟩ (.normal) ⟨[(0,.sl (ak b) b.length d),(1,.sl (ak a) a.length e),(5,.ref 0 0 0 w.length),(6,.int .u64 (c:Int))],[(0,⟨(ak w),0,false,0,1,true⟩)],.dead,[]⟩):CO 118 [.sl (ak a) a.length e,.sl (ak b) b.length d] (.ret (.sl (ak (digs z)) (digs z).length true)):=pK [0] 1 1 (.c f (.c m (.c g (.c j (.c l (.c n (.c (aA i) .nil))))))) (.c h (.l k .nil))
theorem abI (a b w:List Nat) (e d:Bool) (c z:Nat) (f:(decide (((0:Nat):Int)≤(a.length:Int)))=true) (j:(decide ((a.length:Int)=(a.length:Int)))=true) (g:(decide ((a.length:Int)≤((1099511627776:Nat):Int)))=true) (h:CO 162 [.sl (ν (w.length*1) (ak w)) w.length true] (.ret (.sl (ak (digs z)) (digs z).length true))) (i:aN prog ap [] 45 (.block 0 (.loop (af 0 (ai f216)))) ⟨[(0,.sl (ak a) a.length e),(1,.sl (ak b) b.length d),(4,.nilS),(5,.ref 0 0 0 (δ (a.length:Int))),(6,.int .u64 0),(7,.dead),(8,.dead),(13,ω (a.length:Int)),(14,ω 0),(15,.dead),(27,.dead)],[(0,⟨(gQ (δ (a.length:Int)) [.int .u32 0]),0,false,0,1,true⟩)],.dead,[]⟩ (.normal) ⟨[(0,.sl (ak a) a.length e),(1,.sl (ak b) b.length d),(5,.ref 0 0 0 w.length),(6,.int .u64 (c:Int))],[(0,⟨(ak w),0,false,0,1,true⟩)],.dead,[]⟩):CO 216 [.sl (ak a) a.length e,.sl (ak b) b.length d] (.ret (.sl (ak (digs z)) (digs z).length true)):=pK [0] 0 0 (.c f (.c j (.c g .nil))) (.c h (.l i .nil))
theorem aeu (s t:List UInt8) (z:Nat) (a:CO 119 [.str s] (.ret (.sl (ak (digs (ah s))) (digs (ah s)).length true))) (c:CO 119 [.str t] (.ret (.sl (ak (digs (ah t))) (digs (ah t)).length true))) (b:CO 118 [.sl (ak (digs (ah s))) (digs (ah s)).length true,.sl (ak (digs (ah t))) (digs (ah t)).length true] (.ret (.sl (ak (digs z)) (digs z).length true))) (d:CO 117 [.sl (ak (digs z)) (digs z).length true] (.ret (.str (ae z)))):CO 71 [.str s,.str t] (.ret (.str (ae z))):=pK [] 0 0 .nil (.c d (.c b (.c c (.c a .nil))))
theorem ahm (s t:List UInt8) (z:Nat) (a:(decide ((mG (ah s) (ah t))<((0:Nat):Int)))=true) (b:CO 119 [.str s] (.ret (.sl (ak (digs (ah s))) (digs (ah s)).length true))) (d:CO 119 [.str t] (.ret (.sl (ak (digs (ah t))) (digs (ah t)).length true))) (c:CO 210 [.sl (ak (digs (ah s))) (digs (ah s)).length true,.sl (ak (digs (ah t))) (digs (ah t)).length true] (.ret (ω (mG (ah s) (ah t))))):CO 199 [.str s,.str t] (.ret (.tup [.str [],.bool false])):=pK [] 1 1 (.c (aA a) .nil) (.c c (.c d (.c b .nil)))
theorem ahn (s t:List UInt8) (z:Nat) (a:(decide ((mG (ah s) (ah t))<((0:Nat):Int)))=false) (b:CO 119 [.str s] (.ret (.sl (ak (digs (ah s))) (digs (ah s)).length true))) (e:CO 119 [.str t] (.ret (.sl (ak (digs (ah t))) (digs (ah t)).length true))) (d:CO 210 [.sl (ak (digs (ah s))) (digs (ah s)).length true,.sl (ak (digs (ah t))) (digs (ah t)).length true] (.ret (ω (mG (ah s) (ah t))))) (f:CO 216 [.sl (ak (digs (ah s))) (digs (ah s)).length true,.sl (ak (digs (ah t))) (digs (ah t)).length true] (.ret (.sl (ak (digs z)) (digs z).length true))) (c:CO 117 [.sl (ak (digs z)) (digs z).length true] (.ret (.str (ae z)))):CO 199 [.str s,.str t] (.ret (.tup [.str (ae z),.bool true])):=pK [] 1 0 (.c (aF a) .nil) (.c c (.c f (.c d (.c e (.c b .nil)))))
theorem agf (s t:List UInt8) (z:Nat) (a:CO 119 [.str s] (.ret (.sl (ak (digs (ah s))) (digs (ah s)).length true))) (c:CO 119 [.str t] (.ret (.sl (ak (digs (ah t))) (digs (ah t)).length true))) (b:CO 201 [.sl (ak (digs (ah s))) (digs (ah s)).length true,.sl (ak (digs (ah t))) (digs (ah t)).length true] (.ret (.sl (ak (digs z)) (digs z).length true))) (d:CO 117 [.sl (ak (digs z)) (digs z).length true] (.ret (.str (ae z)))):CO 171 [.str s,.str t] (.ret (.str (ae z))):=pK [] 0 0 .nil (.c d (.c b (.c c (.c a .nil))))
theorem adR:∀ (l m:List Nat) (c:Nat),bQ l→bQ m→c≤1→(cy D7 BK l m c).2≤1
 | [],_,_,_,_,h=>h
 |x::l,m,c,hl,hm,h=>by
  simp only [cy];exact adR l m.tail _ hl.tail hm.tl (P_ hl.head hm.hd h)
theorem NM {a b:List Nat} (i j:Bool) (f:bQ a) (g:bQ b) (k:b.length≤a.length) (o:a.length<2^39):∃ (p:List Nat) (c:Nat),c≤1∧p.length=a.length∧bQ (p++ [c])∧aI (p++ [c])=aI a+aI b∧∀ nt,59≤nt→
  aC prog ap [] nt (af 0 (ai f118)) (fun _=> .exit 0) (Qa a b i j) (NK a b i j) (0,μ (a.length+1) 0,0) (p++ [0],c):=by
 have m:=adR a b 0 f g (by omega);have l:=Zm a b 0 k;have d:=OJ D7 BK a b 0;have e:=OL (fd:=D7) (fc:=BK) (fun x y c=>Xq3 _ (by omega)) a b 0;refine ⟨(cy D7 BK a b 0).1,(cy D7 BK a b 0).2,m,d,e.app (bQ.cons (by omega) bQ.nil), ?_,fun nt n=> ?_⟩
 ·rw [nC,d];simp only [aI,Xjk,Xq8] at l ⊢;exact l
 ·have h:=adb n a b i j f g (by omega) [0] a [] [] [] b 0 (by omega) rfl rfl rfl (.inl rfl);rw [Xqi,Xqi,← Xj8] at h;exact h
theorem TE {p:List Nat} {c n:Nat} (a:c≤1) (hp:p.length=n):ν ((0+(δ (n:Int)))*1) (ak (p++ [0]))++ [Xx0 .u32 (γ .u32 (c:Int))]++ε (((0+(δ (n:Int)))*1)+1) (ak (p++ [0]))=ak (p++ [c]):=by
 subst hp;rw [sS,Θ (by omega)];exact Ak (p:=p) (s:= []) (x:=0) (y:=c)
theorem ahq (a b:List Nat) (d e:Bool) (j:bQ a) (k:bQ b) (v:a.length<2^38) (u:b.length<2^38):CO 118 [.sl (ak a) a.length d,.sl (ak b) b.length e] (.ret (.sl (ak (digs (aI a+aI b))) (digs (aI a+aI b)).length true)):=by
 have t:∀ n:Nat,n<2^38→γ .i64 ((n:Int)+((1:Nat):Int))=((n+1:Nat):Int):=fun n l=>by rw [dI,bC (by omega)]
 have hs:∀ (a b:List Nat) (d e:Bool) (p:List Nat) (c:Nat),(∀ nt,59≤nt→aC prog ap [] nt (af 0 (ai f118)) (fun _=> .exit 0) (Qa a b d e) (NK a b d e) (0,μ (a.length+1) 0,0) (p++ [0],c))→
   aN prog ap [] 59 (.block 0 (.loop (af 0 (ai f118)))) ⟨[(0,.sl (ak a) a.length d),(1,.sl (ak b) b.length e),(5,.ref 0 0 0 (a.length+1)),(6,.int .u64 ((0:Nat):Int)),(21,ω (a.length:Int)),(22,ω ((0:Nat):Int))],[(0,⟨ak (μ (a.length+1) 0),0,false,0,1,true⟩)],.dead,[]⟩ .normal (NK a b d e (p++ [0],c)):=by
  intro a b d e p c i;have h:=aC.blk (s:=Qa a b d e (0,μ (a.length+1) 0,0)) (s':=NK a b d e (p++ [0],c)) (id:=0) i (by simp) rfl (aP.refl _) (aP.refl _);unfold Qa at h;simp only [Xx9] at h;exact h
 rcases Xxc a.length b.length with hlt|hge
 ·obtain ⟨p,c,m,hp,g,o,i⟩:=NM e d k j (Xw0 hlt) (by omega);have f:=ahp a b (p++ [0]) d e c (aI a+aI b);have q:=hs b a e d p c i;rw [t b.length u,aK (b.length+1),qE,TE m hp] at f;have r:(p++ [0]).length=b.length+1:=by rw [η,hp];rfl
  exact f (by rw [Xzq,aK];unfold ak;rw [Xjm];omega) (Yq0 (by omega)) (Yq0 (by omega)) (Yq0 (by omega)) (Yq0 rfl) (Yq0 (by omega)) (Yq0 (by omega))
   (CZ (p++ [c]) _ _ (by simp) (by rw [jP g,o,Xx3]) (by omega)) fun nt l=>(q nt l).weak (aP.of ⟨rfl,rfl,rfl,rfl,rfl,rfl,trivial⟩) (aP.refl _)
 ·obtain ⟨p,c,m,hp,g,o,i⟩:=NM d e j k hge (by omega);have f:=aho a b (p++ [0]) d e c (aI a+aI b);have q:=hs a b d e p c i;rw [t a.length v,aK (a.length+1),qE,TE m hp] at f;have r:(p++ [0]).length=a.length+1:=by rw [η,hp];rfl
  exact f (by rw [Xzq,aK];unfold ak;rw [Xjm];omega) (Yq0 (by omega)) (Yq0 (by omega)) (Yq0 (by omega)) (Yq0 rfl) (Yq0 (by omega)) (Yq1 (by omega))
   (CZ (p++ [c]) _ _ (by simp) (by rw [jP g,o]) (by omega)) fun nt l=>(q nt l).weak (aP.of ⟨rfl,rfl,rfl,rfl,rfl,rfl,trivial⟩) (aP.refl _)
theorem UU {a b:List Nat} (i k:Bool) (f:bQ a) (g:bQ b) (l:b.length≤a.length) (q:aI b≤aI a) (r:a.length<2^39):∃ (p:List Nat) (c:Nat),p.length=a.length∧bQ p∧aI p=aI a - aI b∧∀ nt,45≤nt→
  aC prog ap [] nt (af 0 (ai f216)) (fun _=> .exit 0) (UV a b i k) (Ya a b i k) (0,μ a.length 0,0) (p,c):=by
 have m:=Yb a b 0 f g (by omega) l;have d:=OJ CB xZ a b 0;have e:=OL (fd:=CB) (fc:=xZ) (fun x y c=>Xq3 _ (by omega)) a b 0;have j:=qI e;rw [d] at j;refine ⟨(cy CB xZ a b 0).1,(cy CB xZ a b 0).2,d,e, ?_,fun nt o=> ?_⟩
 ·have n:(cy CB xZ a b 0).2=0:=by
   rcases Xqg (cy CB xZ a b 0).2 with h|h
   ·exact h
   ·have:=Xq0 (4294967296^a.length) h;omega
  rw [n] at m;omega
 ·have h:=abO o a b i k f g (by omega) [] a [] [] [] b 0 (by omega) rfl rfl rfl (.inl rfl);rw [Xqi,Xqi,Γ,Γ] at h;exact h
theorem abJ (a b:List Nat) (d g:Bool) (i:bQ a) (k:bQ b) (j:b.length≤a.length) (l:aI b≤aI a) (r:a.length<2^38):CO 216 [.sl (ak a) a.length d,.sl (ak b) b.length g] (.ret (.sl (ak (digs (aI a - aI b))) (digs (aI a - aI b)).length true)):=by
 obtain ⟨p,c,hp,e,n,m⟩:=UU d g i k j l (by omega);have f:=abI a b p d g c (aI a - aI b);have h:=aC.blk (s:=UV a b d g (0,μ a.length 0,0)) (s':=Ya a b d g (p,c)) (id:=0) m (by simp) rfl (aP.refl _) (aP.refl _);unfold UV at h;simp only [Xx9] at h;rw [aK,qE] at f;have o:ν (p.length*1) (ak p)=ak p:=by rw [Ξ,pO,Xq1]
 exact f (Yq0 (by omega)) (Yq0 rfl) (Yq0 (by omega)) (CZ p _ _ rfl (by rw [jP e,n]) (by omega)) fun nt q=>(h nt q).weak (aP.of ⟨rfl,rfl,rfl,rfl,rfl,rfl,trivial⟩) (aP.refl _)
theorem rH {s:List UInt8} {n:Nat} (hs:s.length≤4*n):(digs (ah s)).length≤n:=by
 have h:=wY s;refine jK (Φ h ?_);rw [show (256:Nat)=2^8 from rfl,← Xji];exact Ψ (by omega) (by omega)
theorem QO {x y:Nat} (h:y≤x):(digs y).length≤(digs x).length:=by
 refine jK (Xqk h ?_);rw [Xji];exact nU x
theorem Us {x y m n:Nat} (a:(digs x).length≤m) (c:(digs y).length≤n):(digs (x*y)).length≤m+n:=by
 refine jK ?_;have d:=Φ (nU x) (Ψ (by omega) a);have b:=Φ (nU y) (Ψ (by omega) c);rw [Xxe,Xxp,Xji,Xji];exact Nat.mul_lt_mul'' d b
theorem Ur {x y n:Nat} (a:(digs x).length≤n) (b:(digs y).length≤n):(digs (x+y)).length≤n+1:=by
 refine jK ?_;have d:=Φ (nU x) (Ψ (by omega) a);have c:=Φ (nU y) (Ψ (by omega) b);rw [Xji,Xq5];have:(2:Nat)^32=4294967296:=by decide
 rw [this];generalize 4294967296^n=P at*
 omega
theorem abX (s t:List UInt8) (hs:s.length<2^36) (d:t.length<2^36):CO 71 [.str s,.str t] (.ret (.str (ae (ah s+ah t)))):=by
 have a:=rH (s:=s) (n:=2^34) (by omega);have b:=rH (s:=t) (n:=2^34) (by omega);have c:=Ur a b;have h:=ahq (digs (ah s)) (digs (ah t)) true true (bQ.digs _) (bQ.digs _) (by omega) (by omega);rw [fM,fM] at h;exact aeu s t _ (vS s (by omega)) (vS t (by omega)) h (sG _ _ true (wV _) (by omega) (by omega))
theorem QH (s t:List UInt8) (hs:s.length<2^36):CO 210 [.sl (ak (digs (ah s))) (digs (ah s)).length true,.sl (ak (digs (ah t))) (digs (ah t)).length true] (.ret (ω (mG (ah s) (ah t)))):=by
 have h:=xK (digs (ah s)) (digs (ah t)) true true (EG (by omega));rw [AB] at h;exact h
theorem Tt (x y:Nat):decide (mG x y<((0:Nat):Int))=decide (x<y):=by
 unfold mG;by_cases h:x<y
 ·rw [if_pos h,Yq0 h];rfl
 ·rw [if_neg h,Yq1 h];split<;>rfl
theorem ab8 (s t:List UInt8) (hs:s.length<2^36) (a:t.length<2^36) (h:ah s<ah t):CO 199 [.str s,.str t] (.ret (.tup [.str [],.bool false])):=
 ahm s t 0 (by rw [Tt];exact Yq0 h) (vS s (by omega)) (vS t (by omega)) (QH s t hs)
theorem ab9 (s t:List UInt8) (hs:s.length<2^36) (c:t.length<2^36) (h:ah t≤ah s):CO 199 [.str s,.str t] (.ret (.tup [.str (ae (ah s - ah t)),.bool true])):=by
 have a:=rH (s:=s) (n:=2^34) (by omega);have b:=QO (Nat.sub_le (ah s) (ah t));have f:=abJ (digs (ah s)) (digs (ah t)) true true (bQ.digs _) (bQ.digs _) (QO h) (by rw [fM,fM];exact h) (by omega);rw [fM,fM] at f;exact ahn s t _ (by rw [Tt];exact Yq1 (by omega)) (vS s (by omega)) (vS t (by omega)) (QH s t hs) f (sG _ _ true (wV _) (by omega) (by omega))
def aj (l:List Nat):List AV:=l.map fun (d:Nat)=>ω (d:Int)
theorem dm (l:List Nat):(aj l).length=l.length:=by simp [aj]
theorem L6 (a b:List Nat):aj (a++b)=aj a++aj b:=by simp [aj]
theorem gI {l:List Nat} {k:Nat} (h:k<l.length):ζ (ε k (aj l)) .dead= ω ((l.getD k 0:Nat):Int):=by
 unfold aj;rw [← Xju,Xxf h,Xqb,Xjl,κ,π h];rfl
theorem dQ (l:List Nat) (k:Nat):ν k (aj l)=aj (l.take k):=by unfold aj;rw [Xwl]
theorem Lt (l:List Nat) (k:Nat):ε k (aj l)=aj (l.drop k):=by unfold aj;rw [Xju]
theorem eP (x:Int):chk (.int .i64) (ω x)=true:=rfl
theorem Q_ {l:List Nat} {j:Nat} (h:j<l.length) (y:Nat):ν j (aj l)++ [ω (y:Int)]++ε (j+1) (aj l)=aj (l.set j y):=by
 rw [dQ,Lt,Xjg,if_pos h];simp [aj]
theorem Ko (m:Nat):gQ m [ω 0]=aj (μ m 0):=by
 unfold gQ aj
 induction m with
 |zero=>rfl
 |succ m ih=>rw [Xxh,List.flatten_cons,ih,Xxh];rfl
theorem kV (l:List Nat) (x:Nat):aj l++ [ω (x:Int)]=aj (l++ [x]):=by rw [L6];rfl
theorem L8 (l:List Nat) (x:Nat):[ω (x:Int)]++aj l=aj (x::l):=rfl
theorem Qn (x:Nat) (l:List Nat):eY (x::l)=if eY l= []∧x=0 then [] else x::eY l:=by
 unfold eY;rw [Xz7,List.dropWhile_append];by_cases h:(Yqx (· ==0) l.reverse)= []
 ·simp only [h,List.isEmpty_nil,if_true,Xw1];by_cases hx:x=0
  ·subst hx;simp
  ·simp [hx]
 ·have:(Yqx (· ==0) l.reverse).isEmpty=false:=by simpa using h
  simp only [this,Xx4,if_false];rw [if_neg (by simp only [List.reverse_eq_nil_iff];exact fun ⟨h1,_⟩=>h h1)];simp
def dA:List Nat→Nat
 | []=>0
 |d::l=>d+16777216*dA l
def bz (l:List Nat):Prop:=∀ d ∈ l,d<16777216
theorem bz.nil:bz []:=fun _ h=>(by cases h)
theorem bz.cons {d:Nat} {l:List Nat} (h:d<16777216) (b:bz l):bz (d::l):=by
 intro x a;rcases List.mem_cons.1 a with rfl|a
 ·exact h
 ·exact b x a
theorem bz.head {d:Nat} {l:List Nat} (h:bz (d::l)):d<16777216:=h d (Xjv ..)
theorem bz.tail {d:Nat} {l:List Nat} (h:bz (d::l)):bz l:=fun x a=>h x (Xje _ a)
theorem bz.app {a b:List Nat} (h:bz a) (d:bz b):bz (a++b):=fun x c=>(List.mem_append.1 c).elim (h x) (d x)
theorem bz.take {a:List Nat} (h:bz a) (n:Nat):bz (a.take n):=fun x b=>h x (Xxz b)
theorem bz.getD {a:List Nat} (h:bz a) (n:Nat):a.getD n 0<16777216:=by
 rw [κ];rcases Xxc n a.length with hn|hn
 ·rw [π hn];exact h _ (List.getElem_mem hn)
 ·rw [Xq7 hn];show 0<16777216;omega
theorem bz.zeros (n:Nat):bz (μ n 0):=fun x a=>by rw [(List.mem_replicate.1 a).2];omega
theorem Am (a b:List Nat):dA (a++b)=dA a+16777216^a.length*dA b:=by
 induction a with
 |nil=>simp [dA]
 |cons x a ih=>
  simp only [Xxd,dA,ih,ξ,Xq5,Xxe];rw [Xqe (16777216^a.length) 16777216,Xqs];omega
theorem YK (k:Nat):0<16777216^k:=Yqn (by omega)
theorem Ap {l:List Nat} (h:bz l):dA l<16777216^l.length:=by
 induction l with
 |nil=>simp [dA]
 |cons d l ih=>
  have b:=ih h.tail;have a:=h.head;simp only [dA,ξ,Xq5];omega
theorem Qq (n:Nat):dA (μ n 0)=0:=by
 induction n with
 |zero=>rfl
 |succ n ih=>rw [Xxh];simp only [dA,ih]
def ax (n:Nat):List Nat:=if n=0 then [] else n % 16777216::ax (n / 16777216)
termination_by n
decreasing_by omega
theorem f_:ax 0= []:=by rw [ax,if_pos rfl]
theorem oN {n:Nat} (h:0<n):ax n=n % 16777216::ax (n / 16777216):=by rw [ax,if_neg (by omega)]
theorem fB (n:Nat):dA (ax n)=n:=by
 induction n using Xkb with
 | _ n ih=>
  rcases Xqg n with rfl|h
  ·rw [f_];rfl
  ·rw [oN h];simp only [dA];rw [ih (n / 16777216) (by omega)];omega
theorem bz.dig (n:Nat):bz (ax n):=by
 induction n using Xkb with
 | _ n ih=>
  rcases Xqg n with rfl|h
  ·rw [f_];exact bz.nil
  ·rw [oN h];exact bz.cons (Xq3 _ (by omega)) (ih (n / 16777216) (by omega))
theorem Lr {n:Nat}:ax n= []↔n=0:=by
 constructor
 ·intro h;have:=fB n;rw [h] at this;exact this.symm
 ·intro h;subst h;exact f_
theorem TL {l:List Nat} (h:bz l):eY l=ax (dA l):=by
 induction l with
 |nil=>rw [show dA []=0 from rfl,f_];rfl
 | cons d l ih=>
  have hd:=h.head;rw [Qn,ih h.tail];simp only [dA];by_cases hz:dA l=0∧d=0
  ·rw [if_pos ⟨Lr.2 hz.1,hz.2⟩,hz.1,hz.2,f_]
  ·rw [if_neg (fun h=>hz ⟨Lr.1 h.1,h.2⟩),oN (n:=d+16777216*dA l) (by omega)];rw [show (d+16777216*dA l) % 16777216=d by omega,show (d+16777216*dA l) / 16777216=dA l by omega]
theorem wG (n:Nat):n<16777216^(ax n).length:=by
 have:=Ap (bz.dig n);rwa [fB] at this
theorem aaE {n k:Nat} (h:(ax n).length=k+1):16777216^k≤n:=by
 induction k generalizing n with
 |zero=>
  rcases Xqg n with rfl|h0
  ·rw [f_] at h;simp at h
  ·rw [Xvl];exact h0
 | succ k ih=>
  rcases Xqg n with rfl|h0
  ·rw [f_] at h;simp at h
  ·rw [oN h0,ξ] at h;have:=ih (n:=n / 16777216) (by omega);rw [Xq5];omega
theorem tK {n k:Nat} (h:n<16777216^k):(ax n).length≤k:=by
 rcases Xxc k (ax n).length with h1|h1
 ·obtain ⟨j,a⟩:∃ j,(ax n).length=j+1:=⟨(ax n).length - 1,by omega⟩
  have c:=aaE a;have b:=Ψ (show 0<16777216 by omega) (show k≤j by omega);omega
 ·exact h1
theorem rG {x y:Nat} (h:x≤y):(ax x).length≤(ax y).length:=tK (Xqk h (wG y))
theorem aif {nt:Nat} (e:19≤nt) (s:List UInt8) (k:Nat) (b:lit true (((Xxs (Xjf s (δ (k:Int)) 0):Nat):Int)==((0:Nat):Int))=true) (d:(decide (((0:Nat):Int)≤(k:Int)))=true) (c:(decide ((k:Int)<(((θ s):Nat):Int)))=true) (a:lit true (decide ((k:Int)<(((θ s):Nat):Int)))=true):ψ nt f133 ⟨[(0,.str s),(3,ω (k:Int))],[],.dead,[]⟩ (.normal) ⟨[(0,.str s),(3,ω (γ .i64 ((k:Int)+((1:Nat):Int))))],[],.dead,[]⟩:=pJ 133 [] 2 3 (.c b (.c d (.c c (.c a .nil)))) (.nil) e
theorem aig {nt:Nat} (e:19≤nt) (s:List UInt8) (k:Nat) (b:lit false (((Xxs (Xjf s (δ (k:Int)) 0):Nat):Int)==((0:Nat):Int))=true) (d:(decide (((0:Nat):Int)≤(k:Int)))=true) (c:(decide ((k:Int)<(((θ s):Nat):Int)))=true) (a:lit true (decide ((k:Int)<(((θ s):Nat):Int)))=true):ψ nt f133 ⟨[(0,.str s),(3,ω (k:Int))],[],.dead,[]⟩ (.exit 0) ⟨[(0,.str s),(3,ω (k:Int))],[],.dead,[]⟩:=pJ 133 [] 2 1 (.c b (.c d (.c c (.c a .nil)))) (.nil) e
theorem aih {nt:Nat} (b:19≤nt) (s:List UInt8) (k:Nat) (a:lit false (decide ((k:Int)<(((θ s):Nat):Int)))=true):ψ nt f133 ⟨[(0,.str s),(3,ω (k:Int))],[],.dead,[]⟩ (.exit 0) ⟨[(0,.str s),(3,ω (k:Int))],[],.dead,[]⟩:=pJ 133 [] 2 0 (.k 1 a .nil) (.nil) b
theorem aeO (s:List UInt8) (k:Nat) (a:(decide (((0:Nat):Int)≤(k:Int)))=true) (d:(decide ((k:Int)≤(((θ s):Nat):Int)))=true) (b:(decide ((((θ s):Nat):Int)≤(((θ s):Nat):Int)))=true) (c:aN prog ap [] 19 (.block 0 (.loop (af 0 (ai f133)))) ⟨[(0,.str s),(2,.str []),(3,ω 0),(13,.dead)],[],.dead,[]⟩ (.normal) ⟨[(0,.str s),(3,ω (k:Int))],[],.dead,[]⟩):CO 133 [.str s] (.ret (.str (ε (δ (k:Int)) (ν (δ (((θ s):Nat):Int)) s)))):=pK [0] 0 0 (.c a (.c d (.c b .nil))) (.l c .nil)
theorem alT {nt:Nat} (g:21≤nt) (l:List Nat) (nn:Bool) (a:(decide (((0:Nat):Int)≤(γ .i64 ((l.length:Int) - ((1:Nat):Int)))))=true) (f:(decide ((γ .i64 ((l.length:Int) - ((1:Nat):Int)))≤(l.length:Int)))=true) (c:lit true ((χ (ζ (ε ((δ (γ .i64 ((l.length:Int) - ((1:Nat):Int))))*1) (aj l)) .dead))==((0:Nat):Int))=true) (b:(chk (.int .i64) (ζ (ε ((δ (γ .i64 ((l.length:Int) - ((1:Nat):Int))))*1) (aj l)) .dead))=true) (d:(decide ((γ .i64 ((l.length:Int) - ((1:Nat):Int)))<(l.length:Int)))=true) (e:lit true (decide (((0:Nat):Int)<(l.length:Int)))=true):ψ nt f185 ⟨[(0,.sl (aj l) l.length nn)],[],.dead,[]⟩ (.normal) ⟨[(0,.sl (ν ((δ (γ .i64 ((l.length:Int) - ((1:Nat):Int))))*1) (aj l)) ((δ (γ .i64 ((l.length:Int) - ((1:Nat):Int)))) - 0) nn)],[],.dead,[]⟩:=pJ 185 [] 2 3 (.k 1 a (.c f (.c c (.c b (.c a (.c d (.c e .nil))))))) (.nil) g
theorem alU {nt:Nat} (f:21≤nt) (l:List Nat) (nn:Bool) (b:lit false ((χ (ζ (ε ((δ (γ .i64 ((l.length:Int) - ((1:Nat):Int))))*1) (aj l)) .dead))==((0:Nat):Int))=true) (e:(chk (.int .i64) (ζ (ε ((δ (γ .i64 ((l.length:Int) - ((1:Nat):Int))))*1) (aj l)) .dead))=true) (c:(decide (((0:Nat):Int)≤(γ .i64 ((l.length:Int) - ((1:Nat):Int)))))=true) (a:(decide ((γ .i64 ((l.length:Int) - ((1:Nat):Int)))<(l.length:Int)))=true) (d:lit true (decide (((0:Nat):Int)<(l.length:Int)))=true):ψ nt f185 ⟨[(0,.sl (aj l) l.length nn)],[],.dead,[]⟩ (.exit 0) ⟨[(0,.sl (aj l) l.length nn)],[],.dead,[]⟩:=pJ 185 [] 2 1 (.c b (.c e (.c c (.c a (.c d .nil))))) (.nil) f
theorem alV {nt:Nat} (b:21≤nt) (l:List Nat) (nn:Bool) (a:lit false (decide (((0:Nat):Int)<(l.length:Int)))=true):ψ nt f185 ⟨[(0,.sl (aj l) l.length nn)],[],.dead,[]⟩ (.exit 0) ⟨[(0,.sl (aj l) l.length nn)],[],.dead,[]⟩:=pJ 185 [] 2 0 (.k 1 a .nil) (.nil) b
theorem ag6 (l r:List Nat) (nn:Bool) (a:aN prog ap [] 21 (.block 0 (.loop (af 0 (ai f185)))) ⟨[(0,.sl (aj l) l.length nn),(2,.nilS),(14,.dead)],[],.dead,[]⟩ (.normal) ⟨[(0,.sl (aj r) r.length nn)],[],.dead,[]⟩):CO 185 [.sl (aj l) l.length nn] (.ret (.sl (aj r) r.length nn)):=pK [0] 0 0 .nil (.l a .nil)
theorem alD {nt:Nat} (m:41≤nt) (a b:List Nat) (j h:Bool) (k:Nat) (e:(chk (.int .i64) (ζ (ε ((δ (k:Int))*1) (aj b)) .dead))=true) (c:(decide (((0:Nat):Int)≤(k:Int)))=true) (f:(decide ((k:Int)<(b.length:Int)))=true) (d:(chk (.int .i64) (ζ (ε ((δ (k:Int))*1) (aj a)) .dead))=true) (g:(decide ((k:Int)<(a.length:Int)))=true) (l:lit true (!((χ (ζ (ε ((δ (k:Int))*1) (aj a)) .dead))==(χ (ζ (ε ((δ (k:Int))*1) (aj b)) .dead))))=true) (i:lit true (decide (((0:Nat):Int)≤(k:Int)))=true):ψ nt f186 ⟨[(0,.sl (aj a) a.length j),(1,.sl (aj b) b.length h),(5,ω (k:Int))],[],.dead,[]⟩ (.ret) ⟨[(4,ω (γ .i64 ((χ (ζ (ε ((δ (k:Int))*1) (aj a)) .dead)) - (χ (ζ (ε ((δ (k:Int))*1) (aj b)) .dead)))))],[],.dead,[]⟩:=pJ 186 [] 2 3 (.c e (.c c (.c f (.c d (.c c (.c g (.c l (.c e (.c c (.c f (.c d (.c c (.c g (.c i .nil)))))))))))))) (.nil) m
theorem alE {nt:Nat} (m:41≤nt) (a b:List Nat) (e c:Bool) (k:Nat) (h:lit false (!((χ (ζ (ε ((δ (k:Int))*1) (aj a)) .dead))==(χ (ζ (ε ((δ (k:Int))*1) (aj b)) .dead))))=true) (l:(chk (.int .i64) (ζ (ε ((δ (k:Int))*1) (aj b)) .dead))=true) (d:(decide (((0:Nat):Int)≤(k:Int)))=true) (g:(decide ((k:Int)<(b.length:Int)))=true) (i:(chk (.int .i64) (ζ (ε ((δ (k:Int))*1) (aj a)) .dead))=true) (j:(decide ((k:Int)<(a.length:Int)))=true) (f:lit true (decide (((0:Nat):Int)≤(k:Int)))=true):ψ nt f186 ⟨[(0,.sl (aj a) a.length e),(1,.sl (aj b) b.length c),(5,ω (k:Int))],[],.dead,[]⟩ (.normal) ⟨[(0,.sl (aj a) a.length e),(1,.sl (aj b) b.length c),(5,ω (γ .i64 ((k:Int) - ((1:Nat):Int))))],[],.dead,[]⟩:=pJ 186 [] 2 1 (.c h (.c l (.c d (.c g (.c i (.c d (.c j (.c f .nil)))))))) (.nil) m
theorem agC {nt:Nat} (e:41≤nt) (a b:List Nat) (d c:Bool):ψ nt f186 ⟨[(0,.sl (aj a) a.length d),(1,.sl (aj b) b.length c),(5,ω (-1))],[],.dead,[]⟩ (.exit 0) ⟨[],[],.dead,[]⟩:=pJ 186 [] 1 0 (.n 1 .nil) (.nil) e
theorem agD (a b:List Nat) (e c:Bool) (d:lit true (!((a.length:Int)==(b.length:Int)))=true):CO 186 [.sl (aj a) a.length e,.sl (aj b) b.length c] (.ret (ω (γ .i64 ((a.length:Int) - (b.length:Int))))):=pK [0] 1 1 (.c d .nil) (.nil)
theorem agF (a b:List Nat) (d c:Bool) (e:lit false (!((a.length:Int)==(b.length:Int)))=true) (f:aN prog ap [] 41 (.block 0 (.loop (af 0 (ai f186)))) ⟨[(0,.sl (aj a) a.length d),(1,.sl (aj b) b.length c),(4,ω 0),(5,ω (γ .i64 ((a.length:Int) - ((1:Nat):Int)))),(10,.bool (!((a.length:Int)==(b.length:Int)))),(20,.dead),(31,.dead)],[],.dead,[]⟩ (.normal) ⟨[],[],.dead,[]⟩):CO 186 [.sl (aj a) a.length d,.sl (aj b) b.length c] (.ret (ω 0)):=pK [0] 1 0 (.c e .nil) (.l f .nil)
theorem agG (a b:List Nat) (e d:Bool) (c:Int) (f:lit false (!((a.length:Int)==(b.length:Int)))=true) (g:aN prog ap [] 41 (.block 0 (.loop (af 0 (ai f186)))) ⟨[(0,.sl (aj a) a.length e),(1,.sl (aj b) b.length d),(4,ω 0),(5,ω (γ .i64 ((a.length:Int) - ((1:Nat):Int)))),(10,.bool (!((a.length:Int)==(b.length:Int)))),(20,.dead),(31,.dead)],[],.dead,[]⟩ (.ret) ⟨[(4,ω c)],[],.dead,[]⟩):CO 186 [.sl (aj a) a.length e,.sl (aj b) b.length d] (.ret (ω c)):=pK [0] 1 0 (.c f .nil) (.l g .nil)
theorem ag3 {nt:Nat} (i:35≤nt) (a o:List Nat) (b:Bool) (d c k:Nat) (f:(chk (.int .i64) (ζ (ε ((δ (k:Int))*1) (aj a)) .dead))=true) (h:(decide (((0:Nat):Int)≤(k:Int)))=true) (g:(decide ((k:Int)<(a.length:Int)))=true) (e:lit true (decide ((k:Int)<(a.length:Int)))=true):ψ nt f188 ⟨[(0,.sl (aj a) a.length b),(1,ω (d:Int)),(6,ω (c:Int)),(7,ω (k:Int)),(5,.nilS)],[],.dead,[]⟩ (.normal) ⟨[(0,.sl (aj a) a.length b),(1,ω (d:Int)),(6,ω (γ .i64 (Xxm (γ .i64 ((γ .i64 ((χ (ζ (ε ((δ (k:Int))*1) (aj a)) .dead))*(d:Int)))+(c:Int))) ((16777216:Nat):Int)))),(7,ω (γ .i64 ((k:Int)+((1:Nat):Int)))),(5,.ref 0 0 0 1)],[(0,⟨[ω (Xxj (γ .i64 ((γ .i64 ((χ (ζ (ε ((δ (k:Int))*1) (aj a)) .dead))*(d:Int)))+(c:Int))) ((16777216:Nat):Int))],0,false,0,1,true⟩)],.dead,[]⟩:=pJ 188 [] 2 1 (.k 5 f (.c h (.c g (.c e .nil)))) (.nil) i
theorem ag4 {nt:Nat} (f:35≤nt) (a o:List Nat) (e:Bool) (d c k:Nat) (b:lit false (decide ((k:Int)<(a.length:Int)))=true):ψ nt f188 ⟨[(0,.sl (aj a) a.length e),(1,ω (d:Int)),(6,ω (c:Int)),(7,ω (k:Int)),(5,.nilS)],[],.dead,[]⟩ (.exit 0) ⟨[(5,.nilS),(6,ω (c:Int))],[],.dead,[]⟩:=pJ 188 [] 1 0 (.c b .nil) (.nil) f
theorem ac0 (a o r:List Nat) (b:Bool) (d c:Nat) (f:aN prog ap [] 35 (.block 0 (.loop (af 0 (ai f188)))) ⟨[(0,.sl (aj a) a.length b),(1,ω (d:Int)),(4,.nilS),(5,.nilS),(6,ω 0),(7,ω 0),(8,.dead),(12,.dead)],[],.dead,[]⟩ (.normal) ⟨[(5,.nilS),(6,ω (c:Int))],[],.dead,[]⟩) (e:CO 185 [.sl [ω (c:Int)] 1 true] (.ret (.sl (aj r) r.length true))):CO 188 [.sl (aj a) a.length b,ω (d:Int)] (.ret (.sl (aj r) r.length true)):=pK [0] 1 0 (.n 3 .nil) (.c e (.l f .nil))
theorem ag1 {nt:Nat} (l:35≤nt) (a o:List Nat) (b:Bool) (d c k:Nat) (f:(Xqc (o.length+1) 1099511627776)=true) (j:(Xqc (o.length*1) (θ (aj o)))=true) (g:(chk (.int .i64) (ζ (ε ((δ (k:Int))*1) (aj a)) .dead))=true) (e:(decide (((0:Nat):Int)≤(k:Int)))=true) (h:(decide ((k:Int)<(a.length:Int)))=true) (i:lit true (decide ((k:Int)<(a.length:Int)))=true):ψ nt f188 ⟨[(0,.sl (aj a) a.length b),(1,ω (d:Int)),(6,ω (c:Int)),(7,ω (k:Int)),(5,.ref 0 0 0 o.length)],[(0,⟨(aj o),0,false,0,1,true⟩)],.dead,[]⟩ (.normal) ⟨[(0,.sl (aj a) a.length b),(1,ω (d:Int)),(6,ω (γ .i64 (Xxm (γ .i64 ((γ .i64 ((χ (ζ (ε ((δ (k:Int))*1) (aj a)) .dead))*(d:Int)))+(c:Int))) ((16777216:Nat):Int)))),(7,ω (γ .i64 ((k:Int)+((1:Nat):Int)))),(5,.ref 0 0 0 (o.length+1))],[(0,⟨((ν (o.length*1) (aj o))++ [ω (Xxj (γ .i64 ((γ .i64 ((χ (ζ (ε ((δ (k:Int))*1) (aj a)) .dead))*(d:Int)))+(c:Int))) ((16777216:Nat):Int))]),0,false,0,1,true⟩)],.dead,[]⟩:=pJ 188 [] 1 1 (.k 2 f (.c j (.k 2 g (.c e (.c h (.c i .nil)))))) (.nil) l
theorem ag2 {nt:Nat} (f:35≤nt) (a o:List Nat) (e:Bool) (d c k:Nat) (b:lit false (decide ((k:Int)<(a.length:Int)))=true):ψ nt f188 ⟨[(0,.sl (aj a) a.length e),(1,ω (d:Int)),(6,ω (c:Int)),(7,ω (k:Int)),(5,.ref 0 0 0 o.length)],[(0,⟨(aj o),0,false,0,1,true⟩)],.dead,[]⟩ (.exit 0) ⟨[(5,.ref 0 0 0 o.length),(6,ω (c:Int))],[(0,⟨(aj o),0,false,0,1,true⟩)],.dead,[]⟩:=pJ 188 [] 1 0 (.c b .nil) (.nil) f
theorem acZ (a o r:List Nat) (b:Bool) (d c:Nat) (e:(Xqc (o.length+1) 1099511627776)=true) (h:(Xqc (o.length*1) (θ (aj o)))=true) (g:aN prog ap [] 35 (.block 0 (.loop (af 0 (ai f188)))) ⟨[(0,.sl (aj a) a.length b),(1,ω (d:Int)),(4,.nilS),(5,.nilS),(6,ω 0),(7,ω 0),(8,.dead),(12,.dead)],[],.dead,[]⟩ (.normal) ⟨[(5,.ref 0 0 0 o.length),(6,ω (c:Int))],[(0,⟨(aj o),0,false,0,1,true⟩)],.dead,[]⟩) (f:CO 185 [.sl (ν ((o.length+1)*1) ((ν (o.length*1) (aj o))++ [ω (c:Int)])) (o.length+1) true] (.ret (.sl (aj r) r.length true))):CO 188 [.sl (aj a) a.length b,ω (d:Int)] (.ret (.sl (aj r) r.length true)):=pK [0] 0 0 (.k 1 e (.c h (.n 1 .nil))) (.c f (.l g .nil))
theorem agQ {nt:Nat} (p:41≤nt) (a b o:List Nat) (f d:Bool) (c k:Nat) (j:lit true (decide ((γ .i64 ((γ .i64 ((χ (ζ (ε ((δ (k:Int))*1) (aj a)) .dead)) - (c:Int))) - (χ (ζ (ε ((δ (k:Int))*1) (aj b)) .dead))))<((0:Nat):Int)))=true) (n:(chk (.int .i64) (ζ (ε ((δ (k:Int))*1) (aj b)) .dead))=true) (e:(decide (((0:Nat):Int)≤(k:Int)))=true) (h:(decide ((k:Int)<(b.length:Int)))=true) (l:lit true (decide ((k:Int)<(b.length:Int)))=true) (m:(chk (.int .i64) (ζ (ε ((δ (k:Int))*1) (aj a)) .dead))=true) (g:(decide ((k:Int)<(a.length:Int)))=true) (i:lit true (decide ((k:Int)<(a.length:Int)))=true):ψ nt f151 ⟨[(0,.sl (aj a) a.length f),(1,.sl (aj b) b.length d),(6,ω (c:Int)),(7,ω (k:Int)),(5,.nilS)],[],.dead,[]⟩ (.normal) ⟨[(0,.sl (aj a) a.length f),(1,.sl (aj b) b.length d),(6,ω 1),(7,ω (γ .i64 ((k:Int)+((1:Nat):Int)))),(5,.ref 0 0 0 1)],[(0,⟨[ω (γ .i64 ((γ .i64 ((γ .i64 ((χ (ζ (ε ((δ (k:Int))*1) (aj a)) .dead)) - (c:Int))) - (χ (ζ (ε ((δ (k:Int))*1) (aj b)) .dead))))+((16777216:Nat):Int)))],0,false,0,1,true⟩)],.dead,[]⟩:=pJ 151 [] 4 7 (.k 3 j (.c n (.c e (.c h (.c l (.c m (.c e (.c g (.c i .nil))))))))) (.nil) p
theorem agR {nt:Nat} (p:41≤nt) (a b o:List Nat) (f d:Bool) (c k:Nat) (j:lit false (decide ((γ .i64 ((γ .i64 ((χ (ζ (ε ((δ (k:Int))*1) (aj a)) .dead)) - (c:Int))) - (χ (ζ (ε ((δ (k:Int))*1) (aj b)) .dead))))<((0:Nat):Int)))=true) (n:(chk (.int .i64) (ζ (ε ((δ (k:Int))*1) (aj b)) .dead))=true) (e:(decide (((0:Nat):Int)≤(k:Int)))=true) (h:(decide ((k:Int)<(b.length:Int)))=true) (l:lit true (decide ((k:Int)<(b.length:Int)))=true) (m:(chk (.int .i64) (ζ (ε ((δ (k:Int))*1) (aj a)) .dead))=true) (g:(decide ((k:Int)<(a.length:Int)))=true) (i:lit true (decide ((k:Int)<(a.length:Int)))=true):ψ nt f151 ⟨[(0,.sl (aj a) a.length f),(1,.sl (aj b) b.length d),(6,ω (c:Int)),(7,ω (k:Int)),(5,.nilS)],[],.dead,[]⟩ (.normal) ⟨[(0,.sl (aj a) a.length f),(1,.sl (aj b) b.length d),(6,ω 0),(7,ω (γ .i64 ((k:Int)+((1:Nat):Int)))),(5,.ref 0 0 0 1)],[(0,⟨[ω (γ .i64 ((γ .i64 ((χ (ζ (ε ((δ (k:Int))*1) (aj a)) .dead)) - (c:Int))) - (χ (ζ (ε ((δ (k:Int))*1) (aj b)) .dead))))],0,false,0,1,true⟩)],.dead,[]⟩:=pJ 151 [] 4 3 (.k 3 j (.c n (.c e (.c h (.c l (.c m (.c e (.c g (.c i .nil))))))))) (.nil) p
theorem agS {nt:Nat} (m:41≤nt) (a b o:List Nat) (e d:Bool) (c k:Nat) (g:lit true (decide ((γ .i64 ((χ (ζ (ε ((δ (k:Int))*1) (aj a)) .dead)) - (c:Int)))<((0:Nat):Int)))=true) (l:lit false (decide ((k:Int)<(b.length:Int)))=true) (h:(chk (.int .i64) (ζ (ε ((δ (k:Int))*1) (aj a)) .dead))=true) (f:(decide (((0:Nat):Int)≤(k:Int)))=true) (i:(decide ((k:Int)<(a.length:Int)))=true) (j:lit true (decide ((k:Int)<(a.length:Int)))=true):ψ nt f151 ⟨[(0,.sl (aj a) a.length e),(1,.sl (aj b) b.length d),(6,ω (c:Int)),(7,ω (k:Int)),(5,.nilS)],[],.dead,[]⟩ (.normal) ⟨[(0,.sl (aj a) a.length e),(1,.sl (aj b) b.length d),(6,ω 1),(7,ω (γ .i64 ((k:Int)+((1:Nat):Int)))),(5,.ref 0 0 0 1)],[(0,⟨[ω (γ .i64 ((γ .i64 ((χ (ζ (ε ((δ (k:Int))*1) (aj a)) .dead)) - (c:Int)))+((16777216:Nat):Int)))],0,false,0,1,true⟩)],.dead,[]⟩:=pJ 151 [] 4 5 (.k 3 g (.c l (.c h (.c f (.c i (.c j .nil)))))) (.nil) m
theorem agT {nt:Nat} (m:41≤nt) (a b o:List Nat) (e d:Bool) (c k:Nat) (g:lit false (decide ((γ .i64 ((χ (ζ (ε ((δ (k:Int))*1) (aj a)) .dead)) - (c:Int)))<((0:Nat):Int)))=true) (l:lit false (decide ((k:Int)<(b.length:Int)))=true) (h:(chk (.int .i64) (ζ (ε ((δ (k:Int))*1) (aj a)) .dead))=true) (f:(decide (((0:Nat):Int)≤(k:Int)))=true) (i:(decide ((k:Int)<(a.length:Int)))=true) (j:lit true (decide ((k:Int)<(a.length:Int)))=true):ψ nt f151 ⟨[(0,.sl (aj a) a.length e),(1,.sl (aj b) b.length d),(6,ω (c:Int)),(7,ω (k:Int)),(5,.nilS)],[],.dead,[]⟩ (.normal) ⟨[(0,.sl (aj a) a.length e),(1,.sl (aj b) b.length d),(6,ω 0),(7,ω (γ .i64 ((k:Int)+((1:Nat):Int)))),(5,.ref 0 0 0 1)],[(0,⟨[ω (γ .i64 ((χ (ζ (ε ((δ (k:Int))*1) (aj a)) .dead)) - (c:Int)))],0,false,0,1,true⟩)],.dead,[]⟩:=pJ 151 [] 4 1 (.k 3 g (.c l (.c h (.c f (.c i (.c j .nil)))))) (.nil) m
theorem agU {nt:Nat} (g:41≤nt) (a b o:List Nat) (f d:Bool) (c k:Nat) (e:lit false (decide ((k:Int)<(a.length:Int)))=true):ψ nt f151 ⟨[(0,.sl (aj a) a.length f),(1,.sl (aj b) b.length d),(6,ω (c:Int)),(7,ω (k:Int)),(5,.nilS)],[],.dead,[]⟩ (.exit 0) ⟨[(5,.nilS)],[],.dead,[]⟩:=pJ 151 [] 1 0 (.c e .nil) (.nil) g
theorem acR (a b o r:List Nat) (d c:Bool) (f:aN prog ap [] 41 (.block 0 (.loop (af 0 (ai f151)))) ⟨[(0,.sl (aj a) a.length d),(1,.sl (aj b) b.length c),(4,.nilS),(5,.nilS),(6,ω 0),(7,ω 0),(8,.dead),(12,.dead),(24,.dead),(32,.dead)],[],.dead,[]⟩ (.normal) ⟨[(5,.nilS)],[],.dead,[]⟩) (e:CO 185 [.nilS] (.ret (.sl (aj r) r.length false))):CO 151 [.sl (aj a) a.length d,.sl (aj b) b.length c] (.ret (.sl (aj r) r.length false)):=pK [0] 0 0 .nil (.c e (.l f .nil))
theorem agL {nt:Nat} (p:41≤nt) (a b o:List Nat) (d e:Bool) (c k:Nat) (l:(Xqc (o.length+1) 1099511627776)=true) (n:(Xqc (o.length*1) (θ (aj o)))=true) (m:lit true (decide ((γ .i64 ((γ .i64 ((χ (ζ (ε ((δ (k:Int))*1) (aj a)) .dead)) - (c:Int))) - (χ (ζ (ε ((δ (k:Int))*1) (aj b)) .dead))))<((0:Nat):Int)))=true) (j:(chk (.int .i64) (ζ (ε ((δ (k:Int))*1) (aj b)) .dead))=true) (f:(decide (((0:Nat):Int)≤(k:Int)))=true) (h:(decide ((k:Int)<(b.length:Int)))=true) (i:lit true (decide ((k:Int)<(b.length:Int)))=true) (q:(chk (.int .i64) (ζ (ε ((δ (k:Int))*1) (aj a)) .dead))=true) (r:(decide ((k:Int)<(a.length:Int)))=true) (g:lit true (decide ((k:Int)<(a.length:Int)))=true):ψ nt f151 ⟨[(0,.sl (aj a) a.length d),(1,.sl (aj b) b.length e),(6,ω (c:Int)),(7,ω (k:Int)),(5,.ref 0 0 0 o.length)],[(0,⟨(aj o),0,false,0,1,true⟩)],.dead,[]⟩ (.normal) ⟨[(0,.sl (aj a) a.length d),(1,.sl (aj b) b.length e),(6,ω 1),(7,ω (γ .i64 ((k:Int)+((1:Nat):Int)))),(5,.ref 0 0 0 (o.length+1))],[(0,⟨((ν (o.length*1) (aj o))++ [ω (γ .i64 ((γ .i64 ((γ .i64 ((χ (ζ (ε ((δ (k:Int))*1) (aj a)) .dead)) - (c:Int))) - (χ (ζ (ε ((δ (k:Int))*1) (aj b)) .dead))))+((16777216:Nat):Int)))]),0,false,0,1,true⟩)],.dead,[]⟩:=pJ 151 [] 3 7 (.k 1 l (.c n (.k 1 m (.c j (.c f (.c h (.c i (.c q (.c f (.c r (.c g .nil))))))))))) (.nil) p
theorem agM {nt:Nat} (p:41≤nt) (a b o:List Nat) (d e:Bool) (c k:Nat) (l:(Xqc (o.length+1) 1099511627776)=true) (n:(Xqc (o.length*1) (θ (aj o)))=true) (m:lit false (decide ((γ .i64 ((γ .i64 ((χ (ζ (ε ((δ (k:Int))*1) (aj a)) .dead)) - (c:Int))) - (χ (ζ (ε ((δ (k:Int))*1) (aj b)) .dead))))<((0:Nat):Int)))=true) (j:(chk (.int .i64) (ζ (ε ((δ (k:Int))*1) (aj b)) .dead))=true) (f:(decide (((0:Nat):Int)≤(k:Int)))=true) (h:(decide ((k:Int)<(b.length:Int)))=true) (i:lit true (decide ((k:Int)<(b.length:Int)))=true) (q:(chk (.int .i64) (ζ (ε ((δ (k:Int))*1) (aj a)) .dead))=true) (r:(decide ((k:Int)<(a.length:Int)))=true) (g:lit true (decide ((k:Int)<(a.length:Int)))=true):ψ nt f151 ⟨[(0,.sl (aj a) a.length d),(1,.sl (aj b) b.length e),(6,ω (c:Int)),(7,ω (k:Int)),(5,.ref 0 0 0 o.length)],[(0,⟨(aj o),0,false,0,1,true⟩)],.dead,[]⟩ (.normal) ⟨[(0,.sl (aj a) a.length d),(1,.sl (aj b) b.length e),(6,ω 0),(7,ω (γ .i64 ((k:Int)+((1:Nat):Int)))),(5,.ref 0 0 0 (o.length+1))],[(0,⟨((ν (o.length*1) (aj o))++ [ω (γ .i64 ((γ .i64 ((χ (ζ (ε ((δ (k:Int))*1) (aj a)) .dead)) - (c:Int))) - (χ (ζ (ε ((δ (k:Int))*1) (aj b)) .dead))))]),0,false,0,1,true⟩)],.dead,[]⟩:=pJ 151 [] 3 3 (.k 1 l (.c n (.k 1 m (.c j (.c f (.c h (.c i (.c q (.c f (.c r (.c g .nil))))))))))) (.nil) p
theorem agN {nt:Nat} (p:41≤nt) (a b o:List Nat) (e d:Bool) (c k:Nat) (i:(Xqc (o.length+1) 1099511627776)=true) (n:(Xqc (o.length*1) (θ (aj o)))=true) (j:lit true (decide ((γ .i64 ((χ (ζ (ε ((δ (k:Int))*1) (aj a)) .dead)) - (c:Int)))<((0:Nat):Int)))=true) (g:lit false (decide ((k:Int)<(b.length:Int)))=true) (l:(chk (.int .i64) (ζ (ε ((δ (k:Int))*1) (aj a)) .dead))=true) (m:(decide (((0:Nat):Int)≤(k:Int)))=true) (f:(decide ((k:Int)<(a.length:Int)))=true) (h:lit true (decide ((k:Int)<(a.length:Int)))=true):ψ nt f151 ⟨[(0,.sl (aj a) a.length e),(1,.sl (aj b) b.length d),(6,ω (c:Int)),(7,ω (k:Int)),(5,.ref 0 0 0 o.length)],[(0,⟨(aj o),0,false,0,1,true⟩)],.dead,[]⟩ (.normal) ⟨[(0,.sl (aj a) a.length e),(1,.sl (aj b) b.length d),(6,ω 1),(7,ω (γ .i64 ((k:Int)+((1:Nat):Int)))),(5,.ref 0 0 0 (o.length+1))],[(0,⟨((ν (o.length*1) (aj o))++ [ω (γ .i64 ((γ .i64 ((χ (ζ (ε ((δ (k:Int))*1) (aj a)) .dead)) - (c:Int)))+((16777216:Nat):Int)))]),0,false,0,1,true⟩)],.dead,[]⟩:=pJ 151 [] 3 5 (.k 1 i (.c n (.k 1 j (.c g (.c l (.c m (.c f (.c h .nil)))))))) (.nil) p
theorem agO {nt:Nat} (p:41≤nt) (a b o:List Nat) (e d:Bool) (c k:Nat) (i:(Xqc (o.length+1) 1099511627776)=true) (n:(Xqc (o.length*1) (θ (aj o)))=true) (j:lit false (decide ((γ .i64 ((χ (ζ (ε ((δ (k:Int))*1) (aj a)) .dead)) - (c:Int)))<((0:Nat):Int)))=true) (g:lit false (decide ((k:Int)<(b.length:Int)))=true) (l:(chk (.int .i64) (ζ (ε ((δ (k:Int))*1) (aj a)) .dead))=true) (m:(decide (((0:Nat):Int)≤(k:Int)))=true) (f:(decide ((k:Int)<(a.length:Int)))=true) (h:lit true (decide ((k:Int)<(a.length:Int)))=true):ψ nt f151 ⟨[(0,.sl (aj a) a.length e),(1,.sl (aj b) b.length d),(6,ω (c:Int)),(7,ω (k:Int)),(5,.ref 0 0 0 o.length)],[(0,⟨(aj o),0,false,0,1,true⟩)],.dead,[]⟩ (.normal) ⟨[(0,.sl (aj a) a.length e),(1,.sl (aj b) b.length d),(6,ω 0),(7,ω (γ .i64 ((k:Int)+((1:Nat):Int)))),(5,.ref 0 0 0 (o.length+1))],[(0,⟨((ν (o.length*1) (aj o))++ [ω (γ .i64 ((χ (ζ (ε ((δ (k:Int))*1) (aj a)) .dead)) - (c:Int)))]),0,false,0,1,true⟩)],.dead,[]⟩:=pJ 151 [] 3 1 (.k 1 i (.c n (.k 1 j (.c g (.c l (.c m (.c f (.c h .nil)))))))) (.nil) p
theorem agP {nt:Nat} (g:41≤nt) (a b o:List Nat) (f d:Bool) (c k:Nat) (e:lit false (decide ((k:Int)<(a.length:Int)))=true):ψ nt f151 ⟨[(0,.sl (aj a) a.length f),(1,.sl (aj b) b.length d),(6,ω (c:Int)),(7,ω (k:Int)),(5,.ref 0 0 0 o.length)],[(0,⟨(aj o),0,false,0,1,true⟩)],.dead,[]⟩ (.exit 0) ⟨[(5,.ref 0 0 0 o.length)],[(0,⟨(aj o),0,false,0,1,true⟩)],.dead,[]⟩:=pJ 151 [] 1 0 (.c e .nil) (.nil) g
theorem acQ (a b o r:List Nat) (d c:Bool) (f:aN prog ap [] 41 (.block 0 (.loop (af 0 (ai f151)))) ⟨[(0,.sl (aj a) a.length d),(1,.sl (aj b) b.length c),(4,.nilS),(5,.nilS),(6,ω 0),(7,ω 0),(8,.dead),(12,.dead),(24,.dead),(32,.dead)],[],.dead,[]⟩ (.normal) ⟨[(5,.ref 0 0 0 o.length)],[(0,⟨(aj o),0,false,0,1,true⟩)],.dead,[]⟩) (e:CO 185 [.sl (ν (o.length*1) (aj o)) o.length true] (.ret (.sl (aj r) r.length false))):CO 151 [.sl (aj a) a.length d,.sl (aj b) b.length c] (.ret (.sl (aj r) r.length false)):=pK [0] 0 0 .nil (.c e (.l f .nil))
def nz:List UInt8→Nat
 | []=>0
 |c::r=>if c=0 then nz r+1 else 0
theorem aaK (s:List UInt8):s.drop (nz s)=s.dropWhile (· ==0):=by
 induction s with
 |nil=>rfl
 |cons c r ih=>
  simp only [nz,Xja];by_cases h:c=0
  ·subst h;simpa using ih
  ·simp [h]
theorem akH (s:List UInt8):nz s≤s.length:=by
 induction s with
 |nil=>exact Δ _
 |cons c r ih=>simp only [nz,ξ];split<;>omega
def adO (s:List UInt8) (k:Nat):St:=⟨[(0,.str s),(3,ω (k:Int))],[],.dead,[]⟩
theorem ade {p r:List UInt8} {c:UInt8} {k:Nat} (h:k=p.length):(p++c::r).getD k 0=c:=by subst h;simp
theorem adB (c:UInt8):(c.toNat=0)=(c=0):=by
 apply propext;constructor
 ·intro h;apply UInt8.toNat_inj.1;simpa using h
 ·intro h;subst h;rfl
theorem WA {nt:Nat} (b:19≤nt) (s:List UInt8) (hs:s.length<2^40):∀ (r p:List UInt8),p++r=s→aC prog ap [] nt (af 0 (ai f133)) (fun _=> .exit 0) (adO s) (adO s) p.length (p.length+nz r):=by
 intro r
 induction r with
 |nil=>
  intro p h;have hp:p.length=s.length:=by rw [← h];simp
  refine .done (aih b s p.length ?_);rw [hp,bK];simp [lit]
 | cons c r ih=>
  intro p h;have f:p.length+(r.length+1)=s.length:=by rw [← h];simp
  have e:s.getD p.length 0=c:=by rw [← h];exact ade rfl
  by_cases hc:c=0
  ·have hnext:=ih (p++ [c]) (by simp [h]);rw [η,φ] at hnext;simp only [nz,if_pos hc];rw [show p.length+(nz r+1)=p.length+1+nz r by omega];refine .next ?_ hnext
   have a:=aif b s p.length;have d:c.toNat=0:=by subst hc;rfl
   simp (disch:=first|omega|(simp [ay,az]<;>omega)) only [aK,e,d,qK,decide_true,bU,eU,bJ,bK,dI,bC] at a;apply a<;>first|exact True.intro|omega|assumption|exact rfl
  ·simp only [nz,if_neg hc,Xq8];refine .done ?_;have a:=aig b s p.length;have d:¬ c.toNat=0:=by rw [adB];exact hc
   simp (disch:=first|omega|(simp [ay,az]<;>omega)) only [aK,e,qK,fK,gV,iD,eU,bJ,bK,bU] at a;apply a<;>first|exact True.intro|omega|assumption|exact rfl
theorem iH (s:List UInt8) (hs:s.length<2^40):CO 133 [.str s] (.ret (.str (ae (ah s)))):=by
 have b:=akH s;have h:=aeO s (nz s);simp (disch:=first|omega|(simp [ay,az]<;>omega)) only [eU,bJ,aK,Xq1,aaK] at h;rw [FM];apply h<;>first|exact True.intro|omega|assumption|exact rfl|skip
 ·refine aC.blk (fun nt a=>WA a s hs s [] rfl) (by simp) rfl (aP.of ⟨rfl,rfl,trivial⟩) ?_;rw [Xqa,Xqd];exact aP.refl _
theorem Qi (l:List Nat) (d:Nat):ν l.length (aj (l++ [d]))=aj l:=by
 rw [dQ];simp
theorem EI (l:List Nat) (d:Nat):ζ (ε l.length (aj (l++ [d]))) .dead= ω (d:Int):=by
 rw [gI (by simp)];simp
def SB (nn:Bool) (l:List Nat):St:=⟨[(0,.sl (aj l) l.length nn)],[],.dead,[]⟩
theorem Y0 {nt:Nat} (f:21≤nt) (nn:Bool):∀ (k:Nat) (l:List Nat),l.length=k→k<2^40→aC prog ap [] nt (af 0 (ai f185)) (fun _=> .exit 0) (SB nn) (SB nn) l (eY l):=by
 intro k
 induction k with
 |zero=>
  intro l c _;have:l= []:=Xxo c;subst this;exact .done (alV f [] nn rfl)
 | succ k ih=>
  intro l c h;rcases Xzz l with rfl|⟨a,d,rfl⟩
  ·simp at c
  ·rw [Xz0] at c ⊢;have e:a.length=k:=by simpa using c
   have g:a.length+1 - 1=a.length:=by omega
   rw [pR];by_cases hd:d=0
   ·rw [if_pos hd];refine .next ?_ (ih a e (by omega))
    have b:=alT f (a++ [d]) nn;simp (disch:=first|omega|(simp [ay,az]<;>omega)) only [η,ξ,Xqa,Xqd,jU,g,eU,bJ,aK,Ξ,EI,bi,qK,bU,eP,bK,Qi,Xzd] at b;simp only [SB,η,φ];apply b<;>first|exact True.intro|omega|assumption|exact rfl
   ·rw [if_neg hd];refine .done ?_;have b:=alU f (a++ [d]) nn;simp (disch:=first|omega|(simp [ay,az]<;>omega)) only [η,ξ,Xqa,Xqd,jU,g,aK,Ξ,EI,bi,qK,fK,gV,iD,eP,eU,bJ,bK,bU] at b;simp only [SB,η,φ];apply b<;>first|exact True.intro|omega|assumption|exact rfl
theorem zZ (l:List Nat) (nn:Bool) (b:l.length<2^40):CO 185 [.sl (aj l) l.length nn] (.ret (.sl (aj (eY l)) (eY l).length nn)):=
 ag6 l (eY l) nn (aC.blk (fun nt a=>Y0 a nn _ l rfl b) (by simp) rfl (aP.of ⟨rfl,trivial⟩) (aP.of ⟨rfl,trivial⟩))
end Go.Proofs.Tryz
