/- Contracts of functions that the law reaches, each by its own hypotheses; joined by a program of mine. -/
import Derived.Test.YtdmfgmmooalfnaaGreatDoorAp
import Derived.Test.YtdmfgmmooalfnaaGreatDoorChecked
import Derived.Eval
import Derived.Test.YtdmfgmmooalfnaaGreatDoorM5
set_option linter.unusedSimpArgs false
set_option linter.unusedVariables false
open Go AM
open List renaming range→Xq6,headD→ζ,drop→ε,take→ν,reverse_cons→Xz1,reverse_nil→Xwx,nil_append→Xqk,singleton_append→Xxh,dropWhile_cons→Xxt,take_append_of_le_length→Xxv,take_of_length_le→Xqc,getD_eq_getElem?_getD→π,getElem?_append_right→Xjs,eq_nil_of_length_eq_zero→Xxl,eq_nil_or_concat→Xzv,concat_eq_append→Xzw,length→η,getD→Xql,foldl_cons→Xjm,length_cons→μ,ext_getElem?→Xju,getElem?_set→Xzk,getElem?_eq_none→Xq4,length_set→Xk8,drop_eq_getElem_cons→Xjh,length_drop→Xxx,getElem?_eq_getElem→ξ,map_take→Xwc,map_drop→Xzn,set_eq_take_append_cons_drop→Xx5,getElem?_map→Xq3,range_succ→Xwd,map_append→Xxy,replicate_succ'→Xj1,flatten_append→Xzo,getElem?_append_left→Xxc,length_append→θ,length_reverse→Xzp,dropWhile_sublist→Xzs,take_length→Xq1,map_congr_left→Xjj,map→Xw4,map_map→Xwa,all→Xzu,range_succ_eq_map→Xwk,map_cons→Xqi,mem_cons_self→Xjo,mem_cons_of_mem→Xx1,mem_of_mem_take→Xxg,replicate→κ,cons_append→Xq9,length_take→Xq2,length_nil→Xqb,append_assoc→Xqe,length_replicate→Xxs,append_nil→Θ,headD_cons→Xx9,headD_nil→Xws,take_succ_cons→Xxu,drop_zero→Xzh,drop_succ_cons→Xz8,replicate_succ→Xxb,set_append_right→Xv5,length_tail→Xvw,length_singleton→σ,tail_cons→Xzi,tail_nil→Xvq,length_map→Xx0,dropWhile→Yql
open IntKind renaming wrap→γ,bits→Xqd
open AV renaming toInt→τ,int→Xxm
open Int renaming toNat→δ,tdiv→Xxd,tmod→Xjt,tdiv_eq_ediv_of_nonneg→Xz2,tmod_eq_emod_of_nonneg→Xvb,fdiv→Xqw,fdiv_eq_ediv_of_nonneg→Xz3,natCast_nonneg→Xkn,natCast_ediv→Xk1,natCast_mul→Xw5
open Nat renaming mul_one→χ,le_refl→Δ,sub_self→Xwu,sub_zero→Xjx,ble→Xqm,pow_succ→Xqz,mul_comm→Φ,mul_assoc→Xqn,add_mul→Xxj,zero_mul→Xwv,zero_add→Xqf,mul_le_mul_right→Xqt,pow_add→Xxi,add_comm→Xxp,add_mul_div_right→Xzx,two_pow_pos→Xqr,div_lt_iff_lt_mul→Xqs,pow_le_pow_right→Xqa,mod_eq_of_lt→υ,div_eq_of_lt→Xxw,add_mul_mod_self_right→Xva,shiftLeft_add_eq_or_of_lt→Xwy,shiftLeft_eq→Xk0,or_comm→Yqa,pow_mul→Xx2,lt_of_le_of_lt→φ,ble_eq_true_of_le→Xqv,lt_of_lt_of_le→Ψ,le_total→Yxb,mod_one→Yqb,mod_lt→Xqu,one_mul→Xzy,div_div_eq_div_mul→Xxq,zero_le→Xxo,beq→Xqq,beq_refl→Xvd,div_add_mod→Xq7,min_eq_left→Xx7,mul_add→Xq8,pow_pos→Yqc,mul_zero→Xx8,pow_zero→Xve,div_one→Xzz,succ_eq_add_one→Xkj,add_zero→Xq0,mul_le_mul_left→Xqx,le_trans→Xqy,mul_mod_mul_left→Xw3,mul_lt_mul_of_pos_left→Xj9,add_mul_mod_self_left→Xzg,add_mul_div_left→Xz5,div_le_self→Xjp,log2→Yxw,log2_eq_iff→Yqe,add_assoc→Xzc,div_pos→Xvp,eq_zero_or_pos→Γ,le_div_iff_mul_le→Xzd,add_sub_cancel→Xwe,lt_or_ge→Xq5,mul_pos→Xx3,lt_of_mul_lt_mul_right→Xvc,lt_trans→Xxa,le_of_lt→Xww,mul_div_mul_left→Xke,gcd→Xxk,gcd_comm→Xv6,gcd_zero_left→Xwo,gcd_le_left→Xv7,gcd_pos_of_pos_right→Xjz,ble_eq→Xzl,strongRecOn→Xv8
open BitVec renaming toNat→Xxf,ofInt→Xqg,ofInt_natCast→Xkc,toNat_ofNat→Xkm,toNat_or→Xk9
open UInt8 renaming toNat→Ξ,ofNat→Xqj
open Bool renaming false_and→Xjg,false_eq_true→Xjn,not_eq_true'→Xqo,eq_iff_iff→Xxz,and_eq_true→ο,eq_false_iff→Xvk
open Function renaming comp→Xvo
open Decidable renaming em→Xxn
namespace Go.Proofs.Tryz
abbrev ψ (n:Nat) (f:Func):=ak prog ap [] n (af 0 (ah f))
theorem af2:(Xq6 ap.nty).map ap.ty.get=(Xq6 ap.nty).map (Xo prog):=by kernel_rfl
noncomputable def af0 (i:Nat):Bool:=match ap.fn.get i with|some _=>true|_=>false
theorem af1:(Xq6 ap.nfn).map (fun i=>(ap.fn.get i).map AF.fn)=(Xq6 ap.nfn).map fun i=>match af0 i with|true=>prog.funcs[i]? |false=>none:=by kernel_rfl
theorem XR:(Xq6 ap.nfn).all (fun i=>DW (ap.fn.get i))=true:=by kernel_rfl
theorem alm:iU prog ap:=XV af2
theorem alD:JB prog ap:=YY af1 XR
theorem mixed:prog.follows .mixedOrders=true:=Tryz.checked.mixed
end Go.Proofs.Tryz
namespace Go.Proofs.Tryz
open Go AM
theorem Vp:Gi prog ap:=⟨alm,mixed,alD⟩
abbrev CO (f:Nat) (args:List AV) (out:kD):Prop:=bC prog ap f args [] out []
theorem cK {ans:List (kD × List a_)} {ps:List Prop} {f:Nat} {args:List AV} {h a:List a_} {out:kD} (hp:PS prog ap ps ans [] [])
  (he:tN ap (yK prog ap 3000 4) 3000 .dead f args h ⟨true,[],[],[],ans,[]⟩= .ok (out,a,.dead) ⟨true,[],[],ps,[],[]⟩:=by kernel_rfl):bC prog ap f args h out a:=ck Vp hp he
theorem pK (ls:List Nat) (n k:Nat) {ans:List (kD × List a_)} {a:xC} {hs:List vU} {bs:List Bool} {ps:List Prop} {f:Nat} {args:List AV} {h b:List a_} {out:kD} (c:lV bs) (hp:PS prog ap ps ans a hs)
  (he:O0 prog ap (yK prog ap 3000 4) 3000 ls f args h a ⟨false,xI n k,[],[],ans,hs⟩= .ok (out,b,.dead) ⟨false,[],bs,ps,[],[]⟩:=by kernel_rfl):bC prog ap f args h out b:=pk Vp ls n k c hp he
theorem pJ (f:Nat) (ls:List Nat) (n k:Nat) {nt c:Nat} {ans:List (kD × List a_)} {b:xC} {hs:List vU} {bs:List Bool} {ps:List Prop} {a:Code} {s s':St} {d:List a_} {e:bD} (g:lV bs) (hp:PS prog ap ps ans b hs) (h:c≤nt)
  (he:Ob prog ap d f c ls a s b (xI n k) ans hs s'.env= .ok ((e,s'),[]) ⟨false,[],bs,ps,[],[]⟩:=by kernel_rfl):ak prog ap d nt a s e s':=pj Vp f ls n k g hp h he
theorem pN (f:Nat) (ls:List Nat) (n k:Nat) {nt c:Nat} {ans:List (kD × List a_)} {b:xC} {hs:List vU} {bs:List Bool} {ps:List Prop} {a:Code} {s s':St} {d:List a_} {e:bD} (g:lV bs) (hp:PS prog ap ps ans b hs) (h:c≤nt)
  (he:Oa prog ap d f c ls a s b (xI n k) ans hs s'.env= .ok ((e,s'),[]) ⟨false,[],bs,ps,[],[]⟩:=by kernel_rfl):ak prog ap d nt a s e s':=pn Vp f ls n k g hp h he
end Go.Proofs.Tryz
set_option maxRecDepth 100000
open Go AM
namespace Go.Proofs.Tryz
theorem L8 {nt:Nat} (e:21≤nt) (a:List AV) (n:Nat) (c:Bool) (b:(decide ((0:Int)≤(γ .i64 ((n:Int) - (1:Int)))))=true) (d:(decide ((γ .i64 ((n:Int) - (1:Int)))≤(n:Int)))=true) (i:lit true ((τ (ζ (ε ((δ (γ .i64 ((n:Int) - (1:Int))))*1) a) .dead))==(0:Int))=true) (f:(chk (.int .u32) (ζ (ε ((δ (γ .i64 ((n:Int) - (1:Int))))*1) a) .dead))=true) (g:(decide ((γ .i64 ((n:Int) - (1:Int)))<(n:Int)))=true) (h:lit true (decide ((0:Int)<(n:Int)))=true):ψ nt f162 ⟨[(0,.sl a n c)],[],.dead,[]⟩ (.normal) ⟨[(0,.sl (ν ((δ (γ .i64 ((n:Int) - (1:Int))))*1) a) ((δ (γ .i64 ((n:Int) - (1:Int)))) - 0) c)],[],.dead,[]⟩:=pJ 162 [] 2 3 (.k 1 b (.c d (.c i (.c f (.c b (.c g (.c h .nil))))))) (.nil) e
theorem L9 {nt:Nat} (d:21≤nt) (a:List AV) (n:Nat) (b:Bool) (f:lit false ((τ (ζ (ε ((δ (γ .i64 ((n:Int) - (1:Int))))*1) a) .dead))==(0:Int))=true) (c:(chk (.int .u32) (ζ (ε ((δ (γ .i64 ((n:Int) - (1:Int))))*1) a) .dead))=true) (h:(decide ((0:Int)≤(γ .i64 ((n:Int) - (1:Int)))))=true) (e:(decide ((γ .i64 ((n:Int) - (1:Int)))<(n:Int)))=true) (g:lit true (decide ((0:Int)<(n:Int)))=true):ψ nt f162 ⟨[(0,.sl a n b)],[],.dead,[]⟩ (.exit 0) ⟨[(0,.sl a n b)],[],.dead,[]⟩:=pJ 162 [] 2 1 (.c f (.c c (.c h (.c e (.c g .nil))))) (.nil) d
theorem L_ {nt:Nat} (c:21≤nt) (b:List AV) (n:Nat) (a:Bool) (d:lit false (decide ((0:Int)<(n:Int)))=true):ψ nt f162 ⟨[(0,.sl b n a)],[],.dead,[]⟩ (.exit 0) ⟨[(0,.sl b n a)],[],.dead,[]⟩:=pJ 162 [] 2 0 (.k 1 d .nil) (.nil) c
theorem gW {x:Int} (h: -2^63≤x) (a:x<2^63):γ .i64 x=x:=by
 show (if (true && decide (x % 2^64≥2^63))=true then x % 2^64 - 2^64 else x % 2^64)=x;rw [Bool.true_and];by_cases hx:x % 2^64≥2^63
 ·rw [if_pos (by simpa using hx)];omega
 ·rw [if_neg (by simpa using hx)];omega
abbrev ci (n:Int):AV:= ω n
def ai (l:List Nat):List AV:=l.map fun (d:Nat)=>Xxm .u32 (d:Int)
theorem au (l:List Nat):(ai l).length=l.length:=by simp [ai]
theorem BG (l r:List Nat):ai (l++r)=ai l++ai r:=by simp [ai]
def eG (l:List Nat):List Nat:=(l.reverse.dropWhile (· ==0)).reverse
theorem oI (l:List Nat) (d:Nat):eG (l++ [d])=if d=0 then eG l else l++ [d]:=by
 unfold eG;rw [List.reverse_append];simp only [Xz1,Xwx,Xqk,Xxh,Xxt];by_cases h:d=0
 ·subst h;simp
 ·simp [h]
theorem Tj (l:List Nat) (d:Nat):ν (l.length*1) (ai (l++ [d]))=ai l:=by
 rw [BG,χ,Xxv (by rw [au];exact Δ _),Xqc (by rw [au];exact Δ _)]
theorem zt (l:List Nat) (d:Nat):ζ (ε (l.length*1) (ai (l++ [d]))) .dead= .int .u32 (d:Int):=by
 rw [nV,BG,χ,π,Xjs (by rw [au];exact Δ _),au,Xwu];rfl
def Xt (nn:Bool) (l:List Nat):St:=⟨[(0,.sl (ai l) l.length nn)],[],.dead,[]⟩
theorem TB {nt:Nat} (i:21≤nt) (g:Bool):∀ (k:Nat) (l:List Nat),l.length=k→k<2^40→aA prog ap [] nt (af 0 (ah f162)) (fun _=> .exit 0) (Xt g) (Xt g) l (eG l):=by
 intro k
 induction k with
 |zero=>
  intro l e _;have:l= []:=Xxl e;subst this;exact .done (L_ i (ai []) 0 g (by rfl))
 | succ k ih=>
  intro l e q;rcases Xzv l with rfl|⟨a,d,rfl⟩
  ·simp at e
  ·rw [Xzw] at e ⊢;have f:a.length=k:=by simpa using e
   have b:(a++ [d]).length=k+1:=by simp [f]
   have h:γ .i64 ((((a++ [d]).length:Nat):Int) - 1)=(k:Int):=by
    rw [b,gW (by omega) (by omega)];omega
   have c:(δ (γ .i64 ((((a++ [d]).length:Nat):Int) - 1)))=a.length:=by rw [h];omega
   have m:decide ((0:Int)≤γ .i64 ((((a++ [d]).length:Nat):Int) - 1))=true:=by rw [h];simp
   have p:decide (γ .i64 ((((a++ [d]).length:Nat):Int) - 1)≤(((a++ [d]).length:Nat):Int))=true:=by rw [h,b];simp;omega
   have o:decide (γ .i64 ((((a++ [d]).length:Nat):Int) - 1)<(((a++ [d]).length:Nat):Int))=true:=by rw [h,b];simp;omega
   have j:lit true (decide ((0:Int)<(((a++ [d]).length:Nat):Int)))=true:=by rw [b];simp [lit]
   have n:chk (.int .u32) (ζ (ε (δ (γ .i64 ((((a++ [d]).length:Nat):Int) - 1))*1) (ai (a++ [d]))) .dead)=true:=by rw [c,zt];rfl
   rw [oI];by_cases hd:d=0
   ·rw [if_pos hd];refine .next ?_ (ih a f (by omega))
    have:=L8 i (ai (a++ [d])) (a++ [d]).length g m p (by rw [c,zt];subst hd;rfl) n o j;rw [c,Tj,Xjx] at this;exact this
   ·rw [if_neg hd];refine .done (L9 i (ai (a++ [d])) (a++ [d]).length g (by rw [c,zt];simp [lit,τ,hd]) n m o j)
theorem OL (l:List Nat) (a:Bool) (b:l.length<2^40):CO 162 [.sl (ai l) l.length a] (.ret (.sl (ai (eG l)) (eG l).length a)):=pK [0] 0 0 .nil (.l (aA.blk (fun nt c=>TB c a _ l rfl b) (by simp) rfl (aH.of ⟨rfl,trivial⟩) (aH.of ⟨rfl,trivial⟩):aG prog ap [] 21 (.block 0 (.loop (af 0 (ah f162)))) ⟨[(0,.sl (ai l) l.length a),(2,.nilS),(14,.dead)],[],.dead,[]⟩ (.normal) ⟨[(0,.sl (ai (eG l)) (eG l).length a)],[],.dead,[]⟩) .nil)
theorem Si {nt:Nat} (c:38≤nt) (s:List UInt8) (cs:List AV) (L:Nat) (n k:Int) (e:(Xqm (((0+(δ (γ .i64 (Xxd k (4:Int)))))*1)+1) (η cs))=true) (a:(decide ((0:Int)≤(γ .i64 (Xxd k (4:Int)))))=true) (b:(decide ((γ .i64 (Xxd k (4:Int)))<(L:Int)))=true) (d:(decide ((0:Int)≤(γ .i64 ((8:Int)*(Xjt k (4:Int))))))=true) (f:(decide ((0:Int)≤(γ .i64 ((γ .i64 ((((η s):Nat):Int) - (1:Int))) - k))))=true) (g:(decide ((γ .i64 ((γ .i64 ((((η s):Nat):Int) - (1:Int))) - k))<(((η s):Nat):Int)))=true) (h:(chk (.int .u32) (ζ (ε ((0+(δ (γ .i64 (Xxd k (4:Int)))))*1) cs) .dead))=true) (i:lit true (decide (k<n))=true):ψ nt f119 ⟨[(0,.str s),(3,.ref 0 0 0 L),(12,ω n),(13,ω k)],[(0,⟨cs,0,false,0,1,true⟩)],.dead,[]⟩ (.normal) ⟨[(0,.str s),(3,.ref 0 0 0 L),(12,ω n),(13,ω (γ .i64 (k+(1:Int))))],[(0,⟨(ν ((0+(δ (γ .i64 (Xxd k (4:Int)))))*1) cs++ [.int .u32 (γ .u32 (Xxf (Xqg (Xqd .u32) (τ (ζ (ε ((0+(δ (γ .i64 (Xxd k (4:Int)))))*1) cs) .dead))|||Xqg (Xqd .u32) (γ .u32 ((γ .u32 ((Ξ (Xql s (δ (γ .i64 ((γ .i64 ((((η s):Nat):Int) - (1:Int))) - k))) 0):Nat):Int))*2^(min (δ (γ .i64 ((8:Int)*(Xjt k (4:Int))))) (Xqd .u32)))))))]++ε (((0+(δ (γ .i64 (Xxd k (4:Int)))))*1)+1) cs),0,false,0,1,true⟩)],.dead,[]⟩:=pJ 119 [] 1 1 (.c e (.c a (.c b (.c d (.k 1 f (.c g (.c h (.c a (.c b (.k 1 i .nil)))))))))) (.nil) c
theorem Sj {nt:Nat} (a:38≤nt) (s:List UInt8) (cs:List AV) (L:Nat) (n k:Int) (b:lit false (decide (k<n))=true):ψ nt f119 ⟨[(0,.str s),(3,.ref 0 0 0 L),(12,ω n),(13,ω k)],[(0,⟨cs,0,false,0,1,true⟩)],.dead,[]⟩ (.exit 0) ⟨[(0,.str s),(3,.ref 0 0 0 L),(12,ω n),(13,ω k)],[(0,⟨cs,0,false,0,1,true⟩)],.dead,[]⟩:=pJ 119 [] 1 0 (.c b .nil) (.nil) a
def ag (s:List UInt8):Nat:=s.foldl (fun a b=>a*256+b.toNat) 0
theorem GN (s:List UInt8):∀ a,s.foldl (fun a b=>a*256+b.toNat) a=a*256^s.length+ag s:=by
 induction s with
 |nil=>intro a;simp [ag]
 | cons b r ih=>
  intro a;simp only [Xjm,ag,μ,Xqz];rw [ih,ih (0*256+b.toNat)];have:a*(256^r.length*256)=a*256*256^r.length:=by
   rw [Φ (256^r.length) 256,Xqn]
  rw [this];simp only [Xxj,Xwv,Xqf];omega
theorem iT (b:UInt8) (r:List UInt8):ag (b::r)=b.toNat*256^r.length+ag r:=by
 show (b::r).foldl _ 0=_;rw [Xjm,GN];simp
theorem vT (s:List UInt8):ag s<256^s.length:=by
 induction s with
 |nil=>simp [ag]
 |cons b r ih=>
  rw [iT,μ,Xqz];have:=b.toNat_lt;have h:b.toNat*256^r.length≤255*256^r.length:=Xqt _ (by omega);omega
def bI (m n:Nat):List Nat:=(Xq6 m).map fun i=>n / 2^(32*i) % 2^32
theorem aP (m n:Nat):(bI m n).length=m:=by simp [bI]
theorem qW {m n i:Nat} (h:i<m):(bI m n)[i]? =some (n / 2^(32*i) % 2^32):=by simp [bI,h]
theorem Wh {m j n b:Nat} (d:n<2^(8*j)) (l:b<256):
  bI m (b*2^(8*j)+n)=(bI m n).set (j / 4) (n / 2^(32*(j / 4)) % 2^32+b*2^(8*(j % 4))):=by
 apply Xju;intro i;by_cases hi:i<m
 ·rw [qW hi,Xzk];have o:j=4*(j / 4)+j % 4:=by omega
  generalize k:j / 4=q at*
  generalize g:j % 4=r at*
  have p:r<4:=by omega
  by_cases h1:q=i
  ·subst h1;rw [if_pos rfl,if_pos (by rw [aP];exact hi)];congr 1;have e:8*j=8*r+32*q:=by omega
   rw [e,Xxi,← Xqn,Xxp,Xzx _ _ (Xqr _)];have a:n / 2^(32*q)<2^(8*r):=by
    rw [Xqs (Xqr _),← Xxi,← e];exact d
   have c:2^(8*r)≤2^24:=Xqa (by omega) (by omega);have f:b*2^(8*r)≤255*2^(8*r):=Xqt _ (by omega);rw [υ (by omega),υ (by omega)]
  ·rw [if_neg h1,qW hi];congr 1;rcases Nat.lt_or_gt_of_ne h1 with h|h
   ·
    have e:8*j+8≤32*i:=by omega
    have a:b*2^(8*j)+n<2^(32*i):=by
     have c:2^(8*j+8)≤2^(32*i):=Xqa (by omega) e;have f:b*2^(8*j)≤255*2^(8*j):=Xqt _ (by omega);rw [Xxi] at c;omega
    rw [Xxw a,Xxw (by omega)]
   ·
    have e:8*j=(8*j - 32*i - 32)+32+32*i:=by omega
    rw [e,Xxi,Xxi,← Xqn,← Xqn,Xxp,Xzx _ _ (Xqr _),Xva]
 ·rw [Xq4 (by rw [aP];omega),Xq4 (by rw [Xk8,aP];omega)]
theorem FK {x:Int} (h:0≤x) (a:x<2^32):γ .u32 x=x:=by
 show (if (false && decide (x % 2^32≥2^31))=true then x % 2^32 - 2^32 else x % 2^32)=x;simp only [Xjg,Xjn,if_false];omega
theorem aei {a b r:Nat} (d:a<2^(8*r)) (i:b<256) (j:r<4):
  γ .u32 (Xxf (Xqg (Xqd .u32) (a:Int)|||Xqg (Xqd .u32) (γ .u32 ((b:Int)*2^(8*r)))))=((a+b*2^(8*r):Nat):Int):=by
 have k:2^(8*r)≤2^24:=Xqa (by omega) (by omega);have l:b*2^(8*r)≤255*2^(8*r):=Xqt _ (by omega);have e:((b:Int)*2^(8*r))=((b*2^(8*r):Nat):Int):=by simp
 have f:γ .u32 ((b*2^(8*r):Nat):Int)=((b*2^(8*r):Nat):Int):=FK (by omega) (by omega);rw [e,f];have c:∀ x:Nat,x<2^32→(Xqg (Xqd .u32) (x:Int)).toNat=x:=by
  intro x g;show (Xqg 32 (x:Int)).toNat=x;rw [Xkc,Xkm,υ g]
 rw [Xk9,c a (by omega),c _ (by omega)];have h:a|||b*2^(8*r)=a+b*2^(8*r):=by
  have:=Xwy d b;rw [Xk0] at this;rw [Yqa,← this,Xxp]
 rw [h,FK (by omega) (by omega)]
theorem X_ {s:List UInt8} {j:Nat} (d:j<s.length):ag (s.drop (s.length - (j+1)))=(s.getD (s.length - 1 - j) 0).toNat*2^(8*j)+ag (s.drop (s.length - j)):=by
 have a:s.length - (j+1)<s.length:=by omega
 rw [Xjh a,iT];have c:s.length - (j+1)+1=s.length - j:=by omega
 rw [c,Xxx];have b:s.length - (s.length - j)=j:=by omega
 rw [b,π,show s.length - 1 - j=s.length - (j+1) by omega,ξ a];have:(256:Nat)^j=2^(8*j):=by rw [Xx2]
 rw [this];rfl
def ah_ (s:List UInt8) (L:Nat) (j:Nat):St:=⟨[(0,.str s),(3,.ref 0 0 0 L),(12,ω (s.length:Int)),(13,ω (j:Int))],[(0,⟨ai (bI L (ag (s.drop (s.length - j)))),0,false,0,1,true⟩)],.dead,[]⟩
theorem Qu (l:List Nat) (i:Nat) (x:Nat) (a:i<l.length):ν i (ai l)++ [Xxm .u32 (x:Int)]++ε (i+1) (ai l)=ai (l.set i x):=by
 unfold ai;rw [← Xwc,← Xzn,Xx5,if_pos a];simp
theorem ZG {nt:Nat} (h:38≤nt) (s:List UInt8) (hs:s.length<2^40):∀ (d j:Nat),j+d=s.length→aA prog ap [] nt (af 0 (ah f119)) (fun _=> .exit 0) (ah_ s ((s.length+3) / 4)) (ah_ s ((s.length+3) / 4)) j s.length:=by
 intro d
 induction d with
 |zero=>
  intro j u;have:j=s.length:=by omega
  subst this;exact .done (Sj h s _ _ (s.length:Int) (s.length:Int) (by simp [lit]))
 | succ d ih=>
  intro j u;refine .next ?_ (ih (j+1) (by omega))
  have b:j<s.length:=by omega
  have f:j / 4<(s.length+3) / 4:=by omega
  have i:γ .i64 (Xxd (j:Int) 4)=((j / 4:Nat):Int):=by
   rw [Xz2 (by omega),gW (by omega) (by omega)];omega
  have q:Xjt (j:Int) 4=((j % 4:Nat):Int):=by
   rw [Xvb (by omega)];omega
  have o:γ .i64 ((8:Int)*((j % 4:Nat):Int))=((8*(j % 4):Nat):Int):=by
   rw [gW (by omega) (by omega)];omega
  have l:γ .i64 (γ .i64 ((s.length:Int) - 1) - (j:Int))=((s.length - 1 - j:Nat):Int):=by
   have p:γ .i64 ((s.length:Int) - 1)=((s.length - 1:Nat):Int):=by
    rw [gW (by omega) (by omega)];omega
   rw [p,gW (by omega) (by omega)];omega
  have t:(0+δ ((j / 4:Nat):Int))*1=j / 4:=by omega
  have k:γ .i64 ((j:Int)+1)=((j+1:Nat):Int):=by
   rw [gW (by omega) (by omega)];omega
  have g:ag (s.drop (s.length - j))<2^(8*j):=by
   have:=vT (s.drop (s.length - j));rw [Xxx,show s.length - (s.length - j)=j by omega] at this;rw [Xx2];exact this
  have e:(s.getD (s.length - 1 - j) 0).toNat<256:=(s.getD (s.length - 1 - j) 0).toNat_lt;have hcell:ζ (ε (j / 4) (ai (bI ((s.length+3) / 4) (ag (s.drop (s.length - j)))))) .dead= .int .u32 ((ag (s.drop (s.length - j)) / 2^(32*(j / 4)) % 2^32:Nat):Int):=by
   rw [nV,π];unfold ai;rw [Xq3,qW f];rfl
  have a:ag (s.drop (s.length - j)) / 2^(32*(j / 4)) % 2^32<2^(8*(j % 4)):=by
   have m:ag (s.drop (s.length - j)) / 2^(32*(j / 4))<2^(8*(j % 4)):=by
    rw [Xqs (Xqr _),← Xxi,show 8*(j % 4)+32*(j / 4)=8*j by omega];exact g
   exact φ (Nat.mod_le _ _) m
  have hbody:=Si h s (ai (bI ((s.length+3) / 4) (ag (s.drop (s.length - j))))) ((s.length+3) / 4) (s.length:Int) (j:Int);rw [i,q,o,l,t,k] at hbody;rw [hcell] at hbody;have r:min (δ ((8*(j % 4):Nat):Int)) (Xqd .u32)=8*(j % 4):=by
   show min (δ ((8*(j % 4):Nat):Int)) 32=_;omega
  have n:δ ((s.length - 1 - j:Nat):Int)=s.length - 1 - j:=by omega
  have c:γ .u32 (((s.getD (s.length - 1 - j) 0).toNat:Nat):Int)=(((s.getD (s.length - 1 - j) 0).toNat:Nat):Int):=FK (by omega) (by omega);rw [r,n,c] at hbody;simp only [τ] at hbody;rw [aei a e (by omega)] at hbody;rw [Qu _ _ _ (by rw [aP];exact f),← Wh g e,← X_ b] at hbody;exact hbody (by rw [au,aP];exact Xqv (by omega)) (Yq0 (by omega)) (Yq0 (by omega)) (Yq0 (by omega)) (Yq0 (by omega)) (Yq0 (by omega)) rfl (Yq0 (by omega))
def digs (n:Nat):List Nat:=eG (bI n n)
theorem Xj (m n:Nat):ν (m*1) (ai (bI m n))=ai (bI m n):=by
 rw [χ,Xqc (by rw [au,aP];exact Δ _)]
theorem uM {n:Nat}:∀ (d m:Nat),n<2^(32*m)→eG (bI (m+d) n)=eG (bI m n)
 |0,m,_=>rfl
 | d+1,m,h=>by
  have a:n / 2^(32*(m+d)) % 2^32=0:=by
   have:n<2^(32*(m+d)):=Ψ h (Xqa (by omega) (by omega));rw [Xxw this]
  have e:bI (m+(d+1)) n=bI (m+d) n++ [n / 2^(32*(m+d)) % 2^32]:=by
   unfold bI;rw [show m+(d+1)=(m+d)+1 by omega,Xwd,Xxy];rfl
  rw [e,oI,if_pos a];exact uM d m h
theorem lL (n:Nat):n<2^(32*n):=by
 have a:n<2^n:=Nat.lt_two_pow_self;exact Ψ a (Xqa (by omega) (by omega))
theorem Cc {m n:Nat} (h:n<2^(32*m)):eG (bI m n)=digs n:=by
 unfold digs;rcases Yxb m n with hm|hm
 ·have:=uM (n - m) m h;rw [show m+(n - m)=n by omega] at this;exact this.symm
 ·have:=uM (m - n) n (lL n);rw [show n+(m - n)=m by omega] at this;exact this
theorem Az (s:List UInt8):ag s<2^(32*((s.length+3) / 4)):=by
 have h:=vT s;have e:(256:Nat)^s.length=2^(8*s.length):=by rw [Xx2]
 rw [e] at h;exact Ψ h (Xqa (by omega) (by omega))
theorem Xv (s:List UInt8) (hs:s.length<2^40):CO 162 [.sl (ai (bI ((s.length+3) / 4) (ag s))) ((s.length+3) / 4) true] (.ret (.sl (ai (digs (ag s))) (digs (ag s)).length true)):=by
 have h:=OL (bI ((s.length+3) / 4) (ag s)) true (by rw [aP];omega);rw [aP,Cc (Az s)] at h;exact h
theorem I5 (s:List UInt8) (hs:s.length<2^40):γ .i64 (Xxd (γ .i64 ((γ .i64 ((s.length:Int)+(4:Int))) - (1:Int))) (4:Int))=(((s.length+3) / 4:Nat):Int):=by
 rw [gW (x:=(s.length:Int)+4) (by omega) (by omega),gW (x:=(s.length:Int)+4 - 1) (by omega) (by omega),Xz2 (by omega),gW (by omega) (by omega)];omega
theorem Ql (m:Nat):gp m [Xxm .u32 0]=ai (bI m 0):=by
 unfold gp ai bI
 induction m with
 |zero=>rfl
 |succ m ih=>
  rw [Xj1,Xzo,ih,Xwd,Xxy,Xxy];simp
theorem xA (n:Nat):δ (n:Int)=n:=by omega
theorem UH (s:List UInt8):ag (s.drop (s.length - 0))=0:=by simp [ag]
theorem V3 (s:List UInt8) (hs:s.length<2^40):gp (δ (γ .i64 (Xxd (γ .i64 ((γ .i64 ((s.length:Int)+(4:Int))) - (1:Int))) (4:Int)))) [Xxm .u32 0]=ai (bI ((s.length+3) / 4) (ag (s.drop (s.length - 0)))):=by
 rw [I5 s hs,xA,Ql,UH]
theorem Rj (s:List UInt8):ag (s.drop (s.length - s.length))=ag s:=by simp
theorem alV (s:List UInt8) (hs:s.length<2^40) (c:(decide ((0:Int)≤(γ .i64 (Xxd (γ .i64 ((γ .i64 ((((η s):Nat):Int)+(4:Int))) - (1:Int))) (4:Int)))))=true) (a:(decide ((γ .i64 (Xxd (γ .i64 ((γ .i64 ((((η s):Nat):Int)+(4:Int))) - (1:Int))) (4:Int)))=(γ .i64 (Xxd (γ .i64 ((γ .i64 ((((η s):Nat):Int)+(4:Int))) - (1:Int))) (4:Int)))))=true) (d:(decide ((γ .i64 (Xxd (γ .i64 ((γ .i64 ((((η s):Nat):Int)+(4:Int))) - (1:Int))) (4:Int)))≤(1099511627776:Int)))=true):CO 119 [.str s] (.ret (.sl (ai (digs (ag s))) (digs (ag s)).length true)):=pK [0] 0 0 (.c c (.c a (.c d (.n 1 .nil)))) (.c (by rw [Xj];exact Xv s hs:CO 162 [.sl (ν (((s.length+3) / 4)*1) (ai (bI ((s.length+3) / 4) (ag s)))) ((s.length+3) / 4) true] (.ret (.sl (ai (digs (ag s))) (digs (ag s)).length true))) (.l (by rw [V3 s hs,I5 s hs,xA,← Rj s];exact aA.blk (fun nt b=>ZG b s hs s.length 0 (by omega)) (by simp) rfl (aH.of ⟨rfl,rfl,rfl,rfl,trivial⟩) (aH.of ⟨rfl,trivial⟩):aG prog ap [] 38 (.block 0 (.loop (af 0 (ah f119)))) ⟨[(0,.str s),(2,.nilS),(3,.ref 0 0 0 (δ (γ .i64 (Xxd (γ .i64 ((γ .i64 ((((η s):Nat):Int)+(4:Int))) - (1:Int))) (4:Int))))),(4,.dead),(12,ω (((η s):Nat):Int)),(13,ω 0),(14,.dead)],[(0,⟨(gp (δ (γ .i64 (Xxd (γ .i64 ((γ .i64 ((((η s):Nat):Int)+(4:Int))) - (1:Int))) (4:Int)))) [.int .u32 0]),0,false,0,1,true⟩)],.dead,[]⟩ (.normal) ⟨[(3,.ref 0 0 0 ((s.length+3) / 4))],[(0,⟨(ai (bI ((s.length+3) / 4) (ag s))),0,false,0,1,true⟩)],.dead,[]⟩) .nil))
theorem uC (s:List UInt8) (hs:s.length<2^40):CO 119 [.str s] (.ret (.sl (ai (digs (ag s))) (digs (ag s)).length true)):=
 alV s hs (by rw [I5 s hs];exact Yq0 (by omega)) (Yq0 rfl) (by rw [I5 s hs];exact Yq0 (by omega))
theorem MZ {nt:Nat} (i:43≤nt) (b a:List AV) (n c:Nat) (e f:Bool) (k:Int) (l:lit true (decide ((τ (ζ (ε ((δ k)*1) b) .dead))<(τ (ζ (ε ((δ k)*1) a) .dead))))=true) (h:(chk (.int .u32) (ζ (ε ((δ k)*1) a) .dead))=true) (d:(decide ((0:Int)≤k))=true) (j:(decide (k<(c:Int)))=true) (m:(chk (.int .u32) (ζ (ε ((δ k)*1) b) .dead))=true) (o:(decide (k<(n:Int)))=true) (g:lit true (decide ((0:Int)≤k))=true):ψ nt f210 ⟨[(0,.sl b n e),(1,.sl a c f),(5,ω k)],[],.dead,[]⟩ (.ret) ⟨[(4,ω (-1))],[],.dead,[]⟩:=pJ 210 [] 2 3 (.c l (.c h (.c d (.c j (.c m (.c d (.c o (.c g .nil)))))))) (.nil) i
theorem M_ {nt:Nat} (m:43≤nt) (c a:List AV) (n d:Nat) (i j:Bool) (k:Int) (o:lit true (decide ((τ (ζ (ε ((δ k)*1) a) .dead))<(τ (ζ (ε ((δ k)*1) c) .dead))))=true) (e:(chk (.int .u32) (ζ (ε ((δ k)*1) a) .dead))=true) (b:(decide ((0:Int)≤k))=true) (f:(decide (k<(d:Int)))=true) (g:(chk (.int .u32) (ζ (ε ((δ k)*1) c) .dead))=true) (h:(decide (k<(n:Int)))=true) (l:lit false (decide ((τ (ζ (ε ((δ k)*1) c) .dead))<(τ (ζ (ε ((δ k)*1) a) .dead))))=true) (p:lit true (decide ((0:Int)≤k))=true):ψ nt f210 ⟨[(0,.sl c n i),(1,.sl a d j),(5,ω k)],[],.dead,[]⟩ (.ret) ⟨[(4,ω 1)],[],.dead,[]⟩:=pJ 210 [] 3 5 (.c o (.c e (.c b (.c f (.c g (.c b (.c h (.c l (.c e (.c b (.c f (.c g (.c b (.c h (.c p .nil))))))))))))))) (.nil) m
theorem Na {nt:Nat} (m:43≤nt) (b a:List AV) (n d:Nat) (e f:Bool) (k:Int) (o:lit false (decide ((τ (ζ (ε ((δ k)*1) a) .dead))<(τ (ζ (ε ((δ k)*1) b) .dead))))=true) (g:(chk (.int .u32) (ζ (ε ((δ k)*1) a) .dead))=true) (c:(decide ((0:Int)≤k))=true) (h:(decide (k<(d:Int)))=true) (i:(chk (.int .u32) (ζ (ε ((δ k)*1) b) .dead))=true) (j:(decide (k<(n:Int)))=true) (l:lit false (decide ((τ (ζ (ε ((δ k)*1) b) .dead))<(τ (ζ (ε ((δ k)*1) a) .dead))))=true) (p:lit true (decide ((0:Int)≤k))=true):ψ nt f210 ⟨[(0,.sl b n e),(1,.sl a d f),(5,ω k)],[],.dead,[]⟩ (.normal) ⟨[(0,.sl b n e),(1,.sl a d f),(5,ω (γ .i64 (k - (1:Int))))],[],.dead,[]⟩:=pJ 210 [] 3 1 (.c o (.c g (.c c (.c h (.c i (.c c (.c j (.c l (.c g (.c c (.c h (.c i (.c c (.c j (.c p .nil))))))))))))))) (.nil) m
theorem Nb {nt:Nat} (e:43≤nt) (g b:List AV) (n a:Nat) (c d:Bool) (k:Int) (f:lit false (decide ((0:Int)≤k))=true):ψ nt f210 ⟨[(0,.sl g n c),(1,.sl b a d),(5,ω k)],[],.dead,[]⟩ (.exit 0) ⟨[],[],.dead,[]⟩:=pJ 210 [] 1 0 (.c f .nil) (.nil) e
def sS (a b:List Nat):Nat→Int
 |0=>0
 |k+1=>if a.getD k 0<b.getD k 0 then -1 else if b.getD k 0<a.getD k 0 then 1 else sS a b k
def agp (a b:List Nat) (na nb:Bool) (k:Nat):St:=⟨[(0,.sl (ai a) a.length na),(1,.sl (ai b) b.length nb),(5,ω ((k:Int) - 1))],[],.dead,[]⟩
def acU (r:Int):St:=⟨if r=0 then [] else [(4,ω r)],[],.dead,[]⟩
def Ux (r:Int):bD:=if r=0 then .exit 0 else .ret
theorem Jt {l:List Nat} {k:Nat} (h:k<l.length):ζ (ε (k*1) (ai l)) .dead= .int .u32 ((l.getD k 0:Nat):Int):=by
 rw [nV,χ,π];unfold ai;rw [Xq3,π,ξ h];rfl
theorem Dx {nt:Nat} (f:43≤nt) (a b:List Nat) (d e:Bool) (o:a.length=b.length) (t:a.length<2^40):∀ (k:Nat),k≤a.length→aA prog ap [] nt (af 0 (ah f210)) Ux (agp a b d e) acU k (sS a b k)
 |0,_=>by
  refine .done ?_;exact Nb f (ai a) (ai b) a.length b.length d e (((0:Nat):Int) - 1) (by decide)
 | k +1,hk=>by
  have g:(((k+1:Nat):Int) - 1)=(k:Int):=by omega
  have r:δ (k:Int)=k:=by omega
  have u:=Jt (l:=a) (k:=k) (by omega);have s:=Jt (l:=b) (k:=k) (by omega);have c:decide ((0:Int)≤(k:Int))=true:=Yq0 (by omega);have n:decide ((k:Int)<(a.length:Int))=true:=Yq0 (by omega);have m:decide ((k:Int)<(b.length:Int))=true:=Yq0 (by omega);have h:=MZ f (ai a) (ai b) a.length b.length d e (k:Int);have i:=M_ f (ai a) (ai b) a.length b.length d e (k:Int);have j:=Na f (ai a) (ai b) a.length b.length d e (k:Int);rw [r,u,s] at h i j;simp only [τ] at h i j;simp only [sS];by_cases h1:a.getD k 0<b.getD k 0
  ·rw [if_pos h1];refine .done ?_;have:=h (by simp only [lit];exact Yq0 (by omega)) rfl c m rfl n (by simp only [lit];exact c);show ak _ _ _ _ _ ⟨[_,_,(5,ω (((k+1:Nat):Int) - 1))],[],.dead,[]⟩ _ _;rw [g];exact this
  ·rw [if_neg h1];have p:lit false (decide (((a.getD k 0:Nat):Int)<((b.getD k 0:Nat):Int)))=true:=by
    simp only [lit,Xqo];exact Yq1 (by omega)
   by_cases h2:b.getD k 0<a.getD k 0
   ·rw [if_pos h2];refine .done ?_;have:=i (by simp only [lit];exact Yq0 (by omega)) rfl c m rfl n p (by simp only [lit];exact c);show ak _ _ _ _ _ ⟨[_,_,(5,ω (((k+1:Nat):Int) - 1))],[],.dead,[]⟩ _ _;rw [g];exact this
   ·rw [if_neg h2];refine .next ?_ (Dx f a b d e o t k (by omega))
    have q:lit false (decide (((b.getD k 0:Nat):Int)<((a.getD k 0:Nat):Int)))=true:=by
     simp only [lit,Xqo];exact Yq1 (by omega)
    have:=j q rfl c m rfl n p (by simp only [lit];exact c);rw [gW (by omega) (by omega)] at this;show ak _ _ _ _ _ ⟨[_,_,(5,ω (((k+1:Nat):Int) - 1))],[],.dead,[]⟩ _ _;rw [g];exact this
theorem KD {n:Nat} (h:n<2^40):γ .i64 ((n:Int) - (1:Int))=(n:Int) - 1:=gW (by omega) (by omega)
theorem acR (a b:List Nat) (c d:Bool) (f:lit true (decide ((a.length:Int)<(b.length:Int)))=true) (e:lit true (!((a.length:Int)==(b.length:Int)))=true):CO 210 [.sl (ai a) a.length c,.sl (ai b) b.length d] (.ret (ω (-1))):=pK [0] 2 3 (.c f (.c e .nil)) (.nil)
theorem acS (a b:List Nat) (c d:Bool) (f:lit false (decide ((a.length:Int)<(b.length:Int)))=true) (e:lit true (!((a.length:Int)==(b.length:Int)))=true):CO 210 [.sl (ai a) a.length c,.sl (ai b) b.length d] (.ret (ω 1)):=pK [0] 2 1 (.c f (.c e .nil)) (.nil)
theorem acT (a b:List Nat) (c d:Bool) (f:a.length<2^40) (e:a.length=b.length) (g:sS a b a.length=0) (i:lit false (!((a.length:Int)==(b.length:Int)))=true):CO 210 [.sl (ai a) a.length c,.sl (ai b) b.length d] (.ret (ω 0)):=pK [0] 1 0 (.c i .nil) (.l (by exact aA.blk (fun nt h=>Dx h a b c d e f _ (Δ _)) (by simp [Ux,g]) (by simp [Ux,g,pg]) (aH.of ⟨rfl,rfl,congrArg _ (KD f),trivial⟩) (aH.of trivial):aG prog ap [] 43 (.block 0 (.loop (af 0 (ah f210)))) ⟨[(0,.sl (ai a) a.length c),(1,.sl (ai b) b.length d),(4,ω 0),(5,ω (γ .i64 ((a.length:Int) - (1:Int)))),(10,.bool (!((a.length:Int)==(b.length:Int)))),(15,.dead),(20,.dead),(23,.dead),(33,.dead)],[],.dead,[]⟩ (.normal) ⟨[],[],.dead,[]⟩) .nil)
theorem acV (a b:List Nat) (c d:Bool) (g:a.length<2^40) (f:a.length=b.length) (e:¬ sS a b a.length=0) (i:lit false (!((a.length:Int)==(b.length:Int)))=true):CO 210 [.sl (ai a) a.length c,.sl (ai b) b.length d] (.ret (ω (sS a b a.length))):=pK [0] 1 0 (.c i .nil) (.l (by exact aA.blk (fun nt h=>Dx h a b c d f g _ (Δ _)) (by simp [Ux,e]) (by simp [Ux,e,pg]) (aH.of ⟨rfl,rfl,congrArg _ (KD g),trivial⟩) (aH.of ⟨by rw [if_neg e];rfl,trivial⟩):aG prog ap [] 43 (.block 0 (.loop (af 0 (ah f210)))) ⟨[(0,.sl (ai a) a.length c),(1,.sl (ai b) b.length d),(4,ω 0),(5,ω (γ .i64 ((a.length:Int) - (1:Int)))),(10,.bool (!((a.length:Int)==(b.length:Int)))),(15,.dead),(20,.dead),(23,.dead),(33,.dead)],[],.dead,[]⟩ (.ret) ⟨[(4,ω (sS a b a.length))],[],.dead,[]⟩) .nil)
def Ye (a b:List Nat):Int:=if a.length<b.length then -1 else if b.length<a.length then 1 else sS a b a.length
theorem wP (a b:List Nat) (d e:Bool) (f:a.length<2^40):CO 210 [.sl (ai a) a.length d,.sl (ai b) b.length e] (.ret (ω (Ye a b))):=by
 unfold Ye;by_cases h1:a.length<b.length
 ·rw [if_pos h1];exact acR a b d e (by simp only [lit];exact Yq0 (by omega)) (by simp [lit];omega)
 ·rw [if_neg h1];by_cases h2:b.length<a.length
  ·rw [if_pos h2];exact acS a b d e (by simp only [lit,Xqo];exact Yq1 (by omega)) (by simp [lit];omega)
  ·rw [if_neg h2];have c:a.length=b.length:=by omega
   have g:lit false (!((a.length:Int)==(b.length:Int)))=true:=by simp [lit,c]
   by_cases hz:sS a b a.length=0
   ·rw [hz];exact acT a b d e f c hz g
   ·exact acV a b d e f c hz g
theorem uD (m n:Nat):bI (m+1) n=bI m n++ [n / 2^(32*m) % 2^32]:=by
 unfold bI;rw [Xwd,Xxy];rfl
theorem xW (n:Nat):∀ (k:Nat),(digs n).getD k 0=n / 2^(32*k) % 2^32:=by
 have key:∀ (m k:Nat),(eG (bI m n)).getD k 0=if k<m then n / 2^(32*k) % 2^32 else 0:=by
  intro m
  induction m with
  |zero=>intro k;simp [bI,eG]
  | succ m ih=>
   intro k;rw [uD,oI];by_cases hd:n / 2^(32*m) % 2^32=0
   ·rw [if_pos hd,ih];by_cases hk:k<m
    ·rw [if_pos hk,if_pos (by omega)]
    ·rw [if_neg hk];by_cases hkm:k=m
     ·subst hkm;rw [if_pos (by omega),hd]
     ·rw [if_neg (by omega)]
   ·rw [if_neg hd,π];by_cases hk:k<m
    ·rw [Xxc (by rw [aP];exact hk),qW hk,if_pos (by omega)];rfl
    ·by_cases hkm:k=m
     ·subst hkm;rw [Xjs (by rw [aP];exact Δ _),aP,Xwu,if_pos (by omega)];rfl
     ·rw [Xq4 (by rw [θ,aP];simp;omega),if_neg (by omega)];rfl
 intro k;unfold digs;rw [key];by_cases hk:k<n
 ·rw [if_pos hk]
 ·rw [if_neg hk];have:n<2^(32*k):=Ψ (lL n) (Xqa (by omega) (by omega));rw [Xxw this]
theorem Xr (l:List Nat):(eG l).length≤l.length:=by
 unfold eG;rw [Xzp];have:=(Xzs (· ==0) (l:=l.reverse)).length_le;simpa using this
theorem jF {n m:Nat} (h:n<2^(32*m)):(digs n).length≤m:=by
 rw [← Cc h];have:=Xr (bI m n);rwa [aP] at this
theorem jS {n m:Nat} (h:(digs n).length≤m):n<2^(32*m):=by
 have key:∀ d,n<2^(32*(m+d))→n<2^(32*m):=by
  intro d
  induction d with
  |zero=>exact fun h=>h
  | succ d ih=>
   intro b;refine ih ?_;have c:=xW n (m+d);rw [π,Xq4 (by omega)] at c;have e:n / 2^(32*(m+d))<2^32:=by
    rw [Xqs (Xqr _),← Xxi,show 32+32*(m+d)=32*(m+(d+1)) by omega];exact b
   have a:n / 2^(32*(m+d)) % 2^32=0:=c.symm;rw [υ e] at a;rcases Nat.div_eq_zero_iff.1 a with h2|h2
   ·have:=Xqr (32*(m+d));omega
   ·exact h2
 refine key n ?_;exact Ψ (lL n) (Xqa (by omega) (by omega))
def lU (x y:Nat):Int:=if x<y then -1 else if y<x then 1 else 0
theorem zN (x k:Nat):x % 2^(32*(k+1))=x / 2^(32*k) % 2^32*2^(32*k)+x % 2^(32*k):=by
 rw [show 32*(k+1)=32*k+32 by omega,Xxi,Nat.mod_mul];rw [Xxp,Φ (2^(32*k))]
theorem Dv (x y:Nat):∀ k,sS (digs x) (digs y) k=lU (x % 2^(32*k)) (y % 2^(32*k))
 |0=>by simp [sS,lU,Yqb]
 | k +1=>by
  simp only [sS,xW];rw [Dv x y k,zN x k,zN y k];have f:=Xqu x (Xqr (32*k));have g:=Xqu y (Xqr (32*k));generalize x / 2^(32*k) % 2^32=a;generalize y / 2^(32*k) % 2^32=b;generalize x % 2^(32*k)=c at f ⊢;generalize y % 2^(32*k)=d at g ⊢;generalize 2^(32*k)=M at f g ⊢;unfold lU;by_cases h1:a<b
  ·rw [if_pos h1];have e:a*M+M≤b*M:=by
    have:=Xqt M (show a+1≤b from h1);rw [Xxj,Xzy] at this;exact this
   rw [if_pos (by omega)]
  ·rw [if_neg h1];by_cases e:b<a
   ·rw [if_pos e];have h:b*M+M≤a*M:=by
     have:=Xqt M (show b+1≤a from e);rw [Xxj,Xzy] at this;exact this
    rw [if_neg (by omega),if_pos (by omega)]
   ·rw [if_neg e];have:a=b:=by omega
    subst this;simp only [Nat.add_lt_add_iff_left]
theorem zl (x y:Nat):Ye (digs x) (digs y)=lU x y:=by
 have b:=jS (n:=x) (Δ _);have c:=jS (n:=y) (Δ _);unfold Ye;by_cases h1:(digs x).length<(digs y).length
 ·rw [if_pos h1];have a:¬ y<2^(32*(digs x).length):=fun h=>by have:=jF h;omega
  unfold lU;rw [if_pos (by omega)]
 ·rw [if_neg h1];by_cases a:(digs y).length<(digs x).length
  ·rw [if_pos a];have e:¬ x<2^(32*(digs y).length):=fun h=>by have:=jF h;omega
   unfold lU;rw [if_neg (by omega),if_pos (by omega)]
  ·rw [if_neg a,Dv];have d:(digs x).length=(digs y).length:=by omega
   rw [υ b,υ (by rw [d];exact c)]
theorem DF {s:List UInt8} (hs:s.length<2^40):(digs (ag s)).length<2^40:=by
 have:=jF (Az s);omega
theorem afP (s t:List UInt8) (hs:s.length<2^40) (a:t.length<2^40):CO 189 [.str s,.str t] (.ret (ω (lU (ag s) (ag t)))):=pK [] 0 0 .nil (.c (by rw [← zl];exact wP _ _ _ _ (DF hs):CO 210 [.sl (ai (digs (ag s))) (digs (ag s)).length true,.sl (ai (digs (ag t))) (digs (ag t)).length true] (.ret (ω (lU (ag s) (ag t))))) (.c (uC t a) (.c (uC s hs) .nil)))
theorem VO (s:List UInt8) (a:lit true (s== [])=true):CO 159 [.str s] (.ret (.bool true)):=pK [] 1 1 (.c a .nil) (.nil)
theorem VP (s:List UInt8) (b:(decide ((0:Int)<(((η s):Nat):Int)))=true) (a:lit false (s== [])=true):CO 159 [.str s] (.ret (.bool (!(((Ξ (Xql s 0 0):Nat):Int)==(0:Int))))):=pK [] 1 0 (.k 1 b (.c a .nil)) (.nil)
theorem NZ {nt:Nat} (e:37≤nt) (a cs:List AV) (L M:Nat) (b:Bool) (n k:Int) (g:(Xqm (((0+(δ (γ .i64 ((γ .i64 ((M:Int) - (1:Int))) - k))))*1)+1) (η cs))=true) (d:(decide ((0:Int)≤(γ .i64 ((γ .i64 ((M:Int) - (1:Int))) - k))))=true) (j:(decide ((γ .i64 ((γ .i64 ((M:Int) - (1:Int))) - k))<(M:Int)))=true) (f:(decide ((0:Int)≤(γ .i64 ((8:Int)*(Xjt k (4:Int))))))=true) (h:(chk (.int .u32) (ζ (ε ((δ (γ .i64 (Xxd k (4:Int))))*1) a) .dead))=true) (i:(decide ((0:Int)≤(γ .i64 (Xxd k (4:Int)))))=true) (c:(decide ((γ .i64 (Xxd k (4:Int)))<(L:Int)))=true) (l:lit true (decide (k<n))=true):ψ nt f117 ⟨[(0,.sl a L b),(3,.ref 0 0 0 M),(12,ω n),(13,ω k)],[(0,⟨cs,0,false,0,1,true⟩)],.dead,[]⟩ (.normal) ⟨[(0,.sl a L b),(3,.ref 0 0 0 M),(12,ω n),(13,ω (γ .i64 (k+(1:Int))))],[(0,⟨(ν ((0+(δ (γ .i64 ((γ .i64 ((M:Int) - (1:Int))) - k))))*1) cs++ [.int .u8 (γ .u8 (Xqw (τ (ζ (ε ((δ (γ .i64 (Xxd k (4:Int))))*1) a) .dead)) (2^(min (δ (γ .i64 ((8:Int)*(Xjt k (4:Int))))) (Xqd .u32)))))]++ε (((0+(δ (γ .i64 ((γ .i64 ((M:Int) - (1:Int))) - k))))*1)+1) cs),0,false,0,1,true⟩)],.dead,[]⟩:=pJ 117 [] 1 1 (.c g (.c d (.c j (.c f (.k 1 h (.c i (.c c (.k 1 l .nil)))))))) (.nil) e
theorem N7 {nt:Nat} (a:37≤nt) (d cs:List AV) (L M:Nat) (c:Bool) (n k:Int) (b:lit false (decide (k<n))=true):ψ nt f117 ⟨[(0,.sl d L c),(3,.ref 0 0 0 M),(12,ω n),(13,ω k)],[(0,⟨cs,0,false,0,1,true⟩)],.dead,[]⟩ (.exit 0) ⟨[(3,.ref 0 0 0 M)],[(0,⟨cs,0,false,0,1,true⟩)],.dead,[]⟩:=pJ 117 [] 1 0 (.c b .nil) (.nil) a
theorem OG {nt:Nat} (b:17≤nt) (s:List UInt8) (c:Int) (e:(decide ((1:Int)≤(((η s):Nat):Int)))=true) (a:(decide ((((η s):Nat):Int)≤(((η s):Nat):Int)))=true) (g:lit true (((Ξ (Xql s 0 0):Nat):Int)==c)=true) (d:(decide ((0:Int)<(((η s):Nat):Int)))=true) (f:lit true (decide ((0:Int)<(((η s):Nat):Int)))=true):ψ nt f192 ⟨[(0,.str s),(1,.int .u8 c)],[],.dead,[]⟩ (.normal) ⟨[(0,.str (ε 1 (ν (δ (((η s):Nat):Int)) s))),(1,.int .u8 c)],[],.dead,[]⟩:=pJ 192 [] 2 3 (.k 1 e (.c a (.c g (.k 1 d (.c f .nil))))) (.nil) b
theorem OH {nt:Nat} (b:17≤nt) (s:List UInt8) (c:Int) (d:lit false (((Ξ (Xql s 0 0):Nat):Int)==c)=true) (a:(decide ((0:Int)<(((η s):Nat):Int)))=true) (e:lit true (decide ((0:Int)<(((η s):Nat):Int)))=true):ψ nt f192 ⟨[(0,.str s),(1,.int .u8 c)],[],.dead,[]⟩ (.exit 0) ⟨[(0,.str s)],[],.dead,[]⟩:=pJ 192 [] 2 1 (.c d (.k 1 a (.c e .nil))) (.nil) b
theorem OI {nt:Nat} (a:17≤nt) (s:List UInt8) (c:Int) (b:lit false (decide ((0:Int)<(((η s):Nat):Int)))=true):ψ nt f192 ⟨[(0,.str s),(1,.int .u8 c)],[],.dead,[]⟩ (.exit 0) ⟨[(0,.str s)],[],.dead,[]⟩:=pJ 192 [] 2 0 (.k 1 b .nil) (.nil) a
def amo (c:UInt8) (s:List UInt8):St:=⟨[(0,.str s),(1,.int .u8 (c.toNat:Int))],[],.dead,[]⟩
def akM (s:List UInt8):St:=⟨[(0,.str s)],[],.dead,[]⟩
theorem LZ {nt:Nat} (d:17≤nt) (c:UInt8):∀ (s:List UInt8),aA prog ap [] nt (af 0 (ah f192)) (fun _=> .exit 0) (amo c) akM s (s.dropWhile (· ==c))
 | []=> .done (OI d [] (c.toNat:Int) (by simp [lit]))
 | b::r=>by
  have a:decide ((0:Int)<(((b::r).length:Nat):Int))=true:=Yq0 (by simp only [μ];omega);have e:decide ((1:Int)≤(((b::r).length:Nat):Int))=true:=Yq0 (by simp only [μ];omega);have g:decide ((((b::r).length:Nat):Int)≤(((b::r).length:Nat):Int))=true:=Yq0 (Int.le_refl _);rw [Xxt];by_cases hb:b=c
  ·subst hb;rw [if_pos (by simp)];refine .next ?_ (LZ d b r)
   have:=OG d (b::r) (b.toNat:Int) e g (by simp [lit]) a (by simp only [lit];exact a);rw [show δ (((b::r).length:Nat):Int)=(b::r).length by omega,Xq1] at this;exact this
  ·rw [if_neg (by simpa using hb)];refine .done ?_;have f:¬ (b.toNat:Int)=(c.toNat:Int):=fun h=>hb (UInt8.toNat_inj.1 (by omega))
   exact OH d (b::r) (c.toNat:Int) (by simp [lit];omega) a (by simp only [lit];exact a)
def oL (l:List Nat):List AV:=l.map fun (d:Nat)=>Xxm .u8 (d:Int)
def oO (m k x:Nat):List Nat:=(Xq6 m).map fun i=>if m - k≤i then x / 2^(8*(m - 1 - i)) % 256 else 0
theorem ji (m k x:Nat):(oO m k x).length=m:=by simp [oO]
theorem KR {m k x i:Nat} (h:i<m):(oO m k x)[i]? =some (if m - k≤i then x / 2^(8*(m - 1 - i)) % 256 else 0):=by simp [oO,h]
theorem VV {m k x:Nat} (a:k<m):oO m (k+1) x=(oO m k x).set (m - 1 - k) (x / 2^(8*k) % 256):=by
 apply Xju;intro i;by_cases hi:i<m
 ·rw [KR hi,Xzk];by_cases h:m - 1 - k=i
  ·rw [if_pos (show m - (k+1)≤i by omega),if_pos h,if_pos (by rw [ji];omega),show m - 1 - i=k by omega]
  ·rw [if_neg h,KR hi];by_cases h2:m - k≤i
   ·rw [if_pos h2,if_pos (by omega)]
   ·rw [if_neg h2,if_neg (by omega)]
 ·rw [Xq4 (by rw [ji];omega),Xq4 (by rw [Xk8,ji];omega)]
theorem ay (l:List Nat):(oL l).length=l.length:=by simp [oL]
theorem afl (l:List Nat) (i:Nat) (x:Nat) (a:i<l.length):ν i (oL l)++ [Xxm .u8 (x:Int)]++ε (i+1) (oL l)=oL (l.set i x):=by
 unfold oL;rw [← Xwc,← Xzn,Xx5,if_pos a];simp
theorem abu (x:Nat):γ .u8 (x:Int)=((x % 256:Nat):Int):=by
 show (if (false && decide ((x:Int) % 2^8≥2^7))=true then (x:Int) % 2^8 - 2^8 else (x:Int) % 2^8)=_;simp only [Xjg,Xjn,if_false];omega
theorem Ya (x k:Nat):x / 2^(32*(k / 4)) % 2^32 / 2^(8*(k % 4)) % 256=x / 2^(8*k) % 256:=by
 have b:8*k=32*(k / 4)+8*(k % 4):=by omega
 rw [b,Xxi,← Xxq];generalize x / 2^(32*(k / 4))=y;have a:k % 4<4:=by omega
 generalize k % 4=r at a
 match r,a with
 |0,_=>omega
 |1,_=>omega
 |2,_=>omega
 |3,_=>omega
def ah1 (xs:List AV) (L:Nat) (nn:Bool) (x M k:Nat):St:=⟨[(0,.sl xs L nn),(3,.ref 0 0 0 M),(12,ω (M:Int)),(13,ω (k:Int))],[(0,⟨oL (oO M k x),0,false,0,1,true⟩)],.dead,[]⟩
def aee (x M k:Nat):St:=⟨[(3,.ref 0 0 0 M)],[(0,⟨oL (oO M k x),0,false,0,1,true⟩)],.dead,[]⟩
theorem VU {nt:Nat} (e:37≤nt) (x:Nat) (c:Bool) (t:(digs x).length<2^40):∀ (d k:Nat),k+d=4*(digs x).length→aA prog ap [] nt (af 0 (ah f117)) (fun _=> .exit 0) (ah1 (ai (digs x)) (digs x).length c x (4*(digs x).length)) (aee x (4*(digs x).length)) k (4*(digs x).length):=by
 intro d
 induction d with
 |zero=>
  intro k q;have:k=4*(digs x).length:=by omega
  subst this;exact .done (N7 e _ _ _ _ c _ _ (by simp [lit]))
 | succ d ih=>
  intro k q;refine .next ?_ (ih (k+1) (by omega))
  generalize s:4*(digs x).length=M at*
  have b:k<M:=by omega
  have m:k / 4<(digs x).length:=by omega
  have f:γ .i64 (Xxd (k:Int) 4)=((k / 4:Nat):Int):=by
   rw [Xz2 (by omega),gW (by omega) (by omega)];omega
  have p:Xjt (k:Int) 4=((k % 4:Nat):Int):=by
   rw [Xvb (by omega)];omega
  have j:γ .i64 ((8:Int)*((k % 4:Nat):Int))=((8*(k % 4):Nat):Int):=by
   rw [gW (by omega) (by omega)];omega
  have h:γ .i64 (γ .i64 ((M:Int) - 1) - (k:Int))=((M - 1 - k:Nat):Int):=by
   have n:γ .i64 ((M:Int) - 1)=((M - 1:Nat):Int):=by
    rw [gW (by omega) (by omega)];omega
   rw [n,gW (by omega) (by omega)];omega
  have r:(0+δ ((M - 1 - k:Nat):Int))*1=M - 1 - k:=by omega
  have g:γ .i64 ((k:Int)+1)=((k+1:Nat):Int):=by
   rw [gW (by omega) (by omega)];omega
  have o:min (δ ((8*(k % 4):Nat):Int)) (Xqd .u32)=8*(k % 4):=by
   show min (δ ((8*(k % 4):Nat):Int)) 32=_;omega
  have i:δ ((k / 4:Nat):Int)=k / 4:=by omega
  have hcell:=Jt (l:=digs x) m;rw [xW] at hcell;have hbody:=NZ e (ai (digs x)) (oL (oO M k x)) (digs x).length M c (M:Int) (k:Int);rw [f,p,j,h,r,g,o,i,hcell] at hbody;simp only [τ] at hbody;have a:Xqw ((x / 2^(32*(k / 4)) % 2^32:Nat):Int) (2^(8*(k % 4)))=((x / 2^(32*(k / 4)) % 2^32 / 2^(8*(k % 4)):Nat):Int):=by
   have:((2:Int)^(8*(k % 4)))=((2^(8*(k % 4)):Nat):Int):=by simp
   rw [this,Xz3 _ (Xkn _)];exact (Xk1 _ _).symm
  rw [a,abu,Ya,afl _ _ _ (by rw [ji];omega),← VV b] at hbody;exact hbody (by rw [ay,ji];exact Xqv (by omega)) (Yq0 (by omega)) (Yq0 (by omega)) (Yq0 (by omega)) rfl (Yq0 (by omega)) (Yq0 (by omega)) (Yq0 (by omega))
theorem akN (s:List UInt8) (c:UInt8):CO 192 [.str s,.int .u8 (c.toNat:Int)] (.ret (.str (s.dropWhile (· ==c)))):=pK [0] 0 0 .nil (.l (aA.blk (fun nt a=>LZ a c s) (by simp) rfl (aH.of ⟨rfl,rfl,trivial⟩) (aH.of ⟨rfl,trivial⟩):aG prog ap [] 17 (.block 0 (.loop (af 0 (ah f192)))) ⟨[(0,.str s),(1,.int .u8 (c.toNat:Int)),(4,.str []),(13,.dead)],[],.dead,[]⟩ (.normal) ⟨[(0,.str (s.dropWhile (· ==c)))],[],.dead,[]⟩) .nil)
theorem MJ (s:List UInt8) (a:lit true (s== [])=true):CO 163 [.str s,.str [0]] (.ret (.str s)):=pK [] 2 3 (.k 1 a .nil) (.nil)
theorem MK (s:List UInt8) (a:lit false (s== [])=true):CO 163 [.str s,.str [0]] (.ret (.str (s.dropWhile (· ==0)))):=pK [] 4 12 (.k 7 a .nil) (.c (akN s 0) .nil)
theorem JF (s:List UInt8):CO 163 [.str s,.str [0]] (.ret (.str (s.dropWhile (· ==0)))):=by
 by_cases h:s= []
 ·subst h;exact MJ [] rfl
 ·exact MK s (by simp [lit,h])
def jX (m x:Nat):List UInt8:=(Xq6 m).map fun i=>Xqj (x / 2^(8*(m - 1 - i)) % 256)
def ae (x:Nat):List UInt8:=(jX (4*(digs x).length) x).dropWhile (· ==0)
theorem IZ (x:Nat) (h:(digs x).length<2^40):γ .i64 ((4:Int)*(((digs x).length:Nat):Int))=((4*(digs x).length:Nat):Int):=by
 rw [gW (by omega) (by omega)];omega
theorem aey (m x:Nat):gp m [Xxm .u8 0]=oL (oO m 0 x):=by
 have e:oO m 0 x=(Xq6 m).map fun _=>0:=by
  unfold oO;apply Xjj;intro i a;rw [if_neg (by have:=List.mem_range.1 a;omega)]
 rw [e];unfold gp oL
 induction m with
 |zero=>rfl
 | succ m ih=>
  rw [Xj1,Xzo,Xwd,Xxy,Xxy];have b:oO m 0 x=(Xq6 m).map fun _=>0:=by
   unfold oO;apply Xjj;intro i a;rw [if_neg (by have:=List.mem_range.1 a;omega)]
  rw [ih b];simp
theorem R_ (m x:Nat):Xw4 (fun c=>Xqj (δ (τ c))) (oL (oO m m x))=jX m x:=by
 unfold oL oO jX;rw [Xwa,Xwa];apply Xjj;intro i _;simp only [Xvo,Xwu,Xxo,if_true,τ];congr 1
theorem acr (l:List Nat):Xzu (oL l) (chk (.int .u8))=true:=by
 unfold oL;rw [List.all_map];exact List.all_eq_true.2 fun x _=>rfl
theorem Fp (m k x:Nat):ν (m*1) (oL (oO m k x))=oL (oO m k x):=by
 rw [χ,Xqc (by rw [ay,ji];exact Δ _)]
theorem VX (l:List Nat) (x:Nat) (a:Bool) (g:eG l=digs x) (b:l.length<2^40) (hd:(digs x).length<2^40) (h:(Xqq (η (ν ((4*(digs x).length)*1) (oL (oO (4*(digs x).length) (4*(digs x).length) x)))) (4*(digs x).length))=true) (d:(Xzu (ν ((4*(digs x).length)*1) (oL (oO (4*(digs x).length) (4*(digs x).length) x))) (chk (.int .u8)))=true) (j:(decide ((0:Int)≤(γ .i64 ((4:Int)*(((digs x).length:Nat):Int)))))=true) (f:(decide ((γ .i64 ((4:Int)*(((digs x).length:Nat):Int)))=(γ .i64 ((4:Int)*(((digs x).length:Nat):Int)))))=true) (i:(decide ((γ .i64 ((4:Int)*(((digs x).length:Nat):Int)))≤(1099511627776:Int)))=true):CO 117 [.sl (ai l) l.length a] (.ret (.str (ae x))):=pK [0] 0 0 (.c h (.c d (.c j (.c f (.c i .nil))))) (.c (by rw [Fp,R_];exact JF _:CO 163 [.str (Xw4 (fun c=>Xqj (δ (τ c))) (ν ((4*(digs x).length)*1) (oL (oO (4*(digs x).length) (4*(digs x).length) x)))),.str [0]] (.ret (.str (ae x)))) (.l (by rw [IZ x hd,xA,aey _ x];exact aA.blk (fun nt e=>VU e x a hd (4*(digs x).length) 0 (by omega)) (by simp) rfl (aH.of ⟨rfl,rfl,rfl,rfl,trivial⟩) (aH.of ⟨rfl,trivial⟩):aG prog ap [] 37 (.block 0 (.loop (af 0 (ah f117)))) ⟨[(0,.sl (ai (digs x)) (digs x).length a),(2,.str []),(3,.ref 0 0 0 (δ (γ .i64 ((4:Int)*(((digs x).length:Nat):Int))))),(4,.dead),(12,ω (((δ (γ .i64 ((4:Int)*(((digs x).length:Nat):Int)))):Nat):Int)),(13,ω 0),(14,.dead)],[(0,⟨(gp (δ (γ .i64 ((4:Int)*(((digs x).length:Nat):Int)))) [.int .u8 0]),0,false,0,1,true⟩)],.dead,[]⟩ (.normal) ⟨[(3,.ref 0 0 0 (4*(digs x).length))],[(0,⟨(oL (oO (4*(digs x).length) (4*(digs x).length) x)),0,false,0,1,true⟩)],.dead,[]⟩) (.c (by rw [← g];exact OL l a b:CO 162 [.sl (ai l) l.length a] (.ret (.sl (ai (digs x)) (digs x).length a))) .nil)))
theorem qV (l:List Nat) (x:Nat) (a:Bool) (c:eG l=digs x) (b:l.length<2^40) (hd:(digs x).length<2^36):CO 117 [.sl (ai l) l.length a] (.ret (.str (ae x))):=
 VX l x a c b (by omega)
  (by rw [Fp,ay,ji];exact Xvd _) (by rw [Fp];exact acr _)
  (by rw [IZ x (by omega)];exact Yq0 (by omega)) (Yq0 rfl) (by rw [IZ x (by omega)];exact Yq0 (by omega))
theorem rD (m x:Nat):jX (m+1) x=Xqj (x / 2^(8*m) % 256)::jX m x:=by
 unfold jX;rw [Xwk,Xqi,Xwa];congr 1;apply Xjj;intro i a;simp only [Xvo];have:=List.mem_range.1 a;rw [show m+1 - 1 - (i+1)=m - 1 - i by omega]
theorem Gu:∀ (m:Nat) (b x:Nat),jX m (b*2^(8*m)+x)=jX m x:=by
 intro m b x;unfold jX;apply Xjj;intro i a;have a:=List.mem_range.1 a;have e:8*m=(8*m - 8*(m - 1 - i) - 8)+8+8*(m - 1 - i):=by omega
 congr 1
 conv=>lhs;rw [e]
 rw [Xxi,Xxi,← Xqn,← Xqn,Xxp,Xzx _ _ (Xqr _)];exact Xva _ _ 256
theorem Gv:∀ (s:List UInt8),jX s.length (ag s)=s
 | []=>rfl
 |b::r=>by
  rw [μ,rD,iT,show (256:Nat)^r.length=2^(8*r.length) by rw [Xx2],Gu,Gv r];have h:=vT r;rw [show (256:Nat)^r.length=2^(8*r.length) by rw [Xx2]] at h;have a:=b.toNat_lt;rw [Xxp,Xzx _ _ (Xqr _),Xxw h,Xqf,υ (by omega)];congr 1;exact UInt8.ofNat_toNat
theorem wM (x:Nat):∀ (d m:Nat),x<2^(8*m)→(jX (m+d) x).dropWhile (· ==0)=(jX m x).dropWhile (· ==0)
 |0,_,_=>rfl
 |d+1,m,h=>by
  rw [show m+(d+1)=(m+d)+1 by omega,rD];have a:x<2^(8*(m+d)):=Ψ h (Xqa (by omega) (by omega));rw [Xxw a,Xxt,if_pos (by rfl)];exact wM x d m h
theorem PW {m x:Nat} (h:x<2^(8*m)):(jX m x).dropWhile (· ==0)=ae x:=by
 unfold ae;have a:x<2^(8*(4*(digs x).length)):=by
  have:=jS (n:=x) (Δ _);rwa [show 8*(4*(digs x).length)=32*(digs x).length by omega]
 rcases Yxb m (4*(digs x).length) with hm|hm
 ·have:=wM x (4*(digs x).length - m) m h;rw [show m+(4*(digs x).length - m)=4*(digs x).length by omega] at this;exact this.symm
 ·have:=wM x (m - 4*(digs x).length) (4*(digs x).length) a;rw [show 4*(digs x).length+(m - 4*(digs x).length)=m by omega] at this;exact this
theorem ED (s:List UInt8):ae (ag s)=s.dropWhile (· ==0):=by
 have h:=vT s;rw [show (256:Nat)^s.length=2^(8*s.length) by rw [Xx2]] at h;rw [← PW h,Gv]
theorem Md:∀ (s:List UInt8),ag (s.dropWhile (· ==0))=ag s
 | []=>rfl
 | b::r=>by
  rw [Xxt];by_cases hb:b=0
  ·subst hb;rw [if_pos (by rfl),Md r,iT];simp
  ·rw [if_neg (by simpa using hb)]
theorem Ht:∀ (m x:Nat),x<2^(8*m)→ag (jX m x)=x
 |0,x,h=>by simp at h;subst h;rfl
 | m+1,x,h=>by
  rw [rD,iT];have b:(jX m x).length=m:=by simp [jX]
  have a:x / 2^(8*m)<256:=by
   rw [Xqs (Xqr _)];have e:(2:Nat)^(8*(m+1))=256*2^(8*m):=by rw [show 8*(m+1)=8+8*m by omega,Xxi]
   rw [← e];exact h
  have d:ag (jX m x)=x % 2^(8*m):=by
   have e:x=x / 2^(8*m)*2^(8*m)+x % 2^(8*m):=by
    have:=Xq7 x (2^(8*m));rw [Φ] at this;omega
   conv=>lhs;rw [e]
   rw [Gu];exact Ht m _ (Xqu _ (Xqr _))
  rw [b,d,υ a];have c:(Xqj (x / 2^(8*m))).toNat=x / 2^(8*m):=by
   rw [UInt8.toNat_ofNat'];exact υ a
  rw [c,show (256:Nat)^m=2^(8*m) by rw [Xx2]];have:=Xq7 x (2^(8*m));rw [Φ] at this;exact this
theorem aB (x:Nat):ag (ae x)=x:=by
 unfold ae;rw [Md];refine Ht _ _ ?_;have:=jS (n:=x) (Δ _);rwa [show 8*(4*(digs x).length)=32*(digs x).length by omega]
end Go.Proofs.Tryz
set_option maxRecDepth 100000
open Go
namespace AM
theorem dn {x:Int} (h: -9223372036854775808≤x) (a:x<9223372036854775808):γ .i64 x=x:=by
 show (if (true && decide (x % 2^64≥2^63))=true then x % 2^64 - 2^64 else x % 2^64)=x;by_cases hx:x % 2^64≥2^63
 ·rw [if_pos (by simpa using hx)];omega
 ·rw [if_neg (by simpa using hx)];omega
theorem aS {a:Nat} (h:a<9223372036854775808):γ .i64 (a:Int)=(a:Int):=dn (by omega) (by omega)
theorem yX {a b:Nat} (h:a+b<9223372036854775808):γ .i64 ((a:Int)+(b:Int))=((a+b:Nat):Int):=by
 rw [dn (by omega) (by omega)];omega
theorem jP {a b:Nat} (h:b≤a) (c:a<9223372036854775808):γ .i64 ((a:Int) - (b:Int))=((a - b:Nat):Int):=by
 rw [dn (by omega) (by omega)];omega
theorem QK {a b:Nat} (h:a*b<9223372036854775808):γ .i64 ((a:Int)*(b:Int))=((a*b:Nat):Int):=by
 rw [← Xw5,aS h]
theorem Xy (k:IntKind) (a:k.signed=false) (x:Int):γ k x=x % 2^k.bits:=by
 show (if (k.signed && _)=true then _ else _)=_;rw [a];rfl
theorem OO {w:Nat} {k:IntKind} (b:k.signed=false) (c:k.bits=w) (a:Nat):γ k (a:Int)=((a % 2^w:Nat):Int):=by
 rw [Xy k b,c];simp
theorem w8u (a:Nat):γ .u8 (a:Int)=((a % 256:Nat):Int):=OO (w:=8) rfl rfl a
theorem qZ (a:Nat):γ .u32 (a:Int)=((a % 4294967296:Nat):Int):=OO (w:=32) rfl rfl a
theorem oK (a:Nat):γ .u64 (a:Int)=((a % 18446744073709551616:Nat):Int):=OO (w:=64) rfl rfl a
theorem kZ (a b:Nat):γ .u64 ((a:Int) - (b:Int))=(((a+(18446744073709551616 - b % 18446744073709551616)) % 18446744073709551616:Nat):Int):=by
 rw [Xy .u64 rfl,show Xqd .u64=64 from rfl];omega
theorem bJ (a b:Nat):((a:Int)+(b:Int))=((a+b:Nat):Int):=(Int.natCast_add a b).symm
theorem xN (a b:Nat):((a:Int)*(b:Int))=((a*b:Nat):Int):=(Xw5 a b).symm
theorem pY (a b:Nat):Xxd (a:Int) (b:Int)=((a / b:Nat):Int):=(Int.ofNat_tdiv a b).symm
theorem wO (a b:Nat):Xjt (a:Int) (b:Int)=((a % b:Nat):Int):=(Int.ofNat_tmod a b).symm
theorem Dp (a n:Nat):((a:Int)*2^n)=((2^n*a:Nat):Int):=by rw [Φ];simp
theorem qR {a b:Nat} (h:a≤b):min a b=a:=Xx7 h
theorem PU {a:Nat} (h:a≤64):min a (Xqd .u64)=a:=Xx7 h
theorem PT {a:Nat} (h:a≤32):min a (Xqd .u32)=a:=Xx7 h
theorem nC:(2:Nat)^32=4294967296:=by decide
theorem ain:(2:Nat)^63=9223372036854775808:=by decide
theorem lh (a n:Nat):Xqw (a:Int) (2^n)=((a / 2^n:Nat):Int):=by
 have:((2:Int)^n)=((2^n:Nat):Int):=by simp
 rw [this,Xz3 _ (Xkn _)];exact (Xk1 _ _).symm
theorem aC (a:Nat):δ (a:Int)=a:=rfl
theorem vC {w x:Nat} (h:x<2^w):(Xqg w (x:Int)).toNat=x:=by
 rw [Xkc,Xkm,υ h]
theorem OY {w a b:Nat} (d:a<2^w) (c:b<2^w):Xxf (Xqg w (a:Int)|||Xqg w (b:Int))=a|||b:=by
 rw [Xk9,vC d,vC c]
theorem JK {w a b:Nat} (d:a<2^w) (c:b<2^w):Xxf (Xqg w (a:Int) &&& Xqg w (b:Int))=a &&& b:=by
 rw [BitVec.toNat_and,vC d,vC c]
theorem V9 {a b:Nat} (d:a<18446744073709551616) (c:b<18446744073709551616):Xxf (Xqg (Xqd .u64) (a:Int)|||Xqg (Xqd .u64) (b:Int))=a|||b:=OY (w:=64) d c
theorem aim {a b:Nat} (d:a<4294967296) (c:b<4294967296):Xxf (Xqg (Xqd .u32) (a:Int)|||Xqg (Xqd .u32) (b:Int))=a|||b:=OY (w:=32) d c
theorem af4 {a b:Nat} (d:a<18446744073709551616) (c:b<18446744073709551616):Xxf (Xqg (Xqd .u64) (a:Int) &&& Xqg (Xqd .u64) (b:Int))=a &&& b:=JK (w:=64) d c
theorem alk {a b:Nat} (d:a<18446744073709551616) (c:b<18446744073709551616):Xxf (Xqg (Xqd .i64) (a:Int) &&& Xqg (Xqd .i64) (b:Int))=a &&& b:=JK (w:=64) d c
theorem zV {a b k:Nat} (h:b<2^k):a*2^k|||b=a*2^k+b:=by
 have:=Xwy h a;rw [Xk0] at this;exact this.symm
theorem Ub (a k:Nat):a &&& (2^k - 1)=a % 2^k:=Nat.and_two_pow_sub_one_eq_mod a k
theorem Dj (a:Nat):a &&& 4294967295=a % 4294967296:=Ub a 32
theorem dm (a b:Nat):decide ((a:Int)≤(b:Int))=decide (a≤b):=by
 by_cases h:a≤b<;>simp [h]
theorem aX (a b:Nat):decide ((a:Int)<(b:Int))=decide (a<b):=by
 by_cases h:a<b<;>simp [h]
theorem d_eq (a b:Nat):decide ((a:Int)=(b:Int))=decide (a=b):=by
 by_cases h:a=b
 ·simp [h]
 ·rw [Yq1 h,Yq1 (by omega)]
theorem jC (a b:Nat):((a:Int)==(b:Int))=decide (a=b):=d_eq a b
theorem fQ (a b:Nat):Xqm a b=decide (a≤b):=by
 by_cases h:a≤b
 ·rw [Yq0 h];exact Xqv h
 ·rw [Yq1 h];cases c:Xqm a b with
  |false=>rfl
  |true=>exact absurd (Nat.le_of_ble_eq_true c) h
theorem IW (a b:Nat):Xqq a b=decide (a=b):=by
 by_cases h:a=b
 ·rw [Yq0 h,h];exact Xvd _
 ·rw [Yq1 h];cases c:Xqq a b with
  |false=>rfl
  |true=>exact absurd (Nat.eq_of_beq_eq_true c) h
theorem bz (b:Bool):lit true b=b:=rfl
theorem dC (b:Bool):lit false b= !b:=rfl
theorem dJ (b:Bool):((!b)=true)=(b=false):=by cases b<;>simp
theorem EH (b:Bool):((!b)=false)=(b=true):=by cases b<;>simp
theorem bf (p:Prop) [Decidable p]:(decide p=true)=p:=by simp
theorem dW (p:Prop) [Decidable p]:(decide p=false)=¬ p:=by simp
end AM
set_option maxRecDepth 100000
open Go AM
namespace Go.Proofs.Tryz
def aF:List Nat→Nat
 | []=>0
 |d::r=>d+4294967296*aF r
def bH (l:List Nat):Prop:=∀ d ∈ l,d<4294967296
theorem bH.nil:bH []:=fun _ h=>(by cases h)
theorem bH.cons {d:Nat} {l:List Nat} (h:d<4294967296) (b:bH l):bH (d::l):=by
 intro x a;rcases List.mem_cons.1 a with rfl|h1
 ·exact h
 ·exact b x h1
theorem bH.head {d:Nat} {l:List Nat} (h:bH (d::l)):d<4294967296:=h d (Xjo ..)
theorem bH.tail {d:Nat} {l:List Nat} (h:bH (d::l)):bH l:=fun x a=>h x (Xx1 _ a)
theorem bH.app {a b:List Nat} (h:bH a) (d:bH b):bH (a++b):=fun x c=>(List.mem_append.1 c).elim (h x) (d x)
theorem bH.take {a:List Nat} (h:bH a) (n:Nat):bH (a.take n):=fun x b=>h x (Xxg b)
theorem bH.drop {a:List Nat} (h:bH a) (n:Nat):bH (a.drop n):=fun x b=>h x (List.mem_of_mem_drop b)
theorem bH.getD {a:List Nat} (h:bH a) (n:Nat):a.getD n 0<4294967296:=by
 rw [π];cases b:a[n]? with
 |none=>simp
 |some x=>simpa using h x (List.mem_of_getElem? b)
theorem bH.zeros (n:Nat):bH (κ n 0):=fun x a=>by rw [(List.mem_replicate.1 a).2];omega
theorem mJ (a b:List Nat):aF (a++b)=aF a+4294967296^a.length*aF b:=by
 induction a with
 |nil=>simp [aF]
 |cons d a ih=>
  simp only [Xq9,aF,ih,μ,Xqz,Xq8,← Xqn];rw [Φ (4294967296^a.length) 4294967296];omega
theorem pV {l:List Nat} (h:bH l):aF l<4294967296^l.length:=by
 induction l with
 |nil=>simp [aF]
 |cons d l ih=>
  have a:=ih h.tail;have b:=h.head;simp only [aF,μ,Xqz];omega
theorem mi (k:Nat):(2:Nat)^(32*k)=4294967296^k:=by rw [Xx2]
theorem iD (k:Nat):0<4294967296^k:=Yqc (by omega)
theorem EN {l:List Nat} (h:bH l):bI l.length (aF l)=l:=by
 unfold bI
 induction l with
 |nil=>rfl
 | cons d l ih=>
  rw [μ,Xwk,Xqi,Xwa];congr 1
  ·have:=h.head;simp only [aF,Xx8,Xve,Xzz];omega
  ·refine Eq.trans ?_ (ih h.tail);apply Xjj;intro i _;simp only [Xvo];have e:(2:Nat)^(32*(i+1))=4294967296*2^(32*i):=by rw [Xq8,Xxi,Φ]
   rw [Xkj,e,← Xxq];have:aF (d::l) / 4294967296=aF l:=by have:=h.head;simp only [aF];omega
   rw [this]
theorem jJ {l:List Nat} (h:bH l):eG l=digs (aF l):=by
 have a:=Cc (m:=l.length) (n:=aF l) (by rw [mi];exact pV h);rw [EN h] at a;exact a
theorem vS (m n:Nat):aF (bI m n)=n % 2^(32*m):=by
 induction m with
 |zero=>simp [bI,aF,Yqb]
 |succ m ih=>
  rw [uD,mJ,ih,aP,zN];simp only [aF,mi,Xx8,Xq0];rw [Φ,Xxp]
theorem bH.pad (m n:Nat):bH (bI m n):=by
 intro x a;obtain ⟨i,_,rfl⟩:=List.mem_map.1 a;exact Xqu _ (by omega)
theorem TA:∀ (l:List Nat),aF (eG l)=aF l:=by
 intro l
 induction h:l.length generalizing l with
 |zero=>rw [List.length_eq_zero_iff.1 h];rfl
 | succ n ih=>
  rcases Xzv l with rfl|⟨r,d,rfl⟩
  ·rfl
  ·rw [Xzw,oI];split
   ·next hd=>subst hd;rw [ih r (by simpa using h),mJ];simp [aF]
   ·rfl
theorem Tz {x:Nat}:∀ (l:List Nat),x ∈ eG l→x ∈ l:=by
 intro l a;unfold eG at a;have:=List.dropWhile_suffix (fun x:Nat=>x==0) (l:=l.reverse)|>.subset (List.mem_reverse.1 a)
 exact List.mem_reverse.1 this
theorem fA (n:Nat):aF (digs n)=n:=by
 unfold digs;rw [TA,vS,υ (lL n)]
theorem bH.digs (n:Nat):bH (digs n):=fun x a=>bH.pad n n x (Tz _ a)
theorem TJ {l:List Nat} {k:Nat} (h:k<l.length):aF (l.drop k)=l.getD k 0+4294967296*aF (l.drop (k+1)):=by
 rw [Xjh h,π,ξ h];rfl
theorem FD (l:List Nat) (k:Nat) (h:k≤l.length):aF l=aF (l.take k)+4294967296^k*aF (l.drop k):=by
 have:=mJ (l.take k) (l.drop k);rwa [List.take_append_drop,Xq2,Xx7 h] at this
theorem yR {l:List Nat} {k:Nat} (h:k<l.length):ζ (ε k (ai l)) .dead= .int .u32 ((l.getD k 0:Nat):Int):=by
 have:=Jt h;rwa [χ] at this
theorem jO {p s:List Nat} {x k:Nat} (h:k=p.length):ζ (ε k (ai (p++x::s))) .dead= .int .u32 (x:Int):=by
 subst h;rw [yR (by simp)];simp
theorem lT {p s:List Nat} {x y k:Nat} (h:k=p.length):ν k (ai (p++x::s))++ [Xxm .u32 (y:Int)]++ε (k+1) (ai (p++x::s))=ai (p++y::s):=by
 subst h;rw [Qu _ _ _ (by simp)];simp
theorem jL (x:Int):chk (.int .u32) (.int .u32 x)=true:=rfl
theorem aY (k:IntKind) (x:Int):τ (.int k x)=x:=rfl
theorem pR (m:Nat):gp m [Xxm .u32 0]=ai (κ m 0):=by
 rw [Ql];congr 1;unfold bI;apply List.ext_getElem
 ·simp
 ·intro i a b;simp
theorem oH (l:List Nat) (k:Nat):ν k (ai l)=ai (l.take k):=by unfold ai;rw [Xwc]
theorem UI (l:List Nat) (k:Nat):ε k (ai l)=ai (l.drop k):=by unfold ai;rw [Xzn]
theorem S9 {nt:Nat} (f:44≤nt) (a:List Nat) (e:Bool) (b r M:Nat) (k:Int) (cs:List AV) (h:(Xqm (((0+(δ k))*1)+1) (η cs))=true) (c:(decide (((0:Nat):Int)≤k))=true) (j:(decide (k<(M:Int)))=true) (d:(!((γ .u64 (b:Int))==((0:Nat):Int)))=true) (i:(chk (.int .u32) (ζ (ε ((δ k)*1) (ai a)) .dead))=true) (g:(decide (k<(a.length:Int)))=true) (l:lit true (decide (((0:Nat):Int)≤k))=true):ψ nt f220 ⟨[(0,.sl (ai a) a.length e),(1,.int .u32 (b:Int)),(6,.ref 0 0 0 M),(7,.int .u64 (r:Int)),(8,ω k)],[(0,⟨cs,0,false,0,1,true⟩)],.dead,[]⟩ (.normal) ⟨[(0,.sl (ai a) a.length e),(1,.int .u32 (b:Int)),(6,.ref 0 0 0 M),(7,.int .u64 (Xjt (γ .u64 (Xxf (Xqg (Xqd .u64) (γ .u64 ((r:Int)*2^(min 32 64)))|||Xqg (Xqd .u64) (γ .u64 (τ (ζ (ε ((δ k)*1) (ai a)) .dead)))))) (γ .u64 (b:Int)))),(8,ω (γ .i64 (k - ((1:Nat):Int))))],[(0,⟨(ν ((0+(δ k))*1) cs++ [.int .u32 (γ .u32 (γ .u64 (Xxd (γ .u64 (Xxf (Xqg (Xqd .u64) (γ .u64 ((r:Int)*2^(min 32 64)))|||Xqg (Xqd .u64) (γ .u64 (τ (ζ (ε ((δ k)*1) (ai a)) .dead)))))) (γ .u64 (b:Int)))))]++ε (((0+(δ k))*1)+1) cs),0,false,0,1,true⟩)],.dead,[]⟩:=pJ 220 [] 1 1 (.c h (.c c (.c j (.c d (.c d (.c i (.c c (.c g (.k 1 l .nil))))))))) (.nil) f
theorem S_ {nt:Nat} (d:44≤nt) (a:List Nat) (c:Bool) (b r M:Nat) (k:Int) (cs:List AV) (e:lit false (decide (((0:Nat):Int)≤k))=true):ψ nt f220 ⟨[(0,.sl (ai a) a.length c),(1,.int .u32 (b:Int)),(6,.ref 0 0 0 M),(7,.int .u64 (r:Int)),(8,ω k)],[(0,⟨cs,0,false,0,1,true⟩)],.dead,[]⟩ (.exit 0) ⟨[(0,.sl (ai a) a.length c),(1,.int .u32 (b:Int)),(6,.ref 0 0 0 M),(7,.int .u64 (r:Int)),(8,ω k)],[(0,⟨cs,0,false,0,1,true⟩)],.dead,[]⟩:=pJ 220 [] 1 0 (.c e .nil) (.nil) d
theorem TE {nt:Nat} (h:41≤nt) (a:List Nat) (e:Bool) (n M k:Nat) (cs:List AV) (l:(Xqm (((0+(δ (γ .i64 ((k:Int)+((1:Nat):Int)))))*1)+1) (η (ν ((0+(δ (k:Int)))*1) cs++ [.int .u32 (γ .u32 (Xxf (Xqg (Xqd .u32) (τ (ζ (ε ((0+(δ (k:Int)))*1) cs) .dead))|||Xqg (Xqd .u32) (γ .u32 (γ .u64 ((γ .u64 (τ (ζ (ε ((δ (k:Int))*1) (ai a)) .dead)))*2^(min (δ (n:Int)) (Xqd .u64))))))))]++ε (((0+(δ (k:Int)))*1)+1) cs)))=true) (j:(decide (((0:Nat):Int)≤(γ .i64 ((k:Int)+((1:Nat):Int)))))=true) (f:(decide ((γ .i64 ((k:Int)+((1:Nat):Int)))<(M:Int)))=true) (i:(Xqm (((0+(δ (k:Int)))*1)+1) (η cs))=true) (c:(decide (((0:Nat):Int)≤(k:Int)))=true) (d:(decide ((k:Int)<(M:Int)))=true) (o:(chk (.int .u32) (ζ (ε ((0+(δ (k:Int)))*1) cs) .dead))=true) (m:(decide (((0:Nat):Int)≤(n:Int)))=true) (p:(chk (.int .u32) (ζ (ε ((δ (k:Int))*1) (ai a)) .dead))=true) (g:(decide ((k:Int)<(a.length:Int)))=true) (b:lit true (decide ((k:Int)<(a.length:Int)))=true):ψ nt f222 ⟨[(5,.ref 0 0 0 M),(1,ω (n:Int)),(13,.sl (ai a) a.length e),(14,ω (a.length:Int)),(15,ω (k:Int))],[(0,⟨cs,0,false,0,1,true⟩)],.dead,[]⟩ (.normal) ⟨[(5,.ref 0 0 0 M),(1,ω (n:Int)),(13,.sl (ai a) a.length e),(14,ω (a.length:Int)),(15,ω (γ .i64 ((k:Int)+((1:Nat):Int))))],[(0,⟨(ν ((0+(δ (γ .i64 ((k:Int)+((1:Nat):Int)))))*1) (ν ((0+(δ (k:Int)))*1) cs++ [.int .u32 (γ .u32 (Xxf (Xqg (Xqd .u32) (τ (ζ (ε ((0+(δ (k:Int)))*1) cs) .dead))|||Xqg (Xqd .u32) (γ .u32 (γ .u64 ((γ .u64 (τ (ζ (ε ((δ (k:Int))*1) (ai a)) .dead)))*2^(min (δ (n:Int)) (Xqd .u64))))))))]++ε (((0+(δ (k:Int)))*1)+1) cs)++ [.int .u32 (γ .u32 (Xqw (γ .u64 ((γ .u64 (τ (ζ (ε ((δ (k:Int))*1) (ai a)) .dead)))*2^(min (δ (n:Int)) (Xqd .u64)))) (2^(min 32 64))))]++ε (((0+(δ (γ .i64 ((k:Int)+((1:Nat):Int)))))*1)+1) (ν ((0+(δ (k:Int)))*1) cs++ [.int .u32 (γ .u32 (Xxf (Xqg (Xqd .u32) (τ (ζ (ε ((0+(δ (k:Int)))*1) cs) .dead))|||Xqg (Xqd .u32) (γ .u32 (γ .u64 ((γ .u64 (τ (ζ (ε ((δ (k:Int))*1) (ai a)) .dead)))*2^(min (δ (n:Int)) (Xqd .u64))))))))]++ε (((0+(δ (k:Int)))*1)+1) cs)),0,false,0,1,true⟩)],.dead,[]⟩:=pJ 222 [] 1 1 (.c l (.c j (.c f (.k 1 i (.c c (.c d (.c o (.c c (.c d (.c m (.c p (.c c (.c g (.c b .nil)))))))))))))) (.nil) h
theorem TF {nt:Nat} (b:41≤nt) (a:List Nat) (d:Bool) (n M k:Nat) (cs:List AV) (c:lit false (decide ((k:Int)<(a.length:Int)))=true):ψ nt f222 ⟨[(5,.ref 0 0 0 M),(1,ω (n:Int)),(13,.sl (ai a) a.length d),(14,ω (a.length:Int)),(15,ω (k:Int))],[(0,⟨cs,0,false,0,1,true⟩)],.dead,[]⟩ (.exit 0) ⟨[(5,.ref 0 0 0 M)],[(0,⟨cs,0,false,0,1,true⟩)],.dead,[]⟩:=pJ 222 [] 1 0 (.c c .nil) (.nil) b
theorem Q9 {nt:Nat} (l:48≤nt) (a:List Nat) (c:Bool) (n M k:Nat) (cs:List AV) (p:(Xqm (((0+(δ (k:Int)))*1)+1) (η (ν ((0+(δ (k:Int)))*1) cs++ [.int .u32 (Xqw (τ (ζ (ε ((δ (k:Int))*1) (ai a)) .dead)) (2^(min (δ (n:Int)) (Xqd .u32))))]++ε (((0+(δ (k:Int)))*1)+1) cs)))=true) (b:(decide (((0:Nat):Int)≤(k:Int)))=true) (d:(decide ((k:Int)<(M:Int)))=true) (m:(decide (((0:Nat):Int)≤(γ .i64 (((32:Nat):Int) - (n:Int)))))=true) (o:(chk (.int .u32) (ζ (ε ((δ (γ .i64 ((k:Int)+((1:Nat):Int))))*1) (ai a)) .dead))=true) (i:(decide (((0:Nat):Int)≤(γ .i64 ((k:Int)+((1:Nat):Int)))))=true) (r:(decide ((γ .i64 ((k:Int)+((1:Nat):Int)))<(a.length:Int)))=true) (q:(chk (.int .u32) (ζ (ε ((0+(δ (k:Int)))*1) (ν ((0+(δ (k:Int)))*1) cs++ [.int .u32 (Xqw (τ (ζ (ε ((δ (k:Int))*1) (ai a)) .dead)) (2^(min (δ (n:Int)) (Xqd .u32))))]++ε (((0+(δ (k:Int)))*1)+1) cs)) .dead))=true) (s:lit true (decide ((γ .i64 ((k:Int)+((1:Nat):Int)))<(a.length:Int)))=true) (j:(Xqm (((0+(δ (k:Int)))*1)+1) (η cs))=true) (e:(decide (((0:Nat):Int)≤(n:Int)))=true) (f:(chk (.int .u32) (ζ (ε ((δ (k:Int))*1) (ai a)) .dead))=true) (g:(decide ((k:Int)<(a.length:Int)))=true) (h:lit true (decide ((k:Int)<(a.length:Int)))=true):ψ nt f226 ⟨[(0,.sl (ai a) a.length c),(1,ω (n:Int)),(5,.ref 0 0 0 M),(11,.sl (ai a) a.length c),(12,ω (a.length:Int)),(13,ω (k:Int))],[(0,⟨cs,0,false,0,1,true⟩)],.dead,[]⟩ (.normal) ⟨[(0,.sl (ai a) a.length c),(1,ω (n:Int)),(5,.ref 0 0 0 M),(11,.sl (ai a) a.length c),(12,ω (a.length:Int)),(13,ω (γ .i64 ((k:Int)+((1:Nat):Int))))],[(0,⟨(ν ((0+(δ (k:Int)))*1) (ν ((0+(δ (k:Int)))*1) cs++ [.int .u32 (Xqw (τ (ζ (ε ((δ (k:Int))*1) (ai a)) .dead)) (2^(min (δ (n:Int)) (Xqd .u32))))]++ε (((0+(δ (k:Int)))*1)+1) cs)++ [.int .u32 (γ .u32 (Xxf (Xqg (Xqd .u32) (τ (ζ (ε ((0+(δ (k:Int)))*1) (ν ((0+(δ (k:Int)))*1) cs++ [.int .u32 (Xqw (τ (ζ (ε ((δ (k:Int))*1) (ai a)) .dead)) (2^(min (δ (n:Int)) (Xqd .u32))))]++ε (((0+(δ (k:Int)))*1)+1) cs)) .dead))|||Xqg (Xqd .u32) (γ .u32 (γ .u64 ((γ .u64 (τ (ζ (ε ((δ (γ .i64 ((k:Int)+((1:Nat):Int))))*1) (ai a)) .dead)))*2^(min (δ (γ .i64 (((32:Nat):Int) - (n:Int)))) (Xqd .u64))))))))]++ε (((0+(δ (k:Int)))*1)+1) (ν ((0+(δ (k:Int)))*1) cs++ [.int .u32 (Xqw (τ (ζ (ε ((δ (k:Int))*1) (ai a)) .dead)) (2^(min (δ (n:Int)) (Xqd .u32))))]++ε (((0+(δ (k:Int)))*1)+1) cs)),0,false,0,1,true⟩)],.dead,[]⟩:=pJ 226 [] 2 3 (.c p (.c b (.c d (.c m (.c o (.c i (.c r (.c q (.c b (.c d (.c s (.c j (.c b (.c d (.c e (.c f (.c b (.c g (.c h .nil))))))))))))))))))) (.nil) l
theorem Q_ {nt:Nat} (e:48≤nt) (a:List Nat) (b:Bool) (n M k:Nat) (cs:List AV) (g:lit false (decide ((γ .i64 ((k:Int)+((1:Nat):Int)))<(a.length:Int)))=true) (d:(Xqm (((0+(δ (k:Int)))*1)+1) (η cs))=true) (c:(decide (((0:Nat):Int)≤(k:Int)))=true) (f:(decide ((k:Int)<(M:Int)))=true) (h:(decide (((0:Nat):Int)≤(n:Int)))=true) (i:(chk (.int .u32) (ζ (ε ((δ (k:Int))*1) (ai a)) .dead))=true) (j:(decide ((k:Int)<(a.length:Int)))=true) (l:lit true (decide ((k:Int)<(a.length:Int)))=true):ψ nt f226 ⟨[(0,.sl (ai a) a.length b),(1,ω (n:Int)),(5,.ref 0 0 0 M),(11,.sl (ai a) a.length b),(12,ω (a.length:Int)),(13,ω (k:Int))],[(0,⟨cs,0,false,0,1,true⟩)],.dead,[]⟩ (.normal) ⟨[(0,.sl (ai a) a.length b),(1,ω (n:Int)),(5,.ref 0 0 0 M),(11,.sl (ai a) a.length b),(12,ω (a.length:Int)),(13,ω (γ .i64 ((k:Int)+((1:Nat):Int))))],[(0,⟨(ν ((0+(δ (k:Int)))*1) cs++ [.int .u32 (Xqw (τ (ζ (ε ((δ (k:Int))*1) (ai a)) .dead)) (2^(min (δ (n:Int)) (Xqd .u32))))]++ε (((0+(δ (k:Int)))*1)+1) cs),0,false,0,1,true⟩)],.dead,[]⟩:=pJ 226 [] 2 1 (.c g (.c d (.c c (.c f (.c h (.c i (.c c (.c j (.c l .nil))))))))) (.nil) e
theorem Rf {nt:Nat} (c:48≤nt) (a:List Nat) (b:Bool) (n M k:Nat) (cs:List AV) (d:lit false (decide ((k:Int)<(a.length:Int)))=true):ψ nt f226 ⟨[(0,.sl (ai a) a.length b),(1,ω (n:Int)),(5,.ref 0 0 0 M),(11,.sl (ai a) a.length b),(12,ω (a.length:Int)),(13,ω (k:Int))],[(0,⟨cs,0,false,0,1,true⟩)],.dead,[]⟩ (.exit 0) ⟨[(5,.ref 0 0 0 M)],[(0,⟨cs,0,false,0,1,true⟩)],.dead,[]⟩:=pJ 226 [] 1 0 (.c d .nil) (.nil) c
def mV (b:Nat):List Nat→List Nat→Nat→List Nat × Nat
 | [],q,r=>(q,r)
 |x::l,q,r=>mV b l ((4294967296*r+x) / b::q) ((4294967296*r+x) % b)
theorem Fh {b r x:Nat} (a:0<b) (c:r<b) (d:x<4294967296):(4294967296*r+x) / b<4294967296:=by
 rw [Xqs a];have e:4294967296*(r+1)≤4294967296*b:=Xqx _ c;omega
theorem Xc {b r x v:Nat}:((4294967296*r+x) / b+4294967296*v)*b+(4294967296*r+x) % b=4294967296*(v*b+r)+x:=by
 have a:=Xq7 (4294967296*r+x) b;generalize (4294967296*r+x) / b=y at*
 generalize (4294967296*r+x) % b=z at*
 rw [Xxj,Xqn,Φ y b];omega
theorem Ov {b:Nat} (d:0<b) (l:List Nat):∀ (q:List Nat) (r:Nat),r<b→bH l→bH q→
  (mV b l q r).2<b∧bH (mV b l q r).1∧(mV b l q r).1.length=q.length+l.length∧aF (mV b l q r).1*b+(mV b l q r).2=4294967296^l.length*(aF q*b+r)+aF l.reverse:=by
 induction l with
 |nil=>
  intro q r c _ a;refine ⟨c,a,rfl, ?_⟩;simp only [mV,Xqb,Xve,Xzy,Xwx,aF,Xq0]
 |cons x l ih=>
  intro q r c e a;obtain ⟨f,g,h,i⟩:=ih ((4294967296*r+x) / b::q) ((4294967296*r+x) % b) (Xqu _ d) e.tail (a.cons (Fh d c e.head));refine ⟨f,g, ?_, ?_⟩
  ·simp only [mV];rw [h,μ,μ];omega
  simp only [mV];rw [i,Xz1,mJ,Xzp,μ,Xqz];simp only [aF,Xx8,Xq0];rw [Xc,Xq8,Xqn];omega
def SY (a:List Nat) (nn:Bool) (b:Nat) (k:Nat) (q:List Nat) (r:Nat):St:=⟨[(0,.sl (ai a) a.length nn),(1,.int .u32 (b:Int)),(6,.ref 0 0 0 a.length),(7,.int .u64 (r:Int)),(8,ω ((k:Int) - 1))],[(0,⟨ai (κ k 0++q),0,false,0,1,true⟩)],.dead,[]⟩
theorem Ox {nt:Nat} (m:44≤nt) (a:List Nat) (e:Bool) (b:Nat) (g:0<b) (t:b<4294967296) (w:a.length<2^40) (h:bH a):
  ∀ (l q d:List Nat) (r:Nat),r<b→l.reverse++d=a→q.length=d.length→aA prog ap [] nt (af 0 (ah f220)) (fun _=> .exit 0) (fun (x:Nat × List Nat × Nat)=>SY a e b x.1 x.2.1 x.2.2) (fun (x:List Nat × Nat)=>SY a e b 0 x.1 x.2) (l.length,q,r) (mV b l q r):=by
 intro l
 induction l with
 |nil=>
  intro q d r n hd i;have hbody:=S_ m a e b r a.length (-1) (ai q) rfl;exact .done (by simpa [SY,mV] using hbody)
 | cons x l ih=>
  intro q d r n hd i;have o:x<4294967296:=h x (by rw [← hd];simp);have j:l.length+1+d.length=a.length:=by rw [← hd];simp;omega
  refine .next ?_ (ih ((4294967296*r+x) / b::q) (x::d) ((4294967296*r+x) % b) (Xqu _ g) (by rw [← hd];simp) (by simp [i]))
  have hbody:=S9 m a e b r a.length (l.length:Int) (ai (κ l.length 0++0::q));have c:ζ (ε l.length (ai a)) .dead= .int .u32 (x:Int):=by
   rw [← hd,Xz1,Xqe];exact jO (by simp)
  have p:(((x::l).length:Nat):Int) - 1=(l.length:Int):=by simp
  have u:κ (x::l).length 0++q=κ l.length 0++0::q:=by rw [μ,Xj1,Xqe];rfl
  have f:4294967296*r|||x=4294967296*r+x:=by
   have:=zV (a:=r) (b:=x) (k:=32) o;rwa [nC,Φ] at this
  have s:=Fh g n o;have v:=Xqu (4294967296*r+x) g;simp (disch:=first|omega|(simp [au,ay]<;>omega)) only [aC,Xqf,χ,au,θ,Xxs,μ,fQ,bf,dm,aX,oK,υ,jC,dJ,dW,c,jL,bz,qR,Dp,nC,aY,V9,f,wO,pY,qZ,lT] at hbody;rw [dn (by omega) (by omega)] at hbody;simp only [SY,p,u];exact hbody (by omega) (by omega) (by omega) (by omega) trivial (by omega) (by omega)
theorem Eg {n:Nat} (h:n<2^40):γ .i64 ((n:Int) - ((1:Nat):Int))=(n:Int) - 1:=dn (by omega) (by omega)
theorem acf (q:List Nat) (a:Bool) (x:Nat) (b:eG q=digs x) (h:q.length<2^40):CO 162 [.sl (ai q) q.length a] (.ret (.sl (ai (digs x)) (digs x).length a)):=by
 have:=OL q a h;rwa [b] at this
theorem LW {l:List Nat} {n:Nat} (h:l.length=n):ν (n*1) (ai l)=ai l:=by
 rw [χ,Xqc (by rw [au,h];exact Δ _)]
theorem BF (q:List Nat) (n x:Nat) (a:q.length=n) (b:eG q=digs x) (h:n<2^40):CO 162 [.sl (ν (n*1) (ai q)) n true] (.ret (.sl (ai (digs x)) (digs x).length true)):=by
 rw [LW a];subst a;exact acf q true x b h
theorem F9 (n:Nat):κ n 0++([]:List Nat)=κ n 0:=Θ _
theorem aa0 (a:List Nat) (c:Bool) (b:Nat) (q:List Nat) (r x:Nat) (e:a.length<2^40) (d:q.length=a.length) (h:eG q=digs x) (hloop:∀ nt,44≤nt→aA prog ap [] nt (af 0 (ah f220)) (fun _=> .exit 0) (fun (x:Nat × List Nat × Nat)=>SY a c b x.1 x.2.1 x.2.2) (fun (x:List Nat × Nat)=>SY a c b 0 x.1 x.2) (a.length,[],0) (q,r)) (g:(decide (((0:Nat):Int)≤(a.length:Int)))=true) (f:(decide ((a.length:Int)=(a.length:Int)))=true) (i:(decide ((a.length:Int)≤((1099511627776:Nat):Int)))=true):CO 220 [.sl (ai a) a.length c,.int .u32 (b:Int)] (.ret (.tup [.sl (ai (digs x)) (digs x).length true,.int .u32 (γ .u32 (r:Int))])):=pK [0] 0 0 (.c g (.c f (.c i .nil))) (.c (BF q _ x d h e) (.l (by rw [aC,pR,← F9];exact aA.blk hloop (by simp) rfl (aH.of ⟨rfl,rfl,rfl,rfl,congrArg (Xxm .i64) (Eg e),trivial⟩) (aH.of ⟨rfl,rfl,trivial⟩):aG prog ap [] 44 (.block 0 (.loop (af 0 (ah f220)))) ⟨[(0,.sl (ai a) a.length c),(1,.int .u32 (b:Int)),(4,.nilS),(5,.int .u32 0),(6,.ref 0 0 0 (δ (a.length:Int))),(7,.int .u64 0),(8,ω (γ .i64 ((a.length:Int) - ((1:Nat):Int)))),(9,.dead),(17,.dead)],[(0,⟨(gp (δ (a.length:Int)) [.int .u32 0]),0,false,0,1,true⟩)],.dead,[]⟩ (.normal) ⟨[(6,.ref 0 0 0 a.length),(7,.int .u64 (r:Int))],[(0,⟨(ai q),0,false,0,1,true⟩)],.dead,[]⟩) .nil))
theorem Xd (a:List Nat) (j:Bool) (b:Nat) (c:0<b) (h:b<4294967296) (m:a.length<2^40) (d:bH a):CO 220 [.sl (ai a) a.length j,.int .u32 (b:Int)] (.ret (.tup [.sl (ai (digs (aF a / b))) (digs (aF a / b)).length true,.int .u32 ((aF a % b:Nat):Int)])):=by
 have g:bH a.reverse:=fun x t=>d x (List.mem_reverse.1 t)
 obtain ⟨f,l,i,e⟩:=Ov c a.reverse [] 0 c g bH.nil;rw [Xzp,Xqb,Xqf] at i;simp only [aF,Xwv,Xx8,Xqf,Xq0,List.reverse_reverse] at e;have k:=fun nt (hn:44≤nt)=>Ox hn a j b c h m d a.reverse [] [] 0 c (by simp) rfl
 rw [Xzp] at k;generalize hp:mV b a.reverse [] 0=p at*
 obtain ⟨q,r⟩:=p;simp only at f l i e;have o:aF q=aF a / b:=by rw [← e,Φ,Nat.mul_add_div c,Xxw f,Xq0]
 have s:r=aF a % b:=by rw [← e,Φ,Nat.mul_add_mod,υ f]
 have n:=aa0 a j b q r (aF a / b) m i (by rw [jJ l,o]) k (Yq0 (by omega)) (Yq0 rfl) (Yq0 (by omega));rw [qZ,υ (by omega),s] at n;exact n
def Mc (n c:Nat):List Nat→List Nat
 | []=> [c]
 |x::l=>(c+2^n*x % 4294967296)::Mc n (2^n*x / 4294967296) l
theorem sK (n:Nat) (l:List Nat):∀ c,(Mc n c l).length=l.length+1:=by
 induction l with
 |nil=>intro c;rfl
 |cons x l ih=>intro c;simp only [Mc,μ,ih]
theorem QI (n:Nat) (l:List Nat):∀ c,aF (Mc n c l)=c+2^n*aF l:=by
 induction l with
 |nil=>intro c;simp only [Mc,aF,Xx8]
 |cons x l ih=>
  intro c;simp only [Mc,aF,ih,Xq8];have h:=Xq7 (2^n*x) 4294967296;rw [← Xqn 4294967296 (2^n),← Xqn (2^n) 4294967296,Φ (2^n) 4294967296];omega
theorem Aj {n x:Nat} (d:n≤31) (e:x<4294967296):2^n*x<18446744073709551616∧2^n*x / 4294967296<2^n∧2^n*x % 4294967296=2^n*(x % 2^(32 - n))∧2^n*x % 4294967296+2^n≤4294967296∧2^n≤2147483648:=by
 have hp:(2:Nat)^n*2^(32 - n)=4294967296:=by rw [← Xxi,show n+(32 - n)=32 by omega,nC]
 have c:2^n≤2147483648:=Xqy (Xqa (by omega) d) (by decide);have h:2^n*x≤2^n*4294967295:=Xqx _ (by omega);have a:2^n*x % 4294967296=2^n*(x % 2^(32 - n)):=by rw [← hp,Xw3]
 have f:x % 2^(32 - n)+1≤2^(32 - n):=Xqu _ (Xqr _);have b:2^n*(x % 2^(32 - n)+1)≤2^n*2^(32 - n):=Xqx _ f;rw [hp,Xq8,χ,← a] at b;have g:2^n*x / 4294967296<2^n:=by
  rw [Xqs (by omega)];exact Xj9 e (Xqr _)
 exact ⟨by omega,g,a,b,c⟩
theorem afm {n x c:Nat} (a:n≤31) (b:x<4294967296) (d:c<2^n):c|||2^n*x % 4294967296=c+2^n*x % 4294967296:=by
 rw [(Aj a b).2.2.1,Yqa,Φ,zV d,Xxp]
theorem QH {n:Nat} (b:n≤31) (l:List Nat):∀ c,c<2^n→bH l→bH (Mc n c l):=by
 induction l with
 |nil=>
  intro c e _;have f:2^n≤2147483648:=Xqy (Xqa (by omega) b) (by decide);exact bH.cons (by omega) bH.nil
 |cons x l ih=>
  intro c e a;obtain ⟨_,d,_,g,_⟩:=Aj b a.head;exact bH.cons (by omega) (ih _ d a.tail)
theorem WZ {p s:List Nat} {v x y k:Nat} (h:k=p.length+1):ν k (ai (p++v::x::s))++ [Xxm .u32 (y:Int)]++ε (k+1) (ai (p++v::x::s))=ai (p++v::y::s):=by
 have:=lT (p:=p++ [v]) (s:=s) (x:=x) (y:=y) (k:=k) (by simpa using h);simpa using this
def akQ (a:List Nat) (nn:Bool) (n:Nat) (k:Nat) (o:List Nat):St:=⟨[(5,.ref 0 0 0 (a.length+1)),(1,ω (n:Int)),(13,.sl (ai a) a.length nn),(14,ω (a.length:Int)),(15,ω (k:Int))],[(0,⟨ai o,0,false,0,1,true⟩)],.dead,[]⟩
def acg (a o:List Nat):St:=⟨[(5,.ref 0 0 0 (a.length+1))],[(0,⟨ai o,0,false,0,1,true⟩)],.dead,[]⟩
theorem abq {nt:Nat} (m:41≤nt) (a:List Nat) (i:Bool) (n:Nat) (b:n≤31) (t:a.length<2^40) (g:bH a):
  ∀ (l d o:List Nat) (c:Nat),c<2^n→d++l=a→o.length=d.length→aA prog ap [] nt (af 0 (ah f222)) (fun _=> .exit 0) (fun (x:Nat × List Nat)=>akQ a i n x.1 x.2) (acg a) (d.length,o++c::κ l.length 0) (o++Mc n c l):=by
 intro l
 induction l with
 |nil=>
  intro d o c q hd j;have h:d=a:=by simpa using hd
  have hbody:=TF m a i n (a.length+1) a.length (ai (o++ [c])) (by rw [aX];simp [lit]);rw [h];exact .done hbody
 | cons x l ih=>
  intro d o c q hd j;have k:d.length+(l.length+1)=a.length:=by rw [← hd];simp
  have p:x<4294967296:=g x (by rw [← hd];simp);obtain ⟨s,r,v,u,w⟩:=Aj b p;have hnext:=ih (d++ [x]) (o++ [c+2^n*x % 4294967296]) (2^n*x / 4294967296) r (by rw [← hd];simp) (by simp [j]);rw [θ,Xqe,Xqe] at hnext;refine .next ?_ hnext
  have f:=afm b p q;have hbody:=TE m a i n (a.length+1) d.length (ai (o++c::0::κ l.length 0));have e:ζ (ε d.length (ai a)) .dead= .int .u32 (x:Int):=by
   rw [← hd];exact jO rfl
  simp (disch:=first|omega|(simp [au,ay]<;>omega)) only [bJ,aS,aC,Xqf,χ,jO,aY,e,oK,υ,PU,Dp,qZ,aim,f,lT,au,θ,μ,Xxs,fQ,bf,dm,aX,jL,bz,qR,lh,nC,WZ] at hbody;exact hbody (by omega) (by omega) (by omega) (by omega) (by omega) (by omega) trivial (by omega) trivial (by omega) (by omega)
def xX (n:Nat):List Nat→List Nat
 | []=> []
 |x::l=>(x / 2^n+2^(32 - n)*l.headD 0 % 4294967296)::xX n l
theorem Ih (n:Nat) (l:List Nat):(xX n l).length=l.length:=by
 induction l with
 |nil=>rfl
 |cons x l ih=>simp only [xX,μ,ih]
theorem Sv {n:Nat} (a:n≤31):(2:Nat)^(32 - n)*2^n=4294967296:=by rw [← Xxi,show 32 - n+n=32 by omega,nC]
theorem Zc {n:Nat} (a:n≤31) (l:List Nat):aF l % 2^n=l.headD 0 % 2^n:=by
 cases l with
 |nil=>rfl
 |cons h l=>
  simp only [aF,Xx9];rw [← Sv a,Φ (2^(32 - n)),Xqn,Xzg]
theorem DI {n h:Nat} (a:n≤31):2^(32 - n)*h % 4294967296=2^(32 - n)*(h % 2^n):=by
 rw [← Sv a,Xw3]
theorem Ri {n:Nat} (a:n≤31) (l:List Nat):aF (xX n l)=aF l / 2^n:=by
 induction l with
 |nil=>simp [xX,aF]
 | cons x l ih=>
  simp only [xX,aF];rw [ih,DI a,← Zc a];have c:=Xq7 (aF l) (2^n);have b:x+4294967296*aF l=x+2^n*(2^(32 - n)*aF l):=by rw [← Xqn,Φ (2^n),Sv a]
  rw [b,Xz5 _ _ (Xqr _)];have d:2^(32 - n)*aF l=4294967296*(aF l / 2^n)+2^(32 - n)*(aF l % 2^n):=by
   rw [← Sv a,Xqn,← Xq8,c]
  omega
theorem abH {n x:Nat} (b:n≤31) (a:x<4294967296):x / 2^n<2^(32 - n):=by
 rw [Xqs (Xqr _),Sv b];exact a
theorem agB {n x h:Nat} (a:n≤31) (b:x<4294967296):x / 2^n|||2^(32 - n)*h % 4294967296=x / 2^n+2^(32 - n)*h % 4294967296:=by
 rw [DI a,Yqa,Φ (2^(32 - n)),zV (abH a b),Xxp]
theorem UE {n x h:Nat} (a:n≤31) (c:x<4294967296):x / 2^n+2^(32 - n)*h % 4294967296<4294967296:=by
 rw [DI a];have b:h % 2^n+1≤2^n:=Xqu _ (Xqr _);have d:2^(32 - n)*(h % 2^n+1)≤2^(32 - n)*2^n:=Xqx _ b;rw [Sv a,Xq8,χ] at d;have:=abH a c;omega
theorem Rh {n:Nat} (a:n≤31) (l:List Nat):bH l→bH (xX n l):=by
 induction l with
 |nil=>exact fun h=>h
 |cons x l ih=>exact fun h=>bH.cons (UE a h.head) (ih h.tail)
def agA (a:List Nat) (nn:Bool) (n:Nat) (k:Nat) (o:List Nat):St:=⟨[(0,.sl (ai a) a.length nn),(1,ω (n:Int)),(5,.ref 0 0 0 a.length),(11,.sl (ai a) a.length nn),(12,ω (a.length:Int)),(13,ω (k:Int))],[(0,⟨ai o,0,false,0,1,true⟩)],.dead,[]⟩
def abG (a o:List Nat):St:=⟨[(5,.ref 0 0 0 a.length)],[(0,⟨ai o,0,false,0,1,true⟩)],.dead,[]⟩
theorem Yp {nt:Nat} (k:48≤nt) (a:List Nat) (g:Bool) (n:Nat) (e:n≤31) (w:a.length<2^40) (f:bH a):
  ∀ (l d o:List Nat),d++l=a→o.length=d.length→aA prog ap [] nt (af 0 (ah f226)) (fun _=> .exit 0) (fun (x:Nat × List Nat)=>agA a g n x.1 x.2) (abG a) (d.length,o++κ l.length 0) (o++xX n l):=by
 intro l
 induction l with
 |nil=>
  intro d o hd m;have j:d=a:=by simpa using hd
  have hbody:=Rf k a g n a.length a.length (ai (o++ [])) (by rw [aX];simp [lit]);rw [j];exact .done hbody
 | cons x l ih=>
  intro d o hd m;have b:d.length+(l.length+1)=a.length:=by rw [← hd];simp
  have p:x<4294967296:=f x (by rw [← hd];simp);have hnext:=ih (d++ [x]) (o++ [x / 2^n+2^(32 - n)*l.headD 0 % 4294967296]) (by rw [← hd];simp) (by simp [m]);rw [θ,Xqe,Xqe] at hnext;refine .next ?_ hnext
  have c:ζ (ε d.length (ai a)) .dead= .int .u32 (x:Int):=by
   rw [← hd];exact jO rfl
  have r:x / 2^n≤x:=Xjp _ _;cases l with
  |nil=>
   have hbody:=Q_ k a g n a.length d.length (ai (o++0::κ 0 0));simp only [Xqb] at b;simp (disch:=first|omega|(simp [au,ay]<;>omega)) only [bJ,aS,aX,dC,dJ,dW,aC,Xqf,χ,au,θ,μ,Xxs,fQ,bf,dm,c,jL,bz,aY,PT,lh,lT] at hbody;simp only [Xws,Xx8,Nat.zero_mod,Xq0];exact hbody (by omega) (by omega) (by omega) (by omega) (by omega) trivial (by omega) (by omega)
  | cons y l=>
   have t:y<4294967296:=f y (by rw [← hd];simp);simp only [μ] at b;have hget1:ζ (ε (d.length+1) (ai a)) .dead= .int .u32 (y:Int):=by
    rw [← hd,show d++x::y::l=(d++ [x])++y::l by simp];exact jO (by simp)
   have i:=agB (h:=y) e p;have q:=UE (h:=y) e p;have v:2^(32 - n)*y<18446744073709551616:=by
    have s:2^(32 - n)≤4294967296:=Xqy (Xqa (by omega) (show 32 - n≤32 by omega)) (by decide);have u:2^(32 - n)*y≤4294967296*y:=Xqt _ s;omega
   have hbody:=Q9 k a g n a.length d.length (ai (o++0::κ (y::l).length 0));simp (disch:=first|omega|(simp [au,ay]<;>omega)) only [aC,Xqf,χ,μ,c,aY,PT,lh,lT,au,θ,Xxs,fQ,bf,dm,aX,jP,bJ,aS,hget1,jL,jO,bz,oK,υ,PU,Dp,qZ,aim,i] at hbody;exact hbody (by omega) (by omega) (by omega) (by omega) trivial (by omega) (by omega) trivial (by omega) (by omega) (by omega) trivial (by omega) (by omega)
theorem amy (a:List Nat) (b:Bool) (n:Nat) (q:List Nat) (f:a.length<2^40) (hloop:∀ nt,41≤nt→aA prog ap [] nt (af 0 (ah f222)) (fun _=> .exit 0) (fun (x:Nat × List Nat)=>akQ a b n x.1 x.2) (acg a) (0,κ (a.length+1) 0) (q)) (d:(decide (((0:Nat):Int)≤(γ .i64 ((a.length:Int)+((1:Nat):Int)))))=true) (c:(decide ((γ .i64 ((a.length:Int)+((1:Nat):Int)))=(γ .i64 ((a.length:Int)+((1:Nat):Int)))))=true) (e:(decide ((γ .i64 ((a.length:Int)+((1:Nat):Int)))≤((1099511627776:Nat):Int)))=true):CO 222 [.sl (ai a) a.length b,ω (n:Int)] (.ret (.own (ν ((a.length+1)*1) (ai q)) (a.length+1) 1)):=pK [0] 0 0 (.c d (.c c (.c e .nil))) (.l (by rw [bJ,aS (by omega),aC,pR];exact aA.blk hloop (by simp) rfl (aH.of ⟨rfl,rfl,rfl,rfl,rfl,trivial⟩) (aH.of ⟨rfl,trivial⟩):aG prog ap [] 41 (.block 0 (.loop (af 0 (ah f222)))) ⟨[(0,.sl (ai a) a.length b),(1,ω (n:Int)),(4,.nilS),(5,.ref 0 0 0 (δ (γ .i64 ((a.length:Int)+((1:Nat):Int))))),(6,.dead),(7,.dead),(8,.dead),(13,.sl (ai a) a.length b),(14,ω (a.length:Int)),(15,ω 0),(16,.dead)],[(0,⟨(gp (δ (γ .i64 ((a.length:Int)+((1:Nat):Int)))) [.int .u32 0]),0,false,0,1,true⟩)],.dead,[]⟩ (.normal) ⟨[(5,.ref 0 0 0 (a.length+1))],[(0,⟨(ai q),0,false,0,1,true⟩)],.dead,[]⟩) .nil)
theorem ach (a:List Nat) (c:Bool) (n:Nat) (e:n≤31) (f:a.length<2^39) (b:bH a):CO 222 [.sl (ai a) a.length c,ω (n:Int)] (.ret (.own (ai (Mc n 0 a)) (a.length+1) 1)):=by
 have h:=amy a c n (Mc n 0 a) (by omega) (fun nt d=>abq d a c n e (by omega) b a [] [] 0 (Xqr _) rfl rfl);rw [LW (sK n a 0),bJ,aS (by omega)] at h;exact h (Yq0 (by omega)) (Yq0 rfl) (Yq0 (by omega))
theorem acY (a:List Nat) (b:Bool) (n x:Nat) (q:List Nat) (d:a.length<2^40) (c:q.length=a.length) (g:eG q=digs x) (hloop:∀ nt,48≤nt→aA prog ap [] nt (af 0 (ah f226)) (fun _=> .exit 0) (fun (x:Nat × List Nat)=>agA a b n x.1 x.2) (abG a) (0,κ a.length 0) (q)) (f:(decide (((0:Nat):Int)≤(a.length:Int)))=true) (e:(decide ((a.length:Int)=(a.length:Int)))=true) (h:(decide ((a.length:Int)≤((1099511627776:Nat):Int)))=true):CO 226 [.sl (ai a) a.length b,ω (n:Int)] (.ret (.sl (ai (digs x)) (digs x).length true)):=pK [0] 0 0 (.c f (.c e (.c h .nil))) (.c (BF q _ x c g d) (.l (by rw [aC,pR];exact aA.blk hloop (by simp) rfl (aH.of ⟨rfl,rfl,rfl,rfl,rfl,rfl,trivial⟩) (aH.of ⟨rfl,trivial⟩):aG prog ap [] 48 (.block 0 (.loop (af 0 (ah f226)))) ⟨[(0,.sl (ai a) a.length b),(1,ω (n:Int)),(4,.nilS),(5,.ref 0 0 0 (δ (a.length:Int))),(6,.dead),(7,.dead),(11,.sl (ai a) a.length b),(12,ω (a.length:Int)),(13,ω 0),(14,.dead),(28,.dead)],[(0,⟨(gp (δ (a.length:Int)) [.int .u32 0]),0,false,0,1,true⟩)],.dead,[]⟩ (.normal) ⟨[(5,.ref 0 0 0 a.length)],[(0,⟨(ai q),0,false,0,1,true⟩)],.dead,[]⟩) .nil))
theorem Yq (a:List Nat) (d:Bool) (n:Nat) (c:n≤31) (f:a.length<2^40) (b:bH a):CO 226 [.sl (ai a) a.length d,ω (n:Int)] (.ret (.sl (ai (digs (aF a / 2^n))) (digs (aF a / 2^n)).length true)):=
 acY a d n _ (xX n a) f (Ih n a) (by rw [jJ (Rh c a b),Ri c]) (fun nt e=>Yp e a d n c f b a [] [] rfl rfl) (Yq0 (by omega)) (Yq0 rfl) (Yq0 (by omega))
def dQ (x:Nat):Nat:=if x=0 then 0 else Yxw x+1
theorem Y9 {x m:Nat} (h:2^m≤x) (b:x<2^(m+1)):dQ x=m+1:=by
 have a:x ≠ 0:=by have:=Xqr m;omega
 unfold dQ;rw [if_neg a,(Yqe a).2 ⟨h,b⟩]
theorem uZ {x:Nat} (h:0<x):∃ m,dQ x=m+1∧2^m≤x∧x<2^(m+1):=by
 have a:x ≠ 0:=by omega
 have:=(Yqe (k:=Yxw x) a).1 rfl;exact ⟨Yxw x,by unfold dQ;rw [if_neg a],this.1,this.2⟩
theorem Ed {x y:Nat} (k:Nat) (c:0<x) (e:y<2^k):dQ (2^k*x+y)=k+dQ x:=by
 obtain ⟨m,a,d,b⟩:=uZ c;rw [a,← Xzc];apply Y9
 ·rw [Xxi];exact Xqy (Xqx _ d) (Nat.le_add_right _ _)
 ·rw [Xzc,Xxi];have:2^k*(x+1)≤2^k*2^(m+1):=Xqx _ b;rw [Xq8,χ] at this;omega
theorem uu {x k:Nat} (h:2^k≤x):dQ x=k+dQ (x / 2^k):=by
 have b:=Xq7 x (2^k);have a:0<x / 2^k:=Xvp h (Xqr _);have:=Ed (x:=x / 2^k) (y:=x % 2^k) k a (Xqu _ (Xqr _));rwa [b] at this
theorem lK {x k:Nat} (h:x<2^k):dQ x≤k:=by
 rcases Γ x with rfl|hx
 ·exact Xxo _
 ·obtain ⟨m,c,b,_⟩:=uZ hx;have:=(Nat.pow_lt_pow_iff_right (a:=2) (by omega)).1 (φ b h);omega
def Tf:List UInt8:= [0,1,2,2,3,3,3,3,4,4,4,4,4,4,4,4,5,5,5,5,5,5,5,5,5,5,5,5,5,5,5,5,6,6,6,6,6,6,6,6,6,6,6,6,6,6,6,6,6,6,6,6,6,6,6,6,6,6,6,6,6,6,6,6,7,7,7,7,7,7,7,7,7,7,7,7,7,7,7,7,7,7,7,7,7,7,7,7,7,7,7,7,7,7,7,7,7,7,7,7,7,7,7,7,7,7,7,7,7,7,7,7,7,7,7,7,7,7,7,7,7,7,7,7,7,7,7,7,8,8,8,8,8,8,8,8,8,8,8,8,8,8,8,8,8,8,8,8,8,8,8,8,8,8,8,8,8,8,8,8,8,8,8,8,8,8,8,8,8,8,8,8,8,8,8,8,8,8,8,8,8,8,8,8,8,8,8,8,8,8,8,8,8,8,8,8,8,8,8,8,8,8,8,8,8,8,8,8,8,8,8,8,8,8,8,8,8,8,8,8,8,8,8,8,8,8,8,8,8,8,8,8,8,8,8,8,8,8,8,8,8,8,8,8,8,8,8,8,8,8,8,8,8,8,8,8]
theorem Xi:∀ i:Fin 256,(Tf.getD i.val 0).toNat=dQ i.val:=by decide
theorem CS {i:Nat} (h:i<256):(Tf.getD i 0).toNat=dQ i:=Xi ⟨i,h⟩
theorem Y5 (x:Nat) (c:(decide (((0:Nat):Int)≤(γ .u8 (Xqw (Xqw (x:Int) (2^(min 16 32))) (2^(min 8 32))))))=true) (a:(decide ((γ .u8 (Xqw (Xqw (x:Int) (2^(min 16 32))) (2^(min 8 32))))<((256:Nat):Int)))=true) (d:lit true (decide (((256:Nat):Int)≤(Xqw (x:Int) (2^(min 16 32)))))=true) (b:lit true (decide (((65536:Nat):Int)≤(x:Int)))=true):CO 161 [.int .u32 (x:Int)] (.ret (ω (γ .i64 (((24:Nat):Int)+(γ .i64 ((Ξ (Xql Tf (δ (γ .u8 (Xqw (Xqw (x:Int) (2^(min 16 32))) (2^(min 8 32))))) 0):Nat):Int)))))):=pK [] 2 3 (.c c (.c a (.k 1 d (.k 1 b .nil)))) (.nil)
theorem Y6 (x:Nat) (c:(decide (((0:Nat):Int)≤(γ .u8 (Xqw (x:Int) (2^(min 16 32))))))=true) (a:(decide ((γ .u8 (Xqw (x:Int) (2^(min 16 32))))<((256:Nat):Int)))=true) (d:lit false (decide (((256:Nat):Int)≤(Xqw (x:Int) (2^(min 16 32)))))=true) (b:lit true (decide (((65536:Nat):Int)≤(x:Int)))=true):CO 161 [.int .u32 (x:Int)] (.ret (ω (γ .i64 (((16:Nat):Int)+(γ .i64 ((Ξ (Xql Tf (δ (γ .u8 (Xqw (x:Int) (2^(min 16 32))))) 0):Nat):Int)))))):=pK [] 2 1 (.c c (.c a (.c d (.k 1 b .nil)))) (.nil)
theorem Y7 (x:Nat) (c:(decide (((0:Nat):Int)≤(γ .u8 (Xqw (x:Int) (2^(min 8 32))))))=true) (a:(decide ((γ .u8 (Xqw (x:Int) (2^(min 8 32))))<((256:Nat):Int)))=true) (d:lit true (decide (((256:Nat):Int)≤(x:Int)))=true) (b:lit false (decide (((65536:Nat):Int)≤(x:Int)))=true):CO 161 [.int .u32 (x:Int)] (.ret (ω (γ .i64 (((8:Nat):Int)+(γ .i64 ((Ξ (Xql Tf (δ (γ .u8 (Xqw (x:Int) (2^(min 8 32))))) 0):Nat):Int)))))):=pK [] 2 2 (.c c (.c a (.k 1 d (.c b .nil)))) (.nil)
theorem Y8 (x:Nat) (c:(decide (((0:Nat):Int)≤(γ .u8 (x:Int))))=true) (a:(decide ((γ .u8 (x:Int))<((256:Nat):Int)))=true) (d:lit false (decide (((256:Nat):Int)≤(x:Int)))=true) (b:lit false (decide (((65536:Nat):Int)≤(x:Int)))=true):CO 161 [.int .u32 (x:Int)] (.ret (ω (γ .i64 (((0:Nat):Int)+(γ .i64 ((Ξ (Xql Tf (δ (γ .u8 (x:Int))) 0):Nat):Int)))))):=pK [] 2 0 (.c c (.c a (.c d (.c b .nil)))) (.nil)
theorem aej:(2:Nat)^16=65536:=by decide
theorem p_8:(2:Nat)^8=256:=by decide
theorem KA (x:Nat) (d:x<4294967296):CO 161 [.int .u32 (x:Int)] (.ret (ω ((dQ x:Nat):Int))):=by
 by_cases h1:65536≤x
 ·have c:=uu (k:=16) h1;rw [aej] at c;by_cases h2:256≤x / 65536
  ·have a:=uu (k:=8) h2;rw [p_8] at a;have h:=Y5 x;simp (disch:=first|omega|(simp [au,ay]<;>omega)) only [qR,lh,aej,p_8,w8u,υ,dm,bf,aX,bz,aC,CS] at h;have b:dQ (x / 65536 / 256)≤8:=lK (by omega);rw [aS (by omega),bJ,aS (by omega)] at h;rw [c,a,← Xzc];exact h (by omega) (by omega) (by omega) (by omega)
  ·have h:=Y6 x;simp (disch:=first|omega|(simp [au,ay]<;>omega)) only [qR,lh,aej,w8u,υ,dm,bf,aX,dC,dJ,dW,bz,aC,CS] at h;have b:dQ (x / 65536)≤8:=lK (by omega);rw [aS (by omega),bJ,aS (by omega)] at h;rw [c];exact h (by omega) (by omega) (by omega) (by omega)
 ·by_cases h2:256≤x
  ·have a:=uu (k:=8) h2;rw [p_8] at a;have h:=Y7 x;simp (disch:=first|omega|(simp [au,ay]<;>omega)) only [qR,lh,p_8,w8u,υ,dm,bf,aX,bz,dC,dJ,dW,aC,CS] at h;have b:dQ (x / 256)≤8:=lK (by omega);rw [aS (by omega),bJ,aS (by omega)] at h;rw [a];exact h (by omega) (by omega) (by omega) (by omega)
  ·have h:=Y8 x;simp (disch:=first|omega|(simp [au,ay]<;>omega)) only [w8u,υ,dm,bf,aX,dC,dJ,dW,aC,CS] at h;have b:dQ x≤8:=lK (by omega);rw [aS (by omega),bJ,aS (by omega),Xqf] at h;exact h (by omega) (by omega) (by omega) (by omega)
theorem ad5 (x:Nat) (a:x<4294967296):CO 221 [.int .u32 (x:Int)] (.ret (ω (γ .i64 (((32:Nat):Int) - ((dQ x:Nat):Int))))):=pK [] 0 0 .nil (.c (KA x a) .nil)
theorem Zf (x:Nat) (a:x<4294967296):CO 221 [.int .u32 (x:Int)] (.ret (ω ((32 - dQ x:Nat):Int))):=by
 have h:=ad5 x a;have b:dQ x≤32:=lK a;simp (disch:=first|omega|(simp [au,ay]<;>omega)) only [jP] at h;exact h
theorem Nw {nt:Nat} (b:52≤nt) (u2 u1 u0 v1 v0 q r:Nat) (c:lit true (decide (((4294967295:Nat):Int)<(γ .u64 ((r:Int)+(γ .u64 (v1:Int))))))=true) (a:lit true (decide (((4294967295:Nat):Int)<(q:Int)))=true):ψ nt f223 ⟨[(2,.ptr 0 0 0),(3,.ptr 1 0 0),(6,.int .u64 (q:Int)),(7,.int .u64 (r:Int))],[(0,⟨[.int .u32 (u2:Int),.int .u32 (u1:Int),.int .u32 (u0:Int)],0,false,0,0,true⟩),(1,⟨[.int .u32 (v1:Int),.int .u32 (v0:Int),.int .u32 0],0,false,0,0,true⟩)],.dead,[]⟩ (.exit 0) ⟨[(6,.int .u64 (γ .u64 ((q:Int) - ((1:Nat):Int))))],[(0,⟨[.int .u32 (u2:Int),.int .u32 (u1:Int),.int .u32 (u0:Int)],0,false,0,0,true⟩),(1,⟨[.int .u32 (v1:Int),.int .u32 (v0:Int),.int .u32 0],0,false,0,0,true⟩)],.dead,[]⟩:=pJ 223 [] 3 7 (.c c (.k 4 a .nil)) (.nil) b
theorem Ny {nt:Nat} (b:52≤nt) (u2 u1 u0 v1 v0 q r:Nat) (c:lit false (decide (((4294967295:Nat):Int)<(γ .u64 ((r:Int)+(γ .u64 (v1:Int))))))=true) (a:lit true (decide (((4294967295:Nat):Int)<(q:Int)))=true):ψ nt f223 ⟨[(2,.ptr 0 0 0),(3,.ptr 1 0 0),(6,.int .u64 (q:Int)),(7,.int .u64 (r:Int))],[(0,⟨[.int .u32 (u2:Int),.int .u32 (u1:Int),.int .u32 (u0:Int)],0,false,0,0,true⟩),(1,⟨[.int .u32 (v1:Int),.int .u32 (v0:Int),.int .u32 0],0,false,0,0,true⟩)],.dead,[]⟩ (.normal) ⟨[(2,.ptr 0 0 0),(3,.ptr 1 0 0),(6,.int .u64 (γ .u64 ((q:Int) - ((1:Nat):Int)))),(7,.int .u64 (γ .u64 ((r:Int)+(γ .u64 (v1:Int)))))],[(0,⟨[.int .u32 (u2:Int),.int .u32 (u1:Int),.int .u32 (u0:Int)],0,false,0,0,true⟩),(1,⟨[.int .u32 (v1:Int),.int .u32 (v0:Int),.int .u32 0],0,false,0,0,true⟩)],.dead,[]⟩:=pJ 223 [] 3 3 (.c c (.k 4 a .nil)) (.nil) b
theorem Nz {nt:Nat} (c:52≤nt) (u2 u1 u0 v1 v0 q r:Nat) (d:lit true (decide (((4294967295:Nat):Int)<(γ .u64 ((r:Int)+(γ .u64 (v1:Int))))))=true) (b:lit true (decide ((γ .u64 (Xxf (Xqg (Xqd .u64) (γ .u64 ((r:Int)*2^(min 32 64)))|||Xqg (Xqd .u64) (γ .u64 (u0:Int)))))<(γ .u64 ((q:Int)*(γ .u64 (v0:Int))))))=true) (a:lit false (decide (((4294967295:Nat):Int)<(q:Int)))=true):ψ nt f223 ⟨[(2,.ptr 0 0 0),(3,.ptr 1 0 0),(6,.int .u64 (q:Int)),(7,.int .u64 (r:Int))],[(0,⟨[.int .u32 (u2:Int),.int .u32 (u1:Int),.int .u32 (u0:Int)],0,false,0,0,true⟩),(1,⟨[.int .u32 (v1:Int),.int .u32 (v0:Int),.int .u32 0],0,false,0,0,true⟩)],.dead,[]⟩ (.exit 0) ⟨[(6,.int .u64 (γ .u64 ((q:Int) - ((1:Nat):Int))))],[(0,⟨[.int .u32 (u2:Int),.int .u32 (u1:Int),.int .u32 (u0:Int)],0,false,0,0,true⟩),(1,⟨[.int .u32 (v1:Int),.int .u32 (v0:Int),.int .u32 0],0,false,0,0,true⟩)],.dead,[]⟩:=pJ 223 [] 3 6 (.c d (.k 3 b (.k 7 a .nil))) (.nil) c
theorem NC {nt:Nat} (c:52≤nt) (u2 u1 u0 v1 v0 q r:Nat) (d:lit false (decide (((4294967295:Nat):Int)<(γ .u64 ((r:Int)+(γ .u64 (v1:Int))))))=true) (b:lit true (decide ((γ .u64 (Xxf (Xqg (Xqd .u64) (γ .u64 ((r:Int)*2^(min 32 64)))|||Xqg (Xqd .u64) (γ .u64 (u0:Int)))))<(γ .u64 ((q:Int)*(γ .u64 (v0:Int))))))=true) (a:lit false (decide (((4294967295:Nat):Int)<(q:Int)))=true):ψ nt f223 ⟨[(2,.ptr 0 0 0),(3,.ptr 1 0 0),(6,.int .u64 (q:Int)),(7,.int .u64 (r:Int))],[(0,⟨[.int .u32 (u2:Int),.int .u32 (u1:Int),.int .u32 (u0:Int)],0,false,0,0,true⟩),(1,⟨[.int .u32 (v1:Int),.int .u32 (v0:Int),.int .u32 0],0,false,0,0,true⟩)],.dead,[]⟩ (.normal) ⟨[(2,.ptr 0 0 0),(3,.ptr 1 0 0),(6,.int .u64 (γ .u64 ((q:Int) - ((1:Nat):Int)))),(7,.int .u64 (γ .u64 ((r:Int)+(γ .u64 (v1:Int)))))],[(0,⟨[.int .u32 (u2:Int),.int .u32 (u1:Int),.int .u32 (u0:Int)],0,false,0,0,true⟩),(1,⟨[.int .u32 (v1:Int),.int .u32 (v0:Int),.int .u32 0],0,false,0,0,true⟩)],.dead,[]⟩:=pJ 223 [] 3 2 (.c d (.k 3 b (.k 7 a .nil))) (.nil) c
theorem ND {nt:Nat} (b:52≤nt) (u2 u1 u0 v1 v0 q r:Nat) (c:lit false (decide ((γ .u64 (Xxf (Xqg (Xqd .u64) (γ .u64 ((r:Int)*2^(min 32 64)))|||Xqg (Xqd .u64) (γ .u64 (u0:Int)))))<(γ .u64 ((q:Int)*(γ .u64 (v0:Int))))))=true) (a:lit false (decide (((4294967295:Nat):Int)<(q:Int)))=true):ψ nt f223 ⟨[(2,.ptr 0 0 0),(3,.ptr 1 0 0),(6,.int .u64 (q:Int)),(7,.int .u64 (r:Int))],[(0,⟨[.int .u32 (u2:Int),.int .u32 (u1:Int),.int .u32 (u0:Int)],0,false,0,0,true⟩),(1,⟨[.int .u32 (v1:Int),.int .u32 (v0:Int),.int .u32 0],0,false,0,0,true⟩)],.dead,[]⟩ (.exit 0) ⟨[(6,.int .u64 (q:Int))],[(0,⟨[.int .u32 (u2:Int),.int .u32 (u1:Int),.int .u32 (u0:Int)],0,false,0,0,true⟩),(1,⟨[.int .u32 (v1:Int),.int .u32 (v0:Int),.int .u32 0],0,false,0,0,true⟩)],.dead,[]⟩:=pJ 223 [] 2 0 (.c c (.k 7 a .nil)) (.nil) b
def vW (u2 u1 u0 v1 v0:Nat):Nat:=min 4294967295 ((4294967296*(4294967296*u2+u1)+u0) / (4294967296*v1+v0))
theorem zD {u2 u1 u0 v1 v0 x:Nat} (a:0<v1):x≤vW u2 u1 u0 v1 v0↔x≤4294967295∧x*(4294967296*v1+v0)≤4294967296*(4294967296*u2+u1)+u0:=by
 unfold vW;rw [Nat.le_min,Xzd (by omega)]
theorem Iu {a u0 v1 v0 q r:Nat} (h:q*v1+r=a):q*(4294967296*v1+v0)≤4294967296*a+u0↔q*v0≤4294967296*r+u0:=by
 rw [← h,Xq8 q,Xq8 4294967296,← Xqn q,Φ q 4294967296,Xqn];omega
def abK (u2 u1 u0 v1 v0 q r:Nat):St:=⟨[(2,.ptr 0 0 0),(3,.ptr 1 0 0),(6,.int .u64 (q:Int)),(7,.int .u64 (r:Int))],[(0,⟨[.int .u32 (u2:Int),.int .u32 (u1:Int),.int .u32 (u0:Int)],0,false,0,0,true⟩),(1,⟨[.int .u32 (v1:Int),.int .u32 (v0:Int),.int .u32 0],0,false,0,0,true⟩)],.dead,[]⟩
def Vb (u2 u1 u0 v1 v0 q:Nat):St:=⟨[(6,.int .u64 (q:Int))],[(0,⟨[.int .u32 (u2:Int),.int .u32 (u1:Int),.int .u32 (u0:Int)],0,false,0,0,true⟩),(1,⟨[.int .u32 (v1:Int),.int .u32 (v0:Int),.int .u32 0],0,false,0,0,true⟩)],.dead,[]⟩
theorem Vd {nt:Nat} (i:52≤nt) (u2 u1 u0 v1 v0:Nat) (o:u2≤v1) (A:u1<4294967296) (g:u0<4294967296) (w:v1<4294967296) (v:v0<4294967296) (l:0<v1):
  ∀ (d q r:Nat),q=vW u2 u1 u0 v1 v0+d→q<8589934592→r<4294967296→q*v1+r=4294967296*u2+u1→aA prog ap [] nt (af 0 (ah f223)) (fun _=> .exit 0) (fun (x:Nat × Nat)=>abK u2 u1 u0 v1 v0 x.1 x.2) (Vb u2 u1 u0 v1 v0) (q,r) (vW u2 u1 u0 v1 v0):=by
 intro d
 induction d with
 | zero=>
  intro q r s m z c;obtain ⟨t,u⟩:=(zD (u2:=u2) (u1:=u1) (u0:=u0) (v0:=v0) (x:=q) l).1 (by omega);rw [Iu c] at u;have e:4294967296*r|||u0=4294967296*r+u0:=by
   have:=zV (a:=r) (b:=u0) (k:=32) g;rwa [nC,Φ] at this
  have n:q*v0<18446744073709551616:=φ u (by omega);have hbody:=ND i u2 u1 u0 v1 v0 q r;simp (disch:=first|omega|(simp [au,ay]<;>omega)) only [qR,Dp,nC,oK,υ,V9,e,xN,aX,dC,dJ,dW] at hbody;have:=hbody (by omega) (by omega);rw [s] at this ⊢;exact .done this
 | succ d ih=>
  intro q r s m z c;have t:¬ q≤vW u2 u1 u0 v1 v0:=by omega
  rw [zD l,Iu c] at t;have e:4294967296*r|||u0=4294967296*r+u0:=by
   have:=zV (a:=r) (b:=u0) (k:=32) g;rwa [nC,Φ] at this
  have hinv':(q - 1)*v1+(r+v1)=4294967296*u2+u1:=by
   rw [← c,show q=(q - 1)+1 by omega,Xxj,Xzy];simp only [Xwe];omega
  by_cases h6:4294967295<r+v1
  ·
   have p:q - 1=vW u2 u1 u0 v1 v0:=by
    refine Nat.le_antisymm ((zD l).2 ⟨?_,(Iu hinv').2 ?_⟩) (by omega)
    ·rcases Xq5 (q - 1) 4294967296 with h|h
     ·omega
     ·have j:4294967296*v1≤(q - 1)*v1:=Xqt _ h;have y:4294967296*u2≤4294967296*v1:=Xqx _ o;omega
    ·rcases Xq5 (q - 1) 4294967297 with h|h
     ·have j:(q - 1)*v0≤4294967296*v0:=Xqt _ (by omega);omega
     ·have j:4294967297*v1≤(q - 1)*v1:=Xqt _ h;have y:4294967296*u2≤4294967296*v1:=Xqx _ o;omega
   by_cases j:4294967295<q
   ·have hbody:=Nw i u2 u1 u0 v1 v0 q r;have f:γ .u64 ((q:Int) - ((1:Nat):Int))=((q - 1:Nat):Int):=by rw [kZ];omega
    rw [f] at hbody;simp (disch:=first|omega|(simp [au,ay]<;>omega)) only [oK,υ,bJ,aX,bz,bf,p] at hbody;exact .done (hbody (by omega) (by omega))
   ·have n:q*v0<18446744073709551616:=by
     have:q*v0≤4294967295*v0:=Xqt _ (by omega);omega
    have hbody:=Nz i u2 u1 u0 v1 v0 q r;have f:γ .u64 ((q:Int) - ((1:Nat):Int))=((q - 1:Nat):Int):=by rw [kZ];omega
    rw [f] at hbody;simp (disch:=first|omega|(simp [au,ay]<;>omega)) only [oK,υ,bJ,aX,bz,bf,qR,Dp,nC,V9,e,xN,dC,dJ,dW,p] at hbody;exact .done (hbody (by omega) (by omega) (by omega))
  ·refine .next ?_ (ih (q - 1) (r+v1) (by omega) (by omega) (by omega) hinv')
   by_cases j:4294967295<q
   ·have hbody:=Ny i u2 u1 u0 v1 v0 q r;have f:γ .u64 ((q:Int) - ((1:Nat):Int))=((q - 1:Nat):Int):=by rw [kZ];omega
    rw [f] at hbody;simp (disch:=first|omega|(simp [au,ay]<;>omega)) only [oK,υ,bJ,aX,dC,dJ,dW,bz,bf] at hbody;exact hbody (by omega) (by omega)
   ·have n:q*v0<18446744073709551616:=by
     have:q*v0≤4294967295*v0:=Xqt _ (by omega);omega
    have hbody:=NC i u2 u1 u0 v1 v0 q r;have f:γ .u64 ((q:Int) - ((1:Nat):Int))=((q - 1:Nat):Int):=by rw [kZ];omega
    rw [f] at hbody;simp (disch:=first|omega|(simp [au,ay]<;>omega)) only [oK,υ,bJ,aX,dC,dJ,dW,qR,Dp,nC,V9,e,xN,bz,bf] at hbody;exact hbody (by omega) (by omega) (by omega)
theorem ahe (u2 u1 u0 v1 v0:Nat) (d:u2<4294967296) (e:u1<4294967296) (f:v1<4294967296) (g:0<v1) (a:4294967296*u2|||u1=4294967296*u2+u1) (c:(4294967296*u2+u1) / v1<8589934592) (hloop:∀ nt,52≤nt→aA prog ap [] nt (af 0 (ah f223)) (fun _=> .exit 0) (fun (x:Nat × Nat)=>abK u2 u1 u0 v1 v0 x.1 x.2) (Vb u2 u1 u0 v1 v0) ((4294967296*u2+u1) / v1,(4294967296*u2+u1) % v1) (vW u2 u1 u0 v1 v0)) (b:(!((γ .u64 (v1:Int))==((0:Nat):Int)))=true):CO 223 [.agg [.int .u32 (u2:Int),.int .u32 (u1:Int),.int .u32 (u0:Int)],.agg [.int .u32 (v1:Int),.int .u32 (v0:Int),.int .u32 0]] (.ret (.int .u64 ((vW u2 u1 u0 v1 v0:Nat):Int))):=pK [0] 0 0 (.c b (.k 3 b (.n 10 .nil))) (.l (by simp (disch:=first|omega|(simp [au,ay]<;>omega)) only [oK,υ,qR,Dp,nC,V9,a,pY,wO];exact aA.blk hloop (by simp) rfl (aH.of ⟨rfl,rfl,rfl,rfl,trivial⟩) (aH.of ⟨rfl,trivial⟩):aG prog ap [] 52 (.block 0 (.loop (af 0 (ah f223)))) ⟨[(0,.agg [.int .u32 (u2:Int),.int .u32 (u1:Int),.int .u32 (u0:Int)]),(1,.agg [.int .u32 (v1:Int),.int .u32 (v0:Int),.int .u32 0]),(2,.ptr 0 0 0),(3,.ptr 1 0 0),(4,.int .u64 0),(5,.int .u64 (γ .u64 (Xxf (Xqg (Xqd .u64) (γ .u64 ((γ .u64 (u2:Int))*2^(min 32 64)))|||Xqg (Xqd .u64) (γ .u64 (u1:Int)))))),(6,.int .u64 (γ .u64 (Xxd (γ .u64 (Xxf (Xqg (Xqd .u64) (γ .u64 ((γ .u64 (u2:Int))*2^(min 32 64)))|||Xqg (Xqd .u64) (γ .u64 (u1:Int))))) (γ .u64 (v1:Int))))),(7,.int .u64 (Xjt (γ .u64 (Xxf (Xqg (Xqd .u64) (γ .u64 ((γ .u64 (u2:Int))*2^(min 32 64)))|||Xqg (Xqd .u64) (γ .u64 (u1:Int))))) (γ .u64 (v1:Int)))),(41,.dead),(50,.dead)],[(0,⟨[.int .u32 (u2:Int),.int .u32 (u1:Int),.int .u32 (u0:Int)],0,false,0,0,true⟩),(1,⟨[.int .u32 (v1:Int),.int .u32 (v0:Int),.int .u32 0],0,false,0,0,true⟩)],.dead,[]⟩ (.normal) ⟨[(6,.int .u64 ((vW u2 u1 u0 v1 v0:Nat):Int))],[(0,⟨[.int .u32 (u2:Int),.int .u32 (u1:Int),.int .u32 (u0:Int)],0,false,0,0,true⟩),(1,⟨[.int .u32 (v1:Int),.int .u32 (v0:Int),.int .u32 0],0,false,0,0,true⟩)],.dead,[]⟩) .nil)
theorem ads (u2 u1 u0 v1 v0:Nat) (j:u2≤v1) (c:u1<4294967296) (f:u0<4294967296) (d:v1<4294967296) (g:v0<4294967296) (n:2147483648≤v1):CO 223 [.agg [.int .u32 (u2:Int),.int .u32 (u1:Int),.int .u32 (u0:Int)],.agg [.int .u32 (v1:Int),.int .u32 (v0:Int),.int .u32 0]] (.ret (.int .u64 ((vW u2 u1 u0 v1 v0:Nat):Int))):=by
 have e:4294967296*u2|||u1=4294967296*u2+u1:=by
  have:=zV (a:=u2) (b:=u1) (k:=32) c;rwa [nC,Φ] at this
 have i:vW u2 u1 u0 v1 v0≤(4294967296*u2+u1) / v1:=by
  obtain ⟨p,m⟩:=(zD (u2:=u2) (u1:=u1) (u0:=u0) (v0:=v0) (v1:=v1) (by omega)).1 (Δ _);rw [Xzd (by omega)];rw [Xq8,← Xqn,Φ _ 4294967296,Xqn] at m;omega
 have hd:(4294967296*u2+u1) / v1<8589934592:=by
  rw [Xqs (by omega)];omega
 have o:(4294967296*u2+u1) % v1<v1:=Xqu _ (by omega);have h:=ahe u2 u1 u0 v1 v0 (by omega) c d (by omega) e hd (fun nt l=>Vd l u2 u1 u0 v1 v0 j c f d g (by omega) _ _ _ (Nat.add_sub_cancel' i).symm hd (by omega) (by rw [Φ];exact Xq7 _ _));simp (disch:=first|omega|(simp [au,ay]<;>omega)) only [oK,υ,jC,dJ,dW] at h;exact h (by omega)
theorem Tn {nt:Nat} (g:66≤nt) (U0 U v:List Nat) (e:Bool) (j M q c b i:Nat) (l:(Xqm (((j+(δ (i:Int)))*1)+1) (η (ai U)))=true) (a:(decide (((0:Nat):Int)≤(i:Int)))=true) (d:(decide ((i:Int)<(M:Int)))=true) (h:(chk (.int .u32) (ζ (ε ((j+(δ (i:Int)))*1) (ai U)) .dead))=true) (k:(chk (.int .u32) (ζ (ε ((δ (i:Int))*1) (ai v)) .dead))=true) (f:(decide ((i:Int)<(v.length:Int)))=true) (m:lit true (decide ((i:Int)<(v.length:Int)))=true):ak prog ap [⟨(ai U0),0,false,0,1,true⟩] nt (af 0 (ah f224)) ⟨[(0,.ref 0 0 j M),(1,.sl (ai v) v.length e),(2,.int .u64 (q:Int)),(7,.int .u64 (c:Int)),(8,.int .u64 (b:Int)),(14,ω (v.length:Int)),(15,ω (i:Int))],[(0,⟨(ai U),0,false,0,1,true⟩)],.dead,[]⟩ (.normal) ⟨[(0,.ref 0 0 j M),(1,.sl (ai v) v.length e),(2,.int .u64 (q:Int)),(7,.int .u64 (Xqw (γ .u64 ((γ .u64 ((q:Int)*(γ .u64 (τ (ζ (ε ((δ (i:Int))*1) (ai v)) .dead)))))+(c:Int))) (2^(min 32 64)))),(8,.int .u64 (Xqw (γ .u64 ((γ .u64 ((γ .u64 (τ (ζ (ε ((j+(δ (i:Int)))*1) (ai U)) .dead))) - (γ .u64 (Xxf (Xqg (Xqd .u64) (γ .u64 ((γ .u64 ((q:Int)*(γ .u64 (τ (ζ (ε ((δ (i:Int))*1) (ai v)) .dead)))))+(c:Int))) &&& Xqg (Xqd .u64) ((4294967295:Nat):Int)))))) - (b:Int))) (2^(min 63 64)))),(14,ω (v.length:Int)),(15,ω (γ .i64 ((i:Int)+((1:Nat):Int))))],[(0,⟨(ν ((j+(δ (i:Int)))*1) (ai U)++ [.int .u32 (γ .u32 (γ .u64 ((γ .u64 ((γ .u64 (τ (ζ (ε ((j+(δ (i:Int)))*1) (ai U)) .dead))) - (γ .u64 (Xxf (Xqg (Xqd .u64) (γ .u64 ((γ .u64 ((q:Int)*(γ .u64 (τ (ζ (ε ((δ (i:Int))*1) (ai v)) .dead)))))+(c:Int))) &&& Xqg (Xqd .u64) ((4294967295:Nat):Int)))))) - (b:Int))))]++ε (((j+(δ (i:Int)))*1)+1) (ai U)),0,false,0,1,true⟩)],.dead,[]⟩:=pJ 224 [] 1 1 (.c l (.c a (.c d (.k 1 h (.c a (.c d (.k 1 k (.c a (.c f (.c m .nil)))))))))) (.nil) g
theorem Tq {nt:Nat} (d:66≤nt) (U0 U v:List Nat) (a:Bool) (j M q c b i:Nat) (e:lit false (decide ((i:Int)<(v.length:Int)))=true):ak prog ap [⟨(ai U0),0,false,0,1,true⟩] nt (af 0 (ah f224)) ⟨[(0,.ref 0 0 j M),(1,.sl (ai v) v.length a),(2,.int .u64 (q:Int)),(7,.int .u64 (c:Int)),(8,.int .u64 (b:Int)),(14,ω (v.length:Int)),(15,ω (i:Int))],[(0,⟨(ai U),0,false,0,1,true⟩)],.dead,[]⟩ (.exit 0) ⟨[(0,.ref 0 0 j M),(1,.sl (ai v) v.length a),(7,.int .u64 (c:Int)),(8,.int .u64 (b:Int))],[(0,⟨(ai U),0,false,0,1,true⟩)],.dead,[]⟩:=pJ 224 [] 1 0 (.c e .nil) (.nil) d
theorem RD {nt:Nat} (f:42≤nt) (U0 U v:List Nat) (b:Bool) (j M c i:Nat) (k:(Xqm (((j+(δ (i:Int)))*1)+1) (η (ai U)))=true) (a:(decide (((0:Nat):Int)≤(i:Int)))=true) (d:(decide ((i:Int)<(M:Int)))=true) (g:(chk (.int .u32) (ζ (ε ((δ (i:Int))*1) (ai v)) .dead))=true) (l:(decide ((i:Int)<(v.length:Int)))=true) (h:(chk (.int .u32) (ζ (ε ((j+(δ (i:Int)))*1) (ai U)) .dead))=true) (e:lit true (decide ((i:Int)<(v.length:Int)))=true):ak prog ap [⟨(ai U0),0,false,0,1,true⟩] nt (af 0 (ah f225)) ⟨[(0,.ref 0 0 j M),(1,.sl (ai v) v.length b),(4,.int .u64 (c:Int)),(8,ω (v.length:Int)),(9,ω (i:Int))],[(0,⟨(ai U),0,false,0,1,true⟩)],.dead,[]⟩ (.normal) ⟨[(0,.ref 0 0 j M),(1,.sl (ai v) v.length b),(4,.int .u64 (Xqw (γ .u64 ((γ .u64 ((γ .u64 (τ (ζ (ε ((j+(δ (i:Int)))*1) (ai U)) .dead)))+(γ .u64 (τ (ζ (ε ((δ (i:Int))*1) (ai v)) .dead)))))+(c:Int))) (2^(min 32 64)))),(8,ω (v.length:Int)),(9,ω (γ .i64 ((i:Int)+((1:Nat):Int))))],[(0,⟨(ν ((j+(δ (i:Int)))*1) (ai U)++ [.int .u32 (γ .u32 (γ .u64 ((γ .u64 ((γ .u64 (τ (ζ (ε ((j+(δ (i:Int)))*1) (ai U)) .dead)))+(γ .u64 (τ (ζ (ε ((δ (i:Int))*1) (ai v)) .dead)))))+(c:Int))))]++ε (((j+(δ (i:Int)))*1)+1) (ai U)),0,false,0,1,true⟩)],.dead,[]⟩:=pJ 225 [] 1 1 (.c k (.c a (.c d (.k 1 g (.c a (.c l (.c h (.c a (.c d (.c e .nil)))))))))) (.nil) f
theorem RF {nt:Nat} (b:42≤nt) (U0 U v:List Nat) (a:Bool) (j M c i:Nat) (d:lit false (decide ((i:Int)<(v.length:Int)))=true):ak prog ap [⟨(ai U0),0,false,0,1,true⟩] nt (af 0 (ah f225)) ⟨[(0,.ref 0 0 j M),(1,.sl (ai v) v.length a),(4,.int .u64 (c:Int)),(8,ω (v.length:Int)),(9,ω (i:Int))],[(0,⟨(ai U),0,false,0,1,true⟩)],.dead,[]⟩ (.exit 0) ⟨[(0,.ref 0 0 j M),(1,.sl (ai v) v.length a),(4,.int .u64 (c:Int))],[(0,⟨(ai U),0,false,0,1,true⟩)],.dead,[]⟩:=pJ 225 [] 1 0 (.c d .nil) (.nil) b
def dN (u s b:Nat):Nat:=((u+(18446744073709551616 - s)) % 18446744073709551616+(18446744073709551616 - b)) % 18446744073709551616
theorem Ie {u s b:Nat} (c:u<4294967296) (hs:s<4294967296) (a:b≤1):dN u s b % 4294967296+s+b=u+4294967296*(dN u s b / 9223372036854775808)∧dN u s b / 9223372036854775808≤1∧dN u s b<18446744073709551616:=by
 unfold dN;omega
def mZ (q:Nat):List Nat→List Nat→Nat→Nat→List Nat × Nat × Nat
 | [],_,c,b=>([],c,b)
 |_::_,[],c,b=>([],c,b)
 |v::vs,u::us,c,b=>
  let r:=mZ q vs us ((q*v+c) / 4294967296) (dN u ((q*v+c) % 4294967296) b / 9223372036854775808)
  (dN u ((q*v+c) % 4294967296) b % 4294967296::r.1,r.2)
theorem VN {q v c:Nat} (b:q<4294967296) (a:v<4294967296) (d:c<4294967296):q*v<18446744073709551616∧q*v+c<18446744073709551616∧(q*v+c) / 4294967296<4294967296:=by
 have h:q*v≤q*4294967295:=Xqx _ (by omega);omega
theorem Ti {q:Nat} (l:q<4294967296) (vs:List Nat):∀ (a:List Nat) (c b:Nat),c<4294967296→b≤1→bH vs→bH a→vs.length≤a.length→
  (mZ q vs a c b).2.1<4294967296∧(mZ q vs a c b).2.2≤1∧bH (mZ q vs a c b).1∧(mZ q vs a c b).1.length=vs.length∧
  aF (mZ q vs a c b).1+q*aF vs+c+b=aF (a.take vs.length)+4294967296^vs.length*((mZ q vs a c b).2.1+(mZ q vs a c b).2.2):=by
 induction vs with
 |nil=>intro a c b g f _ _ _;exact ⟨g,f,bH.nil,rfl,by simp [mZ,aF]⟩
 | cons v vs ih=>
  intro a c b g f d e h;cases a with
  |nil=>simp at h
  |cons u a=>
   obtain ⟨t,w,o⟩:=VN l d.head g;obtain ⟨r,j,y⟩:=Ie (u:=u) (s:=(q*v+c) % 4294967296) (b:=b) e.head (Xqu _ (by omega)) f;obtain ⟨i,m,n,k,x⟩:=ih a _ _ o j d.tail e.tail (by simpa using h);simp only [mZ];refine ⟨i,m,bH.cons (Xqu _ (by omega)) n,by simp [k], ?_⟩;simp only [aF,μ,Xxu];have p:=Xq7 (q*v+c) 4294967296;rw [Xq8 q,Φ q (4294967296*aF vs),Xqn,Φ (aF vs) q,Xqz,Φ (4294967296^vs.length),Xqn];omega
def akK (v:List Nat) (nv:Bool) (j M q:Nat) (i:Nat) (U:List Nat) (c b:Nat):St:=⟨[(0,.ref 0 0 j M),(1,.sl (ai v) v.length nv),(2,.int .u64 (q:Int)),(7,.int .u64 (c:Int)),(8,.int .u64 (b:Int)),(14,ω (v.length:Int)),(15,ω (i:Int))],[(0,⟨ai U,0,false,0,1,true⟩)],.dead,[]⟩
def acd (v:List Nat) (nv:Bool) (j M:Nat) (U:List Nat) (c b:Nat):St:=⟨[(0,.ref 0 0 j M),(1,.sl (ai v) v.length nv),(7,.int .u64 (c:Int)),(8,.int .u64 (b:Int))],[(0,⟨ai U,0,false,0,1,true⟩)],.dead,[]⟩
def oW (U0:List Nat):List a_:= [⟨ai U0,0,false,0,1,true⟩]
theorem aba {nt:Nat} (m:66≤nt) (U0 v:List Nat) (g:Bool) (j M q:Nat) (t:q<4294967296) (p:bH v) (C:v.length<M) (y:v.length<2^40):
  ∀ (vs d a pre:List Nat) (c b:Nat),d++vs=v→pre.length=j+d.length→vs.length≤a.length→c<4294967296→b≤1→bH a→
  aA prog ap (oW U0) nt (af 0 (ah f224)) (fun _=> .exit 0) (fun (x:Nat × List Nat × Nat × Nat)=>akK v g j M q x.1 x.2.1 x.2.2.1 x.2.2.2) (fun (x:List Nat × Nat × Nat)=>acd v g j M x.1 x.2.1 x.2.2) (d.length,pre++a,c,b) (pre++(mZ q vs a c b).1++a.drop vs.length,(mZ q vs a c b).2.1,(mZ q vs a c b).2.2):=by
 intro vs
 induction vs with
 |nil=>
  intro d a pre c b hd hp i o l e;have k:d=v:=by simpa using hd
  have hbody:=Tq m U0 (pre++a) v g j M q c b v.length (by rw [aX];simp [lit]);refine .done ?_;simp only [mZ,Θ,Xqb,Xzh,k];exact hbody
 | cons x vs ih=>
  intro d a pre c b hd hp i o l e;cases a with
  |nil=>simp at i
  | cons u a=>
   have z:x<4294967296:=p x (by rw [← hd];simp);have n:d.length+(vs.length+1)=v.length:=by rw [← hd];simp
   have w:=e.head;obtain ⟨D,E,A⟩:=VN t z o;obtain ⟨B,r,F⟩:=Ie (u:=u) (s:=(q*x+c) % 4294967296) (b:=b) w (Xqu _ (by omega)) l;have hnext:=ih (d++ [x]) a (pre++ [dN u ((q*x+c) % 4294967296) b % 4294967296]) ((q*x+c) / 4294967296) (dN u ((q*x+c) % 4294967296) b / 9223372036854775808) (by rw [← hd];simp) (by simp;omega) (by simpa using i) A r e.tail;simp only [mZ,μ,Xz8];rw [θ] at hnext;simp only [Xqe,Xq9,Xqk,μ,Xqb] at hnext ⊢;refine .next ?_ hnext
   have f:ζ (ε d.length (ai v)) .dead= .int .u32 (x:Int):=by
    rw [← hd];exact jO rfl
   have hbody:=Tn m U0 (pre++u::a) v g j M q c b d.length;have h:((u+(18446744073709551616 - (q*x+c) % 4294967296)) % 18446744073709551616+(18446744073709551616 - b)) % 18446744073709551616=dN u ((q*x+c) % 4294967296) b:=rfl;simp (disch:=first|omega|(simp [au,ay]<;>omega)) only [aC,χ,au,θ,μ,fQ,bf,dm,aX,jO,jL,f,bz,aY,oK,υ,xN,bJ,qR,lh,nC,af4,Dj,kZ,h,ain,aS,qZ,lT] at hbody;exact hbody (by omega) (by omega) (by omega) trivial trivial (by omega) (by omega)
def qN:List Nat→List Nat→Nat→List Nat × Nat
 | [],_,c=>([],c)
 |_::_,[],c=>([],c)
 |v::vs,u::us,c=>
  let r:=qN vs us ((u+v+c) / 4294967296)
  ((u+v+c) % 4294967296::r.1,r.2)
theorem Rz (vs:List Nat):∀ (a:List Nat) (c:Nat),c≤1→bH vs→bH a→vs.length≤a.length→
  (qN vs a c).2≤1∧bH (qN vs a c).1∧(qN vs a c).1.length=vs.length∧
  aF (qN vs a c).1+4294967296^vs.length*(qN vs a c).2=aF (a.take vs.length)+aF vs+c:=by
 induction vs with
 |nil=>intro a c f _ _ _;exact ⟨f,bH.nil,rfl,by simp [qN,aF]⟩
 | cons v vs ih=>
  intro a c f b d e;cases a with
  |nil=>simp at e
  |cons u a=>
   have j:=b.head;have l:=d.head;obtain ⟨g,h,i,k⟩:=ih a ((u+v+c) / 4294967296) (by omega) b.tail d.tail (by simpa using e);simp only [qN];refine ⟨g,bH.cons (Xqu _ (by omega)) h,by simp [i], ?_⟩;simp only [aF,μ,Xxu];rw [Xqz,Φ (4294967296^vs.length),Xqn];omega
def ahv (v:List Nat) (nv:Bool) (j M:Nat) (i:Nat) (U:List Nat) (c:Nat):St:=⟨[(0,.ref 0 0 j M),(1,.sl (ai v) v.length nv),(4,.int .u64 (c:Int)),(8,ω (v.length:Int)),(9,ω (i:Int))],[(0,⟨ai U,0,false,0,1,true⟩)],.dead,[]⟩
def abP (v:List Nat) (nv:Bool) (j M:Nat) (U:List Nat) (c:Nat):St:=⟨[(0,.ref 0 0 j M),(1,.sl (ai v) v.length nv),(4,.int .u64 (c:Int))],[(0,⟨ai U,0,false,0,1,true⟩)],.dead,[]⟩
theorem Y2 {nt:Nat} (k:42≤nt) (U0 v:List Nat) (f:Bool) (j M:Nat) (l:bH v) (o:v.length<M) (m:v.length<2^40):
  ∀ (vs b a pre:List Nat) (c:Nat),b++vs=v→pre.length=j+b.length→vs.length≤a.length→c≤1→bH a→
  aA prog ap (oW U0) nt (af 0 (ah f225)) (fun _=> .exit 0) (fun (x:Nat × List Nat × Nat)=>ahv v f j M x.1 x.2.1 x.2.2) (fun (x:List Nat × Nat)=>abP v f j M x.1 x.2) (b.length,pre++a,c) (pre++(qN vs a c).1++a.drop vs.length,(qN vs a c).2):=by
 intro vs
 induction vs with
 |nil=>
  intro b a pre c hd hp g n d;have h:b=v:=by simpa using hd
  have hbody:=RF k U0 (pre++a) v f j M c v.length (by rw [aX];simp [lit]);refine .done ?_;simp only [qN,Θ,Xqb,Xzh,h];exact hbody
 | cons x vs ih=>
  intro b a pre c hd hp g n d;cases a with
  |nil=>simp at g
  | cons u a=>
   have q:x<4294967296:=l x (by rw [← hd];simp);have i:b.length+(vs.length+1)=v.length:=by rw [← hd];simp
   have p:=d.head;have hnext:=ih (b++ [x]) a (pre++ [(u+x+c) % 4294967296]) ((u+x+c) / 4294967296) (by rw [← hd];simp) (by simp;omega) (by simpa using g) (by omega) d.tail;simp only [qN,μ,Xz8];rw [θ] at hnext;simp only [Xqe,Xq9,Xqk,μ,Xqb] at hnext ⊢;refine .next ?_ hnext
   have e:ζ (ε b.length (ai v)) .dead= .int .u32 (x:Int):=by
    rw [← hd];exact jO rfl
   have hbody:=RD k U0 (pre++u::a) v f j M c b.length;simp (disch:=first|omega|(simp [au,ay]<;>omega)) only [aC,χ,au,θ,μ,fQ,bf,dm,aX,e,jL,jO,bz,aY,oK,υ,bJ,qR,lh,nC,aS,qZ,lT] at hbody;exact hbody (by omega) (by omega) (by omega) trivial (by omega) trivial (by omega)
theorem afx (U W v:List Nat) (a:Bool) (j M q c b:Nat) (hloop:∀ nt,66≤nt→aA prog ap (oW U) nt (af 0 (ah f224)) (fun _=> .exit 0) (fun (x:Nat × List Nat × Nat × Nat)=>akK v a j M q x.1 x.2.1 x.2.2.1 x.2.2.2) (fun (x:List Nat × Nat × Nat)=>acd v a j M x.1 x.2.1 x.2.2) (0,U,0,0) (W,c,b)) (g:(Xqm (((j+(δ (v.length:Int)))*1)+1) (η (ai W)))=true) (d:(decide (((0:Nat):Int)≤(v.length:Int)))=true) (e:(decide ((v.length:Int)<(M:Int)))=true) (f:(chk (.int .u32) (ζ (ε ((j+(δ (v.length:Int)))*1) (ai W)) .dead))=true):bC prog ap 224 [.ref 0 0 j M,.sl (ai v) v.length a,.int .u64 (q:Int)] [⟨(ai U),0,false,0,1,true⟩] (.ret (.bool (!((Xqw (γ .u64 ((γ .u64 ((γ .u64 (τ (ζ (ε ((j+(δ (v.length:Int)))*1) (ai W)) .dead))) - (c:Int))) - (b:Int))) (2^(min 63 64)))==((0:Nat):Int))))) [⟨(ν ((j+(δ (v.length:Int)))*1) (ai W)++ [.int .u32 (γ .u32 (γ .u64 ((γ .u64 ((γ .u64 (τ (ζ (ε ((j+(δ (v.length:Int)))*1) (ai W)) .dead))) - (c:Int))) - (b:Int))))]++ε (((j+(δ (v.length:Int)))*1)+1) (ai W)),0,false,0,1,true⟩]:=pK [0] 0 0 (.k 1 g (.c d (.c e (.c f (.c d (.c e .nil)))))) (.l (by exact aA.blk hloop (by simp) rfl (aH.of ⟨rfl,rfl,rfl,rfl,rfl,rfl,rfl,trivial⟩) (aH.of ⟨rfl,rfl,rfl,rfl,trivial⟩):aG prog ap [⟨(ai U),0,false,0,1,true⟩] 66 (.block 0 (.loop (af 0 (ah f224)))) ⟨[(0,.ref 0 0 j M),(1,.sl (ai v) v.length a),(2,.int .u64 (q:Int)),(6,.bool false),(7,.int .u64 0),(8,.int .u64 0),(9,.dead),(10,.dead),(11,.dead),(12,.dead),(14,ω (v.length:Int)),(15,ω 0),(16,.dead)],[(0,⟨(ai U),0,false,0,1,true⟩)],.dead,[]⟩ (.normal) ⟨[(0,.ref 0 0 j M),(1,.sl (ai v) v.length a),(7,.int .u64 (c:Int)),(8,.int .u64 (b:Int))],[(0,⟨(ai W),0,false,0,1,true⟩)],.dead,[]⟩) .nil)
theorem adS (U W v:List Nat) (a:Bool) (j M c:Nat) (hloop:∀ nt,42≤nt→aA prog ap (oW U) nt (af 0 (ah f225)) (fun _=> .exit 0) (fun (x:Nat × List Nat × Nat)=>ahv v a j M x.1 x.2.1 x.2.2) (fun (x:List Nat × Nat)=>abP v a j M x.1 x.2) (0,U,0) (W,c)) (f:(Xqm (((j+(δ (v.length:Int)))*1)+1) (η (ai W)))=true) (b:(decide (((0:Nat):Int)≤(v.length:Int)))=true) (d:(decide ((v.length:Int)<(M:Int)))=true) (e:(chk (.int .u32) (ζ (ε ((j+(δ (v.length:Int)))*1) (ai W)) .dead))=true):bC prog ap 225 [.ref 0 0 j M,.sl (ai v) v.length a] [⟨(ai U),0,false,0,1,true⟩] (.ret (.tup [])) [⟨(ν ((j+(δ (v.length:Int)))*1) (ai W)++ [.int .u32 (γ .u32 ((τ (ζ (ε ((j+(δ (v.length:Int)))*1) (ai W)) .dead))+(γ .u32 (c:Int))))]++ε (((j+(δ (v.length:Int)))*1)+1) (ai W)),0,false,0,1,true⟩]:=pK [0] 0 0 (.c f (.c b (.c d (.c e (.c b (.c d .nil)))))) (.l (by exact aA.blk hloop (by simp) rfl (aH.of ⟨rfl,rfl,rfl,rfl,rfl,trivial⟩) (aH.of ⟨rfl,rfl,rfl,trivial⟩):aG prog ap [⟨(ai U),0,false,0,1,true⟩] 42 (.block 0 (.loop (af 0 (ah f225)))) ⟨[(0,.ref 0 0 j M),(1,.sl (ai v) v.length a),(4,.int .u64 0),(5,.dead),(6,.dead),(8,ω (v.length:Int)),(9,ω 0),(10,.dead)],[(0,⟨(ai U),0,false,0,1,true⟩)],.dead,[]⟩ (.normal) ⟨[(0,.ref 0 0 j M),(1,.sl (ai v) v.length a),(4,.int .u64 (c:Int))],[(0,⟨(ai W),0,false,0,1,true⟩)],.dead,[]⟩) .nil)
theorem BI (n W:Nat) (post:List Nat):ν n (bI (n+1) W++post)=bI n W:=by
 rw [uD,Xqe,Xxv (by rw [aP];exact Δ _),Xqc (by rw [aP];exact Δ _)]
theorem BH (n W:Nat) (post:List Nat):ε n (bI (n+1) W++post)=W / 2^(32*n) % 2^32::post:=by
 rw [uD,Xqe,List.drop_append_of_le_length (by rw [aP];exact Δ _),List.drop_of_length_le (by rw [aP];exact Δ _)];rfl
theorem N_ {l:List Nat} {m:Nat} (h:bH l) (a:l.length=m):l=bI m (aF l):=by subst a;exact (EN h).symm
theorem aa7 (pre post v:List Nat) (w:Bool) (n W q:Nat) (j:v.length=n) (A:bH v) (D:q<4294967296) (L:W<4294967296^(n+1)) (hpost:bH post) (M:pre.length+n<2^40):
  bC prog ap 224 [.ref 0 0 pre.length (n+1),.sl (ai v) n w,.int .u64 (q:Int)] (oW (pre++bI (n+1) W++post)) (.ret (.bool (decide (W<q*aF v)))) (oW (pre++bI (n+1) (if W<q*aF v then W+4294967296^(n+1) - q*aF v else W - q*aF v)++post)):=by
 have e:bH (bI (n+1) W++post):=bH.app (bH.pad _ _) hpost;obtain ⟨B,C,F,i,o⟩:=Ti D v (bI (n+1) W++post) 0 0 (by omega) (by omega) A e (by simp [aP];omega);have hloop:=fun nt (hnt:66≤nt)=>aba hnt (pre++bI (n+1) W++post) v w pre.length (n+1) q D A (by omega) (by omega) v [] (bI (n+1) W++post) pre 0 0 rfl rfl (by simp [aP];omega) (by omega) (by omega) e
 rw [j,BI,vS,mi] at o;rw [j,BH,mi,nC] at hloop;generalize Q:mZ q v (bI (n+1) W++post) 0 0=r at*
 obtain ⟨y,c,b⟩:=r;simp only [Xq0,Xqb,← Xqe] at B C F i o hloop;have E:W / 4294967296^n<4294967296:=by
  rw [Xqs (iD n),Φ,← Xqz];exact L
 rw [υ E] at hloop;have J:=Xq7 W (4294967296^n);generalize G:W / 4294967296^n=x at*
 obtain ⟨H,N,R⟩:=Ie (u:=x) (s:=c) (b:=b) E B C;have htake:=afx (pre++bI (n+1) W++post) (pre++y++x::post) v w pre.length (n+1) q c b hloop;have d:pre.length+n=(pre++y).length:=by simp [i,j]
 have k:((x+(18446744073709551616 - c)) % 18446744073709551616+(18446744073709551616 - b)) % 18446744073709551616=dN x c b:=rfl;rw [j] at htake i;have t:ζ (ε (pre.length+n) (ai (pre++y++x::post))) .dead= .int .u32 (x:Int):=jO d;have g:∀ z:Nat,ν (pre.length+n) (ai (pre++y++x::post))++ [Xxm .u32 (z:Int)]++ε (pre.length+n+1) (ai (pre++y++x::post))=ai (pre++y++z::post):=fun z=>lT d
 simp (disch:=first|omega|(simp [au,ay]<;>omega)) only [aC,χ,au,θ,μ,fQ,bf,dm,aX,t,jL,aY,oK,υ,kZ,k,qR,lh,ain,jC,qZ,g] at htake;have htake:=htake (by omega) (by omega) (by omega) trivial;generalize O:dN x c b / 9223372036854775808=f at*
 generalize P:dN x c b % 4294967296=z at*
 have p:z<4294967296:=by omega
 have h:bH (y++ [z]):=bH.app F (bH.cons p bH.nil);have a:aF (y++ [z])+q*aF v=W+4294967296^(n+1)*f:=by
  rw [mJ,i];simp only [aF,Xx8,Xq0];have K:4294967296^n*(z+c+b)=4294967296^n*(x+4294967296*f):=by rw [H]
  rw [Xqz,Xqn];rw [Xq8,Xq8,Xq8] at K;rw [Xq8] at o;omega
 have m:=pV h;have hlen2:(y++ [z]).length=n+1:=by simp [i]
 rw [hlen2] at m;have hlist:pre++y++z::post=pre++(y++ [z])++post:=by simp
 have l:(!decide (f=0))=decide (W<q*aF v):=by
  rcases Γ f with h0|h0
  ·rw [h0,Xx8,Xq0] at a;rw [h0,Yq0 rfl,Yq1 (by omega)];rfl
  ·rw [show f=1 by omega,χ] at a;rw [Yq1 (by omega),Yq0 (by omega)];rfl
 have I:aF (y++ [z])=if W<q*aF v then W+4294967296^(n+1) - q*aF v else W - q*aF v:=by
  rcases Γ f with h0|h0
  ·rw [h0,Xx8,Xq0] at a;rw [if_neg (by omega)];omega
  ·rw [show f=1 by omega,χ] at a;rw [if_pos (by omega)];omega
 rw [hlist,N_ h hlen2,I,l] at htake;exact htake
theorem Y0 (pre post v:List Nat) (j:Bool) (n W:Nat) (i:v.length=n) (l:bH v) (A:W<4294967296^(n+1)) (hpost:bH post) (C:pre.length+n<2^40):
  bC prog ap 225 [.ref 0 0 pre.length (n+1),.sl (ai v) n j] (oW (pre++bI (n+1) W++post)) (.ret (.tup [])) (oW (pre++bI (n+1) ((W+aF v) % 4294967296^(n+1))++post)):=by
 have d:bH (bI (n+1) W++post):=bH.app (bH.pad _ _) hpost;obtain ⟨t,p,f,m⟩:=Rz v (bI (n+1) W++post) 0 (by omega) l d (by simp [aP];omega);have hloop:=fun nt (hnt:42≤nt)=>Y2 hnt (pre++bI (n+1) W++post) v j pre.length (n+1) l (by omega) (by omega) v [] (bI (n+1) W++post) pre 0 rfl rfl (by simp [aP];omega) (by omega) d
 rw [i,BI,vS,mi] at m;rw [i,BH,mi,nC] at hloop;generalize D:qN v (bI (n+1) W++post) 0=r at*
 obtain ⟨y,c⟩:=r;simp only [Xq0,Xqb,← Xqe] at t p f m hloop;have B:W / 4294967296^n<4294967296:=by
  rw [Xqs (iD n),Φ,← Xqz];exact A
 rw [υ B] at hloop;have q:=Xq7 W (4294967296^n);generalize u:W / 4294967296^n=x at*
 have hgive:=adS (pre++bI (n+1) W++post) (pre++y++x::post) v j pre.length (n+1) c hloop;have a:pre.length+n=(pre++y).length:=by simp [f,i]
 rw [i] at hgive f;have k:ζ (ε (pre.length+n) (ai (pre++y++x::post))) .dead= .int .u32 (x:Int):=jO a;have h:∀ z:Nat,ν (pre.length+n) (ai (pre++y++x::post))++ [Xxm .u32 (z:Int)]++ε (pre.length+n+1) (ai (pre++y++x::post))=ai (pre++y++z::post):=fun z=>lT a
 rw [qZ,υ (show c<4294967296 by omega)] at hgive;have o:γ .u32 ((x:Int)+(c:Int))=(((x+c) % 4294967296:Nat):Int):=by rw [bJ,qZ]
 simp (disch:=first|omega|(simp [au,ay]<;>omega)) only [aC,χ,au,θ,μ,fQ,bf,dm,aX,k,jL,aY,bJ,qZ,h] at hgive;have hgive:=hgive (by omega) (by omega) (by omega) trivial;have b:bH (y++ [(x+c) % 4294967296]):=bH.app p (bH.cons (Xqu _ (by omega)) bH.nil);have g:aF (y++ [(x+c) % 4294967296])+4294967296^(n+1)*((x+c) / 4294967296)=W+aF v:=by
  rw [mJ,f];simp only [aF,Xx8,Xq0];have s:4294967296^n*(x+c)=4294967296^n*(4294967296*((x+c) / 4294967296)+(x+c) % 4294967296):=by rw [Xq7]
  rw [Xqz,Xqn];rw [Xq8,Xq8] at s;omega
 have e:=pV b;have hlen2:(y++ [(x+c) % 4294967296]).length=n+1:=by simp [f]
 rw [hlen2] at e;have hlist:pre++y++(x+c) % 4294967296::post=pre++(y++ [(x+c) % 4294967296])++post:=by simp
 have w:aF (y++ [(x+c) % 4294967296])=(W+aF v) % 4294967296^(n+1):=by
  rw [← g,Xzg,υ e]
 rw [hlist,N_ b hlen2,w] at hgive;exact hgive
theorem agG {nt:Nat} (y:130≤nt) (Q U U1 U2 v:List Nat) (c s M n j q:Nat) (A:(Xqm (((0+(δ (j:Int)))*1)+1) (η (ai Q)))=true) (k:(decide (((0:Nat):Int)≤(j:Int)))=true) (w:(decide ((j:Int)<(c:Int)))=true) (p:(decide ((j:Int)≤(γ .i64 ((γ .i64 ((j:Int)+(n:Int)))+((1:Nat):Int)))))=true) (r:(decide ((γ .i64 ((γ .i64 ((j:Int)+(n:Int)))+((1:Nat):Int)))≤(M:Int)))=true) (t:(chk (.int .u32) (ζ (ε ((δ (γ .i64 ((n:Int) - ((2:Nat):Int))))*1) (ai v)) .dead))=true) (D:(decide (((0:Nat):Int)≤(γ .i64 ((n:Int) - ((2:Nat):Int)))))=true) (B:(decide ((γ .i64 ((n:Int) - ((2:Nat):Int)))<(v.length:Int)))=true) (E:(chk (.int .u32) (ζ (ε ((δ (γ .i64 ((n:Int) - ((1:Nat):Int))))*1) (ai v)) .dead))=true) (x:(decide (((0:Nat):Int)≤(γ .i64 ((n:Int) - ((1:Nat):Int)))))=true) (f:(decide ((γ .i64 ((n:Int) - ((1:Nat):Int)))<(v.length:Int)))=true) (i:(chk (.int .u32) (ζ (ε ((0+(δ (γ .i64 ((γ .i64 ((j:Int)+(n:Int))) - ((2:Nat):Int)))))*1) (ai U)) .dead))=true) (l:(decide (((0:Nat):Int)≤(γ .i64 ((γ .i64 ((j:Int)+(n:Int))) - ((2:Nat):Int)))))=true) (m:(decide ((γ .i64 ((γ .i64 ((j:Int)+(n:Int))) - ((2:Nat):Int)))<(M:Int)))=true) (o:(chk (.int .u32) (ζ (ε ((0+(δ (γ .i64 ((γ .i64 ((j:Int)+(n:Int))) - ((1:Nat):Int)))))*1) (ai U)) .dead))=true) (d:(decide (((0:Nat):Int)≤(γ .i64 ((γ .i64 ((j:Int)+(n:Int))) - ((1:Nat):Int)))))=true) (b:(decide ((γ .i64 ((γ .i64 ((j:Int)+(n:Int))) - ((1:Nat):Int)))<(M:Int)))=true) (g:(chk (.int .u32) (ζ (ε ((0+(δ (γ .i64 ((j:Int)+(n:Int)))))*1) (ai U)) .dead))=true) (h:(decide (((0:Nat):Int)≤(γ .i64 ((j:Int)+(n:Int)))))=true) (e:(decide ((γ .i64 ((j:Int)+(n:Int)))<(M:Int)))=true) (a:lit true (decide (((0:Nat):Int)≤(j:Int)))=true) (u:CO 223 [.agg [.int .u32 (τ (ζ (ε ((0+(δ (γ .i64 ((j:Int)+(n:Int)))))*1) (ai U)) .dead)),.int .u32 (τ (ζ (ε ((0+(δ (γ .i64 ((γ .i64 ((j:Int)+(n:Int))) - ((1:Nat):Int)))))*1) (ai U)) .dead)),.int .u32 (τ (ζ (ε ((0+(δ (γ .i64 ((γ .i64 ((j:Int)+(n:Int))) - ((2:Nat):Int)))))*1) (ai U)) .dead))],.agg [.int .u32 (τ (ζ (ε ((δ (γ .i64 ((n:Int) - ((1:Nat):Int))))*1) (ai v)) .dead)),.int .u32 (τ (ζ (ε ((δ (γ .i64 ((n:Int) - ((2:Nat):Int))))*1) (ai v)) .dead)),.int .u32 0]] (.ret (.int .u64 (q:Int)))) (C:bC prog ap 224 [.ref 0 0 (0+(δ (j:Int))) ((δ (γ .i64 ((γ .i64 ((j:Int)+(n:Int)))+((1:Nat):Int)))) - (δ (j:Int))),.sl (ai v) v.length true,.int .u64 (q:Int)] [⟨(ai U),0,false,0,1,true⟩] (.ret (.bool true)) [⟨(ai U1),0,false,0,1,true⟩]) (z:bC prog ap 225 [.ref 0 0 (0+(δ (j:Int))) ((δ (γ .i64 ((γ .i64 ((j:Int)+(n:Int)))+((1:Nat):Int)))) - (δ (j:Int))),.sl (ai v) v.length true] [⟨(ai U1),0,false,0,1,true⟩] (.ret (.tup [])) [⟨(ai U2),0,false,0,1,true⟩]):ak prog ap [] nt (af 1 (ah f211)) ⟨[(4,.ref 0 0 0 c),(8,ω (s:Int)),(9,.ref 1 0 0 M),(10,.sl (ai v) v.length true),(11,ω (n:Int)),(12,ω (j:Int))],[(0,⟨(ai Q),0,false,0,1,true⟩),(1,⟨(ai U),0,false,0,1,true⟩)],.dead,[]⟩ (.normal) ⟨[(4,.ref 0 0 0 c),(8,ω (s:Int)),(9,.ref 1 0 0 M),(10,.sl (ai v) v.length true),(11,ω (n:Int)),(12,ω (γ .i64 ((j:Int) - ((1:Nat):Int))))],[(0,⟨(ν ((0+(δ (j:Int)))*1) (ai Q)++ [.int .u32 (γ .u32 (γ .u64 ((q:Int) - ((1:Nat):Int))))]++ε (((0+(δ (j:Int)))*1)+1) (ai Q)),0,false,0,1,true⟩),(1,⟨(ai U2),0,false,0,1,true⟩)],.dead,[]⟩:=pJ 211 [] 2 3 (.c A (.c k (.c w (.c k (.c p (.c r (.k 1 k (.c p (.c r (.c t (.c D (.c B (.c E (.c x (.c f (.c i (.c l (.c m (.c o (.c d (.c b (.c g (.c h (.c e (.c a .nil))))))))))))))))))))))))) (.c z (.c C (.c u .nil))) y
theorem agD {nt:Nat} (w:130≤nt) (Q U U1 U2 v:List Nat) (c p M n j q:Nat) (z:(Xqm (((0+(δ (j:Int)))*1)+1) (η (ai Q)))=true) (o:(decide (((0:Nat):Int)≤(j:Int)))=true) (t:(decide ((j:Int)<(c:Int)))=true) (x:(decide ((j:Int)≤(γ .i64 ((γ .i64 ((j:Int)+(n:Int)))+((1:Nat):Int)))))=true) (y:(decide ((γ .i64 ((γ .i64 ((j:Int)+(n:Int)))+((1:Nat):Int)))≤(M:Int)))=true) (r:(chk (.int .u32) (ζ (ε ((δ (γ .i64 ((n:Int) - ((2:Nat):Int))))*1) (ai v)) .dead))=true) (C:(decide (((0:Nat):Int)≤(γ .i64 ((n:Int) - ((2:Nat):Int)))))=true) (A:(decide ((γ .i64 ((n:Int) - ((2:Nat):Int)))<(v.length:Int)))=true) (D:(chk (.int .u32) (ζ (ε ((δ (γ .i64 ((n:Int) - ((1:Nat):Int))))*1) (ai v)) .dead))=true) (u:(decide (((0:Nat):Int)≤(γ .i64 ((n:Int) - ((1:Nat):Int)))))=true) (f:(decide ((γ .i64 ((n:Int) - ((1:Nat):Int)))<(v.length:Int)))=true) (i:(chk (.int .u32) (ζ (ε ((0+(δ (γ .i64 ((γ .i64 ((j:Int)+(n:Int))) - ((2:Nat):Int)))))*1) (ai U)) .dead))=true) (k:(decide (((0:Nat):Int)≤(γ .i64 ((γ .i64 ((j:Int)+(n:Int))) - ((2:Nat):Int)))))=true) (l:(decide ((γ .i64 ((γ .i64 ((j:Int)+(n:Int))) - ((2:Nat):Int)))<(M:Int)))=true) (m:(chk (.int .u32) (ζ (ε ((0+(δ (γ .i64 ((γ .i64 ((j:Int)+(n:Int))) - ((1:Nat):Int)))))*1) (ai U)) .dead))=true) (d:(decide (((0:Nat):Int)≤(γ .i64 ((γ .i64 ((j:Int)+(n:Int))) - ((1:Nat):Int)))))=true) (b:(decide ((γ .i64 ((γ .i64 ((j:Int)+(n:Int))) - ((1:Nat):Int)))<(M:Int)))=true) (g:(chk (.int .u32) (ζ (ε ((0+(δ (γ .i64 ((j:Int)+(n:Int)))))*1) (ai U)) .dead))=true) (h:(decide (((0:Nat):Int)≤(γ .i64 ((j:Int)+(n:Int)))))=true) (e:(decide ((γ .i64 ((j:Int)+(n:Int)))<(M:Int)))=true) (a:lit true (decide (((0:Nat):Int)≤(j:Int)))=true) (s:CO 223 [.agg [.int .u32 (τ (ζ (ε ((0+(δ (γ .i64 ((j:Int)+(n:Int)))))*1) (ai U)) .dead)),.int .u32 (τ (ζ (ε ((0+(δ (γ .i64 ((γ .i64 ((j:Int)+(n:Int))) - ((1:Nat):Int)))))*1) (ai U)) .dead)),.int .u32 (τ (ζ (ε ((0+(δ (γ .i64 ((γ .i64 ((j:Int)+(n:Int))) - ((2:Nat):Int)))))*1) (ai U)) .dead))],.agg [.int .u32 (τ (ζ (ε ((δ (γ .i64 ((n:Int) - ((1:Nat):Int))))*1) (ai v)) .dead)),.int .u32 (τ (ζ (ε ((δ (γ .i64 ((n:Int) - ((2:Nat):Int))))*1) (ai v)) .dead)),.int .u32 0]] (.ret (.int .u64 (q:Int)))) (B:bC prog ap 224 [.ref 0 0 (0+(δ (j:Int))) ((δ (γ .i64 ((γ .i64 ((j:Int)+(n:Int)))+((1:Nat):Int)))) - (δ (j:Int))),.sl (ai v) v.length true,.int .u64 (q:Int)] [⟨(ai U),0,false,0,1,true⟩] (.ret (.bool false)) [⟨(ai U1),0,false,0,1,true⟩]):ak prog ap [] nt (af 1 (ah f211)) ⟨[(4,.ref 0 0 0 c),(8,ω (p:Int)),(9,.ref 1 0 0 M),(10,.sl (ai v) v.length true),(11,ω (n:Int)),(12,ω (j:Int))],[(0,⟨(ai Q),0,false,0,1,true⟩),(1,⟨(ai U),0,false,0,1,true⟩)],.dead,[]⟩ (.normal) ⟨[(4,.ref 0 0 0 c),(8,ω (p:Int)),(9,.ref 1 0 0 M),(10,.sl (ai v) v.length true),(11,ω (n:Int)),(12,ω (γ .i64 ((j:Int) - ((1:Nat):Int))))],[(0,⟨(ν ((0+(δ (j:Int)))*1) (ai Q)++ [.int .u32 (γ .u32 (q:Int))]++ε (((0+(δ (j:Int)))*1)+1) (ai Q)),0,false,0,1,true⟩),(1,⟨(ai U1),0,false,0,1,true⟩)],.dead,[]⟩:=pJ 211 [] 2 1 (.c z (.c o (.c t (.k 1 o (.c x (.c y (.c r (.c C (.c A (.c D (.c u (.c f (.c i (.c k (.c l (.c m (.c d (.c b (.c g (.c h (.c e (.c a .nil)))))))))))))))))))))) (.c B (.c s .nil)) w
theorem agC {nt:Nat} (c:130≤nt) (Q U U1 U2 v:List Nat) (b a M n j q:Nat):ak prog ap [] nt (af 1 (ah f211)) ⟨[(4,.ref 0 0 0 b),(8,ω (a:Int)),(9,.ref 1 0 0 M),(10,.sl (ai v) v.length true),(11,ω (n:Int)),(12,ω (-1))],[(0,⟨(ai Q),0,false,0,1,true⟩),(1,⟨(ai U),0,false,0,1,true⟩)],.dead,[]⟩ (.exit 1) ⟨[(4,.ref 0 0 0 b),(8,ω (a:Int)),(9,.ref 1 0 0 M),(10,.sl (ai v) v.length true),(11,ω (n:Int)),(12,ω (-1))],[(0,⟨(ai Q),0,false,0,1,true⟩),(1,⟨(ai U),0,false,0,1,true⟩)],.dead,[]⟩:=pJ 211 [] 1 0 (.n 1 .nil) (.nil) c
theorem KX {q Q k:Nat} (a:q<4294967296):bI (k+1) (4294967296*Q+q)=q::bI k Q:=by
 unfold bI;rw [Xwk,Xqi,Xwa];congr 1
 ·simp only [Xx8,Xve,Xzz,nC];omega
 ·apply Xjj;intro i _;simp only [Xvo,Xkj];rw [show 32*(i+1)=32+32*i by omega,Xxi,← Xxq,nC,show (4294967296*Q+q) / 4294967296=Q by omega]
theorem NE {k W V:Nat} (q:V<4294967296^(k+2)) (c:2147483648*4294967296^(k+1)≤V) (p:W<V*4294967296):
  W / V≤vW (W / 4294967296^(k+2) % 4294967296) (W / 4294967296^(k+1) % 4294967296) (W / 4294967296^k % 4294967296) (V / 4294967296^(k+1) % 4294967296) (V / 4294967296^k % 4294967296)∧
  vW (W / 4294967296^(k+2) % 4294967296) (W / 4294967296^(k+1) % 4294967296) (W / 4294967296^k % 4294967296) (V / 4294967296^(k+1) % 4294967296) (V / 4294967296^k % 4294967296)≤W / V+1∧
  W / 4294967296^(k+2) % 4294967296≤V / 4294967296^(k+1) % 4294967296∧2147483648≤V / 4294967296^(k+1) % 4294967296:=by
 have a:0<4294967296^k:=iD k;have B:4294967296^(k+1)=4294967296^k*4294967296:=Xqz ..;have z:4294967296^(k+2)=4294967296^k*4294967296*4294967296:=by rw [Xqz,Xqz]
 rw [z] at q ⊢;rw [B] at c ⊢;generalize 4294967296^k=P at*
 simp only [← Xxq];have N:=Xq7 W P;have r:=Xqu W a;have y:=Xq7 V P;have H:=Xqu V a;have hVpos:0<V:=by
  have:=Xx3 (show 0<2147483648 by omega) (Xx3 a (show 0<4294967296 by omega));omega
 generalize i:W / P=T at*
 generalize b:V / P=D at*
 generalize K:W % P=w at*
 generalize hd:V % P=d at*
 have m:2147483648*4294967296≤D:=by
  rw [← b,Xzd a]
  calc 2147483648*4294967296*P=2147483648*(P*4294967296):=by rw [Xqn,Φ 4294967296 P]
   _≤V:=c
 have t:D<4294967296*4294967296:=by
  rw [← b,Xqs a]
  calc V<P*4294967296*4294967296:=q
   _=4294967296*4294967296*P:=by rw [Xqn,Φ P]
 have F:T<(D+1)*4294967296:=by
  rw [← i,Xqs a]
  calc W<V*4294967296:=p
   _≤(D+1)*P*4294967296:=Xqt _ (by rw [Xxj,Φ D];omega)
   _=(D+1)*4294967296*P:=by rw [Xqn,Xqn,Φ P]
 have j:W / V≤4294967295:=by
  have:W / V<4294967296:=by rw [Xqs hVpos,Φ];exact p
  omega
 have u:=Xq7 W V;have C:=Xqu W hVpos;have v:T / 4294967296 / 4294967296<4294967296:=by omega
 have g:4294967296*(4294967296*(T / 4294967296 / 4294967296 % 4294967296)+T / 4294967296 % 4294967296)+T % 4294967296=T:=by omega
 have f:4294967296*(D / 4294967296 % 4294967296)+D % 4294967296=D:=by omega
 have o:0<D / 4294967296 % 4294967296:=by omega
 refine ⟨?_, ?_,by omega,by omega⟩
 ·rw [zD o,g,f];refine ⟨j, ?_⟩;have h:W / V*D*P<(T+1)*P:=by
   have n:W / V*D*P=W / V*(P*D):=by rw [Xqn,Φ D]
   have l:W / V*(P*D)≤W / V*V:=Xqx _ (by omega);rw [Φ (W / V) V] at l;rw [Xxj,Φ T P];omega
  have:=Xvc h;omega
 ·generalize A:vW _ _ _ _ _=e;have h:=(zD (x:=e) o).1 (by rw [A];exact Δ _);rw [g,f] at h;obtain ⟨n,l⟩:=h;have J:e*V<W+V:=by
   have M:e*V=e*(P*D)+e*d:=by rw [← Xq8,y]
   have O:e*(P*D)=e*D*P:=by rw [Φ P,Xqn]
   have s:e*D*P≤T*P:=Xqt _ l;have I:e*d≤e*P:=Xqx _ (by omega);have L:e*P≤4294967295*P:=Xqt _ n;have G:2147483648*4294967296*P≤D*P:=Xqt _ m;rw [Φ D] at G;rw [Φ T] at s;omega
  have E:e*V<(W / V+2)*V:=by
   rw [Xxj,Φ (W / V)];omega
  have:=Xvc E;omega
def XG (a v:List Nat) (m j:Nat):List Nat:=κ j 0++bI (m - j) (aF (a.drop j) / aF v)
def XH (a v:List Nat) (m j:Nat):List Nat:=a.take j++bI v.length (aF (a.drop j) % aF v)++κ (m - j) 0
def Nl (a v:List Nat) (sh m j:Nat):St:=⟨[(4,.ref 0 0 0 m),(8,ω (sh:Int)),(9,.ref 1 0 0 (m+v.length)),(10,.sl (ai v) v.length true),(11,ω (v.length:Int)),(12,ω ((j:Int) - 1))],[(0,⟨ai (XG a v m j),0,false,0,1,true⟩),(1,⟨ai (XH a v m j),0,false,0,1,true⟩)],.dead,[]⟩
theorem ZN {n r:Nat} (h:r<4294967296^n):bI (n+1) r=bI n r++ [0]:=by
 rw [uD,mi,Xxw h]
theorem Yv {a v:List Nat} {m j:Nat} (e:j<m) (d:a.length=m+v.length) (c:bH v) (b:bH a) (f:0<aF v):XH a v m (j+1)=a.take j++bI (v.length+1) (4294967296*(aF (a.drop (j+1)) % aF v)+a.getD j 0)++κ (m - j - 1) 0:=by
 unfold XH;rw [KX (b.getD j),List.take_add_one,show m - (j+1)=m - j - 1 by omega];have:a[j]? =some (a.getD j 0):=by rw [π,ξ (by omega)];rfl
 rw [this];simp
theorem Yu {a v:List Nat} {m j:Nat} (d:j<m) (b:bH v) (c:0<aF v):XH a v m j=a.take j++bI (v.length+1) (aF (a.drop j) % aF v)++κ (m - j - 1) 0:=by
 unfold XH;rw [ZN (Xxa (Xqu _ c) (pV b)),show m - j=(m - j - 1)+1 by omega,Xxb];simp
theorem Yt {a v:List Nat} {m j:Nat}:XG a v m (j+1)=κ j 0++0::bI (m - j - 1) (aF (a.drop (j+1)) / aF v):=by
 unfold XG;rw [Xj1,show m - (j+1)=m - j - 1 by omega];simp
theorem acZ {V R' Q' x H:Nat} (a:0<V) (h:H=V*Q'+R'):(x+4294967296*H) / V=4294967296*Q'+(4294967296*R'+x) / V∧(x+4294967296*H) % V=(4294967296*R'+x) % V:=by
 subst h;have e:x+4294967296*(V*Q'+R')=4294967296*R'+x+V*(4294967296*Q'):=by
  rw [Xq8,Nat.mul_left_comm];omega
 rw [e];constructor
 ·rw [Xz5 _ _ a,Xxp]
 ·rw [Xzg]
theorem Jv {pre post:List Nat} {n W i:Nat} (h:i≤n):(pre++bI (n+1) W++post).getD (pre.length+i) 0=W / 4294967296^i % 4294967296:=by
 rw [π,Xxc (by simp [aP];omega),Xjs (by omega),Nat.add_sub_cancel_left,qW (by omega),mi,nC];rfl
theorem PM {v:List Nat} (a:bH v) {i:Nat} (h:i<v.length):v.getD i 0=aF v / 4294967296^i % 4294967296:=by
 have e:=qW (n:=aF v) h;rw [EN a,mi,nC] at e;rw [π,e];rfl
def dvS (sh m M n:Nat) (v Q U:List Nat) (j:Int):St:=⟨[(4,.ref 0 0 0 m),(8,ω (sh:Int)),(9,.ref 1 0 0 M),(10,.sl (ai v) v.length true),(11,ω (n:Int)),(12,ω j)],[(0,⟨ai Q,0,false,0,1,true⟩),(1,⟨ai U,0,false,0,1,true⟩)],.dead,[]⟩
abbrev ahd (x2 x1 x0 y1 y0:Nat):List AV:= [.agg [.int .u32 (x2:Int),.int .u32 (x1:Int),.int .u32 (x0:Int)],.agg [.int .u32 (y1:Int),.int .u32 (y0:Int),.int .u32 0]]
theorem agI {nt:Nat} (e:130≤nt) (Q R U U1 U2 v:List Nat) (c m n j q:Nat) (i:v.length=n) (l:2≤n) (s:U.length=m+n) (p:j<m) (k:m+n<2^40) (o:q<4294967296) (g:0<q) (r:Q.length=m) (a:∀ y:Nat,ν j (ai Q)++ [Xxm .u32 (y:Int)]++ε (j+1) (ai Q)=ai (Q.set j y)) (d:Q.set j (q - 1)=R)
  (c0:CO 223 (ahd (U.getD (j+n) 0) (U.getD (j+n - 1) 0) (U.getD (j+n - 2) 0) (v.getD (n - 1) 0) (v.getD (n - 2) 0)) (.ret (.int .u64 (q:Int))))
  (c1:bC prog ap 224 [.ref 0 0 j (n+1),.sl (ai v) v.length true,.int .u64 (q:Int)] (oW U) (.ret (.bool true)) (oW U1))
  (c2:bC prog ap 225 [.ref 0 0 j (n+1),.sl (ai v) v.length true] (oW U1) (.ret (.tup [])) (oW U2)):
  ak prog ap [] nt (af 1 (ah f211)) (dvS c m (m+n) n v Q U (j:Int)) .normal (dvS c m (m+n) n v R U2 ((j:Int) - 1)):=by
 have hbody:=agG e Q U U1 U2 v m c (m+n) n j q;have h:γ .i64 ((j:Int) - ((1:Nat):Int))=(j:Int) - 1:=dn (by omega) (by omega);have b:(q+(18446744073709551616 - 1)) % 18446744073709551616=q - 1:=by omega
 have f:j+n+1 - j=n+1:=by omega
 simp (disch:=first|omega|(simp [au,ay]<;>omega)) only [aC,Xqf,χ,au,fQ,bf,dm,aX,bJ,aS,jP,yR,jL,bz,aY,f,h,kZ,υ,b,qZ,a] at hbody;rw [d] at hbody;unfold dvS;apply hbody<;>first|exact True.intro|omega|assumption
theorem agF {nt:Nat} (d:130≤nt) (Q R U U1 v:List Nat) (b m n j q:Nat) (g:v.length=n) (i:2≤n) (p:U.length=m+n) (l:j<m) (h:m+n<2^40) (k:q<4294967296) (o:Q.length=m) (a:∀ y:Nat,ν j (ai Q)++ [Xxm .u32 (y:Int)]++ε (j+1) (ai Q)=ai (Q.set j y)) (c:Q.set j q=R)
  (c0:CO 223 (ahd (U.getD (j+n) 0) (U.getD (j+n - 1) 0) (U.getD (j+n - 2) 0) (v.getD (n - 1) 0) (v.getD (n - 2) 0)) (.ret (.int .u64 (q:Int))))
  (c1:bC prog ap 224 [.ref 0 0 j (n+1),.sl (ai v) v.length true,.int .u64 (q:Int)] (oW U) (.ret (.bool false)) (oW U1)):
  ak prog ap [] nt (af 1 (ah f211)) (dvS b m (m+n) n v Q U (j:Int)) .normal (dvS b m (m+n) n v R U1 ((j:Int) - 1)):=by
 have hbody:=agD d Q U U1 U v m b (m+n) n j q;have f:γ .i64 ((j:Int) - ((1:Nat):Int))=(j:Int) - 1:=dn (by omega) (by omega);have e:j+n+1 - j=n+1:=by omega
 simp (disch:=first|omega|(simp [au,ay]<;>omega)) only [aC,Xqf,χ,au,fQ,bf,dm,aX,bJ,aS,jP,yR,jL,bz,aY,e,f,qZ,υ,a] at hbody;rw [c] at hbody;unfold dvS;apply hbody<;>first|exact True.intro|omega|assumption
theorem QG {l:List Nat} {j:Nat} (h:j<l.length) (y:Nat):ν j (ai l)++ [Xxm .u32 (y:Int)]++ε (j+1) (ai l)=ai (l.set j y):=by
 rw [oH,UI,Xx5,if_pos h];simp [ai]
theorem YS (a b c d e:Nat):vW a b c d e<4294967296:=φ (Nat.min_le_left _ _) (by omega)
theorem Yx {nt:Nat} (O:130≤nt) (a v:List Nat) (C m j k:Nat) (u:v.length=k+2) (B:j<m) (Z:a.length=m+v.length) (r:bH v) (w:bH a) (S:a.length<2^40) (z:2147483648*4294967296^(k+1)≤aF v):
  ak prog ap [] nt (af 1 (ah f211)) (Nl a v C m (j+1)) .normal (Nl a v C m j):=by
 have o:=pV r;have hVpos:0<aF v:=by have:=Xx3 (show 0<2147483648 by omega) (iD (k+1));omega
 have hx:=w.getD j;have N:=Xqu (aF (a.drop (j+1))) hVpos;have I:=Xq7 (aF (a.drop (j+1))) (aF v);have F:aF (a.drop j)=a.getD j 0+4294967296*aF (a.drop (j+1)):=TJ (by omega);obtain ⟨s,t⟩:=acZ (x:=a.getD j 0) hVpos I.symm;rw [← F] at s t;unfold Nl;rw [show (((j+1:Nat):Int) - 1)=(j:Int) by omega];rw [Yv B Z r w hVpos,Yu B r hVpos,Yt,t];have hQ:XG a v m j=κ j 0++(4294967296*(aF (a.drop (j+1)) % aF v)+a.getD j 0) / aF v::bI (m - j - 1) (aF (a.drop (j+1)) / aF v):=by
  unfold XG;rw [s,show m - j=(m - j - 1)+1 by omega,KX]
  ·rfl
  ·rw [Xqs hVpos];omega
 rw [hQ];have T:4294967296*(aF (a.drop (j+1)) % aF v)+a.getD j 0<aF v*4294967296:=by omega
 generalize aF (a.drop (j+1)) / aF v=Q' at*
 generalize 4294967296*(aF (a.drop (j+1)) % aF v)+a.getD j 0=W at*
 have h:(a.take j).length=j:=by simp;omega
 generalize a.take j=pre at*
 obtain ⟨b1,b2,b3,X⟩:=NE (k:=k) (W:=W) (by rw [← u];exact o) z T;have hpost:bH (κ (m - j - 1) 0):=bH.zeros _;have H:W<4294967296^(v.length+1):=by
  rw [Xqz];exact Ψ T (Xqt _ (Xww o))
 have L:=Jv (pre:=pre) (post:=κ (m - j - 1) 0) (n:=v.length) (W:=W) (i:=k+2) (by omega);have G:=Jv (pre:=pre) (post:=κ (m - j - 1) 0) (n:=v.length) (W:=W) (i:=k+1) (by omega);have J:=Jv (pre:=pre) (post:=κ (m - j - 1) 0) (n:=v.length) (W:=W) (i:=k) (by omega);have v1:=PM r (i:=k+1) (by omega);have v0:=PM r (i:=k) (by omega);rw [h] at L G J;have P:j+v.length=j+(k+2):=by rw [u]
 have M:j+v.length - 1=j+(k+1):=by omega
 have R:j+v.length - 2=j+k:=by omega
 have U:v.length - 1=k+1:=by omega
 have Q:v.length - 2=k:=by omega
 have Y:=Xqu (W / 4294967296^(k+1)) (show 0<4294967296 by omega);have K:=Xqu (W / 4294967296^k) (show 0<4294967296 by omega);have D:=Xqu (aF v / 4294967296^(k+1)) (show 0<4294967296 by omega);have y:=Xqu (aF v / 4294967296^k) (show 0<4294967296 by omega);have f:=ads _ _ _ _ _ b3 Y K D y X;generalize V:vW _ _ _ _ _=q at b1 b2 f;have c:q<4294967296:=by rw [← V];exact YS ..
 have A:(pre++bI (v.length+1) W++κ (m - j - 1) 0).length=m+v.length:=by simp [aP,h];omega
 have htake:=aa7 pre (κ (m - j - 1) 0) v true v.length W q rfl r c H hpost (by omega);have hqm:=Xq7 W (aF v);have hql:=Xqu W hVpos;rw [h] at htake;rcases Xq5 (W / aF v) q with hlt|hge
 ·have p:q=W / aF v+1:=by omega
  have b:W<q*aF v:=by rw [p,Xxj,Φ (W / aF v)];omega
  rw [if_pos b,Yq0 b] at htake;have hgive:=Y0 pre (κ (m - j - 1) 0) v true v.length (W+4294967296^(v.length+1) - q*aF v) rfl r (by omega) hpost (by omega);rw [h] at hgive;have g:(W+4294967296^(v.length+1) - q*aF v+aF v) % 4294967296^(v.length+1)=W % aF v:=by
   have e:W+4294967296^(v.length+1) - q*aF v+aF v=W % aF v+4294967296^(v.length+1):=by
    have:q*aF v=aF v*(W / aF v)+aF v:=by rw [p,Xxj,Φ (W / aF v)];omega
    omega
   rw [e,Nat.add_mod_right,υ];have:=Xqa (show 0<4294967296 by omega) (show v.length≤v.length+1 by omega);omega
  rw [g] at hgive;have d:=QG (l:=κ j 0++0::bI (m - j - 1) Q') (j:=j) (by simp);have E:(κ j 0++0::bI (m - j - 1) Q').set j (q - 1)=κ j 0++W / aF v::bI (m - j - 1) Q':=by
   rw [Xv5 _ _ (by simp),show q - 1=W / aF v by rw [p,Xwe]];simp
  have:=agI O _ _ _ _ _ v C m v.length j q rfl (by omega) A B (by omega) c (by rw [p];exact Nat.succ_pos _) (by simp [aP];omega) d E (by rw [M,R,U,Q,P,L,G,J,v1,v0];exact f) htake hgive;exact this
 ·have p:q=W / aF v:=by omega
  have b:¬ W<q*aF v:=by rw [p,Φ];omega
  rw [if_neg b,Yq1 b] at htake;have g:W - q*aF v=W % aF v:=by rw [p,Φ];omega
  rw [g] at htake;have d:=QG (l:=κ j 0++0::bI (m - j - 1) Q') (j:=j) (by simp);have E:(κ j 0++0::bI (m - j - 1) Q').set j q=κ j 0++W / aF v::bI (m - j - 1) Q':=by
   rw [Xv5 _ _ (by simp),p];simp
  have:=agF O _ _ _ _ v C m v.length j q rfl (by omega) A B (by omega) c (by simp [aP];omega) d E (by rw [M,R,U,Q,P,L,G,J,v1,v0];exact f) htake;exact this
theorem Yw {nt:Nat} (g:130≤nt) (a v:List Nat) (d m k:Nat) (e:v.length=k+2) (i:a.length=m+v.length) (h:bH v) (f:bH a) (c:a.length<2^40) (b:2147483648*4294967296^(k+1)≤aF v):
  ∀ j,j≤m→aA prog ap [] nt (af 1 (ah f211)) (fun _=> .exit 1) (Nl a v d m) (Nl a v d m) j 0:=by
 intro j
 induction j with
 |zero=>exact fun _=> .done (agC g (XG a v m 0) (XH a v m 0) [] [] v m d (m+v.length) v.length 0 0)
 |succ j ih=>exact fun l=> .next (Yx g a v d m j k e (by omega) i h f c b) (ih (by omega))
theorem agw (x y s r X1 c:Nat) (A Y Q U v:List Nat) (b:lit true (decide ((lU x y)<((0:Nat):Int)))=true) (a:CO 210 [.sl (ai (digs x)) (digs x).length false,.sl (ai (digs y)) (digs y).length false] (.ret (ω (lU x y)))):CO 211 [.sl (ai (digs x)) (digs x).length false,.sl (ai (digs y)) (digs y).length false] (.ret (.tup [.nilS,.sl (ai (digs x)) (digs x).length false])):=pK [1] 1 1 (.c b .nil) (.c a .nil)
theorem agx (x y s r X1 h:Nat) (A Y Q U v:List Nat) (c:(chk (.int .u32) (ζ (ai (digs y)) .dead))=true) (a:(decide (((0:Nat):Int)<(((digs y).length:Nat):Int)))=true) (f:lit true ((((digs y).length:Nat):Int)==((1:Nat):Int))=true) (b:lit false (decide ((lU x y)<((0:Nat):Int)))=true) (d:CO 210 [.sl (ai (digs x)) (digs x).length false,.sl (ai (digs y)) (digs y).length false] (.ret (ω (lU x y)))) (g:CO 220 [.sl (ai (digs x)) (digs x).length false,.int .u32 (τ (ζ (ai (digs y)) .dead))] (.ret (.tup [.sl (ai (digs X1)) (digs X1).length false,.int .u32 (r:Int)]))) (e:CO 162 [.sl [.int .u32 (r:Int)] 1 true] (.ret (.sl (ai (digs r)) (digs r).length false))):CO 211 [.sl (ai (digs x)) (digs x).length false,.sl (ai (digs y)) (digs y).length false] (.ret (.tup [.sl (ai (digs X1)) (digs X1).length false,.sl (ai (digs r)) (digs r).length false])):=pK [1] 2 2 (.c c (.k 1 a (.c f (.c b .nil)))) (.c e (.c g (.c d .nil)))
theorem agy (x y s r X1 a:Nat) (A Y Q U v:List Nat) (n:(decide (((0:Nat):Int)≤(v.length:Int)))=true) (m:(decide ((v.length:Int)≤(A.length:Int)))=true) (e:(decide (((0:Nat):Int)≤(γ .i64 ((A.length:Int) - (v.length:Int)))))=true) (j:(decide ((γ .i64 ((A.length:Int) - (v.length:Int)))=(γ .i64 ((A.length:Int) - (v.length:Int)))))=true) (l:(decide ((γ .i64 ((A.length:Int) - (v.length:Int)))≤((1099511627776:Nat):Int)))=true) (c:(chk (.int .u32) (ζ (ε ((δ (γ .i64 ((((digs y).length:Nat):Int) - ((1:Nat):Int))))*1) (ai (digs y))) .dead))=true) (t:(decide (((0:Nat):Int)≤(γ .i64 ((((digs y).length:Nat):Int) - ((1:Nat):Int)))))=true) (o:(decide ((γ .i64 ((((digs y).length:Nat):Int) - ((1:Nat):Int)))<(((digs y).length:Nat):Int)))=true) (u:lit false ((((digs y).length:Nat):Int)==((1:Nat):Int))=true) (i:lit false (decide ((lU x y)<((0:Nat):Int)))=true) (d:CO 210 [.sl (ai (digs x)) (digs x).length false,.sl (ai (digs y)) (digs y).length false] (.ret (ω (lU x y)))) (p:CO 221 [.int .u32 (τ (ζ (ε ((δ (γ .i64 ((((digs y).length:Nat):Int) - ((1:Nat):Int))))*1) (ai (digs y))) .dead))] (.ret (ω (s:Int)))) (k:CO 222 [.sl (ai (digs x)) (digs x).length false,ω (s:Int)] (.ret (.own (ai A) A.length 1))) (h:CO 222 [.sl (ai (digs y)) (digs y).length false,ω (s:Int)] (.ret (.own (ai Y) Y.length 1))) (q:CO 162 [.sl (ν (Y.length*1) (ai Y)) Y.length true] (.ret (.sl (ai v) v.length true))) (b:aG prog ap [] 130 (.block 1 (.loop (af 1 (ah f211)))) ⟨[(0,.sl (ai (digs x)) (digs x).length false),(1,.sl (ai (digs y)) (digs y).length false),(4,.ref 0 0 0 (δ (γ .i64 ((A.length:Int) - (v.length:Int))))),(5,.nilS),(6,.dead),(7,.dead),(8,ω (s:Int)),(9,.ref 1 0 0 A.length),(10,.sl (ai v) v.length true),(11,ω (v.length:Int)),(12,ω (γ .i64 ((((δ (γ .i64 ((A.length:Int) - (v.length:Int)))):Nat):Int) - ((1:Nat):Int)))),(13,.dead),(14,.bool (decide ((lU x y)<((0:Nat):Int)))),(20,.bool ((((digs y).length:Nat):Int)==((1:Nat):Int))),(61,.dead),(106,.dead)],[(0,⟨(gp (δ (γ .i64 ((A.length:Int) - (v.length:Int)))) [.int .u32 0]),0,false,0,1,true⟩),(1,⟨(ai A),0,false,0,1,true⟩)],.dead,[]⟩ (.normal) ⟨[(4,.ref 0 0 0 a),(8,ω (s:Int)),(9,.ref 1 0 0 A.length),(11,ω (v.length:Int))],[(0,⟨(ai Q),0,false,0,1,true⟩),(1,⟨(ai U),0,false,0,1,true⟩)],.dead,[]⟩) (f:CO 162 [.sl (ν (a*1) (ai Q)) a true] (.ret (.sl (ai (digs X1)) (digs X1).length false))) (g:CO 226 [.sl (ν (((δ (v.length:Int)) - 0)*1) (ai U)) ((δ (v.length:Int)) - 0) true,ω (s:Int)] (.ret (.sl (ai (digs r)) (digs r).length false))):CO 211 [.sl (ai (digs x)) (digs x).length false,.sl (ai (digs y)) (digs y).length false] (.ret (.tup [.sl (ai (digs X1)) (digs X1).length false,.sl (ai (digs r)) (digs r).length false])):=pK [1] 2 0 (.k 1 n (.c m (.c e (.c j (.c l (.c c (.c t (.c o (.c u (.c i .nil)))))))))) (.c g (.c f (.l b (.c q (.c h (.c k (.c p (.c d .nil))))))))
abbrev dvB (x y s m:Nat) (A v:List Nat):St:=⟨[(0,.sl (ai (digs x)) (digs x).length false),(1,.sl (ai (digs y)) (digs y).length false),(4,.ref 0 0 0 m),(5,.nilS),(6,.dead),(7,.dead),(8,ω (s:Int)),(9,.ref 1 0 0 A.length),(10,.sl (ai v) v.length true),(11,ω (v.length:Int)),(12,ω ((m:Int) - 1)),(13,.dead),(14,.bool (decide (lU x y<((0:Nat):Int)))),(20,.bool (decide ((digs y).length=1))),(61,.dead),(106,.dead)],[(0,⟨ai (κ m 0),0,false,0,1,true⟩),(1,⟨ai A,0,false,0,1,true⟩)],.dead,[]⟩
abbrev dvC (s m:Nat) (A v Q U:List Nat):St:=⟨[(4,.ref 0 0 0 m),(8,ω (s:Int)),(9,.ref 1 0 0 A.length),(11,ω (v.length:Int))],[(0,⟨ai Q,0,false,0,1,true⟩),(1,⟨ai U,0,false,0,1,true⟩)],.dead,[]⟩
theorem agz (x y s r z m:Nat) (A Y Q U v:List Nat) (k:A.length=m+v.length) (e:A.length<2^40) (f:2≤(digs y).length) (d:(digs y).length<2^40) (i:0<m) (j:v.length≤U.length) (c:¬ lU x y<((0:Nat):Int)) (g:CO 210 [.sl (ai (digs x)) (digs x).length false,.sl (ai (digs y)) (digs y).length false] (.ret (ω (lU x y))))
  (c1:CO 221 [.int .u32 (((digs y).getD ((digs y).length - 1) 0:Nat):Int)] (.ret (ω (s:Int))))
  (c2:CO 222 [.sl (ai (digs x)) (digs x).length false,ω (s:Int)] (.ret (.own (ai A) A.length 1)))
  (c3:CO 222 [.sl (ai (digs y)) (digs y).length false,ω (s:Int)] (.ret (.own (ai Y) Y.length 1)))
  (c4:CO 162 [.sl (ai (ν Y.length Y)) Y.length true] (.ret (.sl (ai v) v.length true)))
  (l0:aG prog ap [] 130 (.block 1 (.loop (af 1 (ah f211)))) (dvB x y s m A v) .normal (dvC s m A v Q U))
  (c5:CO 162 [.sl (ai (ν m Q)) m true] (.ret (.sl (ai (digs z)) (digs z).length false)))
  (c6:CO 226 [.sl (ai (ν v.length U)) v.length true,ω (s:Int)] (.ret (.sl (ai (digs r)) (digs r).length false))):CO 211 [.sl (ai (digs x)) (digs x).length false,.sl (ai (digs y)) (digs y).length false] (.ret (.tup [.sl (ai (digs z)) (digs z).length false,.sl (ai (digs r)) (digs r).length false])):=by
 have h:=agy x y s r z m A Y Q U v;have b:γ .i64 ((m:Int) - ((1:Nat):Int))=(m:Int) - 1:=Eg (by omega);have a:A.length - v.length=m:=by omega
 simp (disch:=first|omega|(simp [au,ay]<;>omega)) only [dm,bf,jP,a,decide_true,aC,χ,yR,jL,aX,jC,dC,dJ,dW,aY,oH,b,pR,Xjx] at h;apply h<;>first|exact True.intro|omega|assumption
abbrev dS (x:Nat):AV:= .sl (ai (digs x)) (digs x).length false
theorem jW.sl1 (a:List AV) (n:Nat) (b:Bool):jW (.ret (.sl a n b)) (.ret (.sl a n false)):=jW.ret rfl rfl (aT.sl a n b)
theorem uf {x:Nat} (h:0<x):0<(digs x).length:=by
 rcases Γ (digs x).length with h0|h0
 ·have:=jS (n:=x) (m:=0) (by omega);simp at this;omega
 ·exact h0
theorem UD {x:Nat} (h:(digs x).length=1):digs x= [x]∧x<4294967296:=by
 have b:=jS (n:=x) (m:=1) (by omega);rw [χ,nC] at b;have a:=fA x
 match hd:digs x,h with
 | [d],_=>rw [hd] at a;simp [aF] at a;subst a;exact ⟨rfl,b⟩
theorem ni (x:Nat):x<4294967296^(digs x).length:=by
 have:=jS (n:=x) (Δ _);rwa [mi] at this
theorem O6 {x k:Nat} (h:(digs x).length=k+1):4294967296^k≤x:=by
 rcases Xq5 x (4294967296^k) with h1|h1
 ·have:=jF (n:=x) (m:=k) (by rw [mi];exact h1);omega
 ·exact h1
theorem Ig {x k:Nat} (h:x<4294967296^k):(digs x).length≤k:=jF (by rw [mi];exact h)
theorem Yn {x k:Nat} (h:4294967296^k≤x) (a:x<4294967296^(k+1)):(digs x).length=k+1:=by
 have c:=Ig a;have b:=ni x;rcases Xq5 (digs x).length (k+1) with h3|h3
 ·have:=Xqa (show 0<4294967296 by omega) (show (digs x).length≤k by omega);omega
 ·omega
theorem qF {x y:Nat} (h:x≤y):(digs x).length≤(digs y).length:=Ig (φ h (ni y))
theorem Ar {y k:Nat} (h:(digs y).length=k+1):(digs y).getD k 0=y / 4294967296^k∧0<y / 4294967296^k∧y / 4294967296^k<4294967296:=by
 have c:=xW y k;have d:=O6 h;have a:=ni y;rw [h] at a;have b:y / 4294967296^k<4294967296:=by
  rw [Xqs (iD k),Φ,← Xqz];exact a
 rw [mi,nC,υ b] at c;exact ⟨c,Xvp d (iD k),b⟩
theorem VS {y k:Nat} (h:(digs y).length=k+1):let s:=32 - dQ (y / 4294967296^k)
  s≤31∧2147483648*4294967296^k≤2^s*y∧2^s*y<4294967296^(k+1):=by
 obtain ⟨_,d,c⟩:=Ar h;obtain ⟨e,a,g,f⟩:=uZ d;have l:e+1≤32:=by rw [← a];exact lK c
 intro s;have hs:s=31 - e:=by show 32 - dQ (y / 4294967296^k)=_;rw [a];omega
 rw [hs];refine ⟨by omega, ?_, ?_⟩
 ·have i:2147483648=2^(31 - e)*2^e:=by rw [← Xxi,show 31 - e+e=31 by omega]
  rw [i,Xqn];refine Xqx _ ?_;exact (Xzd (iD k)).1 g
 ·have j:y<2^(e+1)*4294967296^k:=(Xqs (iD k)).1 f;have b:4294967296^(k+1)=2^(31 - e)*(2^(e+1)*4294967296^k):=by
   rw [← Xqn,← Xxi,show 31 - e+(e+1)=32 by omega,nC,Xqz,Φ]
  rw [b];exact Xj9 j (Xqr _)
theorem TK {a:List Nat} {m:Nat} (c:bH a) (h:m≤a.length):aF (a.drop m)=aF a / 4294967296^m:=by
 have d:=FD a m h;have b:=pV (c.take m);rw [Xq2,Xx7 h] at b;rw [d,Xz5 _ _ (iD m),Xxw b,Xqf]
theorem Rk (a v:List Nat) (m:Nat):XG a v m m=κ m 0:=by unfold XG;rw [Xwu];simp [bI]
theorem Rl {a v:List Nat} {m:Nat} (c:a.length=m+v.length) (b:bH a) (h:aF (a.drop m)<aF v):XH a v m m=a:=by
 unfold XH;rw [Xwu,υ h,← N_ (b.drop m) (by rw [Xxx];omega)];simp
theorem GG (x y:Nat) (j:0<y) (hx:(digs x).length<2^39) (H:(digs y).length<2^39):CO 211 [dS x,dS y] (.ret (.tup [dS (x / y),dS (x % y)])):=by
 have a:=wP (digs x) (digs y) false false (by omega);rw [zl] at a;rcases Xq5 x y with hlt|hge
 ·have hs:lU x y= -1:=by unfold lU;rw [if_pos hlt]
  have h:=agw x y 0 0 0 0 [] [] [] [] [] (by rw [hs];rfl) a;rw [Xxw hlt,υ hlt];exact h.out (jW.tup (.fit rfl rfl (aT.nilS false rfl) (.same .nil)))
 ·have hs:lit false (decide (lU x y<((0:Nat):Int)))=true:=by
   unfold lU;rw [if_neg (by omega)];split<;>rfl
  rcases Xq5 (digs y).length 2 with h1|h1
  ·have z:(digs y).length=1:=by have:=uf j;omega
   obtain ⟨L,V⟩:=UD z;have p:=Xd (digs x) false y j V (by omega) (bH.digs x);rw [fA] at p;have hr:x % y<y:=Xqu _ j;have ht:=acf [x % y] true (x % y) (by
    have U:=jJ (l:= [x % y]) (bH.cons (by omega) bH.nil);simpa [aF] using U) (by simp)
   have h:=agx x y 0 (x % y) (x / y) 0 [] [] [] [] [];have F:dS y= .sl (ai [y]) [y].length false:=by unfold dS;rw [L]
   rw [L] at h a;rw [F];refine h ?_ ?_ ?_ hs a (p.out (jW.tup (.fit rfl rfl (aT.sl _ _ _) (.same .nil)))) (ht.out (jW.sl1 _ _ _))
   all_goals rfl
  ·obtain ⟨k,O⟩:∃ k,(digs y).length=k+2:=⟨(digs y).length - 2,by omega⟩
   obtain ⟨e,E,P⟩:=VS O;generalize J:32 - dQ (y / 4294967296^(k+1))=s at*
   obtain ⟨Q,t2,t3⟩:=Ar O;have d:=Zf _ t3;rw [J,← Q] at d;have c:=ach (digs x) false s e hx (bH.digs x);have b:=ach (digs y) false s e H (bH.digs y);have i:(digs (2^s*y)).length=k+2:=Yn (Xqy (by have:=iD (k+1);omega) E) P;have W:bH (Mc s 0 (digs y)):=QH e _ _ (Xqr _) (bH.digs y);have w:bH (Mc s 0 (digs x)):=QH e _ _ (Xqr _) (bH.digs x);have X:aF (Mc s 0 (digs y))=2^s*y:=by rw [QI,fA,Xqf]
   have u:aF (Mc s 0 (digs x))=2^s*x:=by rw [QI,fA,Xqf]
   have K:=BF (Mc s 0 (digs y)) _ (2^s*y) rfl (by rw [jJ W,X]) (by rw [sK];omega);have hmono:=qF hge;have VC:=sK s (digs x) 0;have n:=sK s (digs y) 0;rw [← VC] at c;rw [← n] at b;generalize Mc s 0 (digs x)=A at*
   generalize Mc s 0 (digs y)=Y at*
   have g:aF (digs (2^s*y))=2^s*y:=fA _;have Z:bH (digs (2^s*y)):=bH.digs _;have hV:0<2^s*y:=Xx3 (Xqr _) j;generalize S:digs (2^s*y)=v at*
   obtain ⟨m,o⟩:∃ m,A.length=m+v.length:=⟨A.length - v.length,by omega⟩
   have N:aF (A.drop m)<aF v:=by
    rw [TK w (by omega),u,g];refine Ψ ?_ E;rw [Xqs (iD m),Xqn,← Xxi];have G:2^s*x<2^s*4294967296^(digs x).length:=Xj9 (ni x) (Xqr _);have C:2^s≤2^31:=Xqa (by omega) e;have e3:2^s*4294967296^(digs x).length≤2147483648*4294967296^(digs x).length:=Xqt _ (Xqy C (by decide));have R:(digs x).length=k+1+m:=by omega
    rw [R] at G e3;omega
   have hloop:=fun nt T=>Yw (nt:=nt) T A v s m k i o Z w (by omega) (by rw [g];exact E) m (Δ _)
   have B:XG A v m 0=bI m (x / y):=by
    unfold XG;rw [Xzh,Xjx,u,g,Xke _ _ (Xqr s),List.replicate_zero,Xqk]
   have I:XH A v m 0=bI v.length (2^s*(x % y))++κ m 0:=by
    unfold XH;rw [Xzh,Xjx,u,g,Xw3,List.take_zero,Xqk]
   have q:x / y<4294967296^m:=by
    have F:=FD A m (by omega);have G:=pV (w.take m);rw [Xq2,Xx7 (by omega)] at G;rw [← Xke x y (Xqr s),← u,Xqs hV,F,← g];have C:4294967296^m*(aF (A.drop m)+1)≤4294967296^m*aF v:=Xqx _ N;rw [Xq8,χ] at C;omega
   have M:=BF (bI m (x / y)) m (x / y) (aP ..) (Cc (by rw [mi];exact q)) (by omega);have r:2^s*(x % y)<4294967296^v.length:=by
    rw [i];refine Xxa ?_ P;exact Xj9 (Xqu _ j) (Xqr _)
   have f:=Yq (bI v.length (2^s*(x % y))) true s e (by rw [aP];omega) (bH.pad _ _);rw [vS,mi,υ r,Nat.mul_div_cancel_left _ (Xqr s),aP] at f;have D:ν v.length (ai (bI v.length (2^s*(x % y))++κ m 0))=ai (bI v.length (2^s*(x % y))):=by
    rw [oH,Xxv (by rw [aP];exact Δ _),Xqc (by rw [aP];exact Δ _)]
   have t:(digs y).length - 1=k+1:=by omega
   rw [← t] at d;refine agz x y s (x % y) (x / y) m A Y (bI m (x / y)) (bI v.length (2^s*(x % y))++κ m 0) v o (by omega) (by omega) (by omega) (by omega) (by rw [θ,aP];omega) (by simpa [lit] using hs) a d c b ?_ ?_ ?_ ?_
   ·rw [Xq1];rw [χ,oH,Xq1] at K;exact K
   ·refine aA.blk hloop (by simp) rfl ?_ ?_
    ·unfold Nl;rw [Rk,Rl o w N,← o];exact aH.of ⟨rfl,rfl,rfl,rfl,rfl,rfl,trivial⟩
    ·unfold Nl;rw [B,I,← o];exact aH.of ⟨rfl,rfl,rfl,rfl,trivial⟩
   ·rw [χ,oH] at M;exact M.out (jW.sl1 _ _ _)
   ·rw [← oH,D];exact f.out (jW.sl1 _ _ _)
theorem ai2 (s t:List UInt8) (d:lit false ((((digs (ag t)).length:Nat):Int)==((0:Nat):Int))=true) (b:CO 119 [.str t] (.ret (.sl (ai (digs (ag t))) (digs (ag t)).length false))) (f:CO 119 [.str s] (.ret (.sl (ai (digs (ag s))) (digs (ag s)).length false))) (c:CO 211 [.sl (ai (digs (ag s))) (digs (ag s)).length false,.sl (ai (digs (ag t))) (digs (ag t)).length false] (.ret (.tup [.sl (ai (digs ((ag s) / (ag t)))) (digs ((ag s) / (ag t))).length false,.sl (ai (digs ((ag s) % (ag t)))) (digs ((ag s) % (ag t))).length false]))) (a:CO 117 [.sl (ai (digs ((ag s) / (ag t)))) (digs ((ag s) / (ag t))).length false] (.ret (.str (ae ((ag s) / (ag t)))))) (e:CO 117 [.sl (ai (digs ((ag s) % (ag t)))) (digs ((ag s) % (ag t))).length false] (.ret (.str (ae ((ag s) % (ag t)))))):CO 191 [.str s,.str t] (.ret (.tup [.str (ae ((ag s) / (ag t))),.str (ae ((ag s) % (ag t))),.bool true])):=pK [] 1 0 (.c d .nil) (.c e (.c a (.c c (.c f (.c b .nil)))))
theorem aht (s t:List UInt8) (g:Nat) (b:CO 119 [.str s] (.ret (.sl (ai (digs (ag s))) (digs (ag s)).length false))) (d:CO 119 [.str t] (.ret (.sl (ai (digs (ag t))) (digs (ag t)).length false))) (a:aG prog ap [] 26 (.block 0 (.loop (af 0 (ah f190)))) ⟨[(0,.str s),(1,.str t),(4,.str []),(5,.sl (ai (digs (ag s))) (digs (ag s)).length false),(6,.sl (ai (digs (ag t))) (digs (ag t)).length false),(8,.dead),(15,.dead)],[],.dead,[]⟩ (.normal) ⟨[(5,.sl (ai (digs g)) (digs g).length false)],[],.dead,[]⟩) (c:CO 117 [.sl (ai (digs g)) (digs g).length false] (.ret (.str (ae g)))):CO 190 [.str s,.str t] (.ret (.str (ae g))):=pK [0] 0 0 .nil (.c c (.l a (.c d (.c b .nil))))
theorem ahr {nt:Nat} (a:26≤nt) (x y:Nat) (c:lit true (decide (((0:Nat):Int)<(((digs y).length:Nat):Int)))=true) (b:CO 211 [.sl (ai (digs x)) (digs x).length false,.sl (ai (digs y)) (digs y).length false] (.ret (.tup [.sl (ai (digs (x / y))) (digs (x / y)).length false,.sl (ai (digs (x % y))) (digs (x % y)).length false]))):ψ nt f190 ⟨[(5,.sl (ai (digs x)) (digs x).length false),(6,.sl (ai (digs y)) (digs y).length false)],[],.dead,[]⟩ (.normal) ⟨[(5,.sl (ai (digs y)) (digs y).length false),(6,.sl (ai (digs (x % y))) (digs (x % y)).length false)],[],.dead,[]⟩:=pJ 190 [] 1 1 (.c c .nil) (.c b .nil) a
theorem ahs {nt:Nat} (a:26≤nt) (x y:Nat) (b:lit false (decide (((0:Nat):Int)<(((digs y).length:Nat):Int)))=true):ψ nt f190 ⟨[(5,.sl (ai (digs x)) (digs x).length false),(6,.sl (ai (digs y)) (digs y).length false)],[],.dead,[]⟩ (.exit 0) ⟨[(5,.sl (ai (digs x)) (digs x).length false)],[],.dead,[]⟩:=pJ 190 [] 1 0 (.c b .nil) (.nil) a
theorem acM (s:List UInt8) (k:Nat) (b:lit true ((((digs (ag s)).length:Nat):Int)==((0:Nat):Int))=true) (a:CO 119 [.str s] (.ret (.sl (ai (digs (ag s))) (digs (ag s)).length false))):CO 116 [.str s] (.ret (ω 0)):=pK [] 1 1 (.c b .nil) (.c a .nil)
theorem acN (s:List UInt8) (k:Nat) (d:(chk (.int .u32) (ζ (ε ((δ (γ .i64 ((((digs (ag s)).length:Nat):Int) - ((1:Nat):Int))))*1) (ai (digs (ag s)))) .dead))=true) (a:(decide (((0:Nat):Int)≤(γ .i64 ((((digs (ag s)).length:Nat):Int) - ((1:Nat):Int)))))=true) (e:(decide ((γ .i64 ((((digs (ag s)).length:Nat):Int) - ((1:Nat):Int)))<(((digs (ag s)).length:Nat):Int)))=true) (b:lit false ((((digs (ag s)).length:Nat):Int)==((0:Nat):Int))=true) (c:CO 119 [.str s] (.ret (.sl (ai (digs (ag s))) (digs (ag s)).length false))) (f:CO 161 [.int .u32 (τ (ζ (ε ((δ (γ .i64 ((((digs (ag s)).length:Nat):Int) - ((1:Nat):Int))))*1) (ai (digs (ag s)))) .dead))] (.ret (ω (k:Int)))):CO 116 [.str s] (.ret (ω (γ .i64 ((γ .i64 (((32:Nat):Int)*(γ .i64 ((((digs (ag s)).length:Nat):Int) - ((1:Nat):Int)))))+(k:Int))))):=pK [] 1 0 (.c d (.c a (.c e (.c b .nil)))) (.c f (.c c .nil))
theorem qG {s:List UInt8} {n:Nat} (h:s.length≤4*n):(digs (ag s)).length≤n:=by
 have:=jF (Az s);omega
theorem Sl (s:List UInt8) (hs:s.length<2^38):CO 119 [.str s] (.ret (dS (ag s))):=(uC s (by omega)).out (jW.sl1 _ _ _)
theorem vP (x:Nat):eG (digs x)=digs x:=by
 have:=jJ (bH.digs x);rwa [fA] at this
theorem VW (x:Nat) (h:(digs x).length<2^36):CO 117 [dS x] (.ret (.str (ae x))):=qV (digs x) x false (vP x) (by omega) h
theorem Yo {x:Nat}:(digs x).length=0↔x=0:=by
 constructor
 ·intro h;rcases Γ x with h0|h0
  ·exact h0
  ·have:=uf h0;omega
 ·intro h;subst h;rfl
theorem Oc (s t:List UInt8) (hs:s.length<2^37) (f:t.length<2^37) (a:0<ag t):CO 191 [.str s,.str t] (.ret (.tup [.str (ae (ag s / ag t)),.str (ae (ag s % ag t)),.bool true])):=by
 have b:=qG (s:=s) (n:=2^35) (by omega);have c:=qG (s:=t) (n:=2^35) (by omega);have hp:=uf a;have e:=qF (Xjp (ag s) (ag t));have d:=qF (Xww (Xqu (ag s) a));have h:=ai2 s t;simp (disch:=first|omega|(simp [au,ay]<;>omega)) only [jC,dC,dJ,dW] at h;exact h (by omega) (Sl t (by omega)) (Sl s (by omega)) (GG _ _ a (by omega) (by omega)) (VW _ (by omega)) (VW _ (by omega))
def alE (p:Nat × Nat):St:=⟨[(5,dS p.1),(6,dS p.2)],[],.dead,[]⟩
def ahq (x:Nat):St:=⟨[(5,dS x)],[],.dead,[]⟩
theorem Vk {nt:Nat} (a:26≤nt):∀ (n y x:Nat),y<n→(digs x).length<2^36→(digs y).length<2^36→aA prog ap [] nt (af 0 (ah f190)) (fun _=> .exit 0) alE ahq (x,y) (Xxk x y):=by
 intro n
 induction n with
 |zero=>intro y x h;omega
 | succ n ih=>
  intro y x h e c;rcases Γ y with rfl|h0
  ·rw [Nat.gcd_zero_right];exact .done (ahs a x 0 rfl)
  ·have b:=Xqu x h0;have d:=qF (Xww b);have hnext:=ih (x % y) y (by omega) c (by omega);rw [show Xxk y (x % y)=Xxk x y by rw [Xv6 y,← Nat.gcd_rec,Xv6]] at hnext;refine .next ?_ hnext
   have hp:=uf h0;exact ahr a x y (by rw [aX,bz];exact Yq0 hp) (GG _ _ h0 (by omega) (by omega))
theorem adP (s t:List UInt8) (hs:s.length<2^37) (e:t.length<2^37):CO 190 [.str s,.str t] (.ret (.str (ae (Xxk (ag s) (ag t))))):=by
 have b:=qG (s:=s) (n:=2^35) (by omega);have d:=qG (s:=t) (n:=2^35) (by omega);have c:(digs (Xxk (ag s) (ag t))).length<2^36:=by
  rcases Γ (ag s) with h|h
  ·rw [h,Xwo];omega
  ·have:=qF (Xv7 (ag t) h);omega
 exact aht s t _ (Sl s (by omega)) (Sl t (by omega)) (aA.blk (fun nt a=>Vk a (ag t+1) (ag t) (ag s) (by omega) (by omega) (by omega)) (by simp) rfl (aH.of ⟨rfl,rfl,trivial⟩) (aH.of ⟨rfl,trivial⟩)) (VW _ c)
theorem VD {y k:Nat} (h:(digs y).length=k+1):dQ y=32*k+dQ ((digs y).getD k 0):=by
 obtain ⟨b,_,_⟩:=Ar h;have a:=O6 h;rw [← mi] at a;rw [b,uu a,mi]
theorem OX (s:List UInt8) (hs:s.length<2^37):CO 116 [.str s] (.ret (ω ((dQ (ag s):Nat):Int))):=by
 have f:=qG (s:=s) (n:=2^35) (by omega);rcases Γ (ag s) with h0|h0
 ·have hp:=Yo.2 h0;have h:=acM s 0 (by rw [hp];rfl) (Sl s (by omega));rw [h0];exact h
 ·have hp:=uf h0;obtain ⟨k,d⟩:∃ k,(digs (ag s)).length=k+1:=⟨(digs (ag s)).length - 1,by omega⟩
  have a:(digs (ag s)).getD k 0<4294967296:=bH.getD (bH.digs _) k;have j:=KA _ a;have i:dQ ((digs (ag s)).getD k 0)≤32:=lK a;rw [VD d];have h:=acN s (dQ ((digs (ag s)).getD k 0));rw [d] at h;have e:k+1 - 1=k:=rfl;have g:k<(digs (ag s)).length:=by omega
  generalize dQ ((digs (ag s)).getD k 0)=b at*
  simp (disch:=first|omega|(simp [au,ay]<;>omega)) only [jP,e,aC,χ,yR,jL,dm,bf,aX,jC,dC,dJ,dW,aY,xN,aS,bJ] at h;have c:=Sl s (by omega);unfold dS at c;rw [d] at c;apply h<;>first|exact True.intro|omega|assumption|exact rfl
def nR (s:List UInt8):Bool:=match s with| []=>true|c::_=> !(c==0)
def zY (s:List UInt8):Bool:=nR s && decide (0<ag s)
def iE (neg:Bool) (n d:List UInt8):Bool:=nR n && nR d && decide (0<ag d) && decide (Xxk (ag n) (ag d)=1) && (!neg||decide (0<ag n))
theorem aip (s:List UInt8) (c:lit true (nR s)=true) (b:CO 159 [.str s] (.ret (.bool (nR s)))) (a:CO 189 [.str s,.str []] (.ret (ω (lU (ag s) (ag []))))):CO 158 [.agg [.str []],.str s] (.ret (.bool (decide (((0:Nat):Int)<(lU (ag s) (ag [])))))):=pK [] 1 1 (.k 1 c .nil) (.c a (.c b .nil))
theorem aiq (s:List UInt8) (b:lit false (nR s)=true) (a:CO 159 [.str s] (.ret (.bool (nR s)))):CO 158 [.agg [.str []],.str s] (.ret (.bool false)):=pK [] 1 0 (.c b .nil) (.c a .nil)
theorem ahL (a:Bool) (n d:List UInt8) (g:Nat) (c:lit true a=true) (b:CO 190 [.str n,.str d] (.ret (.str (ae g)))) (f:CO 191 [.str n,.str (ae g)] (.ret (.tup [.str (ae (ag n / g)),.str (ae (ag n % g)),.bool true]))) (e:CO 191 [.str d,.str (ae g)] (.ret (.tup [.str (ae (ag d / g)),.str (ae (ag d % g)),.bool true]))):CO 160 [.bool a,.str n,.str d] (.ret (.agg [.bool (!((ae (ag n / g))== [])),.str (ae (ag n / g)),.str (ae (ag d / g))])):=pK [] 1 1 (.k 4 c .nil) (.c e (.c f (.c b .nil)))
theorem ahM (a:Bool) (n d:List UInt8) (g:Nat) (c:lit false a=true) (b:CO 190 [.str n,.str d] (.ret (.str (ae g)))) (f:CO 191 [.str n,.str (ae g)] (.ret (.tup [.str (ae (ag n / g)),.str (ae (ag n % g)),.bool true]))) (e:CO 191 [.str d,.str (ae g)] (.ret (.tup [.str (ae (ag d / g)),.str (ae (ag d % g)),.bool true]))):CO 160 [.bool a,.str n,.str d] (.ret (Ω false (ae (ag n / g)) (ae (ag d / g)))):=pK [] 1 0 (.k 4 c .nil) (.c e (.c f (.c b .nil)))
theorem WO (b a:Bool) (n d c e:List UInt8) (h:lit true (nR n)=true) (f:lit true (zY d)=true) (g:CO 158 [.agg [.str []],.str d] (.ret (.bool (zY d)))) (i:CO 159 [.str n] (.ret (.bool (nR n)))) (j:CO 160 [.bool b,.str n,.str d] (.ret (Ω a c e))):CO 115 [Ω b n d] (.ret (.bool ((a==b) && ((c==n) && ((e==d) && true))))):=pK [] 2 3 (.k 6 h (.k 1 f (.n 1 .nil))) (.c j (.c i (.c g .nil)))
theorem WP (a b:Bool) (n d h i:List UInt8) (f:lit false (nR n)=true) (c:lit true (zY d)=true) (e:CO 158 [.agg [.str []],.str d] (.ret (.bool (zY d)))) (g:CO 159 [.str n] (.ret (.bool (nR n)))):CO 115 [Ω a n d] (.ret (.bool false)):=pK [] 2 1 (.c f (.k 1 c (.n 1 .nil))) (.c g (.c e .nil))
theorem WQ (a b:Bool) (n d f g:List UInt8) (e:lit false (zY d)=true) (c:CO 158 [.agg [.str []],.str d] (.ret (.bool (zY d)))):CO 115 [Ω a n d] (.ret (.bool false)):=pK [] 2 0 (.k 1 e (.n 1 .nil)) (.c c .nil)
theorem adM (a:Bool) (n d:List UInt8) (e:lit true (decide ((((dQ (ag n)):Nat):Int)≤((400:Nat):Int)))=true) (b:lit true (iE a n d)=true) (c:CO 115 [Ω a n d] (.ret (.bool (iE a n d)))) (g:CO 116 [.str n] (.ret (ω (((dQ (ag n)):Nat):Int)))) (f:CO 116 [.str d] (.ret (ω (((dQ (ag d)):Nat):Int)))):CO 70 [Ω a n d] (.ret (.bool (decide ((((dQ (ag d)):Nat):Int)≤((400:Nat):Int))))):=pK [] 2 3 (.k 1 e (.k 1 b (.n 3 .nil))) (.c f (.c g (.c c .nil)))
theorem adN (a:Bool) (n d:List UInt8) (e:lit false (decide ((((dQ (ag n)):Nat):Int)≤((400:Nat):Int)))=true) (b:lit true (iE a n d)=true) (c:CO 115 [Ω a n d] (.ret (.bool (iE a n d)))) (f:CO 116 [.str n] (.ret (ω (((dQ (ag n)):Nat):Int)))):CO 70 [Ω a n d] (.ret (.bool false)):=pK [] 2 1 (.c e (.k 1 b (.n 3 .nil))) (.c f (.c c .nil))
theorem adO (a:Bool) (n d:List UInt8) (c:lit false (iE a n d)=true) (b:CO 115 [Ω a n d] (.ret (.bool (iE a n d)))):CO 70 [Ω a n d] (.ret (.bool false)):=pK [] 2 0 (.k 1 c (.n 3 .nil)) (.c b .nil)
theorem di:ae 0= []:=ED []
theorem bU {x k:Nat} (h:x<2^(8*k)):(ae x).length≤k:=by
 rw [← PW h];have b:=(Xzs (· ==0) (l:=jX k x)).length_le;have a:(jX k x).length=k:=by
  have:∀ m,(jX m x).length=m:=by
   intro m
   induction m with
   |zero=>rfl
   |succ m ih=>rw [rD,μ,ih]
  exact this k
 omega
theorem jK (s:List UInt8):ag s<2^(8*s.length):=by
 have h:=vT s;rwa [show (256:Nat)=2^8 from rfl,← Xx2] at h
theorem lQ {x:Nat} {s:List UInt8} (h:x≤ag s):(ae x).length≤s.length:=bU (φ h (jK s))
theorem dY {x:Nat}:ae x= []↔x=0:=by
 constructor
 ·intro h;have:=aB x;rw [h] at this;exact this.symm
 ·intro h;subst h;exact di
theorem EC {x y:Nat} (h:ae x=ae y):x=y:=by rw [← aB x,h,aB]
theorem mO (s:List UInt8):nR s=true↔ae (ag s)=s:=by
 rw [ED];cases s with
 |nil=>simp [nR]
 | cons c r=>
  simp only [nR,Xxt];by_cases h:c=0
  ·subst h;simp only [beq_self_eq_true,Bool.not_true,Xjn,if_true,false_iff];intro a;have:=(Xzs (· ==(0:UInt8)) (l:=r)).length_le;rw [a] at this;simp at this;omega
  ·simp [h]
theorem vk (x:Nat):nR (ae x)=true:=(mO _).2 (by rw [aB])
theorem zQ (s:List UInt8):CO 159 [.str s] (.ret (.bool (nR s))):=by
 cases s with
 |nil=>exact VO [] rfl
 | cons c r=>
  have h:=VP (c::r) (by simp) rfl;have e:(!((((c::r).getD 0 0).toNat:Int)==(0:Int)))=nR (c::r):=by
   simp only [List.getD_cons_zero,nR];by_cases hc:c=0
   ·subst hc;rfl
   ·have:c.toNat ≠ 0:=fun h=>hc (by apply UInt8.toNat_inj.1;simpa using h)
    have a:((c.toNat:Int)==(0:Int))=false:=by simp;omega
    rw [a];simp [hc]
  rw [e] at h;exact h
theorem Xb (x:Nat):decide (((0:Nat):Int)<lU x (ag []))=decide (0<x):=by
 have:ag []=0:=rfl;rw [this];unfold lU;rcases Γ x with rfl|h
 ·rfl
 ·rw [if_neg (by omega),if_pos h,Yq0 h];rfl
theorem Wj (s:List UInt8) (hs:s.length<2^37):CO 158 [.agg [.str []],.str s] (.ret (.bool (zY s))):=by
 have a:=zQ s;unfold zY;cases b:nR s with
 |true=>
  have h:=aip s (by rw [b];rfl) a (afP s [] (by omega) (by simp));rw [Xb] at h;exact h
 |false=>
  exact aiq s (by rw [b];rfl) a
abbrev Le (neg:Bool) (n d:Nat):AV:= .agg [.bool neg,.str (ae n),.str (ae d)]
abbrev alI (neg:Bool) (n d:Nat):AV:=Le (neg && decide (0<n)) (n / Xxk n d) (d / Xxk n d)
theorem JZ {n d:Nat} (h:0<n):0<n / Xxk n d:=Xvp (Xv7 d h) (Nat.gcd_pos_of_pos_left d h)
theorem VF (a:Bool) (n d:List UInt8) (l:n.length<2^36) (hd:d.length<2^36) (g:0<ag d):CO 160 [.bool a,.str n,.str d] (.ret (alI a (ag n) (ag d))):=by
 have i:=adP n d (by omega) (by omega);have b:0<Xxk (ag n) (ag d):=Xjz _ g;have j:(ae (Xxk (ag n) (ag d))).length≤d.length:=lQ (Nat.gcd_le_right _ g);have f:=Oc n (ae (Xxk (ag n) (ag d))) (by omega) (by omega) (by rw [aB];exact b);have c:=Oc d (ae (Xxk (ag n) (ag d))) (by omega) (by omega) (by rw [aB];exact b);rw [aB] at f c;cases a with
 | true=>
  have h:=ahL true n d (Xxk (ag n) (ag d)) rfl i f c;have e:(!(ae (ag n / Xxk (ag n) (ag d))== []))=(true && decide (0<ag n)):=by
   rcases Γ (ag n) with h1|h1
   ·rw [h1,Nat.zero_div,di];rfl
   ·have m:=JZ (d:=ag d) h1;have k:ae (ag n / Xxk (ag n) (ag d)) ≠ []:=fun h=>by have:=dY.1 h;omega
    simp [k,h1]
  rw [e] at h;exact h
 |false=>exact ahM false n d (Xxk (ag n) (ag d)) rfl i f c
theorem kM {a:Bool} {n d:List UInt8}:iE a n d=true↔nR n=true∧nR d=true∧0<ag d∧Xxk (ag n) (ag d)=1∧(a=true→0<ag n):=by
 unfold iE;cases a<;>simp [and_assoc]
theorem SS {f:Bool} {n d:List UInt8} (i:nR n=true) (k:nR d=true) (h:0<ag d):(((f && decide (0<ag n))==f) && ((ae (ag n / Xxk (ag n) (ag d))==n) && ((ae (ag d / Xxk (ag n) (ag d))==d) && true)))=iE f n d:=by
 rw [Xxz,kM];simp only [ο,beq_iff_eq,and_true];have l:0<Xxk (ag n) (ag d):=Xjz _ h;constructor
 ·rintro ⟨a,b,c⟩
  refine ⟨i,k,h, ?_, ?_⟩
  ·have e:=congrArg ag c;rw [aB] at e;have j:=Nat.div_mul_cancel (Nat.gcd_dvd_right (ag n) (ag d));rw [e] at j;exact Nat.eq_of_mul_eq_mul_left h (by rw [j,χ])
  ·intro g;subst g;simpa using a
 ·rintro ⟨_,_,_,hg,g⟩
  rw [hg,Xzz,Xzz];refine ⟨?_,(mO n).1 i,(mO d).1 k⟩;cases f with
  |false=>rfl
  |true=>simp [g rfl]
theorem mF (a:Bool) (n d:List UInt8) (k:n.length<2^36) (hd:d.length<2^36):CO 115 [Ω a n d] (.ret (.bool (iE a n d))):=by
 have hp:=Wj d (by omega);have i:=zQ n;cases c:zY d with
 | false=>
  have h:=WQ a a n d n d (by rw [c];rfl) hp;have e:iE a n d=false:=by
   rw [Xvk];intro g;obtain ⟨_,j,l,_⟩:=kM.1 g;simp [zY,j,l] at c
  rw [e];exact h
 | true=>
  have b:nR d=true∧0<ag d:=by simpa [zY] using c
  cases f:nR n with
  | false=>
   have h:=WP a a n d n d (by rw [f];rfl) (by rw [c];rfl) hp i;have e:iE a n d=false:=by
    rw [Xvk];intro g;have:=(kM.1 g).1;rw [f] at this;cases this
   rw [e];exact h
  |true=>
   have h:=WO a (a && decide (0<ag n)) n d (ae (ag n / Xxk (ag n) (ag d))) (ae (ag d / Xxk (ag n) (ag d))) (by rw [f];rfl) (by rw [c];rfl) hp i (VF a n d k hd b.2);rw [SS f b.1 b.2] at h;exact h
def eQ (neg:Bool) (n d:List UInt8):Bool:=iE neg n d && decide (dQ (ag n)≤400) && decide (dQ (ag d)≤400)
theorem fZ (a:Bool) (n d:List UInt8) (f:n.length<2^36) (hd:d.length<2^36):CO 70 [Ω a n d] (.ret (.bool (eQ a n d))):=by
 have c:=mF a n d f hd;have e:=OX n (by omega);have g:=OX d (by omega);unfold eQ;cases b:iE a n d with
 |false=>exact adO a n d (by rw [b];rfl) c
 | true=>
  by_cases h3:dQ (ag n)≤400
  ·have h:=adM a n d (by rw [dm,Yq0 h3];rfl) (by rw [b];rfl) c e g;rw [dm] at h;rw [Yq0 h3];exact h
  ·have h:=adN a n d (by rw [dm,Yq1 h3];rfl) (by rw [b];rfl) c e;rw [Yq1 h3];exact h
theorem Zu (x:Nat) (a:lit true (decide ((x:Int)≤((0:Nat):Int)))=true):CO 72 [ω (x:Int)] (.ret (.str [])):=pK [] 1 1 (.c a .nil) (.nil)
theorem Zv (x:Nat) (b:lit false (decide ((x:Int)≤((0:Nat):Int)))=true) (a:CO 117 [.sl [.int .u32 (γ .u32 (γ .i64 (Xxf (Xqg (Xqd .i64) (x:Int) &&& Xqg (Xqd .i64) ((4294967295:Nat):Int))))),.int .u32 (γ .u32 (Xqw (x:Int) (2^(min 32 64))))] 2 true] (.ret (.str (ae x)))):CO 72 [ω (x:Int)] (.ret (.str (ae x))):=pK [] 1 0 (.k 1 b .nil) (.c a .nil)
theorem aad (x:Nat) (c:lit false (decide ((x:Int)<((0:Nat):Int)))=true) (b:CO 72 [ω (x:Int)] (.ret (.str (ae x)))) (a:CO 72 [ω 1] (.ret (.str (ae 1)))):CO 42 [ω (x:Int)] (.ret (Ω false (ae x) (ae 1))):=pK [] 1 0 (.k 4 c .nil) (.c a (.c b .nil))
theorem aay (a:Bool) (n d:List UInt8) (c:lit true (!(iE a n d))=true) (b:CO 115 [Ω a n d] (.ret (.bool (iE a n d)))):CO 121 [Ω a n d] (.ret (ω 0)):=pK [] 2 3 (.k 1 c (.n 3 .nil)) (.c b .nil)
theorem aaz (a:Bool) (n d:List UInt8) (e:lit true ((a==false) && ((n==(ae 0)) && ((d==(ae 1)) && true)))=true) (b:lit false (!(iE a n d))=true) (c:CO 115 [Ω a n d] (.ret (.bool (iE a n d)))) (f:CO 42 [ω 0] (.ret (Ω false (ae 0) (ae 1)))):CO 121 [Ω a n d] (.ret (ω 0)):=pK [] 2 2 (.c e (.k 3 b (.n 3 .nil))) (.c f (.c c .nil))
theorem aaA (a:Bool) (n d:List UInt8) (e:lit true a=true) (b:lit false ((a==false) && ((n==(ae 0)) && ((d==(ae 1)) && true)))=true) (f:lit false (!(iE a n d))=true) (c:CO 115 [Ω a n d] (.ret (.bool (iE a n d)))) (g:CO 42 [ω 0] (.ret (Ω false (ae 0) (ae 1)))):CO 121 [Ω a n d] (.ret (ω (-1))):=pK [] 3 4 (.c e (.k 1 b (.k 3 f (.n 3 .nil)))) (.c g (.c c .nil))
theorem aaB (a:Bool) (n d:List UInt8) (e:lit false a=true) (b:lit false ((a==false) && ((n==(ae 0)) && ((d==(ae 1)) && true)))=true) (f:lit false (!(iE a n d))=true) (c:CO 115 [Ω a n d] (.ret (.bool (iE a n d)))) (g:CO 42 [ω 0] (.ret (Ω false (ae 0) (ae 1)))):CO 121 [Ω a n d] (.ret (ω 1)):=pK [] 3 0 (.c e (.k 1 b (.k 3 f (.n 3 .nil)))) (.c g (.c c .nil))
theorem Xx {x:Nat} (a:x<9223372036854775808):eG [x % 4294967296,x / 4294967296]=digs x:=by
 have h:=jJ (l:= [x % 4294967296,x / 4294967296]) (bH.cons (Xqu _ (by omega)) (bH.cons (by omega) bH.nil));rw [h];congr 1;simp only [aF,Xx8,Xq0];omega
theorem Nj {x:Nat} (a:x<9223372036854775808):(digs x).length≤2:=Ig (Ψ a (by decide))
theorem EE (x:Nat) (c:x<9223372036854775808):CO 72 [ω (x:Int)] (.ret (.str (ae x))):=by
 rcases Γ x with rfl|h0
 ·rw [di];exact Zu 0 rfl
 ·have hd:=Nj c;have b:=qV [x % 4294967296,x / 4294967296] x true (Xx c) (by simp) (by omega);have h:=Zv x;have d:(4294967295:Nat)<18446744073709551616:=by omega
  simp (disch:=first|omega|(simp [au,ay]<;>omega)) only [dm,dC,dJ,dW,alk,Dj,aS,qZ,υ,qR,lh,nC] at h;have a:¬ x≤0:=by omega
  apply h
  ·exact a
  ·exact b
theorem ET (x:Nat) (a:x<9223372036854775808):CO 42 [ω (x:Int)] (.ret (Le false x 1)):=
 aad x (by rw [aX];exact (by simp [lit])) (EE x a) (EE 1 (by omega))
theorem jw:CO 42 [ω 0] (.ret (Le false 0 1)):=ET 0 (by omega)
theorem uG:CO 42 [ω 1] (.ret (Le false 1 1)):=ET 1 (by omega)
def jy (neg:Bool) (n d:List UInt8):Int:=if iE neg n d=true∧0<ag n then (if neg then -1 else 1) else 0
theorem D8 {a:Bool} {n d:List UInt8} (h:iE a n d=true):((a==false) && ((n==ae 0) && ((d==ae 1) && true)))=decide (ag n=0):=by
 obtain ⟨g,f,k,b,i⟩:=kM.1 h;have c:=(mO n).1 g;have e:=(mO d).1 f;rw [Xxz];simp only [ο,beq_iff_eq,and_true,decide_eq_true_eq];constructor
 ·rintro ⟨_,hn,_⟩
  rw [hn,aB]
 ·intro j;rw [j] at c b;rw [Xwo] at b;rw [b] at e;refine ⟨?_,c.symm,e.symm⟩;cases a with
  |false=>rfl
  |true=>have:=i rfl;omega
theorem oD (a:Bool) (n d:List UInt8) (e:n.length<2^36) (hd:d.length<2^36):CO 121 [Ω a n d] (.ret (ω (jy a n d))):=by
 have c:=mF a n d e hd;unfold jy;cases b:iE a n d with
 |false=>
  have h:=aay a n d (by rw [b];rfl) c;rw [if_neg (by simp)];exact h
 | true=>
  by_cases h0:ag n=0
  ·have h:=aaz a n d (by rw [D8 b,Yq0 h0];rfl) (by rw [b];rfl) c jw;rw [if_neg (by omega)];exact h
  ·rw [if_pos ⟨rfl,by omega⟩];cases a with
   |true=>exact aaA true n d rfl (by rw [D8 b,Yq1 h0];rfl) (by rw [b];rfl) c jw
   |false=>exact aaB false n d rfl (by rw [D8 b,Yq1 h0];rfl) (by rw [b];rfl) c jw
theorem BR {i:Nat} (h:i<2^62):ω (γ .i64 ((i:Int)+((1:Nat):Int)))= ω ((i+1:Nat):Int):=by rw [dn]<;>first|rfl|omega
def cy (fd fc:Nat→Nat→Nat→Nat):List Nat→List Nat→Nat→List Nat × Nat
 | [],_,c=>([],c)
 |x::l,m,c=>(fd x (m.headD 0) c::(cy fd fc l m.tail (fc x (m.headD 0) c)).1,(cy fd fc l m.tail (fc x (m.headD 0) c)).2)
def CQ (x y c:Nat):Nat:=(x+y+c) % 4294967296
def Ak (x y c:Nat):Nat:=(x+y+c) / 4294967296
def Be (x y c:Nat):Nat:=(x+4294967296 - y - c) % 4294967296
def wZ (x y c:Nat):Nat:=if x<y+c then 1 else 0
def smA (x c:Nat):Nat:=x+c
def smB (x y c:Nat):Nat:=x+y+c
def lsA (x c:Nat):Nat:=(x+18446744073709551616 - c) % 18446744073709551616
def lsB (x y c:Nat):Nat:=(x+18446744073709551616 - y - c) % 18446744073709551616
theorem Nc (fd fc:Nat→Nat→Nat→Nat):∀ (l m:List Nat) (c:Nat),(cy fd fc l m c).1.length=l.length
 | [],_,_=>rfl
 |_::l,m,_=>by simp only [cy,μ,Nc fd fc l m.tail _]
theorem Nh {fd fc:Nat→Nat→Nat→Nat} (h:∀ x y c,fd x y c<4294967296):∀ (l m:List Nat) (c:Nat),bH (cy fd fc l m c).1
 | [],_,_=>bH.nil
 |_::l,m,_=>bH.cons (h _ _ _) (Nh h l m.tail _)
theorem abQ (m:List Nat):aF m=m.headD 0+4294967296*aF m.tail:=by cases m with|nil=>rfl|cons x l=>rfl
theorem bH.hd {m:List Nat} (h:bH m):m.headD 0<4294967296:=by cases m with|nil=>show 0<_;omega|cons x l=>exact h.head
theorem bH.tl {m:List Nat} (h:bH m):bH m.tail:=by cases m with|nil=>exact h|cons x l=>exact h.tail
theorem Xe:∀ (l m:List Nat) (c:Nat),m.length≤l.length→aF (cy CQ Ak l m c).1+4294967296^l.length*(cy CQ Ak l m c).2=aF l+aF m+c
 | [],m,c,h=>by
  have:m= []:=List.length_eq_zero_iff.1 (by simpa using h);subst this;simp [cy,aF]
 |x::l,m,c,h=>by
  have a:=Xe l m.tail (Ak x (m.headD 0) c) (by rw [Xvw];simp only [μ] at h;omega);have b:=abQ m;have hd:=Xq7 (x+m.headD 0+c) 4294967296;simp only [cy,aF,μ,Xqz];have e:4294967296^l.length*4294967296*(cy CQ Ak l m.tail (Ak x (m.headD 0) c)).2=4294967296*(4294967296^l.length*(cy CQ Ak l m.tail (Ak x (m.headD 0) c)).2):=by rw [Φ (4294967296^l.length),Xqn]
  rw [e,b];generalize 4294967296^l.length*(cy CQ Ak l m.tail (Ak x (m.headD 0) c)).2=P at*
  generalize aF (cy CQ Ak l m.tail (Ak x (m.headD 0) c)).1=V at*
  have d:CQ x (m.headD 0) c=(x+m.headD 0+c) % 4294967296:=rfl;have f:Ak x (m.headD 0) c=(x+m.headD 0+c) / 4294967296:=rfl;rw [f] at a;rw [d];omega
theorem VI:∀ (l m:List Nat) (c:Nat),bH l→bH m→c≤1→m.length≤l.length→aF (cy Be wZ l m c).1+aF m+c=aF l+4294967296^l.length*(cy Be wZ l m c).2
 | [],m,c,_,_,_,h=>by
  have:m= []:=List.length_eq_zero_iff.1 (by simpa using h);subst this;simp [cy,aF]
 |x::l,m,c,hl,hm1,hc,h=>by
  have a:wZ x (m.headD 0) c≤1:=by unfold wZ;split<;>omega
  have d:=VI l m.tail (wZ x (m.headD 0) c) hl.tail hm1.tl a (by rw [Xvw];simp only [μ] at h;omega);have b:=abQ m;have f:=hl.head;have g:=hm1.hd;simp only [cy,aF,μ,Xqz];have e:4294967296^l.length*4294967296*(cy Be wZ l m.tail (wZ x (m.headD 0) c)).2=4294967296*(4294967296^l.length*(cy Be wZ l m.tail (wZ x (m.headD 0) c)).2):=by rw [Φ (4294967296^l.length),Xqn]
  rw [e,b];generalize 4294967296^l.length*(cy Be wZ l m.tail (wZ x (m.headD 0) c)).2=P at*
  generalize aF (cy Be wZ l m.tail (wZ x (m.headD 0) c)).1=V at*
  generalize m.headD 0=y at*
  have hd:Be x y c+y+c=x+4294967296*wZ x y c:=by unfold Be wZ;split<;>omega
  omega
theorem akm {x c:Nat} (b:x<4294967296) (a:c≤1):Xxm .u64 (γ .u64 ((γ .u64 (x:Int))+(c:Int)))= .int .u64 ((smA x c:Nat):Int):=by
 rw [oK,bJ,oK];unfold smA;congr 2;omega
theorem aml {x y c:Nat} (a:x<4294967296) (b:y<4294967296) (d:c≤1):Xxm .u64 (γ .u64 (((smA x c:Nat):Int)+(γ .u64 (y:Int))))= .int .u64 ((smB x y c:Nat):Int):=by
 unfold smA smB;rw [oK,bJ,oK];congr 2;omega
theorem amn (x y c:Nat):Xxm .u32 (γ .u32 ((smB x y c:Nat):Int))= .int .u32 ((CQ x y c:Nat):Int):=by
 unfold smB CQ;rw [qZ]
theorem amm (x y c:Nat):Xxm .u64 (Xqw ((smB x y c:Nat):Int) (2^(min 32 64)))= .int .u64 ((Ak x y c:Nat):Int):=by
 unfold smB Ak;rw [show min 32 64=32 from rfl,lh]
theorem ako (x c:Nat):Xxm .u32 (γ .u32 ((smA x c:Nat):Int))= .int .u32 ((CQ x 0 c:Nat):Int):=by
 unfold smA CQ;rw [qZ];rfl
theorem akn (x c:Nat):Xxm .u64 (Xqw ((smA x c:Nat):Int) (2^(min 32 64)))= .int .u64 ((Ak x 0 c:Nat):Int):=by
 unfold smA Ak;rw [show min 32 64=32 from rfl,lh];rfl
theorem ahN {x c:Nat} (b:x<4294967296) (a:c≤1):Xxm .u64 (γ .u64 ((γ .u64 (x:Int)) - (c:Int)))= .int .u64 ((lsA x c:Nat):Int):=by
 rw [oK,kZ];unfold lsA;congr 2;omega
theorem alK {x y c:Nat} (a:x<4294967296) (b:y<4294967296) (d:c≤1):Xxm .u64 (γ .u64 (((lsA x c:Nat):Int) - (γ .u64 (y:Int))))= .int .u64 ((lsB x y c:Nat):Int):=by
 unfold lsA lsB;rw [oK,kZ];congr 2;omega
theorem alM {x y c:Nat} (a:x<4294967296) (b:y<4294967296) (d:c≤1):Xxm .u32 (γ .u32 ((lsB x y c:Nat):Int))= .int .u32 ((Be x y c:Nat):Int):=by
 unfold lsB Be;rw [qZ];congr 2;omega
theorem p63:(2:Nat)^63=9223372036854775808:=by decide
theorem alL {x y c:Nat} (a:x<4294967296) (b:y<4294967296) (d:c≤1):Xxm .u64 (Xqw ((lsB x y c:Nat):Int) (2^(min 63 64)))= .int .u64 ((wZ x y c:Nat):Int):=by
 unfold lsB wZ;rw [show min 63 64=63 from rfl,lh,p63];congr 2;split<;>omega
theorem ahP {x c:Nat} (b:x<4294967296) (a:c≤1):Xxm .u32 (γ .u32 ((lsA x c:Nat):Int))= .int .u32 ((Be x 0 c:Nat):Int):=by
 unfold lsA Be;rw [qZ];congr 2;omega
theorem ahO {x c:Nat} (b:x<4294967296) (a:c≤1):Xxm .u64 (Xqw ((lsA x c:Nat):Int) (2^(min 63 64)))= .int .u64 ((wZ x 0 c:Nat):Int):=by
 unfold lsA wZ;rw [show min 63 64=63 from rfl,lh,p63];congr 2;split<;>omega
theorem OA {x y c:Nat} (a:x<4294967296) (b:y<4294967296) (d:c≤1):Ak x y c≤1:=by unfold Ak;omega
theorem VG {x y c:Nat}:wZ x y c≤1:=by unfold wZ;split<;>omega
theorem yQ {d l:List Nat} {x:Nat}:ε ((δ (d.length:Int))*1) (ai (d++x::l))= [Xxm .u32 (x:Int)]++ai l:=by
 rw [aC,χ];unfold ai;rw [Xxy,List.drop_left' (by simp)];rfl
theorem yS {p s:List Nat} {x y:Nat}:ν ((0+(δ (p.length:Int)))*1) (ai (p++x::s))++ [Xxm .u32 (y:Int)]++ε (((0+(δ (p.length:Int)))*1)+1) (ai (p++x::s))=ai (p++y::s):=by
 rw [aC,Xqf,χ];exact lT rfl
def OB (a b:List Nat) (na nb:Bool) (p:Nat × List Nat × Nat):St:=⟨[(0,.sl (ai a) a.length na),(1,.sl (ai b) b.length nb),(5,.ref 0 0 0 p.2.1.length),(6,.int .u64 (p.2.2:Int)),(21,ω (a.length:Int)),(22,ω (p.1:Int))],[(0,⟨(ai p.2.1),0,false,0,1,true⟩)],.dead,[]⟩
def LP (a b:List Nat) (na nb:Bool) (p:List Nat × Nat):St:=⟨[(0,.sl (ai a) a.length na),(1,.sl (ai b) b.length nb),(5,.ref 0 0 0 p.1.length),(6,.int .u64 (p.2:Int))],[(0,⟨(ai p.1),0,false,0,1,true⟩)],.dead,[]⟩
theorem aa2 {nt:Nat} (F:59≤nt) (a b:List Nat) (K N:Bool) (G:bH a) (H:bH b) (R:a.length<2^40) (t:List Nat):∀ (l d o e m:List Nat) (c:Nat),c≤1→d++l=a→o.length=d.length→e++m=b→(e.length=d.length∨(m= []∧e.length≤d.length))→
  aA prog ap [] nt (af 0 (ah f118)) (fun _=> .exit 0) (OB a b K N) (LP a b K N) (d.length,o++(κ l.length 0++t),c) (o++((cy CQ Ak l m c).1++t),(cy CQ Ak l m c).2):=by
 intro l
 induction l with
 |nil=>
  intro d o e m c P hd C r j;rw [Θ] at hd;subst hd;have Q:decide ((d.length:Int)<(d.length:Int))=false:=Yq1 (by omega);exact .done (pN 118 [] 1 0 (.c (aK Q) .nil) .nil F)
 | cons x l ih=>
  intro d o e m c P hd C r j;have i:x<4294967296:=G x (by rw [← hd];simp);have g:=P;have O:d.length+(l.length+1)=a.length:=by rw [← hd];simp
  have I:(ε ((δ (d.length:Int))*1) (ai a))= [Xxm .u32 (x:Int)]++ai l:=by rw [← hd];exact yQ
  generalize ai l=ra at I;obtain ⟨w,q⟩:∃ w,w=o++(κ (x::l).length 0++t):=⟨_,rfl⟩
  have n:∀ v:Nat,ν ((0+(δ (d.length:Int)))*1) (ai w)++ [Xxm .u32 (v:Int)]++ε (((0+(δ (d.length:Int)))*1)+1) (ai w)=ai ((o++ [v])++(κ l.length 0++t)):=by
   intro v;rw [q,← C,μ,Xxb,Xq9,yS,Xqe];rfl
  have D:w.length=o.length+(l.length+1)+t.length:=by rw [q];simp;omega
  have p:∀ v:Nat,((o++ [v])++(κ l.length 0++t)).length=w.length:=by intro v;rw [D];simp;omega
  have u:decide (((0:Nat):Int)≤(d.length:Int))=true:=Yq0 (by omega);have B:decide ((d.length:Int)<(a.length:Int))=true:=Yq0 (by omega);have L:decide ((d.length:Int)<(w.length:Int))=true:=Yq0 (by omega);have M:(Xqm (((0+(δ (d.length:Int)))*1)+1) (η (ai w)))=true:=by rw [Xzl,aC,au];omega
  rw [← q];cases m with
  |cons y m=>
   have s:e.length=d.length:=by rcases j with h|h;exact h;cases h.1
   have z:y<4294967296:=H y (by rw [← r];simp);have J:(ε ((δ (d.length:Int))*1) (ai b))= [Xxm .u32 (y:Int)]++ai m:=by rw [← r,← s];exact yQ
   generalize ai m=rb at J;have A:decide ((d.length:Int)<(b.length:Int))=true:=Yq0 (by rw [← r];simp;omega);have f:=ih (d++ [x]) (o++ [CQ x y c]) (e++ [y]) m (Ak x y c) (OA i z g) (by rw [← hd];simp) (by simp [C]) (by rw [← r];simp) (.inl (by simp [s]));rw [θ,σ] at f;simp only [Xqe,Xxh] at f;simp only [cy,Xx9,Xzi,Xws,Xvq,Xq9];refine .next ?_ f
   unfold OB;rw [show o++(CQ x y c::(κ l.length 0++t))=(o++ [CQ x y c])++(κ l.length 0++t) by simp,p,← n];have E:d.length<2^62:=by omega
   generalize d.length=k at*
   exact pN 118 [] 2 3 (.c M (.c u (.c L (.k 2 u (.c A (.c (aN A) (.k 1 u (.c B (.c (aN B) .nil))))))))) (.v 50 (.eq (BR E)) (.v 48 (.eq (amm x y c)) (.v 46 (.eq (amn x y c)) (.v 42 (.eq (aml i z g)) (.v 39 (.ppt J) (.v 31 (.eq (akm i g)) (.v 27 (.ppt I) .nil))))))) F
  |nil=>
   have A:decide ((d.length:Int)<(b.length:Int))=false:=Yq1 (by rw [← r,Θ];rcases j with h|h<;>omega);have f:=ih (d++ [x]) (o++ [CQ x 0 c]) e [] (Ak x 0 c) (OA i (by omega) g) (by rw [← hd];simp) (by simp [C]) r (.inr ⟨rfl,by rw [θ];rcases j with h|h<;>omega⟩);rw [θ,σ] at f;simp only [Xqe,Xxh] at f;simp only [cy,Xx9,Xzi,Xws,Xvq,Xq9];refine .next ?_ f
   unfold OB;rw [show o++(CQ x 0 c::(κ l.length 0++t))=(o++ [CQ x 0 c])++(κ l.length 0++t) by simp,p,← n];have E:d.length<2^62:=by omega
   generalize d.length=k at*
   exact pN 118 [] 2 1 (.c M (.c u (.c L (.k 1 (aK A) (.k 1 u (.c B (.c (aN B) .nil))))))) (.v 50 (.eq (BR E)) (.v 48 (.eq (akn x c)) (.v 46 (.eq (ako x c)) (.v 31 (.eq (akm i g)) (.v 27 (.ppt I) .nil))))) F
def RJ (a b:List Nat) (na nb:Bool) (p:Nat × List Nat × Nat):St:=⟨[(0,.sl (ai a) a.length na),(1,.sl (ai b) b.length nb),(5,.ref 0 0 0 p.2.1.length),(6,.int .u64 (p.2.2:Int)),(13,ω (a.length:Int)),(14,ω (p.1:Int))],[(0,⟨(ai p.2.1),0,false,0,1,true⟩)],.dead,[]⟩
def VH (a b:List Nat) (na nb:Bool) (p:List Nat × Nat):St:=⟨[(0,.sl (ai a) a.length na),(1,.sl (ai b) b.length nb),(5,.ref 0 0 0 p.1.length),(6,.int .u64 (p.2:Int))],[(0,⟨(ai p.1),0,false,0,1,true⟩)],.dead,[]⟩
theorem Ze {nt:Nat} (F:45≤nt) (a b:List Nat) (K N:Bool) (G:bH a) (H:bH b) (R:a.length<2^40) (t:List Nat):∀ (l d o e m:List Nat) (c:Nat),c≤1→d++l=a→o.length=d.length→e++m=b→(e.length=d.length∨(m= []∧e.length≤d.length))→
  aA prog ap [] nt (af 0 (ah f216)) (fun _=> .exit 0) (RJ a b K N) (VH a b K N) (d.length,o++(κ l.length 0++t),c) (o++((cy Be wZ l m c).1++t),(cy Be wZ l m c).2):=by
 intro l
 induction l with
 |nil=>
  intro d o e m c P hd C r j;rw [Θ] at hd;subst hd;have Q:decide ((d.length:Int)<(d.length:Int))=false:=Yq1 (by omega);exact .done (pN 216 [] 1 0 (.c (aK Q) .nil) .nil F)
 | cons x l ih=>
  intro d o e m c P hd C r j;have i:x<4294967296:=G x (by rw [← hd];simp);have f:=P;have O:d.length+(l.length+1)=a.length:=by rw [← hd];simp
  have I:(ε ((δ (d.length:Int))*1) (ai a))= [Xxm .u32 (x:Int)]++ai l:=by rw [← hd];exact yQ
  generalize ai l=ra at I;obtain ⟨w,q⟩:∃ w,w=o++(κ (x::l).length 0++t):=⟨_,rfl⟩
  have n:∀ v:Nat,ν ((0+(δ (d.length:Int)))*1) (ai w)++ [Xxm .u32 (v:Int)]++ε (((0+(δ (d.length:Int)))*1)+1) (ai w)=ai ((o++ [v])++(κ l.length 0++t)):=by
   intro v;rw [q,← C,μ,Xxb,Xq9,yS,Xqe];rfl
  have D:w.length=o.length+(l.length+1)+t.length:=by rw [q];simp;omega
  have p:∀ v:Nat,((o++ [v])++(κ l.length 0++t)).length=w.length:=by intro v;rw [D];simp;omega
  have z:decide (((0:Nat):Int)≤(d.length:Int))=true:=Yq0 (by omega);have B:decide ((d.length:Int)<(a.length:Int))=true:=Yq0 (by omega);have L:decide ((d.length:Int)<(w.length:Int))=true:=Yq0 (by omega);have M:(Xqm (((0+(δ (d.length:Int)))*1)+1) (η (ai w)))=true:=by rw [Xzl,aC,au];omega
  rw [← q];cases m with
  |cons y m=>
   have u:e.length=d.length:=by rcases j with h|h;exact h;cases h.1
   have s:y<4294967296:=H y (by rw [← r];simp);have J:(ε ((δ (d.length:Int))*1) (ai b))= [Xxm .u32 (y:Int)]++ai m:=by rw [← r,← u];exact yQ
   generalize ai m=rb at J;have A:decide ((d.length:Int)<(b.length:Int))=true:=Yq0 (by rw [← r];simp;omega);have g:=ih (d++ [x]) (o++ [Be x y c]) (e++ [y]) m (wZ x y c) VG (by rw [← hd];simp) (by simp [C]) (by rw [← r];simp) (.inl (by simp [u]));rw [θ,σ] at g;simp only [Xqe,Xxh] at g;simp only [cy,Xx9,Xzi,Xws,Xvq,Xq9];refine .next ?_ g
   unfold RJ;rw [show o++(Be x y c::(κ l.length 0++t))=(o++ [Be x y c])++(κ l.length 0++t) by simp,p,← n];have E:d.length<2^62:=by omega
   generalize d.length=k at*
   exact pN 216 [] 2 3 (.c M (.c z (.c L (.k 2 z (.c A (.c (aN A) (.k 1 z (.c B (.c (aN B) .nil))))))))) (.v 42 (.eq (BR E)) (.v 40 (.eq (alL i s f)) (.v 38 (.eq (alM i s f)) (.v 34 (.eq (alK i s f)) (.v 31 (.ppt J) (.v 23 (.eq (ahN i f)) (.v 19 (.ppt I) .nil))))))) F
  |nil=>
   have A:decide ((d.length:Int)<(b.length:Int))=false:=Yq1 (by rw [← r,Θ];rcases j with h|h<;>omega);have g:=ih (d++ [x]) (o++ [Be x 0 c]) e [] (wZ x 0 c) VG (by rw [← hd];simp) (by simp [C]) r (.inr ⟨rfl,by rw [θ];rcases j with h|h<;>omega⟩);rw [θ,σ] at g;simp only [Xqe,Xxh] at g;simp only [cy,Xx9,Xzi,Xws,Xvq,Xq9];refine .next ?_ g
   unfold RJ;rw [show o++(Be x 0 c::(κ l.length 0++t))=(o++ [Be x 0 c])++(κ l.length 0++t) by simp,p,← n];have E:d.length<2^62:=by omega
   generalize d.length=k at*
   exact pN 216 [] 2 1 (.c M (.c z (.c L (.k 1 (aK A) (.k 1 z (.c B (.c (aN B) .nil))))))) (.v 42 (.eq (BR E)) (.v 40 (.eq (ahO i f)) (.v 38 (.eq (ahP i f)) (.v 23 (.eq (ahN i f)) (.v 19 (.ppt I) .nil))))) F
theorem afr (a b w:List Nat) (d e:Bool) (c z:Nat) (j:(Xqm (((0+(δ (a.length:Int)))*1)+1) (η (ai w)))=true) (n:(decide (((0:Nat):Int)≤(a.length:Int)))=true) (k:(decide ((a.length:Int)<(w.length:Int)))=true) (h:(decide (((0:Nat):Int)≤(γ .i64 ((a.length:Int)+((1:Nat):Int)))))=true) (l:(decide ((γ .i64 ((a.length:Int)+((1:Nat):Int)))=(γ .i64 ((a.length:Int)+((1:Nat):Int)))))=true) (i:(decide ((γ .i64 ((a.length:Int)+((1:Nat):Int)))≤((1099511627776:Nat):Int)))=true) (f:(decide ((a.length:Int)<(b.length:Int)))=false) (m:CO 162 [.sl (ν (w.length*1) (ν ((0+(δ (a.length:Int)))*1) (ai w)++ [.int .u32 (γ .u32 (c:Int))]++ε (((0+(δ (a.length:Int)))*1)+1) (ai w))) w.length true] (.ret (.sl (ai (digs z)) (digs z).length true))) (g:aG prog ap [] 59 (.block 0 (.loop (af 0 (ah f118)))) ⟨[(0,.sl (ai a) a.length d),(1,.sl (ai b) b.length e),(4,.nilS),(5,.ref 0 0 0 (δ (γ .i64 ((a.length:Int)+((1:Nat):Int))))),(6,.int .u64 0),(7,.dead),(8,.dead),(13,.bool (decide ((a.length:Int)<(b.length:Int)))),(21,ω (a.length:Int)),(22,ω 0),(23,.dead),(35,.dead)],[(0,⟨(gp (δ (γ .i64 ((a.length:Int)+((1:Nat):Int)))) [.int .u32 0]),0,false,0,1,true⟩)],.dead,[]⟩ (.normal) ⟨[(0,.sl (ai a) a.length d),(1,.sl (ai b) b.length e),(5,.ref 0 0 0 w.length),(6,.int .u64 (c:Int))],[(0,⟨(ai w),0,false,0,1,true⟩)],.dead,[]⟩):CO 118 [.sl (ai a) a.length d,.sl (ai b) b.length e] (.ret (.sl (ai (digs z)) (digs z).length true)):=pK [0] 1 0 (.c j (.c n (.c k (.c h (.c l (.c i (.c (aK f) .nil))))))) (.c m (.l g .nil))
theorem afs (a b w:List Nat) (d e:Bool) (c z:Nat) (j:(Xqm (((0+(δ (b.length:Int)))*1)+1) (η (ai w)))=true) (n:(decide (((0:Nat):Int)≤(b.length:Int)))=true) (k:(decide ((b.length:Int)<(w.length:Int)))=true) (h:(decide (((0:Nat):Int)≤(γ .i64 ((b.length:Int)+((1:Nat):Int)))))=true) (l:(decide ((γ .i64 ((b.length:Int)+((1:Nat):Int)))=(γ .i64 ((b.length:Int)+((1:Nat):Int)))))=true) (i:(decide ((γ .i64 ((b.length:Int)+((1:Nat):Int)))≤((1099511627776:Nat):Int)))=true) (f:(decide ((a.length:Int)<(b.length:Int)))=true) (m:CO 162 [.sl (ν (w.length*1) (ν ((0+(δ (b.length:Int)))*1) (ai w)++ [.int .u32 (γ .u32 (c:Int))]++ε (((0+(δ (b.length:Int)))*1)+1) (ai w))) w.length true] (.ret (.sl (ai (digs z)) (digs z).length true))) (g:aG prog ap [] 59 (.block 0 (.loop (af 0 (ah f118)))) ⟨[(0,.sl (ai b) b.length e),(1,.sl (ai a) a.length d),(4,.nilS),(5,.ref 0 0 0 (δ (γ .i64 ((b.length:Int)+((1:Nat):Int))))),(6,.int .u64 0),(7,.dead),(8,.dead),(13,.bool (decide ((a.length:Int)<(b.length:Int)))),(21,ω (b.length:Int)),(22,ω 0),(23,.dead),(35,.dead)],[(0,⟨(gp (δ (γ .i64 ((b.length:Int)+((1:Nat):Int)))) [.int .u32 0]),0,false,0,1,true⟩)],.dead,[]⟩ (.normal) ⟨[(0,.sl (ai b) b.length e),(1,.sl (ai a) a.length d),(5,.ref 0 0 0 w.length),(6,.int .u64 (c:Int))],[(0,⟨(ai w),0,false,0,1,true⟩)],.dead,[]⟩):CO 118 [.sl (ai a) a.length d,.sl (ai b) b.length e] (.ret (.sl (ai (digs z)) (digs z).length true)):=pK [0] 1 1 (.c j (.c n (.c k (.c h (.c l (.c i (.c (aN f) .nil))))))) (.c m (.l g .nil))
theorem Y_ (a b w:List Nat) (d e:Bool) (c z:Nat) (g:(decide (((0:Nat):Int)≤(a.length:Int)))=true) (j:(decide ((a.length:Int)=(a.length:Int)))=true) (h:(decide ((a.length:Int)≤((1099511627776:Nat):Int)))=true) (i:CO 162 [.sl (ν (w.length*1) (ai w)) w.length true] (.ret (.sl (ai (digs z)) (digs z).length true))) (f:aG prog ap [] 45 (.block 0 (.loop (af 0 (ah f216)))) ⟨[(0,.sl (ai a) a.length d),(1,.sl (ai b) b.length e),(4,.nilS),(5,.ref 0 0 0 (δ (a.length:Int))),(6,.int .u64 0),(7,.dead),(8,.dead),(13,ω (a.length:Int)),(14,ω 0),(15,.dead),(27,.dead)],[(0,⟨(gp (δ (a.length:Int)) [.int .u32 0]),0,false,0,1,true⟩)],.dead,[]⟩ (.normal) ⟨[(0,.sl (ai a) a.length d),(1,.sl (ai b) b.length e),(5,.ref 0 0 0 w.length),(6,.int .u64 (c:Int))],[(0,⟨(ai w),0,false,0,1,true⟩)],.dead,[]⟩):CO 216 [.sl (ai a) a.length d,.sl (ai b) b.length e] (.ret (.sl (ai (digs z)) (digs z).length true)):=pK [0] 0 0 (.c g (.c j (.c h .nil))) (.c i (.l f .nil))
theorem aco (s t:List UInt8) (z:Nat) (b:CO 119 [.str s] (.ret (.sl (ai (digs (ag s))) (digs (ag s)).length true))) (d:CO 119 [.str t] (.ret (.sl (ai (digs (ag t))) (digs (ag t)).length true))) (c:CO 118 [.sl (ai (digs (ag s))) (digs (ag s)).length true,.sl (ai (digs (ag t))) (digs (ag t)).length true] (.ret (.sl (ai (digs z)) (digs z).length true))) (a:CO 117 [.sl (ai (digs z)) (digs z).length true] (.ret (.str (ae z)))):CO 71 [.str s,.str t] (.ret (.str (ae z))):=pK [] 0 0 .nil (.c a (.c c (.c d (.c b .nil))))
theorem afp (s t:List UInt8) (z:Nat) (a:(decide ((lU (ag s) (ag t))<((0:Nat):Int)))=true) (b:CO 119 [.str s] (.ret (.sl (ai (digs (ag s))) (digs (ag s)).length true))) (d:CO 119 [.str t] (.ret (.sl (ai (digs (ag t))) (digs (ag t)).length true))) (c:CO 210 [.sl (ai (digs (ag s))) (digs (ag s)).length true,.sl (ai (digs (ag t))) (digs (ag t)).length true] (.ret (ω (lU (ag s) (ag t))))):CO 199 [.str s,.str t] (.ret (.tup [.str [],.bool false])):=pK [] 1 1 (.c (aN a) .nil) (.c c (.c d (.c b .nil)))
theorem afq (s t:List UInt8) (z:Nat) (b:(decide ((lU (ag s) (ag t))<((0:Nat):Int)))=false) (c:CO 119 [.str s] (.ret (.sl (ai (digs (ag s))) (digs (ag s)).length true))) (f:CO 119 [.str t] (.ret (.sl (ai (digs (ag t))) (digs (ag t)).length true))) (d:CO 210 [.sl (ai (digs (ag s))) (digs (ag s)).length true,.sl (ai (digs (ag t))) (digs (ag t)).length true] (.ret (ω (lU (ag s) (ag t))))) (a:CO 216 [.sl (ai (digs (ag s))) (digs (ag s)).length true,.sl (ai (digs (ag t))) (digs (ag t)).length true] (.ret (.sl (ai (digs z)) (digs z).length true))) (e:CO 117 [.sl (ai (digs z)) (digs z).length true] (.ret (.str (ae z)))):CO 199 [.str s,.str t] (.ret (.tup [.str (ae z),.bool true])):=pK [] 1 0 (.c (aK b) .nil) (.c e (.c a (.c d (.c f (.c c .nil)))))
theorem ad6 (s t:List UInt8) (z:Nat) (b:CO 119 [.str s] (.ret (.sl (ai (digs (ag s))) (digs (ag s)).length true))) (d:CO 119 [.str t] (.ret (.sl (ai (digs (ag t))) (digs (ag t)).length true))) (c:CO 201 [.sl (ai (digs (ag s))) (digs (ag s)).length true,.sl (ai (digs (ag t))) (digs (ag t)).length true] (.ret (.sl (ai (digs z)) (digs z).length true))) (a:CO 117 [.sl (ai (digs z)) (digs z).length true] (.ret (.str (ae z)))):CO 171 [.str s,.str t] (.ret (.str (ae z))):=pK [] 0 0 .nil (.c a (.c c (.c d (.c b .nil))))
theorem abE:∀ (l m:List Nat) (c:Nat),bH l→bH m→c≤1→(cy CQ Ak l m c).2≤1
 | [],_,_,_,_,h=>h
 |x::l,m,c,hl,hm,h=>by
  simp only [cy];exact abE l m.tail _ hl.tail hm.tl (OA hl.head hm.hd h)
theorem LU {a b:List Nat} (i j:Bool) (e:bH a) (f:bH b) (k:b.length≤a.length) (o:a.length<2^39):∃ (p:List Nat) (c:Nat),c≤1∧p.length=a.length∧bH (p++ [c])∧aF (p++ [c])=aF a+aF b∧∀ nt,59≤nt→
  aA prog ap [] nt (af 0 (ah f118)) (fun _=> .exit 0) (OB a b i j) (LP a b i j) (0,κ (a.length+1) 0,0) (p++ [0],c):=by
 have n:=abE a b 0 e f (by omega);have l:=Xe a b 0 k;have d:=Nc CQ Ak a b 0;have g:=Nh (fd:=CQ) (fc:=Ak) (fun x y c=>Xqu _ (by omega)) a b 0;refine ⟨(cy CQ Ak a b 0).1,(cy CQ Ak a b 0).2,n,d,g.app (bH.cons (by omega) bH.nil), ?_,fun nt m=> ?_⟩
 ·rw [mJ,d];simp only [aF,Xx8,Xq0] at l ⊢;exact l
 ·have h:=aa2 m a b i j e f (by omega) [0] a [] [] [] b 0 (by omega) rfl rfl rfl (.inl rfl);rw [Xqk,Xqk,← Xj1] at h;exact h
theorem QC {p:List Nat} {c n:Nat} (a:c≤1) (hp:p.length=n):ν ((0+(δ (n:Int)))*1) (ai (p++ [0]))++ [Xxm .u32 (γ .u32 (c:Int))]++ε (((0+(δ (n:Int)))*1)+1) (ai (p++ [0]))=ai (p++ [c]):=by
 subst hp;rw [qZ,υ (by omega)];exact yS (p:=p) (s:= []) (x:=0) (y:=c)
theorem aft (a b:List Nat) (d e:Bool) (i:bH a) (j:bH b) (v:a.length<2^38) (u:b.length<2^38):CO 118 [.sl (ai a) a.length d,.sl (ai b) b.length e] (.ret (.sl (ai (digs (aF a+aF b))) (digs (aF a+aF b)).length true)):=by
 have t:∀ n:Nat,n<2^38→γ .i64 ((n:Int)+((1:Nat):Int))=((n+1:Nat):Int):=fun n l=>by rw [bJ,aS (by omega)]
 have hs:∀ (a b:List Nat) (d e:Bool) (p:List Nat) (c:Nat),(∀ nt,59≤nt→aA prog ap [] nt (af 0 (ah f118)) (fun _=> .exit 0) (OB a b d e) (LP a b d e) (0,κ (a.length+1) 0,0) (p++ [0],c))→
   aG prog ap [] 59 (.block 0 (.loop (af 0 (ah f118)))) ⟨[(0,.sl (ai a) a.length d),(1,.sl (ai b) b.length e),(5,.ref 0 0 0 (a.length+1)),(6,.int .u64 ((0:Nat):Int)),(21,ω (a.length:Int)),(22,ω ((0:Nat):Int))],[(0,⟨ai (κ (a.length+1) 0),0,false,0,1,true⟩)],.dead,[]⟩ .normal (LP a b d e (p++ [0],c)):=by
  intro a b d e p c k;have h:=aA.blk (s:=OB a b d e (0,κ (a.length+1) 0,0)) (s':=LP a b d e (p++ [0],c)) (id:=0) k (by simp) rfl (aH.refl _) (aH.refl _);unfold OB at h;simp only [Xxs] at h;exact h
 rcases Xq5 a.length b.length with hlt|hge
 ·obtain ⟨p,c,r,hp,g,m,k⟩:=LU e d j i (Xww hlt) (by omega);have f:=afs a b (p++ [0]) d e c (aF a+aF b);have o:=hs b a e d p c k;rw [t b.length u,aC (b.length+1),pR,QC r hp] at f;have q:(p++ [0]).length=b.length+1:=by rw [θ,hp];rfl
  exact f (by rw [Xzl,aC];unfold ai;rw [Xx0];omega) (Yq0 (by omega)) (Yq0 (by omega)) (Yq0 (by omega)) (Yq0 rfl) (Yq0 (by omega)) (Yq0 (by omega))
   (BF (p++ [c]) _ _ (by simp) (by rw [jJ g,m,Xxp]) (by omega)) fun nt l=>(o nt l).weak (aH.of ⟨rfl,rfl,rfl,rfl,rfl,rfl,trivial⟩) (aH.refl _)
 ·obtain ⟨p,c,r,hp,g,m,k⟩:=LU d e i j hge (by omega);have f:=afr a b (p++ [0]) d e c (aF a+aF b);have o:=hs a b d e p c k;rw [t a.length v,aC (a.length+1),pR,QC r hp] at f;have q:(p++ [0]).length=a.length+1:=by rw [θ,hp];rfl
  exact f (by rw [Xzl,aC];unfold ai;rw [Xx0];omega) (Yq0 (by omega)) (Yq0 (by omega)) (Yq0 (by omega)) (Yq0 rfl) (Yq0 (by omega)) (Yq1 (by omega))
   (BF (p++ [c]) _ _ (by simp) (by rw [jJ g,m]) (by omega)) fun nt l=>(o nt l).weak (aH.of ⟨rfl,rfl,rfl,rfl,rfl,rfl,trivial⟩) (aH.refl _)
theorem RI {a b:List Nat} (i k:Bool) (f:bH a) (g:bH b) (l:b.length≤a.length) (n:aF b≤aF a) (r:a.length<2^39):∃ (p:List Nat) (c:Nat),p.length=a.length∧bH p∧aF p=aF a - aF b∧∀ nt,45≤nt→
  aA prog ap [] nt (af 0 (ah f216)) (fun _=> .exit 0) (RJ a b i k) (VH a b i k) (0,κ a.length 0,0) (p,c):=by
 have m:=VI a b 0 f g (by omega) l;have d:=Nc Be wZ a b 0;have e:=Nh (fd:=Be) (fc:=wZ) (fun x y c=>Xqu _ (by omega)) a b 0;have j:=pV e;rw [d] at j;refine ⟨(cy Be wZ a b 0).1,(cy Be wZ a b 0).2,d,e, ?_,fun nt q=> ?_⟩
 ·have o:(cy Be wZ a b 0).2=0:=by
   rcases Γ (cy Be wZ a b 0).2 with h|h
   ·exact h
   ·have:=Xqx (4294967296^a.length) h;omega
  rw [o] at m;omega
 ·have h:=Ze q a b i k f g (by omega) [] a [] [] [] b 0 (by omega) rfl rfl rfl (.inl rfl);rw [Xqk,Xqk,Θ,Θ] at h;exact h
theorem Za (a b:List Nat) (d e:Bool) (i:bH a) (k:bH b) (l:b.length≤a.length) (j:aF b≤aF a) (r:a.length<2^38):CO 216 [.sl (ai a) a.length d,.sl (ai b) b.length e] (.ret (.sl (ai (digs (aF a - aF b))) (digs (aF a - aF b)).length true)):=by
 obtain ⟨p,c,hp,g,m,q⟩:=RI d e i k l j (by omega);have f:=Y_ a b p d e c (aF a - aF b);have h:=aA.blk (s:=RJ a b d e (0,κ a.length 0,0)) (s':=VH a b d e (p,c)) (id:=0) q (by simp) rfl (aH.refl _) (aH.refl _);unfold RJ at h;simp only [Xxs] at h;rw [aC,pR] at f;have o:ν (p.length*1) (ai p)=ai p:=by rw [χ,oH,Xq1]
 exact f (Yq0 (by omega)) (Yq0 rfl) (Yq0 (by omega)) (BF p _ _ rfl (by rw [jJ g,m]) (by omega)) fun nt n=>(h nt n).weak (aH.of ⟨rfl,rfl,rfl,rfl,rfl,rfl,trivial⟩) (aH.refl _)
theorem qE {s:List UInt8} {n:Nat} (hs:s.length≤4*n):(digs (ag s)).length≤n:=by
 have h:=vT s;refine jF (Ψ h ?_);rw [show (256:Nat)=2^8 from rfl,← Xx2];exact Xqa (by omega) (by omega)
theorem O7 {x y:Nat} (h:y≤x):(digs y).length≤(digs x).length:=by
 refine jF (φ h ?_);rw [Xx2];exact ni x
theorem Q8 {x y m n:Nat} (b:(digs x).length≤m) (c:(digs y).length≤n):(digs (x*y)).length≤m+n:=by
 refine jF ?_;have a:=Ψ (ni x) (Xqa (by omega) b);have d:=Ψ (ni y) (Xqa (by omega) c);rw [Xq8,Xxi,Xx2,Xx2];exact Nat.mul_lt_mul'' a d
theorem Q7 {x y n:Nat} (b:(digs x).length≤n) (a:(digs y).length≤n):(digs (x+y)).length≤n+1:=by
 refine jF ?_;have c:=Ψ (ni x) (Xqa (by omega) b);have d:=Ψ (ni y) (Xqa (by omega) a);rw [Xx2,Xqz];have:(2:Nat)^32=4294967296:=by decide
 rw [this];generalize 4294967296^n=P at*
 omega
theorem Zl (s t:List UInt8) (hs:s.length<2^36) (d:t.length<2^36):CO 71 [.str s,.str t] (.ret (.str (ae (ag s+ag t)))):=by
 have a:=qE (s:=s) (n:=2^34) (by omega);have b:=qE (s:=t) (n:=2^34) (by omega);have c:=Q7 a b;have h:=aft (digs (ag s)) (digs (ag t)) true true (bH.digs _) (bH.digs _) (by omega) (by omega);rw [fA,fA] at h;exact aco s t _ (uC s (by omega)) (uC t (by omega)) h (qV _ _ true (vP _) (by omega) (by omega))
theorem O4 (s t:List UInt8) (hs:s.length<2^36):CO 210 [.sl (ai (digs (ag s))) (digs (ag s)).length true,.sl (ai (digs (ag t))) (digs (ag t)).length true] (.ret (ω (lU (ag s) (ag t)))):=by
 have h:=wP (digs (ag s)) (digs (ag t)) true true (DF (by omega));rw [zl] at h;exact h
theorem Qw (x y:Nat):decide (lU x y<((0:Nat):Int))=decide (x<y):=by
 unfold lU;by_cases h:x<y
 ·rw [if_pos h,Yq0 h];rfl
 ·rw [if_neg h,Yq1 h];split<;>rfl
theorem Zy (s t:List UInt8) (hs:s.length<2^36) (a:t.length<2^36) (h:ag s<ag t):CO 199 [.str s,.str t] (.ret (.tup [.str [],.bool false])):=
 afp s t 0 (by rw [Qw];exact Yq0 h) (uC s (by omega)) (uC t (by omega)) (O4 s t hs)
theorem Zz (s t:List UInt8) (hs:s.length<2^36) (c:t.length<2^36) (h:ag t≤ag s):CO 199 [.str s,.str t] (.ret (.tup [.str (ae (ag s - ag t)),.bool true])):=by
 have a:=qE (s:=s) (n:=2^34) (by omega);have b:=O7 (Nat.sub_le (ag s) (ag t));have f:=Za (digs (ag s)) (digs (ag t)) true true (bH.digs _) (bH.digs _) (O7 h) (by rw [fA,fA];exact h) (by omega);rw [fA,fA] at f;exact afq s t _ (by rw [Qw];exact Yq1 (by omega)) (uC s (by omega)) (uC t (by omega)) (O4 s t hs) f (qV _ _ true (vP _) (by omega) (by omega))
def aj (l:List Nat):List AV:=l.map fun (d:Nat)=>ω (d:Int)
theorem bW (l:List Nat):(aj l).length=l.length:=by simp [aj]
theorem Kv (a b:List Nat):aj (a++b)=aj a++aj b:=by simp [aj]
theorem f_ {l:List Nat} {k:Nat} (h:k<l.length):ζ (ε k (aj l)) .dead= ω ((l.getD k 0:Nat):Int):=by
 unfold aj;rw [← Xzn,Xjh h,Xqi,Xx9,π,ξ h];rfl
theorem dF (l:List Nat) (k:Nat):ν k (aj l)=aj (l.take k):=by unfold aj;rw [Xwc]
theorem J3 (l:List Nat) (k:Nat):ε k (aj l)=aj (l.drop k):=by unfold aj;rw [Xzn]
theorem eF (x:Int):chk (.int .i64) (ω x)=true:=rfl
theorem Pz {l:List Nat} {j:Nat} (h:j<l.length) (y:Nat):ν j (aj l)++ [ω (y:Int)]++ε (j+1) (aj l)=aj (l.set j y):=by
 rw [dF,J3,Xx5,if_pos h];simp [aj]
theorem Jh (m:Nat):gp m [ω 0]=aj (κ m 0):=by
 unfold gp aj
 induction m with
 |zero=>rfl
 |succ m ih=>rw [Xxb,List.flatten_cons,ih,Xxb];rfl
theorem kK (l:List Nat) (x:Nat):aj l++ [ω (x:Int)]=aj (l++ [x]):=by rw [Kv];rfl
theorem Kw (l:List Nat) (x:Nat):[ω (x:Int)]++aj l=aj (x::l):=rfl
theorem OJ (x:Nat) (l:List Nat):eG (x::l)=if eG l= []∧x=0 then [] else x::eG l:=by
 unfold eG;rw [Xz1,List.dropWhile_append];by_cases h:(Yql (· ==0) l.reverse)= []
 ·simp only [h,List.isEmpty_nil,if_true,Xwx];by_cases hx:x=0
  ·subst hx;simp
  ·simp [hx]
 ·have:(Yql (· ==0) l.reverse).isEmpty=false:=by simpa using h
  simp only [this,Xjn,if_false];rw [if_neg (by simp only [List.reverse_eq_nil_iff];exact fun ⟨h1,_⟩=>h h1)];simp
def bY:List Nat→Nat
 | []=>0
 |d::l=>d+16777216*bY l
def aZ (l:List Nat):Prop:=∀ d ∈ l,d<16777216
theorem aZ.nil:aZ []:=fun _ h=>(by cases h)
theorem aZ.cons {d:Nat} {l:List Nat} (h:d<16777216) (b:aZ l):aZ (d::l):=by
 intro x a;rcases List.mem_cons.1 a with rfl|a
 ·exact h
 ·exact b x a
theorem aZ.head {d:Nat} {l:List Nat} (h:aZ (d::l)):d<16777216:=h d (Xjo ..)
theorem aZ.tail {d:Nat} {l:List Nat} (h:aZ (d::l)):aZ l:=fun x a=>h x (Xx1 _ a)
theorem aZ.app {a b:List Nat} (h:aZ a) (d:aZ b):aZ (a++b):=fun x c=>(List.mem_append.1 c).elim (h x) (d x)
theorem aZ.take {a:List Nat} (h:aZ a) (n:Nat):aZ (a.take n):=fun x b=>h x (Xxg b)
theorem aZ.getD {a:List Nat} (h:aZ a) (n:Nat):a.getD n 0<16777216:=by
 rw [π];rcases Xq5 n a.length with hn|hn
 ·rw [ξ hn];exact h _ (List.getElem_mem hn)
 ·rw [Xq4 hn];show 0<16777216;omega
theorem aZ.zeros (n:Nat):aZ (κ n 0):=fun x a=>by rw [(List.mem_replicate.1 a).2];omega
theorem yT (a b:List Nat):bY (a++b)=bY a+16777216^a.length*bY b:=by
 induction a with
 |nil=>simp [bY]
 |cons x a ih=>
  simp only [Xq9,bY,ih,μ,Xqz,Xq8];rw [Φ (16777216^a.length) 16777216,Xqn];omega
theorem Wl (k:Nat):0<16777216^k:=Yqc (by omega)
theorem yU {l:List Nat} (h:aZ l):bY l<16777216^l.length:=by
 induction l with
 |nil=>simp [bY]
 |cons d l ih=>
  have a:=ih h.tail;have b:=h.head;simp only [bY,μ,Xqz];omega
theorem OM (n:Nat):bY (κ n 0)=0:=by
 induction n with
 |zero=>rfl
 |succ n ih=>rw [Xxb];simp only [bY,ih]
def ax (n:Nat):List Nat:=if n=0 then [] else n % 16777216::ax (n / 16777216)
termination_by n
decreasing_by omega
theorem fH:ax 0= []:=by rw [ax,if_pos rfl]
theorem nT {n:Nat} (h:0<n):ax n=n % 16777216::ax (n / 16777216):=by rw [ax,if_neg (by omega)]
theorem eP (n:Nat):bY (ax n)=n:=by
 induction n using Xv8 with
 | _ n ih=>
  rcases Γ n with rfl|h
  ·rw [fH];rfl
  ·rw [nT h];simp only [bY];rw [ih (n / 16777216) (by omega)];omega
theorem aZ.dig (n:Nat):aZ (ax n):=by
 induction n using Xv8 with
 | _ n ih=>
  rcases Γ n with rfl|h
  ·rw [fH];exact aZ.nil
  ·rw [nT h];exact aZ.cons (Xqu _ (by omega)) (ih (n / 16777216) (by omega))
theorem JY {n:Nat}:ax n= []↔n=0:=by
 constructor
 ·intro h;have:=eP n;rw [h] at this;exact this.symm
 ·intro h;subst h;exact fH
theorem QF {l:List Nat} (h:aZ l):eG l=ax (bY l):=by
 induction l with
 |nil=>rw [show bY []=0 from rfl,fH];rfl
 | cons d l ih=>
  have hd:=h.head;rw [OJ,ih h.tail];simp only [bY];by_cases hz:bY l=0∧d=0
  ·rw [if_pos ⟨JY.2 hz.1,hz.2⟩,hz.1,hz.2,fH]
  ·rw [if_neg (fun h=>hz ⟨JY.1 h.1,h.2⟩),nT (n:=d+16777216*bY l) (by omega)];rw [show (d+16777216*bY l) % 16777216=d by omega,show (d+16777216*bY l) / 16777216=bY l by omega]
theorem uV (n:Nat):n<16777216^(ax n).length:=by
 have:=yU (aZ.dig n);rwa [eP] at this
theorem Yl {n k:Nat} (h:(ax n).length=k+1):16777216^k≤n:=by
 induction k generalizing n with
 |zero=>
  rcases Γ n with rfl|h0
  ·rw [fH] at h;simp at h
  ·rw [Xve];exact h0
 | succ k ih=>
  rcases Γ n with rfl|h0
  ·rw [fH] at h;simp at h
  ·rw [nT h0,μ] at h;have:=ih (n:=n / 16777216) (by omega);rw [Xqz];omega
theorem rG {n k:Nat} (h:n<16777216^k):(ax n).length≤k:=by
 rcases Xq5 k (ax n).length with h1|h1
 ·obtain ⟨j,a⟩:∃ j,(ax n).length=j+1:=⟨(ax n).length - 1,by omega⟩
  have c:=Yl a;have b:=Xqa (show 0<16777216 by omega) (show k≤j by omega);omega
 ·exact h1
theorem qC {x y:Nat} (h:x≤y):(ax x).length≤(ax y).length:=rG (φ h (uV y))
theorem agd {nt:Nat} (b:19≤nt) (s:List UInt8) (k:Nat) (d:lit true (((Ξ (Xql s (δ (k:Int)) 0):Nat):Int)==((0:Nat):Int))=true) (a:(decide (((0:Nat):Int)≤(k:Int)))=true) (e:(decide ((k:Int)<(((η s):Nat):Int)))=true) (c:lit true (decide ((k:Int)<(((η s):Nat):Int)))=true):ψ nt f133 ⟨[(0,.str s),(3,ω (k:Int))],[],.dead,[]⟩ (.normal) ⟨[(0,.str s),(3,ω (γ .i64 ((k:Int)+((1:Nat):Int))))],[],.dead,[]⟩:=pJ 133 [] 2 3 (.c d (.c a (.c e (.c c .nil)))) (.nil) b
theorem age {nt:Nat} (b:19≤nt) (s:List UInt8) (k:Nat) (d:lit false (((Ξ (Xql s (δ (k:Int)) 0):Nat):Int)==((0:Nat):Int))=true) (a:(decide (((0:Nat):Int)≤(k:Int)))=true) (e:(decide ((k:Int)<(((η s):Nat):Int)))=true) (c:lit true (decide ((k:Int)<(((η s):Nat):Int)))=true):ψ nt f133 ⟨[(0,.str s),(3,ω (k:Int))],[],.dead,[]⟩ (.exit 0) ⟨[(0,.str s),(3,ω (k:Int))],[],.dead,[]⟩:=pJ 133 [] 2 1 (.c d (.c a (.c e (.c c .nil)))) (.nil) b
theorem agf {nt:Nat} (a:19≤nt) (s:List UInt8) (k:Nat) (b:lit false (decide ((k:Int)<(((η s):Nat):Int)))=true):ψ nt f133 ⟨[(0,.str s),(3,ω (k:Int))],[],.dead,[]⟩ (.exit 0) ⟨[(0,.str s),(3,ω (k:Int))],[],.dead,[]⟩:=pJ 133 [] 2 0 (.k 1 b .nil) (.nil) a
theorem acQ (s:List UInt8) (k:Nat) (c:(decide (((0:Nat):Int)≤(k:Int)))=true) (b:(decide ((k:Int)≤(((η s):Nat):Int)))=true) (d:(decide ((((η s):Nat):Int)≤(((η s):Nat):Int)))=true) (a:aG prog ap [] 19 (.block 0 (.loop (af 0 (ah f133)))) ⟨[(0,.str s),(2,.str []),(3,ω 0),(13,.dead)],[],.dead,[]⟩ (.normal) ⟨[(0,.str s),(3,ω (k:Int))],[],.dead,[]⟩):CO 133 [.str s] (.ret (.str (ε (δ (k:Int)) (ν (δ (((η s):Nat):Int)) s)))):=pK [0] 0 0 (.c c (.c b (.c d .nil))) (.l a .nil)
theorem aka {nt:Nat} (d:21≤nt) (l:List Nat) (b:Bool) (a:(decide (((0:Nat):Int)≤(γ .i64 ((l.length:Int) - ((1:Nat):Int)))))=true) (c:(decide ((γ .i64 ((l.length:Int) - ((1:Nat):Int)))≤(l.length:Int)))=true) (h:lit true ((τ (ζ (ε ((δ (γ .i64 ((l.length:Int) - ((1:Nat):Int))))*1) (aj l)) .dead))==((0:Nat):Int))=true) (e:(chk (.int .i64) (ζ (ε ((δ (γ .i64 ((l.length:Int) - ((1:Nat):Int))))*1) (aj l)) .dead))=true) (g:(decide ((γ .i64 ((l.length:Int) - ((1:Nat):Int)))<(l.length:Int)))=true) (f:lit true (decide (((0:Nat):Int)<(l.length:Int)))=true):ψ nt f185 ⟨[(0,.sl (aj l) l.length b)],[],.dead,[]⟩ (.normal) ⟨[(0,.sl (ν ((δ (γ .i64 ((l.length:Int) - ((1:Nat):Int))))*1) (aj l)) ((δ (γ .i64 ((l.length:Int) - ((1:Nat):Int)))) - 0) b)],[],.dead,[]⟩:=pJ 185 [] 2 3 (.k 1 a (.c c (.c h (.c e (.c a (.c g (.c f .nil))))))) (.nil) d
theorem akb {nt:Nat} (c:21≤nt) (l:List Nat) (a:Bool) (e:lit false ((τ (ζ (ε ((δ (γ .i64 ((l.length:Int) - ((1:Nat):Int))))*1) (aj l)) .dead))==((0:Nat):Int))=true) (b:(chk (.int .i64) (ζ (ε ((δ (γ .i64 ((l.length:Int) - ((1:Nat):Int))))*1) (aj l)) .dead))=true) (g:(decide (((0:Nat):Int)≤(γ .i64 ((l.length:Int) - ((1:Nat):Int)))))=true) (d:(decide ((γ .i64 ((l.length:Int) - ((1:Nat):Int)))<(l.length:Int)))=true) (f:lit true (decide (((0:Nat):Int)<(l.length:Int)))=true):ψ nt f185 ⟨[(0,.sl (aj l) l.length a)],[],.dead,[]⟩ (.exit 0) ⟨[(0,.sl (aj l) l.length a)],[],.dead,[]⟩:=pJ 185 [] 2 1 (.c e (.c b (.c g (.c d (.c f .nil))))) (.nil) c
theorem akc {nt:Nat} (b:21≤nt) (l:List Nat) (a:Bool) (c:lit false (decide (((0:Nat):Int)<(l.length:Int)))=true):ψ nt f185 ⟨[(0,.sl (aj l) l.length a)],[],.dead,[]⟩ (.exit 0) ⟨[(0,.sl (aj l) l.length a)],[],.dead,[]⟩:=pJ 185 [] 2 0 (.k 1 c .nil) (.nil) b
theorem afe (l r:List Nat) (a:Bool) (b:aG prog ap [] 21 (.block 0 (.loop (af 0 (ah f185)))) ⟨[(0,.sl (aj l) l.length a),(2,.nilS),(14,.dead)],[],.dead,[]⟩ (.normal) ⟨[(0,.sl (aj r) r.length a)],[],.dead,[]⟩):CO 185 [.sl (aj l) l.length a] (.ret (.sl (aj r) r.length a)):=pK [0] 0 0 .nil (.l b .nil)
theorem ajy {nt:Nat} (j:41≤nt) (a b:List Nat) (h i:Bool) (k:Nat) (e:(chk (.int .i64) (ζ (ε ((δ (k:Int))*1) (aj b)) .dead))=true) (c:(decide (((0:Nat):Int)≤(k:Int)))=true) (g:(decide ((k:Int)<(b.length:Int)))=true) (d:(chk (.int .i64) (ζ (ε ((δ (k:Int))*1) (aj a)) .dead))=true) (f:(decide ((k:Int)<(a.length:Int)))=true) (l:lit true (!((τ (ζ (ε ((δ (k:Int))*1) (aj a)) .dead))==(τ (ζ (ε ((δ (k:Int))*1) (aj b)) .dead))))=true) (m:lit true (decide (((0:Nat):Int)≤(k:Int)))=true):ψ nt f186 ⟨[(0,.sl (aj a) a.length h),(1,.sl (aj b) b.length i),(5,ω (k:Int))],[],.dead,[]⟩ (.ret) ⟨[(4,ω (γ .i64 ((τ (ζ (ε ((δ (k:Int))*1) (aj a)) .dead)) - (τ (ζ (ε ((δ (k:Int))*1) (aj b)) .dead)))))],[],.dead,[]⟩:=pJ 186 [] 2 3 (.c e (.c c (.c g (.c d (.c c (.c f (.c l (.c e (.c c (.c g (.c d (.c c (.c f (.c m .nil)))))))))))))) (.nil) j
theorem ajz {nt:Nat} (g:41≤nt) (a b:List Nat) (c d:Bool) (k:Nat) (j:lit false (!((τ (ζ (ε ((δ (k:Int))*1) (aj a)) .dead))==(τ (ζ (ε ((δ (k:Int))*1) (aj b)) .dead))))=true) (f:(chk (.int .i64) (ζ (ε ((δ (k:Int))*1) (aj b)) .dead))=true) (e:(decide (((0:Nat):Int)≤(k:Int)))=true) (h:(decide ((k:Int)<(b.length:Int)))=true) (l:(chk (.int .i64) (ζ (ε ((δ (k:Int))*1) (aj a)) .dead))=true) (i:(decide ((k:Int)<(a.length:Int)))=true) (m:lit true (decide (((0:Nat):Int)≤(k:Int)))=true):ψ nt f186 ⟨[(0,.sl (aj a) a.length c),(1,.sl (aj b) b.length d),(5,ω (k:Int))],[],.dead,[]⟩ (.normal) ⟨[(0,.sl (aj a) a.length c),(1,.sl (aj b) b.length d),(5,ω (γ .i64 ((k:Int) - ((1:Nat):Int))))],[],.dead,[]⟩:=pJ 186 [] 2 1 (.c j (.c f (.c e (.c h (.c l (.c e (.c i (.c m .nil)))))))) (.nil) g
theorem aeu {nt:Nat} (e:41≤nt) (a b:List Nat) (c d:Bool):ψ nt f186 ⟨[(0,.sl (aj a) a.length c),(1,.sl (aj b) b.length d),(5,ω (-1))],[],.dead,[]⟩ (.exit 0) ⟨[],[],.dead,[]⟩:=pJ 186 [] 1 0 (.n 1 .nil) (.nil) e
theorem aev (a b:List Nat) (c d:Bool) (e:lit true (!((a.length:Int)==(b.length:Int)))=true):CO 186 [.sl (aj a) a.length c,.sl (aj b) b.length d] (.ret (ω (γ .i64 ((a.length:Int) - (b.length:Int))))):=pK [0] 1 1 (.c e .nil) (.nil)
theorem aew (a b:List Nat) (c d:Bool) (f:lit false (!((a.length:Int)==(b.length:Int)))=true) (e:aG prog ap [] 41 (.block 0 (.loop (af 0 (ah f186)))) ⟨[(0,.sl (aj a) a.length c),(1,.sl (aj b) b.length d),(4,ω 0),(5,ω (γ .i64 ((a.length:Int) - ((1:Nat):Int)))),(10,.bool (!((a.length:Int)==(b.length:Int)))),(20,.dead),(31,.dead)],[],.dead,[]⟩ (.normal) ⟨[],[],.dead,[]⟩):CO 186 [.sl (aj a) a.length c,.sl (aj b) b.length d] (.ret (ω 0)):=pK [0] 1 0 (.c f .nil) (.l e .nil)
theorem aex (a b:List Nat) (d e:Bool) (c:Int) (g:lit false (!((a.length:Int)==(b.length:Int)))=true) (f:aG prog ap [] 41 (.block 0 (.loop (af 0 (ah f186)))) ⟨[(0,.sl (aj a) a.length d),(1,.sl (aj b) b.length e),(4,ω 0),(5,ω (γ .i64 ((a.length:Int) - ((1:Nat):Int)))),(10,.bool (!((a.length:Int)==(b.length:Int)))),(20,.dead),(31,.dead)],[],.dead,[]⟩ (.ret) ⟨[(4,ω c)],[],.dead,[]⟩):CO 186 [.sl (aj a) a.length d,.sl (aj b) b.length e] (.ret (ω c)):=pK [0] 1 0 (.c g .nil) (.l f .nil)
theorem afb {nt:Nat} (f:35≤nt) (a o:List Nat) (b:Bool) (d c k:Nat) (h:(chk (.int .i64) (ζ (ε ((δ (k:Int))*1) (aj a)) .dead))=true) (e:(decide (((0:Nat):Int)≤(k:Int)))=true) (i:(decide ((k:Int)<(a.length:Int)))=true) (g:lit true (decide ((k:Int)<(a.length:Int)))=true):ψ nt f188 ⟨[(0,.sl (aj a) a.length b),(1,ω (d:Int)),(6,ω (c:Int)),(7,ω (k:Int)),(5,.nilS)],[],.dead,[]⟩ (.normal) ⟨[(0,.sl (aj a) a.length b),(1,ω (d:Int)),(6,ω (γ .i64 (Xxd (γ .i64 ((γ .i64 ((τ (ζ (ε ((δ (k:Int))*1) (aj a)) .dead))*(d:Int)))+(c:Int))) ((16777216:Nat):Int)))),(7,ω (γ .i64 ((k:Int)+((1:Nat):Int)))),(5,.ref 0 0 0 1)],[(0,⟨[ω (Xjt (γ .i64 ((γ .i64 ((τ (ζ (ε ((δ (k:Int))*1) (aj a)) .dead))*(d:Int)))+(c:Int))) ((16777216:Nat):Int))],0,false,0,1,true⟩)],.dead,[]⟩:=pJ 188 [] 2 1 (.k 5 h (.c e (.c i (.c g .nil)))) (.nil) f
theorem afc {nt:Nat} (e:35≤nt) (a o:List Nat) (b:Bool) (d c k:Nat) (f:lit false (decide ((k:Int)<(a.length:Int)))=true):ψ nt f188 ⟨[(0,.sl (aj a) a.length b),(1,ω (d:Int)),(6,ω (c:Int)),(7,ω (k:Int)),(5,.nilS)],[],.dead,[]⟩ (.exit 0) ⟨[(5,.nilS),(6,ω (c:Int))],[],.dead,[]⟩:=pJ 188 [] 1 0 (.c f .nil) (.nil) e
theorem aaD (a o r:List Nat) (b:Bool) (d c:Nat) (e:aG prog ap [] 35 (.block 0 (.loop (af 0 (ah f188)))) ⟨[(0,.sl (aj a) a.length b),(1,ω (d:Int)),(4,.nilS),(5,.nilS),(6,ω 0),(7,ω 0),(8,.dead),(12,.dead)],[],.dead,[]⟩ (.normal) ⟨[(5,.nilS),(6,ω (c:Int))],[],.dead,[]⟩) (f:CO 185 [.sl [ω (c:Int)] 1 true] (.ret (.sl (aj r) r.length true))):CO 188 [.sl (aj a) a.length b,ω (d:Int)] (.ret (.sl (aj r) r.length true)):=pK [0] 1 0 (.n 3 .nil) (.c f (.l e .nil))
theorem ae_ {nt:Nat} (f:35≤nt) (a o:List Nat) (b:Bool) (d c k:Nat) (i:(Xqm (o.length+1) 1099511627776)=true) (e:(Xqm (o.length*1) (η (aj o)))=true) (l:(chk (.int .i64) (ζ (ε ((δ (k:Int))*1) (aj a)) .dead))=true) (g:(decide (((0:Nat):Int)≤(k:Int)))=true) (j:(decide ((k:Int)<(a.length:Int)))=true) (h:lit true (decide ((k:Int)<(a.length:Int)))=true):ψ nt f188 ⟨[(0,.sl (aj a) a.length b),(1,ω (d:Int)),(6,ω (c:Int)),(7,ω (k:Int)),(5,.ref 0 0 0 o.length)],[(0,⟨(aj o),0,false,0,1,true⟩)],.dead,[]⟩ (.normal) ⟨[(0,.sl (aj a) a.length b),(1,ω (d:Int)),(6,ω (γ .i64 (Xxd (γ .i64 ((γ .i64 ((τ (ζ (ε ((δ (k:Int))*1) (aj a)) .dead))*(d:Int)))+(c:Int))) ((16777216:Nat):Int)))),(7,ω (γ .i64 ((k:Int)+((1:Nat):Int)))),(5,.ref 0 0 0 (o.length+1))],[(0,⟨((ν (o.length*1) (aj o))++ [ω (Xjt (γ .i64 ((γ .i64 ((τ (ζ (ε ((δ (k:Int))*1) (aj a)) .dead))*(d:Int)))+(c:Int))) ((16777216:Nat):Int))]),0,false,0,1,true⟩)],.dead,[]⟩:=pJ 188 [] 1 1 (.k 2 i (.c e (.k 2 l (.c g (.c j (.c h .nil)))))) (.nil) f
theorem afa {nt:Nat} (e:35≤nt) (a o:List Nat) (b:Bool) (d c k:Nat) (f:lit false (decide ((k:Int)<(a.length:Int)))=true):ψ nt f188 ⟨[(0,.sl (aj a) a.length b),(1,ω (d:Int)),(6,ω (c:Int)),(7,ω (k:Int)),(5,.ref 0 0 0 o.length)],[(0,⟨(aj o),0,false,0,1,true⟩)],.dead,[]⟩ (.exit 0) ⟨[(5,.ref 0 0 0 o.length),(6,ω (c:Int))],[(0,⟨(aj o),0,false,0,1,true⟩)],.dead,[]⟩:=pJ 188 [] 1 0 (.c f .nil) (.nil) e
theorem aaC (a o r:List Nat) (b:Bool) (d c:Nat) (h:(Xqm (o.length+1) 1099511627776)=true) (f:(Xqm (o.length*1) (η (aj o)))=true) (e:aG prog ap [] 35 (.block 0 (.loop (af 0 (ah f188)))) ⟨[(0,.sl (aj a) a.length b),(1,ω (d:Int)),(4,.nilS),(5,.nilS),(6,ω 0),(7,ω 0),(8,.dead),(12,.dead)],[],.dead,[]⟩ (.normal) ⟨[(5,.ref 0 0 0 o.length),(6,ω (c:Int))],[(0,⟨(aj o),0,false,0,1,true⟩)],.dead,[]⟩) (g:CO 185 [.sl (ν ((o.length+1)*1) ((ν (o.length*1) (aj o))++ [ω (c:Int)])) (o.length+1) true] (.ret (.sl (aj r) r.length true))):CO 188 [.sl (aj a) a.length b,ω (d:Int)] (.ret (.sl (aj r) r.length true)):=pK [0] 0 0 (.k 1 h (.c f (.n 1 .nil))) (.c g (.l e .nil))
theorem aeG {nt:Nat} (h:41≤nt) (a b o:List Nat) (d e:Bool) (c k:Nat) (l:lit true (decide ((γ .i64 ((γ .i64 ((τ (ζ (ε ((δ (k:Int))*1) (aj a)) .dead)) - (c:Int))) - (τ (ζ (ε ((δ (k:Int))*1) (aj b)) .dead))))<((0:Nat):Int)))=true) (g:(chk (.int .i64) (ζ (ε ((δ (k:Int))*1) (aj b)) .dead))=true) (f:(decide (((0:Nat):Int)≤(k:Int)))=true) (i:(decide ((k:Int)<(b.length:Int)))=true) (m:lit true (decide ((k:Int)<(b.length:Int)))=true) (j:(chk (.int .i64) (ζ (ε ((δ (k:Int))*1) (aj a)) .dead))=true) (n:(decide ((k:Int)<(a.length:Int)))=true) (p:lit true (decide ((k:Int)<(a.length:Int)))=true):ψ nt f151 ⟨[(0,.sl (aj a) a.length d),(1,.sl (aj b) b.length e),(6,ω (c:Int)),(7,ω (k:Int)),(5,.nilS)],[],.dead,[]⟩ (.normal) ⟨[(0,.sl (aj a) a.length d),(1,.sl (aj b) b.length e),(6,ω 1),(7,ω (γ .i64 ((k:Int)+((1:Nat):Int)))),(5,.ref 0 0 0 1)],[(0,⟨[ω (γ .i64 ((γ .i64 ((γ .i64 ((τ (ζ (ε ((δ (k:Int))*1) (aj a)) .dead)) - (c:Int))) - (τ (ζ (ε ((δ (k:Int))*1) (aj b)) .dead))))+((16777216:Nat):Int)))],0,false,0,1,true⟩)],.dead,[]⟩:=pJ 151 [] 4 7 (.k 3 l (.c g (.c f (.c i (.c m (.c j (.c f (.c n (.c p .nil))))))))) (.nil) h
theorem aeH {nt:Nat} (h:41≤nt) (a b o:List Nat) (d e:Bool) (c k:Nat) (l:lit false (decide ((γ .i64 ((γ .i64 ((τ (ζ (ε ((δ (k:Int))*1) (aj a)) .dead)) - (c:Int))) - (τ (ζ (ε ((δ (k:Int))*1) (aj b)) .dead))))<((0:Nat):Int)))=true) (g:(chk (.int .i64) (ζ (ε ((δ (k:Int))*1) (aj b)) .dead))=true) (f:(decide (((0:Nat):Int)≤(k:Int)))=true) (i:(decide ((k:Int)<(b.length:Int)))=true) (m:lit true (decide ((k:Int)<(b.length:Int)))=true) (j:(chk (.int .i64) (ζ (ε ((δ (k:Int))*1) (aj a)) .dead))=true) (n:(decide ((k:Int)<(a.length:Int)))=true) (p:lit true (decide ((k:Int)<(a.length:Int)))=true):ψ nt f151 ⟨[(0,.sl (aj a) a.length d),(1,.sl (aj b) b.length e),(6,ω (c:Int)),(7,ω (k:Int)),(5,.nilS)],[],.dead,[]⟩ (.normal) ⟨[(0,.sl (aj a) a.length d),(1,.sl (aj b) b.length e),(6,ω 0),(7,ω (γ .i64 ((k:Int)+((1:Nat):Int)))),(5,.ref 0 0 0 1)],[(0,⟨[ω (γ .i64 ((γ .i64 ((τ (ζ (ε ((δ (k:Int))*1) (aj a)) .dead)) - (c:Int))) - (τ (ζ (ε ((δ (k:Int))*1) (aj b)) .dead))))],0,false,0,1,true⟩)],.dead,[]⟩:=pJ 151 [] 4 3 (.k 3 l (.c g (.c f (.c i (.c m (.c j (.c f (.c n (.c p .nil))))))))) (.nil) h
theorem aeI {nt:Nat} (g:41≤nt) (a b o:List Nat) (d e:Bool) (c k:Nat) (j:lit true (decide ((γ .i64 ((τ (ζ (ε ((δ (k:Int))*1) (aj a)) .dead)) - (c:Int)))<((0:Nat):Int)))=true) (f:lit false (decide ((k:Int)<(b.length:Int)))=true) (m:(chk (.int .i64) (ζ (ε ((δ (k:Int))*1) (aj a)) .dead))=true) (h:(decide (((0:Nat):Int)≤(k:Int)))=true) (l:(decide ((k:Int)<(a.length:Int)))=true) (i:lit true (decide ((k:Int)<(a.length:Int)))=true):ψ nt f151 ⟨[(0,.sl (aj a) a.length d),(1,.sl (aj b) b.length e),(6,ω (c:Int)),(7,ω (k:Int)),(5,.nilS)],[],.dead,[]⟩ (.normal) ⟨[(0,.sl (aj a) a.length d),(1,.sl (aj b) b.length e),(6,ω 1),(7,ω (γ .i64 ((k:Int)+((1:Nat):Int)))),(5,.ref 0 0 0 1)],[(0,⟨[ω (γ .i64 ((γ .i64 ((τ (ζ (ε ((δ (k:Int))*1) (aj a)) .dead)) - (c:Int)))+((16777216:Nat):Int)))],0,false,0,1,true⟩)],.dead,[]⟩:=pJ 151 [] 4 5 (.k 3 j (.c f (.c m (.c h (.c l (.c i .nil)))))) (.nil) g
theorem aeJ {nt:Nat} (g:41≤nt) (a b o:List Nat) (d e:Bool) (c k:Nat) (j:lit false (decide ((γ .i64 ((τ (ζ (ε ((δ (k:Int))*1) (aj a)) .dead)) - (c:Int)))<((0:Nat):Int)))=true) (f:lit false (decide ((k:Int)<(b.length:Int)))=true) (m:(chk (.int .i64) (ζ (ε ((δ (k:Int))*1) (aj a)) .dead))=true) (h:(decide (((0:Nat):Int)≤(k:Int)))=true) (l:(decide ((k:Int)<(a.length:Int)))=true) (i:lit true (decide ((k:Int)<(a.length:Int)))=true):ψ nt f151 ⟨[(0,.sl (aj a) a.length d),(1,.sl (aj b) b.length e),(6,ω (c:Int)),(7,ω (k:Int)),(5,.nilS)],[],.dead,[]⟩ (.normal) ⟨[(0,.sl (aj a) a.length d),(1,.sl (aj b) b.length e),(6,ω 0),(7,ω (γ .i64 ((k:Int)+((1:Nat):Int)))),(5,.ref 0 0 0 1)],[(0,⟨[ω (γ .i64 ((τ (ζ (ε ((δ (k:Int))*1) (aj a)) .dead)) - (c:Int)))],0,false,0,1,true⟩)],.dead,[]⟩:=pJ 151 [] 4 1 (.k 3 j (.c f (.c m (.c h (.c l (.c i .nil)))))) (.nil) g
theorem aeK {nt:Nat} (f:41≤nt) (a b o:List Nat) (d e:Bool) (c k:Nat) (g:lit false (decide ((k:Int)<(a.length:Int)))=true):ψ nt f151 ⟨[(0,.sl (aj a) a.length d),(1,.sl (aj b) b.length e),(6,ω (c:Int)),(7,ω (k:Int)),(5,.nilS)],[],.dead,[]⟩ (.exit 0) ⟨[(5,.nilS)],[],.dead,[]⟩:=pJ 151 [] 1 0 (.c g .nil) (.nil) f
theorem aao (a b o r:List Nat) (c d:Bool) (e:aG prog ap [] 41 (.block 0 (.loop (af 0 (ah f151)))) ⟨[(0,.sl (aj a) a.length c),(1,.sl (aj b) b.length d),(4,.nilS),(5,.nilS),(6,ω 0),(7,ω 0),(8,.dead),(12,.dead),(24,.dead),(32,.dead)],[],.dead,[]⟩ (.normal) ⟨[(5,.nilS)],[],.dead,[]⟩) (f:CO 185 [.nilS] (.ret (.sl (aj r) r.length false))):CO 151 [.sl (aj a) a.length c,.sl (aj b) b.length d] (.ret (.sl (aj r) r.length false)):=pK [0] 0 0 .nil (.c f (.l e .nil))
theorem aeB {nt:Nat} (j:41≤nt) (a b o:List Nat) (d f:Bool) (c k:Nat) (n:(Xqm (o.length+1) 1099511627776)=true) (m:(Xqm (o.length*1) (η (aj o)))=true) (h:lit true (decide ((γ .i64 ((γ .i64 ((τ (ζ (ε ((δ (k:Int))*1) (aj a)) .dead)) - (c:Int))) - (τ (ζ (ε ((δ (k:Int))*1) (aj b)) .dead))))<((0:Nat):Int)))=true) (l:(chk (.int .i64) (ζ (ε ((δ (k:Int))*1) (aj b)) .dead))=true) (e:(decide (((0:Nat):Int)≤(k:Int)))=true) (g:(decide ((k:Int)<(b.length:Int)))=true) (q:lit true (decide ((k:Int)<(b.length:Int)))=true) (p:(chk (.int .i64) (ζ (ε ((δ (k:Int))*1) (aj a)) .dead))=true) (r:(decide ((k:Int)<(a.length:Int)))=true) (i:lit true (decide ((k:Int)<(a.length:Int)))=true):ψ nt f151 ⟨[(0,.sl (aj a) a.length d),(1,.sl (aj b) b.length f),(6,ω (c:Int)),(7,ω (k:Int)),(5,.ref 0 0 0 o.length)],[(0,⟨(aj o),0,false,0,1,true⟩)],.dead,[]⟩ (.normal) ⟨[(0,.sl (aj a) a.length d),(1,.sl (aj b) b.length f),(6,ω 1),(7,ω (γ .i64 ((k:Int)+((1:Nat):Int)))),(5,.ref 0 0 0 (o.length+1))],[(0,⟨((ν (o.length*1) (aj o))++ [ω (γ .i64 ((γ .i64 ((γ .i64 ((τ (ζ (ε ((δ (k:Int))*1) (aj a)) .dead)) - (c:Int))) - (τ (ζ (ε ((δ (k:Int))*1) (aj b)) .dead))))+((16777216:Nat):Int)))]),0,false,0,1,true⟩)],.dead,[]⟩:=pJ 151 [] 3 7 (.k 1 n (.c m (.k 1 h (.c l (.c e (.c g (.c q (.c p (.c e (.c r (.c i .nil))))))))))) (.nil) j
theorem aeC {nt:Nat} (j:41≤nt) (a b o:List Nat) (d f:Bool) (c k:Nat) (n:(Xqm (o.length+1) 1099511627776)=true) (m:(Xqm (o.length*1) (η (aj o)))=true) (h:lit false (decide ((γ .i64 ((γ .i64 ((τ (ζ (ε ((δ (k:Int))*1) (aj a)) .dead)) - (c:Int))) - (τ (ζ (ε ((δ (k:Int))*1) (aj b)) .dead))))<((0:Nat):Int)))=true) (l:(chk (.int .i64) (ζ (ε ((δ (k:Int))*1) (aj b)) .dead))=true) (e:(decide (((0:Nat):Int)≤(k:Int)))=true) (g:(decide ((k:Int)<(b.length:Int)))=true) (q:lit true (decide ((k:Int)<(b.length:Int)))=true) (p:(chk (.int .i64) (ζ (ε ((δ (k:Int))*1) (aj a)) .dead))=true) (r:(decide ((k:Int)<(a.length:Int)))=true) (i:lit true (decide ((k:Int)<(a.length:Int)))=true):ψ nt f151 ⟨[(0,.sl (aj a) a.length d),(1,.sl (aj b) b.length f),(6,ω (c:Int)),(7,ω (k:Int)),(5,.ref 0 0 0 o.length)],[(0,⟨(aj o),0,false,0,1,true⟩)],.dead,[]⟩ (.normal) ⟨[(0,.sl (aj a) a.length d),(1,.sl (aj b) b.length f),(6,ω 0),(7,ω (γ .i64 ((k:Int)+((1:Nat):Int)))),(5,.ref 0 0 0 (o.length+1))],[(0,⟨((ν (o.length*1) (aj o))++ [ω (γ .i64 ((γ .i64 ((τ (ζ (ε ((δ (k:Int))*1) (aj a)) .dead)) - (c:Int))) - (τ (ζ (ε ((δ (k:Int))*1) (aj b)) .dead))))]),0,false,0,1,true⟩)],.dead,[]⟩:=pJ 151 [] 3 3 (.k 1 n (.c m (.k 1 h (.c l (.c e (.c g (.c q (.c p (.c e (.c r (.c i .nil))))))))))) (.nil) j
theorem aeD {nt:Nat} (g:41≤nt) (a b o:List Nat) (d e:Bool) (c k:Nat) (j:(Xqm (o.length+1) 1099511627776)=true) (f:(Xqm (o.length*1) (η (aj o)))=true) (m:lit true (decide ((γ .i64 ((τ (ζ (ε ((δ (k:Int))*1) (aj a)) .dead)) - (c:Int)))<((0:Nat):Int)))=true) (h:lit false (decide ((k:Int)<(b.length:Int)))=true) (l:(chk (.int .i64) (ζ (ε ((δ (k:Int))*1) (aj a)) .dead))=true) (i:(decide (((0:Nat):Int)≤(k:Int)))=true) (n:(decide ((k:Int)<(a.length:Int)))=true) (p:lit true (decide ((k:Int)<(a.length:Int)))=true):ψ nt f151 ⟨[(0,.sl (aj a) a.length d),(1,.sl (aj b) b.length e),(6,ω (c:Int)),(7,ω (k:Int)),(5,.ref 0 0 0 o.length)],[(0,⟨(aj o),0,false,0,1,true⟩)],.dead,[]⟩ (.normal) ⟨[(0,.sl (aj a) a.length d),(1,.sl (aj b) b.length e),(6,ω 1),(7,ω (γ .i64 ((k:Int)+((1:Nat):Int)))),(5,.ref 0 0 0 (o.length+1))],[(0,⟨((ν (o.length*1) (aj o))++ [ω (γ .i64 ((γ .i64 ((τ (ζ (ε ((δ (k:Int))*1) (aj a)) .dead)) - (c:Int)))+((16777216:Nat):Int)))]),0,false,0,1,true⟩)],.dead,[]⟩:=pJ 151 [] 3 5 (.k 1 j (.c f (.k 1 m (.c h (.c l (.c i (.c n (.c p .nil)))))))) (.nil) g
theorem aeE {nt:Nat} (g:41≤nt) (a b o:List Nat) (d e:Bool) (c k:Nat) (j:(Xqm (o.length+1) 1099511627776)=true) (f:(Xqm (o.length*1) (η (aj o)))=true) (m:lit false (decide ((γ .i64 ((τ (ζ (ε ((δ (k:Int))*1) (aj a)) .dead)) - (c:Int)))<((0:Nat):Int)))=true) (h:lit false (decide ((k:Int)<(b.length:Int)))=true) (l:(chk (.int .i64) (ζ (ε ((δ (k:Int))*1) (aj a)) .dead))=true) (i:(decide (((0:Nat):Int)≤(k:Int)))=true) (n:(decide ((k:Int)<(a.length:Int)))=true) (p:lit true (decide ((k:Int)<(a.length:Int)))=true):ψ nt f151 ⟨[(0,.sl (aj a) a.length d),(1,.sl (aj b) b.length e),(6,ω (c:Int)),(7,ω (k:Int)),(5,.ref 0 0 0 o.length)],[(0,⟨(aj o),0,false,0,1,true⟩)],.dead,[]⟩ (.normal) ⟨[(0,.sl (aj a) a.length d),(1,.sl (aj b) b.length e),(6,ω 0),(7,ω (γ .i64 ((k:Int)+((1:Nat):Int)))),(5,.ref 0 0 0 (o.length+1))],[(0,⟨((ν (o.length*1) (aj o))++ [ω (γ .i64 ((τ (ζ (ε ((δ (k:Int))*1) (aj a)) .dead)) - (c:Int)))]),0,false,0,1,true⟩)],.dead,[]⟩:=pJ 151 [] 3 1 (.k 1 j (.c f (.k 1 m (.c h (.c l (.c i (.c n (.c p .nil)))))))) (.nil) g
theorem aeF {nt:Nat} (f:41≤nt) (a b o:List Nat) (d e:Bool) (c k:Nat) (g:lit false (decide ((k:Int)<(a.length:Int)))=true):ψ nt f151 ⟨[(0,.sl (aj a) a.length d),(1,.sl (aj b) b.length e),(6,ω (c:Int)),(7,ω (k:Int)),(5,.ref 0 0 0 o.length)],[(0,⟨(aj o),0,false,0,1,true⟩)],.dead,[]⟩ (.exit 0) ⟨[(5,.ref 0 0 0 o.length)],[(0,⟨(aj o),0,false,0,1,true⟩)],.dead,[]⟩:=pJ 151 [] 1 0 (.c g .nil) (.nil) f
theorem aan (a b o r:List Nat) (c d:Bool) (e:aG prog ap [] 41 (.block 0 (.loop (af 0 (ah f151)))) ⟨[(0,.sl (aj a) a.length c),(1,.sl (aj b) b.length d),(4,.nilS),(5,.nilS),(6,ω 0),(7,ω 0),(8,.dead),(12,.dead),(24,.dead),(32,.dead)],[],.dead,[]⟩ (.normal) ⟨[(5,.ref 0 0 0 o.length)],[(0,⟨(aj o),0,false,0,1,true⟩)],.dead,[]⟩) (f:CO 185 [.sl (ν (o.length*1) (aj o)) o.length true] (.ret (.sl (aj r) r.length false))):CO 151 [.sl (aj a) a.length c,.sl (aj b) b.length d] (.ret (.sl (aj r) r.length false)):=pK [0] 0 0 .nil (.c f (.l e .nil))
def nz:List UInt8→Nat
 | []=>0
 |c::r=>if c=0 then nz r+1 else 0
theorem Yr (s:List UInt8):s.drop (nz s)=s.dropWhile (· ==0):=by
 induction s with
 |nil=>rfl
 |cons c r ih=>
  simp only [nz,Xxt];by_cases h:c=0
  ·subst h;simpa using ih
  ·simp [h]
theorem ah2 (s:List UInt8):nz s≤s.length:=by
 induction s with
 |nil=>exact Δ _
 |cons c r ih=>simp only [nz,μ];split<;>omega
def abD (s:List UInt8) (k:Nat):St:=⟨[(0,.str s),(3,ω (k:Int))],[],.dead,[]⟩
theorem QB {p r:List UInt8} {c:UInt8} {k:Nat} (h:k=p.length):(p++c::r).getD k 0=c:=by subst h;simp
theorem abp (c:UInt8):(c.toNat=0)=(c=0):=by
 apply propext;constructor
 ·intro h;apply UInt8.toNat_inj.1;simpa using h
 ·intro h;subst h;rfl
theorem Uk {nt:Nat} (b:19≤nt) (s:List UInt8) (hs:s.length<2^40):∀ (r p:List UInt8),p++r=s→aA prog ap [] nt (af 0 (ah f133)) (fun _=> .exit 0) (abD s) (abD s) p.length (p.length+nz r):=by
 intro r
 induction r with
 |nil=>
  intro p h;have hp:p.length=s.length:=by rw [← h];simp
  refine .done (agf b s p.length ?_);rw [hp,aX];simp [lit]
 | cons c r ih=>
  intro p h;have f:p.length+(r.length+1)=s.length:=by rw [← h];simp
  have e:s.getD p.length 0=c:=by rw [← h];exact QB rfl
  by_cases hc:c=0
  ·have hnext:=ih (p++ [c]) (by simp [h]);rw [θ,σ] at hnext;simp only [nz,if_pos hc];rw [show p.length+(nz r+1)=p.length+1+nz r by omega];refine .next ?_ hnext
   have a:=agd b s p.length;have d:c.toNat=0:=by subst hc;rfl
   simp (disch:=first|omega|(simp [au,ay]<;>omega)) only [aC,e,d,jC,decide_true,bz,dm,bf,aX,bJ,aS] at a;apply a<;>first|exact True.intro|omega|assumption|exact rfl
  ·simp only [nz,if_neg hc,Xq0];refine .done ?_;have a:=age b s p.length;have d:¬ c.toNat=0:=by rw [abp];exact hc
   simp (disch:=first|omega|(simp [au,ay]<;>omega)) only [aC,e,jC,dC,dJ,dW,dm,bf,aX,bz] at a;apply a<;>first|exact True.intro|omega|assumption|exact rfl
theorem gI (s:List UInt8) (hs:s.length<2^40):CO 133 [.str s] (.ret (.str (ae (ag s)))):=by
 have b:=ah2 s;have h:=acQ s (nz s);simp (disch:=first|omega|(simp [au,ay]<;>omega)) only [dm,bf,aC,Xq1,Yr] at h;rw [ED];apply h<;>first|exact True.intro|omega|assumption|exact rfl|skip
 ·refine aA.blk (fun nt a=>Uk a s hs s [] rfl) (by simp) rfl (aH.of ⟨rfl,rfl,trivial⟩) ?_;rw [Xqb,Xqf];exact aH.refl _
theorem OE (l:List Nat) (d:Nat):ν l.length (aj (l++ [d]))=aj l:=by
 rw [dF];simp
theorem DJ (l:List Nat) (d:Nat):ζ (ε l.length (aj (l++ [d]))) .dead= ω (d:Int):=by
 rw [f_ (by simp)];simp
def Qq (nn:Bool) (l:List Nat):St:=⟨[(0,.sl (aj l) l.length nn)],[],.dead,[]⟩
theorem WV {nt:Nat} (f:21≤nt) (e:Bool):∀ (k:Nat) (l:List Nat),l.length=k→k<2^40→aA prog ap [] nt (af 0 (ah f185)) (fun _=> .exit 0) (Qq e) (Qq e) l (eG l):=by
 intro k
 induction k with
 |zero=>
  intro l c _;have:l= []:=Xxl c;subst this;exact .done (akc f [] e rfl)
 | succ k ih=>
  intro l c i;rcases Xzv l with rfl|⟨a,d,rfl⟩
  ·simp at c
  ·rw [Xzw] at c ⊢;have g:a.length=k:=by simpa using c
   have h:a.length+1 - 1=a.length:=by omega
   rw [oI];by_cases hd:d=0
   ·rw [if_pos hd];refine .next ?_ (ih a g (by omega))
    have b:=aka f (a++ [d]) e;simp (disch:=first|omega|(simp [au,ay]<;>omega)) only [θ,μ,Xqb,Xqf,jP,h,dm,bf,aC,χ,DJ,aY,jC,bz,eF,aX,OE,Xjx] at b;simp only [Qq,θ,σ];apply b<;>first|exact True.intro|omega|assumption|exact rfl
   ·rw [if_neg hd];refine .done ?_;have b:=akb f (a++ [d]) e;simp (disch:=first|omega|(simp [au,ay]<;>omega)) only [θ,μ,Xqb,Xqf,jP,h,aC,χ,DJ,aY,jC,dC,dJ,dW,eF,dm,bf,aX,bz] at b;simp only [Qq,θ,σ];apply b<;>first|exact True.intro|omega|assumption|exact rfl
theorem yJ (l:List Nat) (a:Bool) (b:l.length<2^40):CO 185 [.sl (aj l) l.length a] (.ret (.sl (aj (eG l)) (eG l).length a)):=
 afe l (eG l) a (aA.blk (fun nt c=>WV c a _ l rfl b) (by simp) rfl (aH.of ⟨rfl,trivial⟩) (aH.of ⟨rfl,trivial⟩))
def MN (l:List Nat):AV:=match l with| []=> .nilS|x::l=> .ref 0 0 0 (x::l).length
def MO (l:List Nat):Hp:=match l with| []=> []|x::l=> [(0,⟨aj (x::l),0,false,0,1,true⟩)]
theorem gu {l:List Nat} (h:l ≠ []):MN l= .ref 0 0 0 l.length:=by cases l with|nil=>exact absurd rfl h|cons _ _=>rfl
theorem gy {l:List Nat} (h:l ≠ []):MO l= [(0,⟨aj l,0,false,0,1,true⟩)]:=by cases l with|nil=>exact absurd rfl h|cons _ _=>rfl
theorem ja (l:List Nat) (y:Nat):l++ [y] ≠ []:=by simp
theorem Py {p s:List Nat} {x k:Nat} (h:k=p.length):ζ (ε k (aj (p++x::s))) .dead= ω (x:Int):=by
 rw [f_ (by subst h;simp)];subst h;simp
def Tt (d:Nat):List Nat→Nat→List Nat × Nat
 | [],c=>([],c)
 |x::l,c=>((x*d+c) % 16777216::(Tt d l ((x*d+c) / 16777216)).1,(Tt d l ((x*d+c) / 16777216)).2)
theorem L6 {d x c:Nat} (hd:d<16777216) (b:x<16777216) (e:c<16777216):x*d+c<281474976710656∧(x*d+c) / 16777216<16777216∧x*d<281474976710656:=by
 have a:x*d≤16777215*16777215:=Nat.mul_le_mul (by omega) (by omega);omega
theorem abd {d:Nat} (hd:d<16777216) (l:List Nat):∀ c,c<16777216→aZ l→(Tt d l c).2<16777216∧aZ (Tt d l c).1∧(Tt d l c).1.length=l.length∧bY (Tt d l c).1+16777216^l.length*(Tt d l c).2=bY l*d+c:=by
 induction l with
 |nil=>intro c a _;exact ⟨a,aZ.nil,rfl,by simp [Tt,bY]⟩
 |cons x l ih=>
  intro c a b;obtain ⟨_,h,_⟩:=L6 hd b.head a;obtain ⟨f,e,g,i⟩:=ih _ h b.tail;simp only [Tt];refine ⟨f,aZ.cons (Xqu _ (by omega)) e,by simp [g], ?_⟩;simp only [bY,μ,Xqz];rw [Φ (16777216^l.length),Xqn,Xxj,Xqn 16777216 (bY l)];omega
def Tu (a:List Nat) (na:Bool) (d:Nat) (p:Nat × Nat × List Nat):St:=⟨[(0,.sl (aj a) a.length na),(1,ω (d:Int)),(6,ω (p.2.1:Int)),(7,ω (p.1:Int)),(5,MN p.2.2)],MO p.2.2,.dead,[]⟩
def QE (p:Nat × List Nat):St:=⟨[(5,MN p.2),(6,ω (p.1:Int))],MO p.2,.dead,[]⟩
theorem abg {nt:Nat} (g:35≤nt) (a o:List Nat) (f:Bool) (d c k x:Nat) (p:a.length<2^40) (q:k<a.length) (n:o.length=k) (h:a.getD k 0=x) (l:x*d+c<281474976710656) (i:x*d<281474976710656):
  ψ nt f188 (Tu a f d (k,c,o)) .normal (Tu a f d (k+1,(x*d+c) / 16777216,o++ [(x*d+c) % 16777216])):=by
 unfold Tu;have j:(x*d+c) / 16777216<9223372036854775808:=by omega
 have m:(x*d+c) % 16777216<9223372036854775808:=by omega
 have e:(((x*d:Nat):Int))+(c:Int)=((x*d+c:Nat):Int):=by omega
 rcases Xxn (o= []) with rfl|hne
 ·have b:=afb g a [] f d c k;simp (disch:=first|omega|(simp [au,ay]<;>omega)) only [aC,χ,f_,h,eF,dm,bf,aX,bz,aY,xN,aS,e,pY,bJ,wO] at b;simp only [Xqk,MN,MO,aj,Xqi,List.map_nil,μ,Xqb] at b ⊢;apply b<;>first|exact True.intro|omega|assumption|exact rfl
 ·have b:=ae_ g a o f d c k;rw [gu hne,gy hne,gu (ja _ _),gy (ja _ _)];simp (disch:=first|omega|(simp [au,ay]<;>omega)) only [fQ,bf,χ,bW,aC,f_,h,eF,dm,aX,bz,aY,xN,aS,e,pY,bJ,dF,Xq1,wO,kK] at b;simp only [θ,σ];apply b<;>first|exact True.intro|omega|assumption|exact rfl
theorem abe {nt:Nat} (f:35≤nt) (a o:List Nat) (e:Bool) (d c:Nat):ψ nt f188 (Tu a e d (a.length,c,o)) (.exit 0) (QE (c,o)):=by
 unfold Tu QE;rcases Xxn (o= []) with rfl|hne
 ·have b:=afc f a [] e d c a.length (by rw [aX];simp [lit]);exact b
 ·have b:=afa f a o e d c a.length (by rw [aX];simp [lit]);rw [gu hne,gy hne];exact b
theorem abf {nt:Nat} (g:35≤nt) (a:List Nat) (f:Bool) (d:Nat) (hd:d<16777216) (j:a.length<2^40) (b:aZ a):∀ (l p o:List Nat) (c:Nat),p++l=a→o.length=p.length→c<16777216→
  aA prog ap [] nt (af 0 (ah f188)) (fun _=> .exit 0) (Tu a f d) QE (p.length,c,o) ((Tt d l c).2,o++(Tt d l c).1):=by
 intro l
 induction l with
 |nil=>
  intro p o c h e i;have hp:p=a:=by simpa using h
  rw [hp];simp only [Tt,Θ];exact .done (abe g a o f d c)
 |cons x l ih=>
  intro p o c h e i;have s:p.length+(l.length+1)=a.length:=by rw [← h];simp
  have n:x<16777216:=b x (by rw [← h];simp);have q:a.getD p.length 0=x:=by rw [← h];simp
  obtain ⟨r,m,k⟩:=L6 hd n i;have hnext:=ih (p++ [x]) (o++ [(x*d+c) % 16777216]) ((x*d+c) / 16777216) (by simp [h]) (by simp [e]) m;rw [θ,σ,Xqe] at hnext;exact .next (abg g a o f d c p.length x j (by omega) e q r k) hnext
theorem LY (x d:Nat) (a:Bool) (hd:d<16777216) (n:(ax x).length<2^36):CO 188 [.sl (aj (ax x)) (ax x).length a,ω (d:Int)] (.ret (.sl (aj (ax (x*d))) (ax (x*d)).length true)):=by
 obtain ⟨g,j,i,f⟩:=abd hd (ax x) 0 (by omega) (aZ.dig x);have hloop:=fun nt (hn:35≤nt)=>abf hn (ax x) a d hd (by omega) (aZ.dig x) (ax x) [] [] 0 rfl rfl (by omega)
 generalize m:Tt d (ax x) 0=r at*
 obtain ⟨o,c⟩:=r;simp only [Xqk,Xqb] at hloop g j i f;rw [eP,Xq0] at f;have k:bY (o++ [c])=x*d:=by rw [yT,i];simp only [bY];omega
 have e:=yJ (o++ [c]) true (by simp;omega);rw [QF (aZ.app j (aZ.cons g aZ.nil)),k] at e;rcases Xxn (o= []) with rfl|hne
 ·have h:=aaD (ax x) [] (ax (x*d)) a d c;apply h
  ·exact aA.blk hloop (by simp) rfl (aH.of ⟨rfl,rfl,rfl,rfl,rfl,trivial⟩) (aH.of ⟨rfl,rfl,trivial⟩)
  ·exact e
 ·have h:=aaC (ax x) o (ax (x*d)) a d c;have l:o.length<2^37:=by omega
  have b:ν (o.length+1) (aj (o++ [c]))=aj (o++ [c]):=by
   rw [dF,Xqc (by simp)]
  simp (disch:=first|omega|(simp [au,ay]<;>omega)) only [fQ,bf,χ,bW,dF,Xq1,kK] at h;rw [θ,σ] at e;rw [← dF] at h;rw [b] at h;apply h<;>first|exact True.intro|omega|assumption|exact rfl|skip
  ·exact aA.blk hloop (by simp) rfl (aH.of ⟨rfl,rfl,rfl,rfl,rfl,trivial⟩) (by unfold QE;rw [gu hne,gy hne];exact aH.of ⟨rfl,rfl,trivial⟩)
end Go.Proofs.Tryz
