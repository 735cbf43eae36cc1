/- Contracts of functions that the law reaches, each by its own hypotheses; joined by a program of mine. -/
import Derived.Test.YtdmfgmmooalfnaaGreatDoorAp
import Derived.Test.YtdmfgmmooalfnaaGreatDoorChecked
import Derived.Eval
import Derived.Test.YtdmfgmmooalfnaaGreatDoorM5
set_option linter.unusedSimpArgs false
set_option linter.unusedVariables false
open Go AM
open List renaming range→Xq6,headD→ζ,drop→ε,take→ν,reverse_cons→Xz2,reverse_nil→Xwx,nil_append→Xqk,singleton_append→Xxe,dropWhile_cons→Xxv,take_append_of_le_length→Xxx,take_of_length_le→Ξ,getD_eq_getElem?_getD→ο,getElem?_append_right→Xjt,eq_nil_of_length_eq_zero→Xxh,eq_nil_or_concat→Xzv,concat_eq_append→Xzw,length→η,getD→Xqm,foldl_cons→Xjn,length_cons→μ,ext_getElem?→Xjv,getElem?_set→Xzl,getElem?_eq_none→Xq4,length_set→Yqa,drop_eq_getElem_cons→Xxp,length_drop→Xxz,getElem?_eq_getElem→ξ,map_take→Xwd,map_drop→Xzc,set_eq_take_append_cons_drop→Xx9,getElem?_map→Xq3,range_succ→Xwe,map_append→Xx0,replicate_succ'→Xj1,flatten_append→Xzo,getElem?_append_left→Xxd,length_append→θ,length_reverse→Xzp,dropWhile_sublist→Xzs,take_length→Xqx,map_congr_left→Xjb,map→Xw4,map_map→Xzz,all→Xzu,range_succ_eq_map→Xwl,map_cons→Xqh,mem_cons_self→Xjp,mem_cons_of_mem→Xx3,mem_of_mem_take→Xxl,replicate→κ,cons_append→Xq9,length_take→Xqz,length_nil→Xqb,append_assoc→Xqd,length_replicate→Xxu,append_nil→Γ,headD_cons→Xjd,headD_nil→Xwt,take_succ_cons→Xxw,drop_zero→Xj6,drop_succ_cons→Xz9,replicate_succ→Xxc,set_append_right→Xv7,length_tail→Xvy,length_singleton→σ,tail_cons→Xzj,tail_nil→Xvs,length_map→Xxt,dropWhile→Yqo
open IntKind renaming wrap→γ,bits→Xqe
open AV renaming toInt→τ,int→Xxo
open Int renaming toNat→δ,tdiv→Xxg,tmod→Xju,tdiv_eq_ediv_of_nonneg→Xz3,tmod_eq_emod_of_nonneg→Xvb,fdiv→Xqw,fdiv_eq_ediv_of_nonneg→Xz4,natCast_nonneg→Xkp,natCast_ediv→Xk3,natCast_mul→Xw5
open Nat renaming mul_one→φ,le_refl→Δ,sub_self→Xwv,sub_zero→Xjk,ble→Xqg,pow_succ→Xq2,mul_comm→Ψ,mul_assoc→Xqn,add_mul→Xxm,zero_mul→Xwb,zero_add→Xqf,mul_le_mul_right→Xqu,pow_add→Xxj,add_comm→Xxq,add_mul_div_right→Xzx,two_pow_pos→Xqr,div_lt_iff_lt_mul→Xqs,pow_le_pow_right→Xqc,mod_eq_of_lt→υ,div_eq_of_lt→Xxy,add_mul_mod_self_right→Xva,shiftLeft_add_eq_or_of_lt→Xwy,shiftLeft_eq→Xk2,or_comm→Yqc,pow_mul→Xx5,lt_of_le_of_lt→χ,ble_eq_true_of_le→Xqt,lt_of_lt_of_le→Xqa,le_total→Yxc,mod_one→Yqd,mod_lt→Xqv,one_mul→Xzy,div_div_eq_div_mul→Xxr,zero_le→Xxk,beq→Xqq,beq_refl→Xvd,div_add_mod→Xq7,min_eq_left→Xx1,mul_add→Xq8,pow_pos→Yqe,mul_zero→Xjc,pow_zero→Xve,div_one→Xz0,succ_eq_add_one→Xkl,add_zero→Xq0,mul_le_mul_left→Xqy,le_trans→Xq1,mul_mod_mul_left→Xw3,mul_lt_mul_of_pos_left→Xza,add_mul_mod_self_left→Xzi,add_mul_div_left→Xz6,div_le_self→Xjq,log2→Yxx,log2_eq_iff→Yqg,add_assoc→Xze,div_pos→Xvr,eq_zero_or_pos→Θ,le_div_iff_mul_le→Xzf,add_sub_cancel→Xwf,lt_or_ge→Xq5,mul_pos→Xx7,lt_of_mul_lt_mul_right→Xvc,lt_trans→Xxa,le_of_lt→Xww,mul_div_mul_left→Xkg,gcd→Xxn,gcd_comm→Xv8,gcd_zero_left→Xwp,gcd_le_left→Xv9,gcd_pos_of_pos_right→Xjz,ble_eq→Xzm,strongRecOn→Xka
open BitVec renaming toNat→Xxi,ofInt→Xqi,ofInt_natCast→Xke,toNat_ofNat→Xko,toNat_or→Yqb
open UInt8 renaming toNat→Φ,ofNat→Xql
open Bool renaming false_and→Xji,false_eq_true→Xjo,not_eq_true'→Xqo,eq_iff_iff→Xx2,and_eq_true→π,eq_false_iff→Xvm
open Function renaming comp→Xvq
open Decidable renaming em→Xxf
namespace Go.Proofs.Tryz
abbrev ψ (n:Nat) (f:Func):=ak prog ap [] n (af 0 (ah f))
theorem agN:(Xq6 ap.nty).map ap.ty.get=(Xq6 ap.nty).map (XP prog):=by kernel_rfl
noncomputable def agL (i:Nat):Bool:=match ap.fn.get i with|some _=>true|_=>false
theorem agM:(Xq6 ap.nfn).map (fun i=>(ap.fn.get i).map AF.fn)=(Xq6 ap.nfn).map fun i=>match agL i with|true=>prog.funcs[i]? |false=>none:=by kernel_rfl
theorem Yj:(Xq6 ap.nfn).all (fun i=>Eb (ap.fn.get i))=true:=by kernel_rfl
theorem al8:iY prog ap:=Ym agN
theorem amm:JQ prog ap:=Zm agM Yj
theorem mixed:prog.follows .mixedOrders=true:=Tryz.checked.mixed
end Go.Proofs.Tryz
namespace Go.Proofs.Tryz
open Go AM
theorem VN:Gu prog ap:=⟨al8,mixed,amm⟩
abbrev CO (f:Nat) (args:List AV) (out:kJ):Prop:=bD prog ap f args [] out []
theorem cK {ans:List (kJ × List bg)} {ps:List Prop} {f:Nat} {args:List AV} {h a:List bg} {out:kJ} (hp:PS prog ap ps ans [] [])
  (he:tN ap (yP prog ap 3000 4) 3000 .dead f args h ⟨true,[],[],[],ans,[]⟩= .ok (out,a,.dead) ⟨true,[],[],ps,[],[]⟩:=by kernel_rfl):bD prog ap f args h out a:=ck VN hp he
theorem pK (ls:List Nat) (n k:Nat) {ans:List (kJ × List bg)} {a:xK} {hs:List vW} {bs:List Bool} {ps:List Prop} {f:Nat} {args:List AV} {h b:List bg} {out:kJ} (c:l_ bs) (hp:PS prog ap ps ans a hs)
  (he:Py prog ap (yP prog ap 3000 4) 3000 ls f args h a ⟨false,xQ n k,[],[],ans,hs⟩= .ok (out,b,.dead) ⟨false,[],bs,ps,[],[]⟩:=by kernel_rfl):bD prog ap f args h out b:=pk VN ls n k c hp he
theorem pJ (f:Nat) (ls:List Nat) (n k:Nat) {nt b:Nat} {ans:List (kJ × List bg)} {c:xK} {hs:List vW} {bs:List Bool} {ps:List Prop} {a:Code} {s s':St} {d:List bg} {e:bG} (g:l_ bs) (hp:PS prog ap ps ans c hs) (h:b≤nt)
  (he:OC prog ap d f b ls a s c (xQ n k) ans hs s'.env= .ok ((e,s'),[]) ⟨false,[],bs,ps,[],[]⟩:=by kernel_rfl):ak prog ap d nt a s e s':=pj VN f ls n k g hp h he
theorem pN (f:Nat) (ls:List Nat) (n k:Nat) {nt b:Nat} {ans:List (kJ × List bg)} {c:xK} {hs:List vW} {bs:List Bool} {ps:List Prop} {a:Code} {s s':St} {d:List bg} {e:bG} (g:l_ bs) (hp:PS prog ap ps ans c hs) (h:b≤nt)
  (he:OB prog ap d f b ls a s c (xQ n k) ans hs s'.env= .ok ((e,s'),[]) ⟨false,[],bs,ps,[],[]⟩:=by kernel_rfl):ak prog ap d nt a s e s':=pn VN f ls n k g hp h he
end Go.Proofs.Tryz
set_option maxRecDepth 100000
open Go AM
namespace Go.Proofs.Tryz
theorem MN {nt:Nat} (i:21≤nt) (a:List AV) (n:Nat) (b:Bool) (c:(decide ((0:Int)≤(γ .i64 ((n:Int) - (1:Int)))))=true) (e:(decide ((γ .i64 ((n:Int) - (1:Int)))≤(n:Int)))=true) (h:lit true ((τ (ζ (ε ((δ (γ .i64 ((n:Int) - (1:Int))))*1) a) .dead))==(0:Int))=true) (f:(chk (.int .u32) (ζ (ε ((δ (γ .i64 ((n:Int) - (1:Int))))*1) a) .dead))=true) (g:(decide ((γ .i64 ((n:Int) - (1:Int)))<(n:Int)))=true) (d:lit true (decide ((0:Int)<(n:Int)))=true):ψ nt f162 ⟨[(0,.sl a n b)],[],.dead,[]⟩ (.normal) ⟨[(0,.sl (ν ((δ (γ .i64 ((n:Int) - (1:Int))))*1) a) ((δ (γ .i64 ((n:Int) - (1:Int)))) - 0) b)],[],.dead,[]⟩:=pJ 162 [] 2 3 (.k 1 c (.c e (.c h (.c f (.c c (.c g (.c d .nil))))))) (.nil) i
theorem MO {nt:Nat} (g:21≤nt) (a:List AV) (n:Nat) (b:Bool) (h:lit false ((τ (ζ (ε ((δ (γ .i64 ((n:Int) - (1:Int))))*1) a) .dead))==(0:Int))=true) (c:(chk (.int .u32) (ζ (ε ((δ (γ .i64 ((n:Int) - (1:Int))))*1) a) .dead))=true) (f:(decide ((0:Int)≤(γ .i64 ((n:Int) - (1:Int)))))=true) (d:(decide ((γ .i64 ((n:Int) - (1:Int)))<(n:Int)))=true) (e:lit true (decide ((0:Int)<(n:Int)))=true):ψ nt f162 ⟨[(0,.sl a n b)],[],.dead,[]⟩ (.exit 0) ⟨[(0,.sl a n b)],[],.dead,[]⟩:=pJ 162 [] 2 1 (.c h (.c c (.c f (.c d (.c e .nil))))) (.nil) g
theorem MP {nt:Nat} (c:21≤nt) (b:List AV) (n:Nat) (a:Bool) (d:lit false (decide ((0:Int)<(n:Int)))=true):ψ nt f162 ⟨[(0,.sl b n a)],[],.dead,[]⟩ (.exit 0) ⟨[(0,.sl b n a)],[],.dead,[]⟩:=pJ 162 [] 2 0 (.k 1 d .nil) (.nil) c
theorem g_ {x:Int} (h: -2^63≤x) (a:x<2^63):γ .i64 x=x:=by
 show (if (true && decide (x % 2^64≥2^63))=true then x % 2^64 - 2^64 else x % 2^64)=x;rw [Bool.true_and];by_cases hx:x % 2^64≥2^63
 ·rw [if_pos (by simpa using hx)];omega
 ·rw [if_neg (by simpa using hx)];omega
abbrev ci (n:Int):AV:= ω n
def aj (l:List Nat):List AV:=l.map fun (d:Nat)=>Xxo .u32 (d:Int)
theorem au (l:List Nat):(aj l).length=l.length:=by simp [aj]
theorem BQ (l r:List Nat):aj (l++r)=aj l++aj r:=by simp [aj]
def eX (l:List Nat):List Nat:=(l.reverse.dropWhile (· ==0)).reverse
theorem oM (l:List Nat) (d:Nat):eX (l++ [d])=if d=0 then eX l else l++ [d]:=by
 unfold eX;rw [List.reverse_append];simp only [Xz2,Xwx,Xqk,Xxe,Xxv];by_cases h:d=0
 ·subst h;simp
 ·simp [h]
theorem TS (l:List Nat) (d:Nat):ν (l.length*1) (aj (l++ [d]))=aj l:=by
 rw [BQ,φ,Xxx (by rw [au];exact Δ _),Ξ (by rw [au];exact Δ _)]
theorem zD (l:List Nat) (d:Nat):ζ (ε (l.length*1) (aj (l++ [d]))) .dead= .int .u32 (d:Int):=by
 rw [og,BQ,φ,ο,Xjt (by rw [au];exact Δ _),au,Xwv];rfl
def XV (nn:Bool) (l:List Nat):St:=⟨[(0,.sl (aj l) l.length nn)],[],.dead,[]⟩
theorem Ub {nt:Nat} (i:21≤nt) (g:Bool):∀ (k:Nat) (l:List Nat),l.length=k→k<2^40→az prog ap [] nt (af 0 (ah f162)) (fun _=> .exit 0) (XV g) (XV g) l (eX l):=by
 intro k
 induction k with
 |zero=>
  intro l e _;have:l= []:=Xxh e;subst this;exact .done (MP i (aj []) 0 g (by rfl))
 | succ k ih=>
  intro l e q;rcases Xzv l with rfl|⟨a,d,rfl⟩
  ·simp at e
  ·rw [Xzw] at e ⊢;have f:a.length=k:=by simpa using e
   have b:(a++ [d]).length=k+1:=by simp [f]
   have h:γ .i64 ((((a++ [d]).length:Nat):Int) - 1)=(k:Int):=by
    rw [b,g_ (by omega) (by omega)];omega
   have c:(δ (γ .i64 ((((a++ [d]).length:Nat):Int) - 1)))=a.length:=by rw [h];omega
   have o:decide ((0:Int)≤γ .i64 ((((a++ [d]).length:Nat):Int) - 1))=true:=by rw [h];simp
   have p:decide (γ .i64 ((((a++ [d]).length:Nat):Int) - 1)≤(((a++ [d]).length:Nat):Int))=true:=by rw [h,b];simp;omega
   have m:decide (γ .i64 ((((a++ [d]).length:Nat):Int) - 1)<(((a++ [d]).length:Nat):Int))=true:=by rw [h,b];simp;omega
   have n:lit true (decide ((0:Int)<(((a++ [d]).length:Nat):Int)))=true:=by rw [b];simp [lit]
   have j:chk (.int .u32) (ζ (ε (δ (γ .i64 ((((a++ [d]).length:Nat):Int) - 1))*1) (aj (a++ [d]))) .dead)=true:=by rw [c,zD];rfl
   rw [oM];by_cases hd:d=0
   ·rw [if_pos hd];refine .next ?_ (ih a f (by omega))
    have:=MN i (aj (a++ [d])) (a++ [d]).length g o p (by rw [c,zD];subst hd;rfl) j m n;rw [c,TS,Xjk] at this;exact this
   ·rw [if_neg hd];refine .done (MO i (aj (a++ [d])) (a++ [d]).length g (by rw [c,zD];simp [lit,τ,hd]) j o m n)
theorem O9 (l:List Nat) (a:Bool) (c:l.length<2^40):CO 162 [.sl (aj l) l.length a] (.ret (.sl (aj (eX l)) (eX l).length a)):=pK [0] 0 0 .nil (.l (az.blk (fun nt b=>Ub b a _ l rfl c) (by simp) rfl (aH.of ⟨rfl,trivial⟩) (aH.of ⟨rfl,trivial⟩):aG prog ap [] 21 (.block 0 (.loop (af 0 (ah f162)))) ⟨[(0,.sl (aj l) l.length a),(2,.nilS),(14,.dead)],[],.dead,[]⟩ (.normal) ⟨[(0,.sl (aj (eX l)) (eX l).length a)],[],.dead,[]⟩) .nil)
theorem SS {nt:Nat} (h:38≤nt) (s:List UInt8) (cs:List AV) (L:Nat) (n k:Int) (i:(Xqg (((0+(δ (γ .i64 (Xxg k (4:Int)))))*1)+1) (η cs))=true) (a:(decide ((0:Int)≤(γ .i64 (Xxg k (4:Int)))))=true) (b:(decide ((γ .i64 (Xxg k (4:Int)))<(L:Int)))=true) (f:(decide ((0:Int)≤(γ .i64 ((8:Int)*(Xju k (4:Int))))))=true) (g:(decide ((0:Int)≤(γ .i64 ((γ .i64 ((((η s):Nat):Int) - (1:Int))) - k))))=true) (c:(decide ((γ .i64 ((γ .i64 ((((η s):Nat):Int) - (1:Int))) - k))<(((η s):Nat):Int)))=true) (d:(chk (.int .u32) (ζ (ε ((0+(δ (γ .i64 (Xxg k (4:Int)))))*1) cs) .dead))=true) (e:lit true (decide (k<n))=true):ψ nt f119 ⟨[(0,.str s),(3,.ref 0 0 0 L),(12,ω n),(13,ω k)],[(0,⟨cs,0,false,0,1,true⟩)],.dead,[]⟩ (.normal) ⟨[(0,.str s),(3,.ref 0 0 0 L),(12,ω n),(13,ω (γ .i64 (k+(1:Int))))],[(0,⟨(ν ((0+(δ (γ .i64 (Xxg k (4:Int)))))*1) cs++ [.int .u32 (γ .u32 (Xxi (Xqi (Xqe .u32) (τ (ζ (ε ((0+(δ (γ .i64 (Xxg k (4:Int)))))*1) cs) .dead))|||Xqi (Xqe .u32) (γ .u32 ((γ .u32 ((Φ (Xqm s (δ (γ .i64 ((γ .i64 ((((η s):Nat):Int) - (1:Int))) - k))) 0):Nat):Int))*2^(min (δ (γ .i64 ((8:Int)*(Xju k (4:Int))))) (Xqe .u32)))))))]++ε (((0+(δ (γ .i64 (Xxg k (4:Int)))))*1)+1) cs),0,false,0,1,true⟩)],.dead,[]⟩:=pJ 119 [] 1 1 (.c i (.c a (.c b (.c f (.k 1 g (.c c (.c d (.c a (.c b (.k 1 e .nil)))))))))) (.nil) h
theorem SV {nt:Nat} (a:38≤nt) (s:List UInt8) (cs:List AV) (L:Nat) (n k:Int) (b:lit false (decide (k<n))=true):ψ nt f119 ⟨[(0,.str s),(3,.ref 0 0 0 L),(12,ω n),(13,ω k)],[(0,⟨cs,0,false,0,1,true⟩)],.dead,[]⟩ (.exit 0) ⟨[(0,.str s),(3,.ref 0 0 0 L),(12,ω n),(13,ω k)],[(0,⟨cs,0,false,0,1,true⟩)],.dead,[]⟩:=pJ 119 [] 1 0 (.c b .nil) (.nil) a
def ag (s:List UInt8):Nat:=s.foldl (fun a b=>a*256+b.toNat) 0
theorem G9 (s:List UInt8):∀ a,s.foldl (fun a b=>a*256+b.toNat) a=a*256^s.length+ag s:=by
 induction s with
 |nil=>intro a;simp [ag]
 | cons b r ih=>
  intro a;simp only [Xjn,ag,μ,Xq2];rw [ih,ih (0*256+b.toNat)];have:a*(256^r.length*256)=a*256*256^r.length:=by
   rw [Ψ (256^r.length) 256,Xqn]
  rw [this];simp only [Xxm,Xwb,Xqf];omega
theorem iW (b:UInt8) (r:List UInt8):ag (b::r)=b.toNat*256^r.length+ag r:=by
 show (b::r).foldl _ 0=_;rw [Xjn,G9];simp
theorem vV (s:List UInt8):ag s<256^s.length:=by
 induction s with
 |nil=>simp [ag]
 |cons b r ih=>
  rw [iW,μ,Xq2];have:=b.toNat_lt;have h:b.toNat*256^r.length≤255*256^r.length:=Xqu _ (by omega);omega
def bP (m n:Nat):List Nat:=(Xq6 m).map fun i=>n / 2^(32*i) % 2^32
theorem aQ (m n:Nat):(bP m n).length=m:=by simp [bP]
theorem qY {m n i:Nat} (h:i<m):(bP m n)[i]? =some (n / 2^(32*i) % 2^32):=by simp [bP,h]
theorem WM {m j n b:Nat} (g:n<2^(8*j)) (p:b<256):
  bP m (b*2^(8*j)+n)=(bP m n).set (j / 4) (n / 2^(32*(j / 4)) % 2^32+b*2^(8*(j % 4))):=by
 apply Xjv;intro i;by_cases hi:i<m
 ·rw [qY hi,Xzl];have l:j=4*(j / 4)+j % 4:=by omega
  generalize k:j / 4=q at*
  generalize f:j % 4=r at*
  have o:r<4:=by omega
  by_cases h1:q=i
  ·subst h1;rw [if_pos rfl,if_pos (by rw [aQ];exact hi)];congr 1;have e:8*j=8*r+32*q:=by omega
   rw [e,Xxj,← Xqn,Xxq,Xzx _ _ (Xqr _)];have c:n / 2^(32*q)<2^(8*r):=by
    rw [Xqs (Xqr _),← Xxj,← e];exact g
   have a:2^(8*r)≤2^24:=Xqc (by omega) (by omega);have d:b*2^(8*r)≤255*2^(8*r):=Xqu _ (by omega);rw [υ (by omega),υ (by omega)]
  ·rw [if_neg h1,qY hi];congr 1;rcases Nat.lt_or_gt_of_ne h1 with h|h
   ·
    have e:8*j+8≤32*i:=by omega
    have c:b*2^(8*j)+n<2^(32*i):=by
     have a:2^(8*j+8)≤2^(32*i):=Xqc (by omega) e;have d:b*2^(8*j)≤255*2^(8*j):=Xqu _ (by omega);rw [Xxj] at a;omega
    rw [Xxy c,Xxy (by omega)]
   ·
    have e:8*j=(8*j - 32*i - 32)+32+32*i:=by omega
    rw [e,Xxj,Xxj,← Xqn,← Xqn,Xxq,Xzx _ _ (Xqr _),Xva]
 ·rw [Xq4 (by rw [aQ];omega),Xq4 (by rw [Yqa,aQ];omega)]
theorem FX {x:Int} (h:0≤x) (a:x<2^32):γ .u32 x=x:=by
 show (if (false && decide (x % 2^32≥2^31))=true then x % 2^32 - 2^32 else x % 2^32)=x;simp only [Xji,Xjo,if_false];omega
theorem aeO {a b r:Nat} (d:a<2^(8*r)) (l:b<256) (k:r<4):
  γ .u32 (Xxi (Xqi (Xqe .u32) (a:Int)|||Xqi (Xqe .u32) (γ .u32 ((b:Int)*2^(8*r)))))=((a+b*2^(8*r):Nat):Int):=by
 have i:2^(8*r)≤2^24:=Xqc (by omega) (by omega);have j:b*2^(8*r)≤255*2^(8*r):=Xqu _ (by omega);have e:((b:Int)*2^(8*r))=((b*2^(8*r):Nat):Int):=by simp
 have g:γ .u32 ((b*2^(8*r):Nat):Int)=((b*2^(8*r):Nat):Int):=FX (by omega) (by omega);rw [e,g];have c:∀ x:Nat,x<2^32→(Xqi (Xqe .u32) (x:Int)).toNat=x:=by
  intro x h;show (Xqi 32 (x:Int)).toNat=x;rw [Xke,Xko,υ h]
 rw [Yqb,c a (by omega),c _ (by omega)];have f:a|||b*2^(8*r)=a+b*2^(8*r):=by
  have:=Xwy d b;rw [Xk2] at this;rw [Yqc,← this,Xxq]
 rw [f,FX (by omega) (by omega)]
theorem YA {s:List UInt8} {j:Nat} (d:j<s.length):ag (s.drop (s.length - (j+1)))=(s.getD (s.length - 1 - j) 0).toNat*2^(8*j)+ag (s.drop (s.length - j)):=by
 have a:s.length - (j+1)<s.length:=by omega
 rw [Xxp a,iW];have c:s.length - (j+1)+1=s.length - j:=by omega
 rw [c,Xxz];have b:s.length - (s.length - j)=j:=by omega
 rw [b,ο,show s.length - 1 - j=s.length - (j+1) by omega,ξ a];have:(256:Nat)^j=2^(8*j):=by rw [Xx5]
 rw [this];rfl
def aiR (s:List UInt8) (L:Nat) (j:Nat):St:=⟨[(0,.str s),(3,.ref 0 0 0 L),(12,ω (s.length:Int)),(13,ω (j:Int))],[(0,⟨aj (bP L (ag (s.drop (s.length - j)))),0,false,0,1,true⟩)],.dead,[]⟩
theorem QO (l:List Nat) (i:Nat) (x:Nat) (a:i<l.length):ν i (aj l)++ [Xxo .u32 (x:Int)]++ε (i+1) (aj l)=aj (l.set i x):=by
 unfold aj;rw [← Xwd,← Xzc,Xx9,if_pos a];simp
theorem aab {nt:Nat} (g:38≤nt) (s:List UInt8) (hs:s.length<2^40):∀ (d j:Nat),j+d=s.length→az prog ap [] nt (af 0 (ah f119)) (fun _=> .exit 0) (aiR s ((s.length+3) / 4)) (aiR s ((s.length+3) / 4)) j s.length:=by
 intro d
 induction d with
 |zero=>
  intro j t;have:j=s.length:=by omega
  subst this;exact .done (SV g s _ _ (s.length:Int) (s.length:Int) (by simp [lit]))
 | succ d ih=>
  intro j t;refine .next ?_ (ih (j+1) (by omega))
  have b:j<s.length:=by omega
  have f:j / 4<(s.length+3) / 4:=by omega
  have r:γ .i64 (Xxg (j:Int) 4)=((j / 4:Nat):Int):=by
   rw [Xz3 (by omega),g_ (by omega) (by omega)];omega
  have o:Xju (j:Int) 4=((j % 4:Nat):Int):=by
   rw [Xvb (by omega)];omega
  have k:γ .i64 ((8:Int)*((j % 4:Nat):Int))=((8*(j % 4):Nat):Int):=by
   rw [g_ (by omega) (by omega)];omega
  have q:γ .i64 (γ .i64 ((s.length:Int) - 1) - (j:Int))=((s.length - 1 - j:Nat):Int):=by
   have l:γ .i64 ((s.length:Int) - 1)=((s.length - 1:Nat):Int):=by
    rw [g_ (by omega) (by omega)];omega
   rw [l,g_ (by omega) (by omega)];omega
  have u:(0+δ ((j / 4:Nat):Int))*1=j / 4:=by omega
  have n:γ .i64 ((j:Int)+1)=((j+1:Nat):Int):=by
   rw [g_ (by omega) (by omega)];omega
  have e:ag (s.drop (s.length - j))<2^(8*j):=by
   have:=vV (s.drop (s.length - j));rw [Xxz,show s.length - (s.length - j)=j by omega] at this;rw [Xx5];exact this
  have h:(s.getD (s.length - 1 - j) 0).toNat<256:=(s.getD (s.length - 1 - j) 0).toNat_lt;have hcell:ζ (ε (j / 4) (aj (bP ((s.length+3) / 4) (ag (s.drop (s.length - j)))))) .dead= .int .u32 ((ag (s.drop (s.length - j)) / 2^(32*(j / 4)) % 2^32:Nat):Int):=by
   rw [og,ο];unfold aj;rw [Xq3,qY f];rfl
  have a:ag (s.drop (s.length - j)) / 2^(32*(j / 4)) % 2^32<2^(8*(j % 4)):=by
   have p:ag (s.drop (s.length - j)) / 2^(32*(j / 4))<2^(8*(j % 4)):=by
    rw [Xqs (Xqr _),← Xxj,show 8*(j % 4)+32*(j / 4)=8*j by omega];exact e
   exact χ (Nat.mod_le _ _) p
  have hbody:=SS g s (aj (bP ((s.length+3) / 4) (ag (s.drop (s.length - j))))) ((s.length+3) / 4) (s.length:Int) (j:Int);rw [r,o,k,q,u,n] at hbody;rw [hcell] at hbody;have m:min (δ ((8*(j % 4):Nat):Int)) (Xqe .u32)=8*(j % 4):=by
   show min (δ ((8*(j % 4):Nat):Int)) 32=_;omega
  have i:δ ((s.length - 1 - j:Nat):Int)=s.length - 1 - j:=by omega
  have c:γ .u32 (((s.getD (s.length - 1 - j) 0).toNat:Nat):Int)=(((s.getD (s.length - 1 - j) 0).toNat:Nat):Int):=FX (by omega) (by omega);rw [m,i,c] at hbody;simp only [τ] at hbody;rw [aeO a h (by omega)] at hbody;rw [QO _ _ _ (by rw [aQ];exact f),← WM e h,← YA b] at hbody;exact hbody (by rw [au,aQ];exact Xqt (by omega)) (Yq0 (by omega)) (Yq0 (by omega)) (Yq0 (by omega)) (Yq0 (by omega)) (Yq0 (by omega)) rfl (Yq0 (by omega))
def digs (n:Nat):List Nat:=eX (bP n n)
theorem XK (m n:Nat):ν (m*1) (aj (bP m n))=aj (bP m n):=by
 rw [φ,Ξ (by rw [au,aQ];exact Δ _)]
theorem uN {n:Nat}:∀ (d m:Nat),n<2^(32*m)→eX (bP (m+d) n)=eX (bP m n)
 |0,m,_=>rfl
 | d+1,m,h=>by
  have a:n / 2^(32*(m+d)) % 2^32=0:=by
   have:n<2^(32*(m+d)):=Xqa h (Xqc (by omega) (by omega));rw [Xxy this]
  have e:bP (m+(d+1)) n=bP (m+d) n++ [n / 2^(32*(m+d)) % 2^32]:=by
   unfold bP;rw [show m+(d+1)=(m+d)+1 by omega,Xwe,Xx0];rfl
  rw [e,oM,if_pos a];exact uN d m h
theorem lS (n:Nat):n<2^(32*n):=by
 have a:n<2^n:=Nat.lt_two_pow_self;exact Xqa a (Xqc (by omega) (by omega))
theorem CP {m n:Nat} (h:n<2^(32*m)):eX (bP m n)=digs n:=by
 unfold digs;rcases Yxc m n with hm|hm
 ·have:=uN (n - m) m h;rw [show m+(n - m)=n by omega] at this;exact this.symm
 ·have:=uN (m - n) n (lS n);rw [show n+(m - n)=m by omega] at this;exact this
theorem AX (s:List UInt8):ag s<2^(32*((s.length+3) / 4)):=by
 have h:=vV s;have e:(256:Nat)^s.length=2^(8*s.length):=by rw [Xx5]
 rw [e] at h;exact Xqa h (Xqc (by omega) (by omega))
theorem XX (s:List UInt8) (hs:s.length<2^40):CO 162 [.sl (aj (bP ((s.length+3) / 4) (ag s))) ((s.length+3) / 4) true] (.ret (.sl (aj (digs (ag s))) (digs (ag s)).length true)):=by
 have h:=O9 (bP ((s.length+3) / 4) (ag s)) true (by rw [aQ];omega);rw [aQ,CP (AX s)] at h;exact h
theorem Jf (s:List UInt8) (hs:s.length<2^40):γ .i64 (Xxg (γ .i64 ((γ .i64 ((s.length:Int)+(4:Int))) - (1:Int))) (4:Int))=(((s.length+3) / 4:Nat):Int):=by
 rw [g_ (x:=(s.length:Int)+4) (by omega) (by omega),g_ (x:=(s.length:Int)+4 - 1) (by omega) (by omega),Xz3 (by omega),g_ (by omega) (by omega)];omega
theorem QG (m:Nat):gz m [Xxo .u32 0]=aj (bP m 0):=by
 unfold gz aj bP
 induction m with
 |zero=>rfl
 |succ m ih=>
  rw [Xj1,Xzo,ih,Xwe,Xx0,Xx0];simp
theorem xI (n:Nat):δ (n:Int)=n:=by omega
theorem U9 (s:List UInt8):ag (s.drop (s.length - 0))=0:=by simp [ag]
theorem WC (s:List UInt8) (hs:s.length<2^40):gz (δ (γ .i64 (Xxg (γ .i64 ((γ .i64 ((s.length:Int)+(4:Int))) - (1:Int))) (4:Int)))) [Xxo .u32 0]=aj (bP ((s.length+3) / 4) (ag (s.drop (s.length - 0)))):=by
 rw [Jf s hs,xI,QG,U9]
theorem RV (s:List UInt8):ag (s.drop (s.length - s.length))=ag s:=by simp
theorem amG (s:List UInt8) (hs:s.length<2^40) (d:(decide ((0:Int)≤(γ .i64 (Xxg (γ .i64 ((γ .i64 ((((η s):Nat):Int)+(4:Int))) - (1:Int))) (4:Int)))))=true) (a:(decide ((γ .i64 (Xxg (γ .i64 ((γ .i64 ((((η s):Nat):Int)+(4:Int))) - (1:Int))) (4:Int)))=(γ .i64 (Xxg (γ .i64 ((γ .i64 ((((η s):Nat):Int)+(4:Int))) - (1:Int))) (4:Int)))))=true) (b:(decide ((γ .i64 (Xxg (γ .i64 ((γ .i64 ((((η s):Nat):Int)+(4:Int))) - (1:Int))) (4:Int)))≤(1099511627776:Int)))=true):CO 119 [.str s] (.ret (.sl (aj (digs (ag s))) (digs (ag s)).length true)):=pK [0] 0 0 (.c d (.c a (.c b (.n 1 .nil)))) (.c (by rw [XK];exact XX s hs:CO 162 [.sl (ν (((s.length+3) / 4)*1) (aj (bP ((s.length+3) / 4) (ag s)))) ((s.length+3) / 4) true] (.ret (.sl (aj (digs (ag s))) (digs (ag s)).length true))) (.l (by rw [WC s hs,Jf s hs,xI,← RV s];exact az.blk (fun nt c=>aab c s hs s.length 0 (by omega)) (by simp) rfl (aH.of ⟨rfl,rfl,rfl,rfl,trivial⟩) (aH.of ⟨rfl,trivial⟩):aG prog ap [] 38 (.block 0 (.loop (af 0 (ah f119)))) ⟨[(0,.str s),(2,.nilS),(3,.ref 0 0 0 (δ (γ .i64 (Xxg (γ .i64 ((γ .i64 ((((η s):Nat):Int)+(4:Int))) - (1:Int))) (4:Int))))),(4,.dead),(12,ω (((η s):Nat):Int)),(13,ω 0),(14,.dead)],[(0,⟨(gz (δ (γ .i64 (Xxg (γ .i64 ((γ .i64 ((((η s):Nat):Int)+(4:Int))) - (1:Int))) (4:Int)))) [.int .u32 0]),0,false,0,1,true⟩)],.dead,[]⟩ (.normal) ⟨[(3,.ref 0 0 0 ((s.length+3) / 4))],[(0,⟨(aj (bP ((s.length+3) / 4) (ag s))),0,false,0,1,true⟩)],.dead,[]⟩) .nil))
theorem uC (s:List UInt8) (hs:s.length<2^40):CO 119 [.str s] (.ret (.sl (aj (digs (ag s))) (digs (ag s)).length true)):=
 amG s hs (by rw [Jf s hs];exact Yq0 (by omega)) (Yq0 rfl) (by rw [Jf s hs];exact Yq0 (by omega))
theorem ND {nt:Nat} (l:43≤nt) (b a:List AV) (n c:Nat) (e m:Bool) (k:Int) (o:lit true (decide ((τ (ζ (ε ((δ k)*1) b) .dead))<(τ (ζ (ε ((δ k)*1) a) .dead))))=true) (h:(chk (.int .u32) (ζ (ε ((δ k)*1) a) .dead))=true) (d:(decide ((0:Int)≤k))=true) (i:(decide (k<(c:Int)))=true) (j:(chk (.int .u32) (ζ (ε ((δ k)*1) b) .dead))=true) (f:(decide (k<(n:Int)))=true) (g:lit true (decide ((0:Int)≤k))=true):ψ nt f210 ⟨[(0,.sl b n e),(1,.sl a c m),(5,ω k)],[],.dead,[]⟩ (.ret) ⟨[(4,ω (-1))],[],.dead,[]⟩:=pJ 210 [] 2 3 (.c o (.c h (.c d (.c i (.c j (.c d (.c f (.c g .nil)))))))) (.nil) l
theorem NE {nt:Nat} (m:43≤nt) (c a:List AV) (n d:Nat) (i o:Bool) (k:Int) (p:lit true (decide ((τ (ζ (ε ((δ k)*1) a) .dead))<(τ (ζ (ε ((δ k)*1) c) .dead))))=true) (f:(chk (.int .u32) (ζ (ε ((δ k)*1) a) .dead))=true) (b:(decide ((0:Int)≤k))=true) (g:(decide (k<(d:Int)))=true) (h:(chk (.int .u32) (ζ (ε ((δ k)*1) c) .dead))=true) (e:(decide (k<(n:Int)))=true) (j:lit false (decide ((τ (ζ (ε ((δ k)*1) c) .dead))<(τ (ζ (ε ((δ k)*1) a) .dead))))=true) (l:lit true (decide ((0:Int)≤k))=true):ψ nt f210 ⟨[(0,.sl c n i),(1,.sl a d o),(5,ω k)],[],.dead,[]⟩ (.ret) ⟨[(4,ω 1)],[],.dead,[]⟩:=pJ 210 [] 3 5 (.c p (.c f (.c b (.c g (.c h (.c b (.c e (.c j (.c f (.c b (.c g (.c h (.c b (.c e (.c l .nil))))))))))))))) (.nil) m
theorem NF {nt:Nat} (o:43≤nt) (b a:List AV) (n d:Nat) (e j:Bool) (k:Int) (p:lit false (decide ((τ (ζ (ε ((δ k)*1) a) .dead))<(τ (ζ (ε ((δ k)*1) b) .dead))))=true) (g:(chk (.int .u32) (ζ (ε ((δ k)*1) a) .dead))=true) (c:(decide ((0:Int)≤k))=true) (h:(decide (k<(d:Int)))=true) (i:(chk (.int .u32) (ζ (ε ((δ k)*1) b) .dead))=true) (f:(decide (k<(n:Int)))=true) (l:lit false (decide ((τ (ζ (ε ((δ k)*1) b) .dead))<(τ (ζ (ε ((δ k)*1) a) .dead))))=true) (m:lit true (decide ((0:Int)≤k))=true):ψ nt f210 ⟨[(0,.sl b n e),(1,.sl a d j),(5,ω k)],[],.dead,[]⟩ (.normal) ⟨[(0,.sl b n e),(1,.sl a d j),(5,ω (γ .i64 (k - (1:Int))))],[],.dead,[]⟩:=pJ 210 [] 3 1 (.c p (.c g (.c c (.c h (.c i (.c c (.c f (.c l (.c g (.c c (.c h (.c i (.c c (.c f (.c m .nil))))))))))))))) (.nil) o
theorem NG {nt:Nat} (d:43≤nt) (f c:List AV) (n a:Nat) (b e:Bool) (k:Int) (g:lit false (decide ((0:Int)≤k))=true):ψ nt f210 ⟨[(0,.sl f n b),(1,.sl c a e),(5,ω k)],[],.dead,[]⟩ (.exit 0) ⟨[],[],.dead,[]⟩:=pJ 210 [] 1 0 (.c g .nil) (.nil) d
def sS (a b:List Nat):Nat→Int
 |0=>0
 |k+1=>if a.getD k 0<b.getD k 0 then -1 else if b.getD k 0<a.getD k 0 then 1 else sS a b k
def ag8 (a b:List Nat) (na nb:Bool) (k:Nat):St:=⟨[(0,.sl (aj a) a.length na),(1,.sl (aj b) b.length nb),(5,ω ((k:Int) - 1))],[],.dead,[]⟩
def adq (r:Int):St:=⟨if r=0 then [] else [(4,ω r)],[],.dead,[]⟩
def UW (r:Int):bG:=if r=0 then .exit 0 else .ret
theorem JG {l:List Nat} {k:Nat} (h:k<l.length):ζ (ε (k*1) (aj l)) .dead= .int .u32 ((l.getD k 0:Nat):Int):=by
 rw [og,φ,ο];unfold aj;rw [Xq3,ο,ξ h];rfl
theorem DR {nt:Nat} (f:43≤nt) (a b:List Nat) (e c:Bool) (g:a.length=b.length) (r:a.length<2^40):∀ (k:Nat),k≤a.length→az prog ap [] nt (af 0 (ah f210)) UW (ag8 a b e c) adq k (sS a b k)
 |0,_=>by
  refine .done ?_;exact NG f (aj a) (aj b) a.length b.length e c (((0:Nat):Int) - 1) (by decide)
 | k +1,hk=>by
  have i:(((k+1:Nat):Int) - 1)=(k:Int):=by omega
  have t:δ (k:Int)=k:=by omega
  have s:=JG (l:=a) (k:=k) (by omega);have u:=JG (l:=b) (k:=k) (by omega);have d:decide ((0:Int)≤(k:Int))=true:=Yq0 (by omega);have o:decide ((k:Int)<(a.length:Int))=true:=Yq0 (by omega);have h:decide ((k:Int)<(b.length:Int))=true:=Yq0 (by omega);have j:=ND f (aj a) (aj b) a.length b.length e c (k:Int);have n:=NE f (aj a) (aj b) a.length b.length e c (k:Int);have m:=NF f (aj a) (aj b) a.length b.length e c (k:Int);rw [t,s,u] at j n m;simp only [τ] at j n m;simp only [sS];by_cases h1:a.getD k 0<b.getD k 0
  ·rw [if_pos h1];refine .done ?_;have:=j (by simp only [lit];exact Yq0 (by omega)) rfl d h rfl o (by simp only [lit];exact d);show ak _ _ _ _ _ ⟨[_,_,(5,ω (((k+1:Nat):Int) - 1))],[],.dead,[]⟩ _ _;rw [i];exact this
  ·rw [if_neg h1];have p:lit false (decide (((a.getD k 0:Nat):Int)<((b.getD k 0:Nat):Int)))=true:=by
    simp only [lit,Xqo];exact Yq1 (by omega)
   by_cases h2:b.getD k 0<a.getD k 0
   ·rw [if_pos h2];refine .done ?_;have:=n (by simp only [lit];exact Yq0 (by omega)) rfl d h rfl o p (by simp only [lit];exact d);show ak _ _ _ _ _ ⟨[_,_,(5,ω (((k+1:Nat):Int) - 1))],[],.dead,[]⟩ _ _;rw [i];exact this
   ·rw [if_neg h2];refine .next ?_ (DR f a b e c g r k (by omega))
    have q:lit false (decide (((b.getD k 0:Nat):Int)<((a.getD k 0:Nat):Int)))=true:=by
     simp only [lit,Xqo];exact Yq1 (by omega)
    have:=m q rfl d h rfl o p (by simp only [lit];exact d);rw [g_ (by omega) (by omega)] at this;show ak _ _ _ _ _ ⟨[_,_,(5,ω (((k+1:Nat):Int) - 1))],[],.dead,[]⟩ _ _;rw [i];exact this
theorem KT {n:Nat} (h:n<2^40):γ .i64 ((n:Int) - (1:Int))=(n:Int) - 1:=g_ (by omega) (by omega)
theorem adn (a b:List Nat) (c e:Bool) (f:lit true (decide ((a.length:Int)<(b.length:Int)))=true) (d:lit true (!((a.length:Int)==(b.length:Int)))=true):CO 210 [.sl (aj a) a.length c,.sl (aj b) b.length e] (.ret (ω (-1))):=pK [0] 2 3 (.c f (.c d .nil)) (.nil)
theorem ado (a b:List Nat) (c e:Bool) (f:lit false (decide ((a.length:Int)<(b.length:Int)))=true) (d:lit true (!((a.length:Int)==(b.length:Int)))=true):CO 210 [.sl (aj a) a.length c,.sl (aj b) b.length e] (.ret (ω 1)):=pK [0] 2 1 (.c f (.c d .nil)) (.nil)
theorem adp (a b:List Nat) (c e:Bool) (g:a.length<2^40) (d:a.length=b.length) (f:sS a b a.length=0) (h:lit false (!((a.length:Int)==(b.length:Int)))=true):CO 210 [.sl (aj a) a.length c,.sl (aj b) b.length e] (.ret (ω 0)):=pK [0] 1 0 (.c h .nil) (.l (by exact az.blk (fun nt i=>DR i a b c e d g _ (Δ _)) (by simp [UW,f]) (by simp [UW,f,pI]) (aH.of ⟨rfl,rfl,congrArg _ (KT g),trivial⟩) (aH.of trivial):aG prog ap [] 43 (.block 0 (.loop (af 0 (ah f210)))) ⟨[(0,.sl (aj a) a.length c),(1,.sl (aj b) b.length e),(4,ω 0),(5,ω (γ .i64 ((a.length:Int) - (1:Int)))),(10,.bool (!((a.length:Int)==(b.length:Int)))),(15,.dead),(20,.dead),(23,.dead),(33,.dead)],[],.dead,[]⟩ (.normal) ⟨[],[],.dead,[]⟩) .nil)
theorem adr (a b:List Nat) (c f:Bool) (g:a.length<2^40) (e:a.length=b.length) (d:¬ sS a b a.length=0) (h:lit false (!((a.length:Int)==(b.length:Int)))=true):CO 210 [.sl (aj a) a.length c,.sl (aj b) b.length f] (.ret (ω (sS a b a.length))):=pK [0] 1 0 (.c h .nil) (.l (by exact az.blk (fun nt i=>DR i a b c f e g _ (Δ _)) (by simp [UW,d]) (by simp [UW,d,pI]) (aH.of ⟨rfl,rfl,congrArg _ (KT g),trivial⟩) (aH.of ⟨by rw [if_neg d];rfl,trivial⟩):aG prog ap [] 43 (.block 0 (.loop (af 0 (ah f210)))) ⟨[(0,.sl (aj a) a.length c),(1,.sl (aj b) b.length f),(4,ω 0),(5,ω (γ .i64 ((a.length:Int) - (1:Int)))),(10,.bool (!((a.length:Int)==(b.length:Int)))),(15,.dead),(20,.dead),(23,.dead),(33,.dead)],[],.dead,[]⟩ (.ret) ⟨[(4,ω (sS a b a.length))],[],.dead,[]⟩) .nil)
def YE (a b:List Nat):Int:=if a.length<b.length then -1 else if b.length<a.length then 1 else sS a b a.length
theorem wV (a b:List Nat) (d e:Bool) (g:a.length<2^40):CO 210 [.sl (aj a) a.length d,.sl (aj b) b.length e] (.ret (ω (YE a b))):=by
 unfold YE;by_cases h1:a.length<b.length
 ·rw [if_pos h1];exact adn a b d e (by simp only [lit];exact Yq0 (by omega)) (by simp [lit];omega)
 ·rw [if_neg h1];by_cases h2:b.length<a.length
  ·rw [if_pos h2];exact ado a b d e (by simp only [lit,Xqo];exact Yq1 (by omega)) (by simp [lit];omega)
  ·rw [if_neg h2];have c:a.length=b.length:=by omega
   have f:lit false (!((a.length:Int)==(b.length:Int)))=true:=by simp [lit,c]
   by_cases hz:sS a b a.length=0
   ·rw [hz];exact adp a b d e g c hz f
   ·exact adr a b d e g c hz f
theorem uD (m n:Nat):bP (m+1) n=bP m n++ [n / 2^(32*m) % 2^32]:=by
 unfold bP;rw [Xwe,Xx0];rfl
theorem yg (n:Nat):∀ (k:Nat),(digs n).getD k 0=n / 2^(32*k) % 2^32:=by
 have key:∀ (m k:Nat),(eX (bP m n)).getD k 0=if k<m then n / 2^(32*k) % 2^32 else 0:=by
  intro m
  induction m with
  |zero=>intro k;simp [bP,eX]
  | succ m ih=>
   intro k;rw [uD,oM];by_cases hd:n / 2^(32*m) % 2^32=0
   ·rw [if_pos hd,ih];by_cases hk:k<m
    ·rw [if_pos hk,if_pos (by omega)]
    ·rw [if_neg hk];by_cases hkm:k=m
     ·subst hkm;rw [if_pos (by omega),hd]
     ·rw [if_neg (by omega)]
   ·rw [if_neg hd,ο];by_cases hk:k<m
    ·rw [Xxd (by rw [aQ];exact hk),qY hk,if_pos (by omega)];rfl
    ·by_cases hkm:k=m
     ·subst hkm;rw [Xjt (by rw [aQ];exact Δ _),aQ,Xwv,if_pos (by omega)];rfl
     ·rw [Xq4 (by rw [θ,aQ];simp;omega),if_neg (by omega)];rfl
 intro k;unfold digs;rw [key];by_cases hk:k<n
 ·rw [if_pos hk]
 ·rw [if_neg hk];have:n<2^(32*k):=Xqa (lS n) (Xqc (by omega) (by omega));rw [Xxy this]
theorem XU (l:List Nat):(eX l).length≤l.length:=by
 unfold eX;rw [Xzp];have:=(Xzs (· ==0) (l:=l.reverse)).length_le;simpa using this
theorem jI {n m:Nat} (h:n<2^(32*m)):(digs n).length≤m:=by
 rw [← CP h];have:=XU (bP m n);rwa [aQ] at this
theorem jW {n m:Nat} (h:(digs n).length≤m):n<2^(32*m):=by
 have key:∀ d,n<2^(32*(m+d))→n<2^(32*m):=by
  intro d
  induction d with
  |zero=>exact fun h=>h
  | succ d ih=>
   intro b;refine ih ?_;have c:=yg n (m+d);rw [ο,Xq4 (by omega)] at c;have e:n / 2^(32*(m+d))<2^32:=by
    rw [Xqs (Xqr _),← Xxj,show 32+32*(m+d)=32*(m+(d+1)) by omega];exact b
   have a:n / 2^(32*(m+d)) % 2^32=0:=c.symm;rw [υ e] at a;rcases Nat.div_eq_zero_iff.1 a with h2|h2
   ·have:=Xqr (32*(m+d));omega
   ·exact h2
 refine key n ?_;exact Xqa (lS n) (Xqc (by omega) (by omega))
def lZ (x y:Nat):Int:=if x<y then -1 else if y<x then 1 else 0
theorem zZ (x k:Nat):x % 2^(32*(k+1))=x / 2^(32*k) % 2^32*2^(32*k)+x % 2^(32*k):=by
 rw [show 32*(k+1)=32*k+32 by omega,Xxj,Nat.mod_mul];rw [Xxq,Ψ (2^(32*k))]
theorem DL (x y:Nat):∀ k,sS (digs x) (digs y) k=lZ (x % 2^(32*k)) (y % 2^(32*k))
 |0=>by simp [sS,lZ,Yqd]
 | k +1=>by
  simp only [sS,yg];rw [DL x y k,zZ x k,zZ y k];have g:=Xqv x (Xqr (32*k));have f:=Xqv y (Xqr (32*k));generalize x / 2^(32*k) % 2^32=a;generalize y / 2^(32*k) % 2^32=b;generalize x % 2^(32*k)=c at g ⊢;generalize y % 2^(32*k)=d at f ⊢;generalize 2^(32*k)=M at g f ⊢;unfold lZ;by_cases h1:a<b
  ·rw [if_pos h1];have e:a*M+M≤b*M:=by
    have:=Xqu M (show a+1≤b from h1);rw [Xxm,Xzy] at this;exact this
   rw [if_pos (by omega)]
  ·rw [if_neg h1];by_cases e:b<a
   ·rw [if_pos e];have h:b*M+M≤a*M:=by
     have:=Xqu M (show b+1≤a from e);rw [Xxm,Xzy] at this;exact this
    rw [if_neg (by omega),if_pos (by omega)]
   ·rw [if_neg e];have:a=b:=by omega
    subst this;simp only [Nat.add_lt_add_iff_left]
theorem zB (x y:Nat):YE (digs x) (digs y)=lZ x y:=by
 have d:=jW (n:=x) (Δ _);have c:=jW (n:=y) (Δ _);unfold YE;by_cases h1:(digs x).length<(digs y).length
 ·rw [if_pos h1];have a:¬ y<2^(32*(digs x).length):=fun h=>by have:=jI h;omega
  unfold lZ;rw [if_pos (by omega)]
 ·rw [if_neg h1];by_cases a:(digs y).length<(digs x).length
  ·rw [if_pos a];have e:¬ x<2^(32*(digs y).length):=fun h=>by have:=jI h;omega
   unfold lZ;rw [if_neg (by omega),if_pos (by omega)]
  ·rw [if_neg a,DL];have b:(digs x).length=(digs y).length:=by omega
   rw [υ d,υ (by rw [b];exact c)]
theorem DX {s:List UInt8} (hs:s.length<2^40):(digs (ag s)).length<2^40:=by
 have:=jI (AX s);omega
theorem agy (s t:List UInt8) (hs:s.length<2^40) (a:t.length<2^40):CO 189 [.str s,.str t] (.ret (ω (lZ (ag s) (ag t)))):=pK [] 0 0 .nil (.c (by rw [← zB];exact wV _ _ _ _ (DX hs):CO 210 [.sl (aj (digs (ag s))) (digs (ag s)).length true,.sl (aj (digs (ag t))) (digs (ag t)).length true] (.ret (ω (lZ (ag s) (ag t))))) (.c (uC t a) (.c (uC s hs) .nil)))
theorem Wl (s:List UInt8) (a:lit true (s== [])=true):CO 159 [.str s] (.ret (.bool true)):=pK [] 1 1 (.c a .nil) (.nil)
theorem Wn (s:List UInt8) (b:(decide ((0:Int)<(((η s):Nat):Int)))=true) (a:lit false (s== [])=true):CO 159 [.str s] (.ret (.bool (!(((Φ (Xqm s 0 0):Nat):Int)==(0:Int))))):=pK [] 1 0 (.k 1 b (.c a .nil)) (.nil)
theorem Ov {nt:Nat} (j:37≤nt) (a cs:List AV) (L M:Nat) (b:Bool) (n k:Int) (l:(Xqg (((0+(δ (γ .i64 ((γ .i64 ((M:Int) - (1:Int))) - k))))*1)+1) (η cs))=true) (f:(decide ((0:Int)≤(γ .i64 ((γ .i64 ((M:Int) - (1:Int))) - k))))=true) (i:(decide ((γ .i64 ((γ .i64 ((M:Int) - (1:Int))) - k))<(M:Int)))=true) (g:(decide ((0:Int)≤(γ .i64 ((8:Int)*(Xju k (4:Int))))))=true) (h:(chk (.int .u32) (ζ (ε ((δ (γ .i64 (Xxg k (4:Int))))*1) a) .dead))=true) (c:(decide ((0:Int)≤(γ .i64 (Xxg k (4:Int)))))=true) (d:(decide ((γ .i64 (Xxg k (4:Int)))<(L:Int)))=true) (e:lit true (decide (k<n))=true):ψ nt f117 ⟨[(0,.sl a L b),(3,.ref 0 0 0 M),(12,ω n),(13,ω k)],[(0,⟨cs,0,false,0,1,true⟩)],.dead,[]⟩ (.normal) ⟨[(0,.sl a L b),(3,.ref 0 0 0 M),(12,ω n),(13,ω (γ .i64 (k+(1:Int))))],[(0,⟨(ν ((0+(δ (γ .i64 ((γ .i64 ((M:Int) - (1:Int))) - k))))*1) cs++ [.int .u8 (γ .u8 (Xqw (τ (ζ (ε ((δ (γ .i64 (Xxg k (4:Int))))*1) a) .dead)) (2^(min (δ (γ .i64 ((8:Int)*(Xju k (4:Int))))) (Xqe .u32)))))]++ε (((0+(δ (γ .i64 ((γ .i64 ((M:Int) - (1:Int))) - k))))*1)+1) cs),0,false,0,1,true⟩)],.dead,[]⟩:=pJ 117 [] 1 1 (.c l (.c f (.c i (.c g (.k 1 h (.c c (.c d (.k 1 e .nil)))))))) (.nil) j
theorem Ox {nt:Nat} (a:37≤nt) (c cs:List AV) (L M:Nat) (b:Bool) (n k:Int) (d:lit false (decide (k<n))=true):ψ nt f117 ⟨[(0,.sl c L b),(3,.ref 0 0 0 M),(12,ω n),(13,ω k)],[(0,⟨cs,0,false,0,1,true⟩)],.dead,[]⟩ (.exit 0) ⟨[(3,.ref 0 0 0 M)],[(0,⟨cs,0,false,0,1,true⟩)],.dead,[]⟩:=pJ 117 [] 1 0 (.c d .nil) (.nil) a
theorem O4 {nt:Nat} (f:17≤nt) (s:List UInt8) (c:Int) (g:(decide ((1:Int)≤(((η s):Nat):Int)))=true) (a:(decide ((((η s):Nat):Int)≤(((η s):Nat):Int)))=true) (e:lit true (((Φ (Xqm s 0 0):Nat):Int)==c)=true) (b:(decide ((0:Int)<(((η s):Nat):Int)))=true) (d:lit true (decide ((0:Int)<(((η s):Nat):Int)))=true):ψ nt f192 ⟨[(0,.str s),(1,.int .u8 c)],[],.dead,[]⟩ (.normal) ⟨[(0,.str (ε 1 (ν (δ (((η s):Nat):Int)) s))),(1,.int .u8 c)],[],.dead,[]⟩:=pJ 192 [] 2 3 (.k 1 g (.c a (.c e (.k 1 b (.c d .nil))))) (.nil) f
theorem O5 {nt:Nat} (d:17≤nt) (s:List UInt8) (c:Int) (e:lit false (((Φ (Xqm s 0 0):Nat):Int)==c)=true) (a:(decide ((0:Int)<(((η s):Nat):Int)))=true) (b:lit true (decide ((0:Int)<(((η s):Nat):Int)))=true):ψ nt f192 ⟨[(0,.str s),(1,.int .u8 c)],[],.dead,[]⟩ (.exit 0) ⟨[(0,.str s)],[],.dead,[]⟩:=pJ 192 [] 2 1 (.c e (.k 1 a (.c b .nil))) (.nil) d
theorem O6 {nt:Nat} (a:17≤nt) (s:List UInt8) (c:Int) (b:lit false (decide ((0:Int)<(((η s):Nat):Int)))=true):ψ nt f192 ⟨[(0,.str s),(1,.int .u8 c)],[],.dead,[]⟩ (.exit 0) ⟨[(0,.str s)],[],.dead,[]⟩:=pJ 192 [] 2 0 (.k 1 b .nil) (.nil) a
def am9 (c:UInt8) (s:List UInt8):St:=⟨[(0,.str s),(1,.int .u8 (c.toNat:Int))],[],.dead,[]⟩
def aly (s:List UInt8):St:=⟨[(0,.str s)],[],.dead,[]⟩
theorem ML {nt:Nat} (d:17≤nt) (c:UInt8):∀ (s:List UInt8),az prog ap [] nt (af 0 (ah f192)) (fun _=> .exit 0) (am9 c) aly s (s.dropWhile (· ==c))
 | []=> .done (O6 d [] (c.toNat:Int) (by simp [lit]))
 | b::r=>by
  have a:decide ((0:Int)<(((b::r).length:Nat):Int))=true:=Yq0 (by simp only [μ];omega);have e:decide ((1:Int)≤(((b::r).length:Nat):Int))=true:=Yq0 (by simp only [μ];omega);have g:decide ((((b::r).length:Nat):Int)≤(((b::r).length:Nat):Int))=true:=Yq0 (Int.le_refl _);rw [Xxv];by_cases hb:b=c
  ·subst hb;rw [if_pos (by simp)];refine .next ?_ (ML d b r)
   have:=O4 d (b::r) (b.toNat:Int) e g (by simp [lit]) a (by simp only [lit];exact a);rw [show δ (((b::r).length:Nat):Int)=(b::r).length by omega,Xqx] at this;exact this
  ·rw [if_neg (by simpa using hb)];refine .done ?_;have f:¬ (b.toNat:Int)=(c.toNat:Int):=fun h=>hb (UInt8.toNat_inj.1 (by omega))
   exact O5 d (b::r) (c.toNat:Int) (by simp [lit];omega) a (by simp only [lit];exact a)
def oP (l:List Nat):List AV:=l.map fun (d:Nat)=>Xxo .u8 (d:Int)
def oV (m k x:Nat):List Nat:=(Xq6 m).map fun i=>if m - k≤i then x / 2^(8*(m - 1 - i)) % 256 else 0
theorem jl (m k x:Nat):(oV m k x).length=m:=by simp [oV]
theorem Ll {m k x i:Nat} (h:i<m):(oV m k x)[i]? =some (if m - k≤i then x / 2^(8*(m - 1 - i)) % 256 else 0):=by simp [oV,h]
theorem Wv {m k x:Nat} (a:k<m):oV m (k+1) x=(oV m k x).set (m - 1 - k) (x / 2^(8*k) % 256):=by
 apply Xjv;intro i;by_cases hi:i<m
 ·rw [Ll hi,Xzl];by_cases h:m - 1 - k=i
  ·rw [if_pos (show m - (k+1)≤i by omega),if_pos h,if_pos (by rw [jl];omega),show m - 1 - i=k by omega]
  ·rw [if_neg h,Ll hi];by_cases h2:m - k≤i
   ·rw [if_pos h2,if_pos (by omega)]
   ·rw [if_neg h2,if_neg (by omega)]
 ·rw [Xq4 (by rw [jl];omega),Xq4 (by rw [Yqa,jl];omega)]
theorem ay (l:List Nat):(oP l).length=l.length:=by simp [oP]
theorem af0 (l:List Nat) (i:Nat) (x:Nat) (a:i<l.length):ν i (oP l)++ [Xxo .u8 (x:Int)]++ε (i+1) (oP l)=oP (l.set i x):=by
 unfold oP;rw [← Xwd,← Xzc,Xx9,if_pos a];simp
theorem ab3 (x:Nat):γ .u8 (x:Int)=((x % 256:Nat):Int):=by
 show (if (false && decide ((x:Int) % 2^8≥2^7))=true then (x:Int) % 2^8 - 2^8 else (x:Int) % 2^8)=_;simp only [Xji,Xjo,if_false];omega
theorem YB (x k:Nat):x / 2^(32*(k / 4)) % 2^32 / 2^(8*(k % 4)) % 256=x / 2^(8*k) % 256:=by
 have b:8*k=32*(k / 4)+8*(k % 4):=by omega
 rw [b,Xxj,← Xxr];generalize x / 2^(32*(k / 4))=y;have a:k % 4<4:=by omega
 generalize k % 4=r at a
 match r,a with
 |0,_=>omega
 |1,_=>omega
 |2,_=>omega
 |3,_=>omega
def aiI (xs:List AV) (L:Nat) (nn:Bool) (x M k:Nat):St:=⟨[(0,.sl xs L nn),(3,.ref 0 0 0 M),(12,ω (M:Int)),(13,ω (k:Int))],[(0,⟨oP (oV M k x),0,false,0,1,true⟩)],.dead,[]⟩
def aeJ (x M k:Nat):St:=⟨[(3,.ref 0 0 0 M)],[(0,⟨oP (oV M k x),0,false,0,1,true⟩)],.dead,[]⟩
theorem Wu {nt:Nat} (e:37≤nt) (x:Nat) (c:Bool) (t:(digs x).length<2^40):∀ (d k:Nat),k+d=4*(digs x).length→az prog ap [] nt (af 0 (ah f117)) (fun _=> .exit 0) (aiI (aj (digs x)) (digs x).length c x (4*(digs x).length)) (aeJ x (4*(digs x).length)) k (4*(digs x).length):=by
 intro d
 induction d with
 |zero=>
  intro k f;have:k=4*(digs x).length:=by omega
  subst this;exact .done (Ox e _ _ _ _ c _ _ (by simp [lit]))
 | succ d ih=>
  intro k f;refine .next ?_ (ih (k+1) (by omega))
  generalize s:4*(digs x).length=M at*
  have a:k<M:=by omega
  have m:k / 4<(digs x).length:=by omega
  have p:γ .i64 (Xxg (k:Int) 4)=((k / 4:Nat):Int):=by
   rw [Xz3 (by omega),g_ (by omega) (by omega)];omega
  have n:Xju (k:Int) 4=((k % 4:Nat):Int):=by
   rw [Xvb (by omega)];omega
  have h:γ .i64 ((8:Int)*((k % 4:Nat):Int))=((8*(k % 4):Nat):Int):=by
   rw [g_ (by omega) (by omega)];omega
  have o:γ .i64 (γ .i64 ((M:Int) - 1) - (k:Int))=((M - 1 - k:Nat):Int):=by
   have i:γ .i64 ((M:Int) - 1)=((M - 1:Nat):Int):=by
    rw [g_ (by omega) (by omega)];omega
   rw [i,g_ (by omega) (by omega)];omega
  have r:(0+δ ((M - 1 - k:Nat):Int))*1=M - 1 - k:=by omega
  have q:γ .i64 ((k:Int)+1)=((k+1:Nat):Int):=by
   rw [g_ (by omega) (by omega)];omega
  have j:min (δ ((8*(k % 4):Nat):Int)) (Xqe .u32)=8*(k % 4):=by
   show min (δ ((8*(k % 4):Nat):Int)) 32=_;omega
  have g:δ ((k / 4:Nat):Int)=k / 4:=by omega
  have hcell:=JG (l:=digs x) m;rw [yg] at hcell;have hbody:=Ov e (aj (digs x)) (oP (oV M k x)) (digs x).length M c (M:Int) (k:Int);rw [p,n,h,o,r,q,j,g,hcell] at hbody;simp only [τ] at hbody;have b:Xqw ((x / 2^(32*(k / 4)) % 2^32:Nat):Int) (2^(8*(k % 4)))=((x / 2^(32*(k / 4)) % 2^32 / 2^(8*(k % 4)):Nat):Int):=by
   have:((2:Int)^(8*(k % 4)))=((2^(8*(k % 4)):Nat):Int):=by simp
   rw [this,Xz4 _ (Xkp _)];exact (Xk3 _ _).symm
  rw [b,ab3,YB,af0 _ _ _ (by rw [jl];omega),← Wv a] at hbody;exact hbody (by rw [ay,jl];exact Xqt (by omega)) (Yq0 (by omega)) (Yq0 (by omega)) (Yq0 (by omega)) rfl (Yq0 (by omega)) (Yq0 (by omega)) (Yq0 (by omega))
theorem alz (s:List UInt8) (c:UInt8):CO 192 [.str s,.int .u8 (c.toNat:Int)] (.ret (.str (s.dropWhile (· ==c)))):=pK [0] 0 0 .nil (.l (az.blk (fun nt a=>ML a c s) (by simp) rfl (aH.of ⟨rfl,rfl,trivial⟩) (aH.of ⟨rfl,trivial⟩):aG prog ap [] 17 (.block 0 (.loop (af 0 (ah f192)))) ⟨[(0,.str s),(1,.int .u8 (c.toNat:Int)),(4,.str []),(13,.dead)],[],.dead,[]⟩ (.normal) ⟨[(0,.str (s.dropWhile (· ==c)))],[],.dead,[]⟩) .nil)
theorem Na (s:List UInt8) (a:lit true (s== [])=true):CO 163 [.str s,.str [0]] (.ret (.str s)):=pK [] 2 3 (.k 1 a .nil) (.nil)
theorem Nb (s:List UInt8) (a:lit false (s== [])=true):CO 163 [.str s,.str [0]] (.ret (.str (s.dropWhile (· ==0)))):=pK [] 4 12 (.k 7 a .nil) (.c (alz s 0) .nil)
theorem JV (s:List UInt8):CO 163 [.str s,.str [0]] (.ret (.str (s.dropWhile (· ==0)))):=by
 by_cases h:s= []
 ·subst h;exact Na [] rfl
 ·exact Nb s (by simp [lit,h])
def ku (m x:Nat):List UInt8:=(Xq6 m).map fun i=>Xql (x / 2^(8*(m - 1 - i)) % 256)
def ae (x:Nat):List UInt8:=(ku (4*(digs x).length) x).dropWhile (· ==0)
theorem Jd (x:Nat) (h:(digs x).length<2^40):γ .i64 ((4:Int)*(((digs x).length:Nat):Int))=((4*(digs x).length:Nat):Int):=by
 rw [g_ (by omega) (by omega)];omega
theorem afa (m x:Nat):gz m [Xxo .u8 0]=oP (oV m 0 x):=by
 have e:oV m 0 x=(Xq6 m).map fun _=>0:=by
  unfold oV;apply Xjb;intro i a;rw [if_neg (by have:=List.mem_range.1 a;omega)]
 rw [e];unfold gz oP
 induction m with
 |zero=>rfl
 | succ m ih=>
  rw [Xj1,Xzo,Xwe,Xx0,Xx0];have b:oV m 0 x=(Xq6 m).map fun _=>0:=by
   unfold oV;apply Xjb;intro i a;rw [if_neg (by have:=List.mem_range.1 a;omega)]
  rw [ih b];simp
theorem SQ (m x:Nat):Xw4 (fun c=>Xql (δ (τ c))) (oP (oV m m x))=ku m x:=by
 unfold oP oV ku;rw [Xzz,Xzz];apply Xjb;intro i _;simp only [Xvq,Xwv,Xxk,if_true,τ];congr 1
theorem acX (l:List Nat):Xzu (oP l) (chk (.int .u8))=true:=by
 unfold oP;rw [List.all_map];exact List.all_eq_true.2 fun x _=>rfl
theorem FN (m k x:Nat):ν (m*1) (oP (oV m k x))=oP (oV m k x):=by
 rw [φ,Ξ (by rw [ay,jl];exact Δ _)]
theorem Wy (l:List Nat) (x:Nat) (a:Bool) (h:eX l=digs x) (i:l.length<2^40) (hd:(digs x).length<2^40) (j:(Xqq (η (ν ((4*(digs x).length)*1) (oP (oV (4*(digs x).length) (4*(digs x).length) x)))) (4*(digs x).length))=true) (b:(Xzu (ν ((4*(digs x).length)*1) (oP (oV (4*(digs x).length) (4*(digs x).length) x))) (chk (.int .u8)))=true) (f:(decide ((0:Int)≤(γ .i64 ((4:Int)*(((digs x).length:Nat):Int)))))=true) (d:(decide ((γ .i64 ((4:Int)*(((digs x).length:Nat):Int)))=(γ .i64 ((4:Int)*(((digs x).length:Nat):Int)))))=true) (e:(decide ((γ .i64 ((4:Int)*(((digs x).length:Nat):Int)))≤(1099511627776:Int)))=true):CO 117 [.sl (aj l) l.length a] (.ret (.str (ae x))):=pK [0] 0 0 (.c j (.c b (.c f (.c d (.c e .nil))))) (.c (by rw [FN,SQ];exact JV _:CO 163 [.str (Xw4 (fun c=>Xql (δ (τ c))) (ν ((4*(digs x).length)*1) (oP (oV (4*(digs x).length) (4*(digs x).length) x)))),.str [0]] (.ret (.str (ae x)))) (.l (by rw [Jd x hd,xI,afa _ x];exact az.blk (fun nt g=>Wu g x a hd (4*(digs x).length) 0 (by omega)) (by simp) rfl (aH.of ⟨rfl,rfl,rfl,rfl,trivial⟩) (aH.of ⟨rfl,trivial⟩):aG prog ap [] 37 (.block 0 (.loop (af 0 (ah f117)))) ⟨[(0,.sl (aj (digs x)) (digs x).length a),(2,.str []),(3,.ref 0 0 0 (δ (γ .i64 ((4:Int)*(((digs x).length:Nat):Int))))),(4,.dead),(12,ω (((δ (γ .i64 ((4:Int)*(((digs x).length:Nat):Int)))):Nat):Int)),(13,ω 0),(14,.dead)],[(0,⟨(gz (δ (γ .i64 ((4:Int)*(((digs x).length:Nat):Int)))) [.int .u8 0]),0,false,0,1,true⟩)],.dead,[]⟩ (.normal) ⟨[(3,.ref 0 0 0 (4*(digs x).length))],[(0,⟨(oP (oV (4*(digs x).length) (4*(digs x).length) x)),0,false,0,1,true⟩)],.dead,[]⟩) (.c (by rw [← h];exact O9 l a i:CO 162 [.sl (aj l) l.length a] (.ret (.sl (aj (digs x)) (digs x).length a))) .nil)))
theorem qX (l:List Nat) (x:Nat) (a:Bool) (b:eX l=digs x) (c:l.length<2^40) (hd:(digs x).length<2^36):CO 117 [.sl (aj l) l.length a] (.ret (.str (ae x))):=
 Wy l x a b c (by omega)
  (by rw [FN,ay,jl];exact Xvd _) (by rw [FN];exact acX _)
  (by rw [Jd x (by omega)];exact Yq0 (by omega)) (Yq0 rfl) (by rw [Jd x (by omega)];exact Yq0 (by omega))
theorem rG (m x:Nat):ku (m+1) x=Xql (x / 2^(8*m) % 256)::ku m x:=by
 unfold ku;rw [Xwl,Xqh,Xzz];congr 1;apply Xjb;intro i a;simp only [Xvq];have:=List.mem_range.1 a;rw [show m+1 - 1 - (i+1)=m - 1 - i by omega]
theorem GL:∀ (m:Nat) (b x:Nat),ku m (b*2^(8*m)+x)=ku m x:=by
 intro m b x;unfold ku;apply Xjb;intro i a;have a:=List.mem_range.1 a;have e:8*m=(8*m - 8*(m - 1 - i) - 8)+8+8*(m - 1 - i):=by omega
 congr 1
 conv=>lhs;rw [e]
 rw [Xxj,Xxj,← Xqn,← Xqn,Xxq,Xzx _ _ (Xqr _)];exact Xva _ _ 256
theorem GM:∀ (s:List UInt8),ku s.length (ag s)=s
 | []=>rfl
 |b::r=>by
  rw [μ,rG,iW,show (256:Nat)^r.length=2^(8*r.length) by rw [Xx5],GL,GM r];have h:=vV r;rw [show (256:Nat)^r.length=2^(8*r.length) by rw [Xx5]] at h;have a:=b.toNat_lt;rw [Xxq,Xzx _ _ (Xqr _),Xxy h,Xqf,υ (by omega)];congr 1;exact UInt8.ofNat_toNat
theorem wS (x:Nat):∀ (d m:Nat),x<2^(8*m)→(ku (m+d) x).dropWhile (· ==0)=(ku m x).dropWhile (· ==0)
 |0,_,_=>rfl
 |d+1,m,h=>by
  rw [show m+(d+1)=(m+d)+1 by omega,rG];have a:x<2^(8*(m+d)):=Xqa h (Xqc (by omega) (by omega));rw [Xxy a,Xxv,if_pos (by rfl)];exact wS x d m h
theorem Ql {m x:Nat} (h:x<2^(8*m)):(ku m x).dropWhile (· ==0)=ae x:=by
 unfold ae;have a:x<2^(8*(4*(digs x).length)):=by
  have:=jW (n:=x) (Δ _);rwa [show 8*(4*(digs x).length)=32*(digs x).length by omega]
 rcases Yxc m (4*(digs x).length) with hm|hm
 ·have:=wS x (4*(digs x).length - m) m h;rw [show m+(4*(digs x).length - m)=4*(digs x).length by omega] at this;exact this.symm
 ·have:=wS x (m - 4*(digs x).length) (4*(digs x).length) a;rw [show 4*(digs x).length+(m - 4*(digs x).length)=m by omega] at this;exact this
theorem EN (s:List UInt8):ae (ag s)=s.dropWhile (· ==0):=by
 have h:=vV s;rw [show (256:Nat)^s.length=2^(8*s.length) by rw [Xx5]] at h;rw [← Ql h,GM]
theorem MR:∀ (s:List UInt8),ag (s.dropWhile (· ==0))=ag s
 | []=>rfl
 | b::r=>by
  rw [Xxv];by_cases hb:b=0
  ·subst hb;rw [if_pos (by rfl),MR r,iW];simp
  ·rw [if_neg (by simpa using hb)]
theorem Ib:∀ (m x:Nat),x<2^(8*m)→ag (ku m x)=x
 |0,x,h=>by simp at h;subst h;rfl
 | m+1,x,h=>by
  rw [rG,iW];have b:(ku m x).length=m:=by simp [ku]
  have a:x / 2^(8*m)<256:=by
   rw [Xqs (Xqr _)];have e:(2:Nat)^(8*(m+1))=256*2^(8*m):=by rw [show 8*(m+1)=8+8*m by omega,Xxj]
   rw [← e];exact h
  have d:ag (ku m x)=x % 2^(8*m):=by
   have e:x=x / 2^(8*m)*2^(8*m)+x % 2^(8*m):=by
    have:=Xq7 x (2^(8*m));rw [Ψ] at this;omega
   conv=>lhs;rw [e]
   rw [GL];exact Ib m _ (Xqv _ (Xqr _))
  rw [b,d,υ a];have c:(Xql (x / 2^(8*m))).toNat=x / 2^(8*m):=by
   rw [UInt8.toNat_ofNat'];exact υ a
  rw [c,show (256:Nat)^m=2^(8*m) by rw [Xx5]];have:=Xq7 x (2^(8*m));rw [Ψ] at this;exact this
theorem aC (x:Nat):ag (ae x)=x:=by
 unfold ae;rw [MR];refine Ib _ _ ?_;have:=jW (n:=x) (Δ _);rwa [show 8*(4*(digs x).length)=32*(digs x).length by omega]
end Go.Proofs.Tryz
set_option maxRecDepth 100000
open Go
namespace AM
theorem dC {x:Int} (h: -9223372036854775808≤x) (a:x<9223372036854775808):γ .i64 x=x:=by
 show (if (true && decide (x % 2^64≥2^63))=true then x % 2^64 - 2^64 else x % 2^64)=x;by_cases hx:x % 2^64≥2^63
 ·rw [if_pos (by simpa using hx)];omega
 ·rw [if_neg (by simpa using hx)];omega
theorem aO {a:Nat} (h:a<9223372036854775808):γ .i64 (a:Int)=(a:Int):=dC (by omega) (by omega)
theorem zl {a b:Nat} (h:a+b<9223372036854775808):γ .i64 ((a:Int)+(b:Int))=((a+b:Nat):Int):=by
 rw [dC (by omega) (by omega)];omega
theorem jT {a b:Nat} (h:b≤a) (c:a<9223372036854775808):γ .i64 ((a:Int) - (b:Int))=((a - b:Nat):Int):=by
 rw [dC (by omega) (by omega)];omega
theorem Q8 {a b:Nat} (h:a*b<9223372036854775808):γ .i64 ((a:Int)*(b:Int))=((a*b:Nat):Int):=by
 rw [← Xw5,aO h]
theorem X0 (k:IntKind) (a:k.signed=false) (x:Int):γ k x=x % 2^k.bits:=by
 show (if (k.signed && _)=true then _ else _)=_;rw [a];rfl
theorem Pg {w:Nat} {k:IntKind} (c:k.signed=false) (b:k.bits=w) (a:Nat):γ k (a:Int)=((a % 2^w:Nat):Int):=by
 rw [X0 k c,b];simp
theorem w8u (a:Nat):γ .u8 (a:Int)=((a % 256:Nat):Int):=Pg (w:=8) rfl rfl a
theorem rq (a:Nat):γ .u32 (a:Int)=((a % 4294967296:Nat):Int):=Pg (w:=32) rfl rfl a
theorem oO (a:Nat):γ .u64 (a:Int)=((a % 18446744073709551616:Nat):Int):=Pg (w:=64) rfl rfl a
theorem lC (a b:Nat):γ .u64 ((a:Int) - (b:Int))=(((a+(18446744073709551616 - b % 18446744073709551616)) % 18446744073709551616:Nat):Int):=by
 rw [X0 .u64 rfl,show Xqe .u64=64 from rfl];omega
theorem bJ (a b:Nat):((a:Int)+(b:Int))=((a+b:Nat):Int):=(Int.natCast_add a b).symm
theorem xX (a b:Nat):((a:Int)*(b:Int))=((a*b:Nat):Int):=(Xw5 a b).symm
theorem qg (a b:Nat):Xxg (a:Int) (b:Int)=((a / b:Nat):Int):=(Int.ofNat_tdiv a b).symm
theorem wU (a b:Nat):Xju (a:Int) (b:Int)=((a % b:Nat):Int):=(Int.ofNat_tmod a b).symm
theorem Dz (a n:Nat):((a:Int)*2^n)=((2^n*a:Nat):Int):=by rw [Ψ];simp
theorem qV {a b:Nat} (h:a≤b):min a b=a:=Xx1 h
theorem Qj {a:Nat} (h:a≤64):min a (Xqe .u64)=a:=Xx1 h
theorem Qi {a:Nat} (h:a≤32):min a (Xqe .u32)=a:=Xx1 h
theorem nJ:(2:Nat)^32=4294967296:=by decide
theorem ai3:(2:Nat)^63=9223372036854775808:=by decide
theorem lD (a n:Nat):Xqw (a:Int) (2^n)=((a / 2^n:Nat):Int):=by
 have:((2:Int)^n)=((2^n:Nat):Int):=by simp
 rw [this,Xz4 _ (Xkp _)];exact (Xk3 _ _).symm
theorem aB (a:Nat):δ (a:Int)=a:=rfl
theorem vG {w x:Nat} (h:x<2^w):(Xqi w (x:Int)).toNat=x:=by
 rw [Xke,Xko,υ h]
theorem Pv {w a b:Nat} (c:a<2^w) (d:b<2^w):Xxi (Xqi w (a:Int)|||Xqi w (b:Int))=a|||b:=by
 rw [Yqb,vG c,vG d]
theorem JZ {w a b:Nat} (c:a<2^w) (d:b<2^w):Xxi (Xqi w (a:Int) &&& Xqi w (b:Int))=a &&& b:=by
 rw [BitVec.toNat_and,vG c,vG d]
theorem WI {a b:Nat} (d:a<18446744073709551616) (c:b<18446744073709551616):Xxi (Xqi (Xqe .u64) (a:Int)|||Xqi (Xqe .u64) (b:Int))=a|||b:=Pv (w:=64) d c
theorem ai0 {a b:Nat} (d:a<4294967296) (c:b<4294967296):Xxi (Xqi (Xqe .u32) (a:Int)|||Xqi (Xqe .u32) (b:Int))=a|||b:=Pv (w:=32) d c
theorem agO {a b:Nat} (d:a<18446744073709551616) (c:b<18446744073709551616):Xxi (Xqi (Xqe .u64) (a:Int) &&& Xqi (Xqe .u64) (b:Int))=a &&& b:=JZ (w:=64) d c
theorem al7 {a b:Nat} (d:a<18446744073709551616) (c:b<18446744073709551616):Xxi (Xqi (Xqe .i64) (a:Int) &&& Xqi (Xqe .i64) (b:Int))=a &&& b:=JZ (w:=64) d c
theorem Ac {a b k:Nat} (h:b<2^k):a*2^k|||b=a*2^k+b:=by
 have:=Xwy h a;rw [Xk2] at this;exact this.symm
theorem UA (a k:Nat):a &&& (2^k - 1)=a % 2^k:=Nat.and_two_pow_sub_one_eq_mod a k
theorem Dv (a:Nat):a &&& 4294967295=a % 4294967296:=UA a 32
theorem dw (a b:Nat):decide ((a:Int)≤(b:Int))=decide (a≤b):=by
 by_cases h:a≤b<;>simp [h]
theorem aW (a b:Nat):decide ((a:Int)<(b:Int))=decide (a<b):=by
 by_cases h:a<b<;>simp [h]
theorem d_eq (a b:Nat):decide ((a:Int)=(b:Int))=decide (a=b):=by
 by_cases h:a=b
 ·simp [h]
 ·rw [Yq1 h,Yq1 (by omega)]
theorem jG (a b:Nat):((a:Int)==(b:Int))=decide (a=b):=d_eq a b
theorem fE (a b:Nat):Xqg a b=decide (a≤b):=by
 by_cases h:a≤b
 ·rw [Yq0 h];exact Xqt h
 ·rw [Yq1 h];cases c:Xqg a b with
  |false=>rfl
  |true=>exact absurd (Nat.le_of_ble_eq_true c) h
theorem Jb (a b:Nat):Xqq a b=decide (a=b):=by
 by_cases h:a=b
 ·rw [Yq0 h,h];exact Xvd _
 ·rw [Yq1 h];cases c:Xqq a b with
  |false=>rfl
  |true=>exact absurd (Nat.eq_of_beq_eq_true c) h
theorem bu (b:Bool):lit true b=b:=rfl
theorem dH (b:Bool):lit false b= !b:=rfl
theorem dQ (b:Bool):((!b)=true)=(b=false):=by cases b<;>simp
theorem BI (b:Bool):((!b)=false)=(b=true):=by cases b<;>simp
theorem a_ (p:Prop) [Decidable p]:(decide p=true)=p:=by simp
theorem eG (p:Prop) [Decidable p]:(decide p=false)=¬ p:=by simp
end AM
set_option maxRecDepth 100000
open Go AM
namespace Go.Proofs.Tryz
def aF:List Nat→Nat
 | []=>0
 |d::r=>d+4294967296*aF r
def bM (l:List Nat):Prop:=∀ d ∈ l,d<4294967296
theorem bM.nil:bM []:=fun _ h=>(by cases h)
theorem bM.cons {d:Nat} {l:List Nat} (h:d<4294967296) (b:bM l):bM (d::l):=by
 intro x a;rcases List.mem_cons.1 a with rfl|h1
 ·exact h
 ·exact b x h1
theorem bM.head {d:Nat} {l:List Nat} (h:bM (d::l)):d<4294967296:=h d (Xjp ..)
theorem bM.tail {d:Nat} {l:List Nat} (h:bM (d::l)):bM l:=fun x a=>h x (Xx3 _ a)
theorem bM.app {a b:List Nat} (h:bM a) (d:bM b):bM (a++b):=fun x c=>(List.mem_append.1 c).elim (h x) (d x)
theorem bM.take {a:List Nat} (h:bM a) (n:Nat):bM (a.take n):=fun x b=>h x (Xxl b)
theorem bM.drop {a:List Nat} (h:bM a) (n:Nat):bM (a.drop n):=fun x b=>h x (List.mem_of_mem_drop b)
theorem bM.getD {a:List Nat} (h:bM a) (n:Nat):a.getD n 0<4294967296:=by
 rw [ο];cases b:a[n]? with
 |none=>simp
 |some x=>simpa using h x (List.mem_of_getElem? b)
theorem bM.zeros (n:Nat):bM (κ n 0):=fun x a=>by rw [(List.mem_replicate.1 a).2];omega
theorem mQ (a b:List Nat):aF (a++b)=aF a+4294967296^a.length*aF b:=by
 induction a with
 |nil=>simp [aF]
 |cons d a ih=>
  simp only [Xq9,aF,ih,μ,Xq2,Xq8,← Xqn];rw [Ψ (4294967296^a.length) 4294967296];omega
theorem p_ {l:List Nat} (h:bM l):aF l<4294967296^l.length:=by
 induction l with
 |nil=>simp [aF]
 |cons d l ih=>
  have a:=ih h.tail;have b:=h.head;simp only [aF,μ,Xq2];omega
theorem mM (k:Nat):(2:Nat)^(32*k)=4294967296^k:=by rw [Xx5]
theorem iF (k:Nat):0<4294967296^k:=Yqe (by omega)
theorem EX {l:List Nat} (h:bM l):bP l.length (aF l)=l:=by
 unfold bP
 induction l with
 |nil=>rfl
 | cons d l ih=>
  rw [μ,Xwl,Xqh,Xzz];congr 1
  ·have:=h.head;simp only [aF,Xjc,Xve,Xz0];omega
  ·refine Eq.trans ?_ (ih h.tail);apply Xjb;intro i _;simp only [Xvq];have e:(2:Nat)^(32*(i+1))=4294967296*2^(32*i):=by rw [Xq8,Xxj,Ψ]
   rw [Xkl,e,← Xxr];have:aF (d::l) / 4294967296=aF l:=by have:=h.head;simp only [aF];omega
   rw [this]
theorem jM {l:List Nat} (h:bM l):eX l=digs (aF l):=by
 have a:=CP (m:=l.length) (n:=aF l) (by rw [mM];exact p_ h);rw [EX h] at a;exact a
theorem vU (m n:Nat):aF (bP m n)=n % 2^(32*m):=by
 induction m with
 |zero=>simp [bP,aF,Yqd]
 |succ m ih=>
  rw [uD,mQ,ih,aQ,zZ];simp only [aF,mM,Xjc,Xq0];rw [Ψ,Xxq]
theorem bM.pad (m n:Nat):bM (bP m n):=by
 intro x a;obtain ⟨i,_,rfl⟩:=List.mem_map.1 a;exact Xqv _ (by omega)
theorem Ua:∀ (l:List Nat),aF (eX l)=aF l:=by
 intro l
 induction h:l.length generalizing l with
 |zero=>rw [List.length_eq_zero_iff.1 h];rfl
 | succ n ih=>
  rcases Xzv l with rfl|⟨r,d,rfl⟩
  ·rfl
  ·rw [Xzw,oM];split
   ·next hd=>subst hd;rw [ih r (by simpa using h),mQ];simp [aF]
   ·rfl
theorem T_ {x:Nat}:∀ (l:List Nat),x ∈ eX l→x ∈ l:=by
 intro l a;unfold eX at a;have:=List.dropWhile_suffix (fun x:Nat=>x==0) (l:=l.reverse)|>.subset (List.mem_reverse.1 a)
 exact List.mem_reverse.1 this
theorem fH (n:Nat):aF (digs n)=n:=by
 unfold digs;rw [Ua,vU,υ (lS n)]
theorem bM.digs (n:Nat):bM (digs n):=fun x a=>bM.pad n n x (T_ _ a)
theorem Ug {l:List Nat} {k:Nat} (h:k<l.length):aF (l.drop k)=l.getD k 0+4294967296*aF (l.drop (k+1)):=by
 rw [Xxp h,ο,ξ h];rfl
theorem FU (l:List Nat) (k:Nat) (h:k≤l.length):aF l=aF (l.take k)+4294967296^k*aF (l.drop k):=by
 have:=mQ (l.take k) (l.drop k);rwa [List.take_append_drop,Xqz,Xx1 h] at this
theorem yZ {l:List Nat} {k:Nat} (h:k<l.length):ζ (ε k (aj l)) .dead= .int .u32 ((l.getD k 0:Nat):Int):=by
 have:=JG h;rwa [φ] at this
theorem jS {p s:List Nat} {x k:Nat} (h:k=p.length):ζ (ε k (aj (p++x::s))) .dead= .int .u32 (x:Int):=by
 subst h;rw [yZ (by simp)];simp
theorem lX {p s:List Nat} {x y k:Nat} (h:k=p.length):ν k (aj (p++x::s))++ [Xxo .u32 (y:Int)]++ε (k+1) (aj (p++x::s))=aj (p++y::s):=by
 subst h;rw [QO _ _ _ (by simp)];simp
theorem jP (x:Int):chk (.int .u32) (.int .u32 x)=true:=rfl
theorem aY (k:IntKind) (x:Int):τ (.int k x)=x:=rfl
theorem pX (m:Nat):gz m [Xxo .u32 0]=aj (κ m 0):=by
 rw [QG];congr 1;unfold bP;apply List.ext_getElem
 ·simp
 ·intro i a b;simp
theorem oL (l:List Nat) (k:Nat):ν k (aj l)=aj (l.take k):=by unfold aj;rw [Xwd]
theorem U_ (l:List Nat) (k:Nat):ε k (aj l)=aj (l.drop k):=by unfold aj;rw [Xzc]
theorem TL {nt:Nat} (l:44≤nt) (a:List Nat) (e:Bool) (b r M:Nat) (k:Int) (cs:List AV) (i:(Xqg (((0+(δ k))*1)+1) (η cs))=true) (c:(decide (((0:Nat):Int)≤k))=true) (j:(decide (k<(M:Int)))=true) (d:(!((γ .u64 (b:Int))==((0:Nat):Int)))=true) (h:(chk (.int .u32) (ζ (ε ((δ k)*1) (aj a)) .dead))=true) (f:(decide (k<(a.length:Int)))=true) (g:lit true (decide (((0:Nat):Int)≤k))=true):ψ nt f220 ⟨[(0,.sl (aj a) a.length e),(1,.int .u32 (b:Int)),(6,.ref 0 0 0 M),(7,.int .u64 (r:Int)),(8,ω k)],[(0,⟨cs,0,false,0,1,true⟩)],.dead,[]⟩ (.normal) ⟨[(0,.sl (aj a) a.length e),(1,.int .u32 (b:Int)),(6,.ref 0 0 0 M),(7,.int .u64 (Xju (γ .u64 (Xxi (Xqi (Xqe .u64) (γ .u64 ((r:Int)*2^(min 32 64)))|||Xqi (Xqe .u64) (γ .u64 (τ (ζ (ε ((δ k)*1) (aj a)) .dead)))))) (γ .u64 (b:Int)))),(8,ω (γ .i64 (k - ((1:Nat):Int))))],[(0,⟨(ν ((0+(δ k))*1) cs++ [.int .u32 (γ .u32 (γ .u64 (Xxg (γ .u64 (Xxi (Xqi (Xqe .u64) (γ .u64 ((r:Int)*2^(min 32 64)))|||Xqi (Xqe .u64) (γ .u64 (τ (ζ (ε ((δ k)*1) (aj a)) .dead)))))) (γ .u64 (b:Int)))))]++ε (((0+(δ k))*1)+1) cs),0,false,0,1,true⟩)],.dead,[]⟩:=pJ 220 [] 1 1 (.c i (.c c (.c j (.c d (.c d (.c h (.c c (.c f (.k 1 g .nil))))))))) (.nil) l
theorem TM {nt:Nat} (e:44≤nt) (a:List Nat) (c:Bool) (b r M:Nat) (k:Int) (cs:List AV) (d:lit false (decide (((0:Nat):Int)≤k))=true):ψ nt f220 ⟨[(0,.sl (aj a) a.length c),(1,.int .u32 (b:Int)),(6,.ref 0 0 0 M),(7,.int .u64 (r:Int)),(8,ω k)],[(0,⟨cs,0,false,0,1,true⟩)],.dead,[]⟩ (.exit 0) ⟨[(0,.sl (aj a) a.length c),(1,.int .u32 (b:Int)),(6,.ref 0 0 0 M),(7,.int .u64 (r:Int)),(8,ω k)],[(0,⟨cs,0,false,0,1,true⟩)],.dead,[]⟩:=pJ 220 [] 1 0 (.c d .nil) (.nil) e
theorem Ud {nt:Nat} (p:41≤nt) (a:List Nat) (e:Bool) (n M k:Nat) (cs:List AV) (l:(Xqg (((0+(δ (γ .i64 ((k:Int)+((1:Nat):Int)))))*1)+1) (η (ν ((0+(δ (k:Int)))*1) cs++ [.int .u32 (γ .u32 (Xxi (Xqi (Xqe .u32) (τ (ζ (ε ((0+(δ (k:Int)))*1) cs) .dead))|||Xqi (Xqe .u32) (γ .u32 (γ .u64 ((γ .u64 (τ (ζ (ε ((δ (k:Int))*1) (aj a)) .dead)))*2^(min (δ (n:Int)) (Xqe .u64))))))))]++ε (((0+(δ (k:Int)))*1)+1) cs)))=true) (o:(decide (((0:Nat):Int)≤(γ .i64 ((k:Int)+((1:Nat):Int)))))=true) (j:(decide ((γ .i64 ((k:Int)+((1:Nat):Int)))<(M:Int)))=true) (h:(Xqg (((0+(δ (k:Int)))*1)+1) (η cs))=true) (c:(decide (((0:Nat):Int)≤(k:Int)))=true) (d:(decide ((k:Int)<(M:Int)))=true) (g:(chk (.int .u32) (ζ (ε ((0+(δ (k:Int)))*1) cs) .dead))=true) (i:(decide (((0:Nat):Int)≤(n:Int)))=true) (m:(chk (.int .u32) (ζ (ε ((δ (k:Int))*1) (aj a)) .dead))=true) (f:(decide ((k:Int)<(a.length:Int)))=true) (b:lit true (decide ((k:Int)<(a.length:Int)))=true):ψ nt f222 ⟨[(5,.ref 0 0 0 M),(1,ω (n:Int)),(13,.sl (aj a) a.length e),(14,ω (a.length:Int)),(15,ω (k:Int))],[(0,⟨cs,0,false,0,1,true⟩)],.dead,[]⟩ (.normal) ⟨[(5,.ref 0 0 0 M),(1,ω (n:Int)),(13,.sl (aj a) a.length e),(14,ω (a.length:Int)),(15,ω (γ .i64 ((k:Int)+((1:Nat):Int))))],[(0,⟨(ν ((0+(δ (γ .i64 ((k:Int)+((1:Nat):Int)))))*1) (ν ((0+(δ (k:Int)))*1) cs++ [.int .u32 (γ .u32 (Xxi (Xqi (Xqe .u32) (τ (ζ (ε ((0+(δ (k:Int)))*1) cs) .dead))|||Xqi (Xqe .u32) (γ .u32 (γ .u64 ((γ .u64 (τ (ζ (ε ((δ (k:Int))*1) (aj a)) .dead)))*2^(min (δ (n:Int)) (Xqe .u64))))))))]++ε (((0+(δ (k:Int)))*1)+1) cs)++ [.int .u32 (γ .u32 (Xqw (γ .u64 ((γ .u64 (τ (ζ (ε ((δ (k:Int))*1) (aj a)) .dead)))*2^(min (δ (n:Int)) (Xqe .u64)))) (2^(min 32 64))))]++ε (((0+(δ (γ .i64 ((k:Int)+((1:Nat):Int)))))*1)+1) (ν ((0+(δ (k:Int)))*1) cs++ [.int .u32 (γ .u32 (Xxi (Xqi (Xqe .u32) (τ (ζ (ε ((0+(δ (k:Int)))*1) cs) .dead))|||Xqi (Xqe .u32) (γ .u32 (γ .u64 ((γ .u64 (τ (ζ (ε ((δ (k:Int))*1) (aj a)) .dead)))*2^(min (δ (n:Int)) (Xqe .u64))))))))]++ε (((0+(δ (k:Int)))*1)+1) cs)),0,false,0,1,true⟩)],.dead,[]⟩:=pJ 222 [] 1 1 (.c l (.c o (.c j (.k 1 h (.c c (.c d (.c g (.c c (.c d (.c i (.c m (.c c (.c f (.c b .nil)))))))))))))) (.nil) p
theorem Ue {nt:Nat} (b:41≤nt) (a:List Nat) (c:Bool) (n M k:Nat) (cs:List AV) (d:lit false (decide ((k:Int)<(a.length:Int)))=true):ψ nt f222 ⟨[(5,.ref 0 0 0 M),(1,ω (n:Int)),(13,.sl (aj a) a.length c),(14,ω (a.length:Int)),(15,ω (k:Int))],[(0,⟨cs,0,false,0,1,true⟩)],.dead,[]⟩ (.exit 0) ⟨[(5,.ref 0 0 0 M)],[(0,⟨cs,0,false,0,1,true⟩)],.dead,[]⟩:=pJ 222 [] 1 0 (.c d .nil) (.nil) b
theorem RI {nt:Nat} (s:48≤nt) (a:List Nat) (c:Bool) (n M k:Nat) (cs:List AV) (q:(Xqg (((0+(δ (k:Int)))*1)+1) (η (ν ((0+(δ (k:Int)))*1) cs++ [.int .u32 (Xqw (τ (ζ (ε ((δ (k:Int))*1) (aj a)) .dead)) (2^(min (δ (n:Int)) (Xqe .u32))))]++ε (((0+(δ (k:Int)))*1)+1) cs)))=true) (b:(decide (((0:Nat):Int)≤(k:Int)))=true) (g:(decide ((k:Int)<(M:Int)))=true) (l:(decide (((0:Nat):Int)≤(γ .i64 (((32:Nat):Int) - (n:Int)))))=true) (m:(chk (.int .u32) (ζ (ε ((δ (γ .i64 ((k:Int)+((1:Nat):Int))))*1) (aj a)) .dead))=true) (o:(decide (((0:Nat):Int)≤(γ .i64 ((k:Int)+((1:Nat):Int)))))=true) (j:(decide ((γ .i64 ((k:Int)+((1:Nat):Int)))<(a.length:Int)))=true) (p:(chk (.int .u32) (ζ (ε ((0+(δ (k:Int)))*1) (ν ((0+(δ (k:Int)))*1) cs++ [.int .u32 (Xqw (τ (ζ (ε ((δ (k:Int))*1) (aj a)) .dead)) (2^(min (δ (n:Int)) (Xqe .u32))))]++ε (((0+(δ (k:Int)))*1)+1) cs)) .dead))=true) (r:lit true (decide ((γ .i64 ((k:Int)+((1:Nat):Int)))<(a.length:Int)))=true) (i:(Xqg (((0+(δ (k:Int)))*1)+1) (η cs))=true) (d:(decide (((0:Nat):Int)≤(n:Int)))=true) (f:(chk (.int .u32) (ζ (ε ((δ (k:Int))*1) (aj a)) .dead))=true) (e:(decide ((k:Int)<(a.length:Int)))=true) (h:lit true (decide ((k:Int)<(a.length:Int)))=true):ψ nt f226 ⟨[(0,.sl (aj a) a.length c),(1,ω (n:Int)),(5,.ref 0 0 0 M),(11,.sl (aj a) a.length c),(12,ω (a.length:Int)),(13,ω (k:Int))],[(0,⟨cs,0,false,0,1,true⟩)],.dead,[]⟩ (.normal) ⟨[(0,.sl (aj a) a.length c),(1,ω (n:Int)),(5,.ref 0 0 0 M),(11,.sl (aj a) a.length c),(12,ω (a.length:Int)),(13,ω (γ .i64 ((k:Int)+((1:Nat):Int))))],[(0,⟨(ν ((0+(δ (k:Int)))*1) (ν ((0+(δ (k:Int)))*1) cs++ [.int .u32 (Xqw (τ (ζ (ε ((δ (k:Int))*1) (aj a)) .dead)) (2^(min (δ (n:Int)) (Xqe .u32))))]++ε (((0+(δ (k:Int)))*1)+1) cs)++ [.int .u32 (γ .u32 (Xxi (Xqi (Xqe .u32) (τ (ζ (ε ((0+(δ (k:Int)))*1) (ν ((0+(δ (k:Int)))*1) cs++ [.int .u32 (Xqw (τ (ζ (ε ((δ (k:Int))*1) (aj a)) .dead)) (2^(min (δ (n:Int)) (Xqe .u32))))]++ε (((0+(δ (k:Int)))*1)+1) cs)) .dead))|||Xqi (Xqe .u32) (γ .u32 (γ .u64 ((γ .u64 (τ (ζ (ε ((δ (γ .i64 ((k:Int)+((1:Nat):Int))))*1) (aj a)) .dead)))*2^(min (δ (γ .i64 (((32:Nat):Int) - (n:Int)))) (Xqe .u64))))))))]++ε (((0+(δ (k:Int)))*1)+1) (ν ((0+(δ (k:Int)))*1) cs++ [.int .u32 (Xqw (τ (ζ (ε ((δ (k:Int))*1) (aj a)) .dead)) (2^(min (δ (n:Int)) (Xqe .u32))))]++ε (((0+(δ (k:Int)))*1)+1) cs)),0,false,0,1,true⟩)],.dead,[]⟩:=pJ 226 [] 2 3 (.c q (.c b (.c g (.c l (.c m (.c o (.c j (.c p (.c b (.c g (.c r (.c i (.c b (.c g (.c d (.c f (.c b (.c e (.c h .nil))))))))))))))))))) (.nil) s
theorem RJ {nt:Nat} (j:48≤nt) (a:List Nat) (b:Bool) (n M k:Nat) (cs:List AV) (l:lit false (decide ((γ .i64 ((k:Int)+((1:Nat):Int)))<(a.length:Int)))=true) (g:(Xqg (((0+(δ (k:Int)))*1)+1) (η cs))=true) (c:(decide (((0:Nat):Int)≤(k:Int)))=true) (h:(decide ((k:Int)<(M:Int)))=true) (i:(decide (((0:Nat):Int)≤(n:Int)))=true) (d:(chk (.int .u32) (ζ (ε ((δ (k:Int))*1) (aj a)) .dead))=true) (e:(decide ((k:Int)<(a.length:Int)))=true) (f:lit true (decide ((k:Int)<(a.length:Int)))=true):ψ nt f226 ⟨[(0,.sl (aj a) a.length b),(1,ω (n:Int)),(5,.ref 0 0 0 M),(11,.sl (aj a) a.length b),(12,ω (a.length:Int)),(13,ω (k:Int))],[(0,⟨cs,0,false,0,1,true⟩)],.dead,[]⟩ (.normal) ⟨[(0,.sl (aj a) a.length b),(1,ω (n:Int)),(5,.ref 0 0 0 M),(11,.sl (aj a) a.length b),(12,ω (a.length:Int)),(13,ω (γ .i64 ((k:Int)+((1:Nat):Int))))],[(0,⟨(ν ((0+(δ (k:Int)))*1) cs++ [.int .u32 (Xqw (τ (ζ (ε ((δ (k:Int))*1) (aj a)) .dead)) (2^(min (δ (n:Int)) (Xqe .u32))))]++ε (((0+(δ (k:Int)))*1)+1) cs),0,false,0,1,true⟩)],.dead,[]⟩:=pJ 226 [] 2 1 (.c l (.c g (.c c (.c h (.c i (.c d (.c c (.c e (.c f .nil))))))))) (.nil) j
theorem RN {nt:Nat} (c:48≤nt) (a:List Nat) (b:Bool) (n M k:Nat) (cs:List AV) (d:lit false (decide ((k:Int)<(a.length:Int)))=true):ψ nt f226 ⟨[(0,.sl (aj a) a.length b),(1,ω (n:Int)),(5,.ref 0 0 0 M),(11,.sl (aj a) a.length b),(12,ω (a.length:Int)),(13,ω (k:Int))],[(0,⟨cs,0,false,0,1,true⟩)],.dead,[]⟩ (.exit 0) ⟨[(5,.ref 0 0 0 M)],[(0,⟨cs,0,false,0,1,true⟩)],.dead,[]⟩:=pJ 226 [] 1 0 (.c d .nil) (.nil) c
def m_ (b:Nat):List Nat→List Nat→Nat→List Nat × Nat
 | [],q,r=>(q,r)
 |x::l,q,r=>m_ b l ((4294967296*r+x) / b::q) ((4294967296*r+x) % b)
theorem FK {b r x:Nat} (c:0<b) (a:r<b) (e:x<4294967296):(4294967296*r+x) / b<4294967296:=by
 rw [Xqs c];have d:4294967296*(r+1)≤4294967296*b:=Xqy _ a;omega
theorem XD {b r x v:Nat}:((4294967296*r+x) / b+4294967296*v)*b+(4294967296*r+x) % b=4294967296*(v*b+r)+x:=by
 have a:=Xq7 (4294967296*r+x) b;generalize (4294967296*r+x) / b=y at*
 generalize (4294967296*r+x) % b=z at*
 rw [Xxm,Xqn,Ψ y b];omega
theorem OU {b:Nat} (e:0<b) (l:List Nat):∀ (q:List Nat) (r:Nat),r<b→bM l→bM q→
  (m_ b l q r).2<b∧bM (m_ b l q r).1∧(m_ b l q r).1.length=q.length+l.length∧aF (m_ b l q r).1*b+(m_ b l q r).2=4294967296^l.length*(aF q*b+r)+aF l.reverse:=by
 induction l with
 |nil=>
  intro q r c _ a;refine ⟨c,a,rfl, ?_⟩;simp only [m_,Xqb,Xve,Xzy,Xwx,aF,Xq0]
 |cons x l ih=>
  intro q r c d a;obtain ⟨h,i,f,g⟩:=ih ((4294967296*r+x) / b::q) ((4294967296*r+x) % b) (Xqv _ e) d.tail (a.cons (FK e c d.head));refine ⟨h,i, ?_, ?_⟩
  ·simp only [m_];rw [f,μ,μ];omega
  simp only [m_];rw [g,Xz2,mQ,Xzp,μ,Xq2];simp only [aF,Xjc,Xq0];rw [XD,Xq8,Xqn];omega
def TK (a:List Nat) (nn:Bool) (b:Nat) (k:Nat) (q:List Nat) (r:Nat):St:=⟨[(0,.sl (aj a) a.length nn),(1,.int .u32 (b:Int)),(6,.ref 0 0 0 a.length),(7,.int .u64 (r:Int)),(8,ω ((k:Int) - 1))],[(0,⟨aj (κ k 0++q),0,false,0,1,true⟩)],.dead,[]⟩
theorem OV {nt:Nat} (o:44≤nt) (a:List Nat) (e:Bool) (b:Nat) (h:0<b) (u:b<4294967296) (w:a.length<2^40) (g:bM a):
  ∀ (l q d:List Nat) (r:Nat),r<b→l.reverse++d=a→q.length=d.length→az prog ap [] nt (af 0 (ah f220)) (fun _=> .exit 0) (fun (x:Nat × List Nat × Nat)=>TK a e b x.1 x.2.1 x.2.2) (fun (x:List Nat × Nat)=>TK a e b 0 x.1 x.2) (l.length,q,r) (m_ b l q r):=by
 intro l
 induction l with
 |nil=>
  intro q d r n hd m;have hbody:=TM o a e b r a.length (-1) (aj q) rfl;exact .done (by simpa [TK,m_] using hbody)
 | cons x l ih=>
  intro q d r n hd m;have j:x<4294967296:=g x (by rw [← hd];simp);have i:l.length+1+d.length=a.length:=by rw [← hd];simp;omega
  refine .next ?_ (ih ((4294967296*r+x) / b::q) (x::d) ((4294967296*r+x) % b) (Xqv _ h) (by rw [← hd];simp) (by simp [m]))
  have hbody:=TL o a e b r a.length (l.length:Int) (aj (κ l.length 0++0::q));have c:ζ (ε l.length (aj a)) .dead= .int .u32 (x:Int):=by
   rw [← hd,Xz2,Xqd];exact jS (by simp)
  have v:(((x::l).length:Nat):Int) - 1=(l.length:Int):=by simp
  have t:κ (x::l).length 0++q=κ l.length 0++0::q:=by rw [μ,Xj1,Xqd];rfl
  have f:4294967296*r|||x=4294967296*r+x:=by
   have:=Ac (a:=r) (b:=x) (k:=32) j;rwa [nJ,Ψ] at this
  have p:=FK h n j;have s:=Xqv (4294967296*r+x) h;simp (disch:=first|omega|(simp [au,ay]<;>omega)) only [aB,Xqf,φ,au,θ,Xxu,μ,fE,a_,dw,aW,oO,υ,jG,dQ,eG,c,jP,bu,qV,Dz,nJ,aY,WI,f,wU,qg,rq,lX] at hbody;rw [dC (by omega) (by omega)] at hbody;simp only [TK,v,t];exact hbody (by omega) (by omega) (by omega) (by omega) trivial (by omega) (by omega)
theorem Eu {n:Nat} (h:n<2^40):γ .i64 ((n:Int) - ((1:Nat):Int))=(n:Int) - 1:=dC (by omega) (by omega)
theorem acM (q:List Nat) (a:Bool) (x:Nat) (b:eX q=digs x) (h:q.length<2^40):CO 162 [.sl (aj q) q.length a] (.ret (.sl (aj (digs x)) (digs x).length a)):=by
 have:=O9 q a h;rwa [b] at this
theorem MI {l:List Nat} {n:Nat} (h:l.length=n):ν (n*1) (aj l)=aj l:=by
 rw [φ,Ξ (by rw [au,h];exact Δ _)]
theorem BP (q:List Nat) (n x:Nat) (a:q.length=n) (b:eX q=digs x) (h:n<2^40):CO 162 [.sl (ν (n*1) (aj q)) n true] (.ret (.sl (aj (digs x)) (digs x).length true)):=by
 rw [MI a];subst a;exact acM q true x b h
theorem Gn (n:Nat):κ n 0++([]:List Nat)=κ n 0:=Γ _
theorem abz (a:List Nat) (c:Bool) (b:Nat) (q:List Nat) (r x:Nat) (e:a.length<2^40) (d:q.length=a.length) (i:eX q=digs x) (hloop:∀ nt,44≤nt→az prog ap [] nt (af 0 (ah f220)) (fun _=> .exit 0) (fun (x:Nat × List Nat × Nat)=>TK a c b x.1 x.2.1 x.2.2) (fun (x:List Nat × Nat)=>TK a c b 0 x.1 x.2) (a.length,[],0) (q,r)) (g:(decide (((0:Nat):Int)≤(a.length:Int)))=true) (f:(decide ((a.length:Int)=(a.length:Int)))=true) (h:(decide ((a.length:Int)≤((1099511627776:Nat):Int)))=true):CO 220 [.sl (aj a) a.length c,.int .u32 (b:Int)] (.ret (.tup [.sl (aj (digs x)) (digs x).length true,.int .u32 (γ .u32 (r:Int))])):=pK [0] 0 0 (.c g (.c f (.c h .nil))) (.c (BP q _ x d i e) (.l (by rw [aB,pX,← Gn];exact az.blk hloop (by simp) rfl (aH.of ⟨rfl,rfl,rfl,rfl,congrArg (Xxo .i64) (Eu e),trivial⟩) (aH.of ⟨rfl,rfl,trivial⟩):aG prog ap [] 44 (.block 0 (.loop (af 0 (ah f220)))) ⟨[(0,.sl (aj a) a.length c),(1,.int .u32 (b:Int)),(4,.nilS),(5,.int .u32 0),(6,.ref 0 0 0 (δ (a.length:Int))),(7,.int .u64 0),(8,ω (γ .i64 ((a.length:Int) - ((1:Nat):Int)))),(9,.dead),(17,.dead)],[(0,⟨(gz (δ (a.length:Int)) [.int .u32 0]),0,false,0,1,true⟩)],.dead,[]⟩ (.normal) ⟨[(6,.ref 0 0 0 a.length),(7,.int .u64 (r:Int))],[(0,⟨(aj q),0,false,0,1,true⟩)],.dead,[]⟩) .nil))
theorem XE (a:List Nat) (i:Bool) (b:Nat) (d:0<b) (h:b<4294967296) (m:a.length<2^40) (c:bM a):CO 220 [.sl (aj a) a.length i,.int .u32 (b:Int)] (.ret (.tup [.sl (aj (digs (aF a / b))) (digs (aF a / b)).length true,.int .u32 ((aF a % b:Nat):Int)])):=by
 have j:bM a.reverse:=fun x o=>c x (List.mem_reverse.1 o)
 obtain ⟨g,n,f,e⟩:=OU d a.reverse [] 0 d j bM.nil;rw [Xzp,Xqb,Xqf] at f;simp only [aF,Xwb,Xjc,Xqf,Xq0,List.reverse_reverse] at e;have l:=fun nt (hn:44≤nt)=>OV hn a i b d h m c a.reverse [] [] 0 d (by simp) rfl
 rw [Xzp] at l;generalize hp:m_ b a.reverse [] 0=p at*
 obtain ⟨q,r⟩:=p;simp only at g n f e;have t:aF q=aF a / b:=by rw [← e,Ψ,Nat.mul_add_div d,Xxy g,Xq0]
 have s:r=aF a % b:=by rw [← e,Ψ,Nat.mul_add_mod,υ g]
 have k:=abz a i b q r (aF a / b) m f (by rw [jM n,t]) l (Yq0 (by omega)) (Yq0 rfl) (Yq0 (by omega));rw [rq,υ (by omega),s] at k;exact k
def MQ (n c:Nat):List Nat→List Nat
 | []=> [c]
 |x::l=>(c+2^n*x % 4294967296)::MQ n (2^n*x / 4294967296) l
theorem sK (n:Nat) (l:List Nat):∀ c,(MQ n c l).length=l.length+1:=by
 induction l with
 |nil=>intro c;rfl
 |cons x l ih=>intro c;simp only [MQ,μ,ih]
theorem Q5 (n:Nat) (l:List Nat):∀ c,aF (MQ n c l)=c+2^n*aF l:=by
 induction l with
 |nil=>intro c;simp only [MQ,aF,Xjc]
 |cons x l ih=>
  intro c;simp only [MQ,aF,ih,Xq8];have h:=Xq7 (2^n*x) 4294967296;rw [← Xqn 4294967296 (2^n),← Xqn (2^n) 4294967296,Ψ (2^n) 4294967296];omega
theorem Az {n x:Nat} (f:n≤31) (g:x<4294967296):2^n*x<18446744073709551616∧2^n*x / 4294967296<2^n∧2^n*x % 4294967296=2^n*(x % 2^(32 - n))∧2^n*x % 4294967296+2^n≤4294967296∧2^n≤2147483648:=by
 have hp:(2:Nat)^n*2^(32 - n)=4294967296:=by rw [← Xxj,show n+(32 - n)=32 by omega,nJ]
 have d:2^n≤2147483648:=Xq1 (Xqc (by omega) f) (by decide);have h:2^n*x≤2^n*4294967295:=Xqy _ (by omega);have b:2^n*x % 4294967296=2^n*(x % 2^(32 - n)):=by rw [← hp,Xw3]
 have e:x % 2^(32 - n)+1≤2^(32 - n):=Xqv _ (Xqr _);have a:2^n*(x % 2^(32 - n)+1)≤2^n*2^(32 - n):=Xqy _ e;rw [hp,Xq8,φ,← b] at a;have c:2^n*x / 4294967296<2^n:=by
  rw [Xqs (by omega)];exact Xza g (Xqr _)
 exact ⟨by omega,c,b,a,d⟩
theorem af1 {n x c:Nat} (b:n≤31) (d:x<4294967296) (a:c<2^n):c|||2^n*x % 4294967296=c+2^n*x % 4294967296:=by
 rw [(Az b d).2.2.1,Yqc,Ψ,Ac a,Xxq]
theorem Q4 {n:Nat} (a:n≤31) (l:List Nat):∀ c,c<2^n→bM l→bM (MQ n c l):=by
 induction l with
 |nil=>
  intro c d _;have f:2^n≤2147483648:=Xq1 (Xqc (by omega) a) (by decide);exact bM.cons (by omega) bM.nil
 |cons x l ih=>
  intro c d b;obtain ⟨_,e,_,g,_⟩:=Az a b.head;exact bM.cons (by omega) (ih _ e b.tail)
theorem Xx {p s:List Nat} {v x y k:Nat} (h:k=p.length+1):ν k (aj (p++v::x::s))++ [Xxo .u32 (y:Int)]++ε (k+1) (aj (p++v::x::s))=aj (p++v::y::s):=by
 have:=lX (p:=p++ [v]) (s:=s) (x:=x) (y:=y) (k:=k) (by simpa using h);simpa using this
def alC (a:List Nat) (nn:Bool) (n:Nat) (k:Nat) (o:List Nat):St:=⟨[(5,.ref 0 0 0 (a.length+1)),(1,ω (n:Int)),(13,.sl (aj a) a.length nn),(14,ω (a.length:Int)),(15,ω (k:Int))],[(0,⟨aj o,0,false,0,1,true⟩)],.dead,[]⟩
def acN (a o:List Nat):St:=⟨[(5,.ref 0 0 0 (a.length+1))],[(0,⟨aj o,0,false,0,1,true⟩)],.dead,[]⟩
theorem abZ {nt:Nat} (q:41≤nt) (a:List Nat) (i:Bool) (n:Nat) (e:n≤31) (u:a.length<2^40) (h:bM a):
  ∀ (l d o:List Nat) (c:Nat),c<2^n→d++l=a→o.length=d.length→az prog ap [] nt (af 0 (ah f222)) (fun _=> .exit 0) (fun (x:Nat × List Nat)=>alC a i n x.1 x.2) (acN a) (d.length,o++c::κ l.length 0) (o++MQ n c l):=by
 intro l
 induction l with
 |nil=>
  intro d o c p hd m;have g:d=a:=by simpa using hd
  have hbody:=Ue q a i n (a.length+1) a.length (aj (o++ [c])) (by rw [aW];simp [lit]);rw [g];exact .done hbody
 | cons x l ih=>
  intro d o c p hd m;have j:d.length+(l.length+1)=a.length:=by rw [← hd];simp
  have k:x<4294967296:=h x (by rw [← hd];simp);obtain ⟨v,r,s,w,t⟩:=Az e k;have hnext:=ih (d++ [x]) (o++ [c+2^n*x % 4294967296]) (2^n*x / 4294967296) r (by rw [← hd];simp) (by simp [m]);rw [θ,Xqd,Xqd] at hnext;refine .next ?_ hnext
  have f:=af1 e k p;have hbody:=Ud q a i n (a.length+1) d.length (aj (o++c::0::κ l.length 0));have b:ζ (ε d.length (aj a)) .dead= .int .u32 (x:Int):=by
   rw [← hd];exact jS rfl
  simp (disch:=first|omega|(simp [au,ay]<;>omega)) only [bJ,aO,aB,Xqf,φ,jS,aY,b,oO,υ,Qj,Dz,rq,ai0,f,lX,au,θ,μ,Xxu,fE,a_,dw,aW,jP,bu,qV,lD,nJ,Xx] at hbody;exact hbody (by omega) (by omega) (by omega) (by omega) (by omega) (by omega) trivial (by omega) trivial (by omega) (by omega)
def yh (n:Nat):List Nat→List Nat
 | []=> []
 |x::l=>(x / 2^n+2^(32 - n)*l.headD 0 % 4294967296)::yh n l
theorem Iz (n:Nat) (l:List Nat):(yh n l).length=l.length:=by
 induction l with
 |nil=>rfl
 |cons x l ih=>simp only [yh,μ,ih]
theorem Tc {n:Nat} (a:n≤31):(2:Nat)^(32 - n)*2^n=4294967296:=by rw [← Xxj,show 32 - n+n=32 by omega,nJ]
theorem ZC {n:Nat} (a:n≤31) (l:List Nat):aF l % 2^n=l.headD 0 % 2^n:=by
 cases l with
 |nil=>rfl
 |cons h l=>
  simp only [aF,Xjd];rw [← Tc a,Ψ (2^(32 - n)),Xqn,Xzi]
theorem DY {n h:Nat} (a:n≤31):2^(32 - n)*h % 4294967296=2^(32 - n)*(h % 2^n):=by
 rw [← Tc a,Xw3]
theorem RU {n:Nat} (a:n≤31) (l:List Nat):aF (yh n l)=aF l / 2^n:=by
 induction l with
 |nil=>simp [yh,aF]
 | cons x l ih=>
  simp only [yh,aF];rw [ih,DY a,← ZC a];have c:=Xq7 (aF l) (2^n);have b:x+4294967296*aF l=x+2^n*(2^(32 - n)*aF l):=by rw [← Xqn,Ψ (2^n),Tc a]
  rw [b,Xz6 _ _ (Xqr _)];have d:2^(32 - n)*aF l=4294967296*(aF l / 2^n)+2^(32 - n)*(aF l % 2^n):=by
   rw [← Tc a,Xqn,← Xq8,c]
  omega
theorem acf {n x:Nat} (a:n≤31) (b:x<4294967296):x / 2^n<2^(32 - n):=by
 rw [Xqs (Xqr _),Tc a];exact b
theorem ahj {n x h:Nat} (a:n≤31) (b:x<4294967296):x / 2^n|||2^(32 - n)*h % 4294967296=x / 2^n+2^(32 - n)*h % 4294967296:=by
 rw [DY a,Yqc,Ψ (2^(32 - n)),Ac (acf a b),Xxq]
theorem U6 {n x h:Nat} (a:n≤31) (d:x<4294967296):x / 2^n+2^(32 - n)*h % 4294967296<4294967296:=by
 rw [DY a];have b:h % 2^n+1≤2^n:=Xqv _ (Xqr _);have c:2^(32 - n)*(h % 2^n+1)≤2^(32 - n)*2^n:=Xqy _ b;rw [Tc a,Xq8,φ] at c;have:=acf a d;omega
theorem RP {n:Nat} (a:n≤31) (l:List Nat):bM l→bM (yh n l):=by
 induction l with
 |nil=>exact fun h=>h
 |cons x l ih=>exact fun h=>bM.cons (U6 a h.head) (ih h.tail)
def ahi (a:List Nat) (nn:Bool) (n:Nat) (k:Nat) (o:List Nat):St:=⟨[(0,.sl (aj a) a.length nn),(1,ω (n:Int)),(5,.ref 0 0 0 a.length),(11,.sl (aj a) a.length nn),(12,ω (a.length:Int)),(13,ω (k:Int))],[(0,⟨aj o,0,false,0,1,true⟩)],.dead,[]⟩
def ace (a o:List Nat):St:=⟨[(5,.ref 0 0 0 a.length)],[(0,⟨aj o,0,false,0,1,true⟩)],.dead,[]⟩
theorem YP {nt:Nat} (k:48≤nt) (a:List Nat) (g:Bool) (n:Nat) (f:n≤31) (u:a.length<2^40) (e:bM a):
  ∀ (l d o:List Nat),d++l=a→o.length=d.length→az prog ap [] nt (af 0 (ah f226)) (fun _=> .exit 0) (fun (x:Nat × List Nat)=>ahi a g n x.1 x.2) (ace a) (d.length,o++κ l.length 0) (o++yh n l):=by
 intro l
 induction l with
 |nil=>
  intro d o hd p;have j:d=a:=by simpa using hd
  have hbody:=RN k a g n a.length a.length (aj (o++ [])) (by rw [aW];simp [lit]);rw [j];exact .done hbody
 | cons x l ih=>
  intro d o hd p;have b:d.length+(l.length+1)=a.length:=by rw [← hd];simp
  have m:x<4294967296:=e x (by rw [← hd];simp);have hnext:=ih (d++ [x]) (o++ [x / 2^n+2^(32 - n)*l.headD 0 % 4294967296]) (by rw [← hd];simp) (by simp [p]);rw [θ,Xqd,Xqd] at hnext;refine .next ?_ hnext
  have c:ζ (ε d.length (aj a)) .dead= .int .u32 (x:Int):=by
   rw [← hd];exact jS rfl
  have s:x / 2^n≤x:=Xjq _ _;cases l with
  |nil=>
   have hbody:=RJ k a g n a.length d.length (aj (o++0::κ 0 0));simp only [Xqb] at b;simp (disch:=first|omega|(simp [au,ay]<;>omega)) only [bJ,aO,aW,dH,dQ,eG,aB,Xqf,φ,au,θ,μ,Xxu,fE,a_,dw,c,jP,bu,aY,Qi,lD,lX] at hbody;simp only [Xwt,Xjc,Nat.zero_mod,Xq0];exact hbody (by omega) (by omega) (by omega) (by omega) (by omega) trivial (by omega) (by omega)
  | cons y l=>
   have t:y<4294967296:=e y (by rw [← hd];simp);simp only [μ] at b;have hget1:ζ (ε (d.length+1) (aj a)) .dead= .int .u32 (y:Int):=by
    rw [← hd,show d++x::y::l=(d++ [x])++y::l by simp];exact jS (by simp)
   have i:=ahj (h:=y) f m;have q:=U6 (h:=y) f m;have v:2^(32 - n)*y<18446744073709551616:=by
    have r:2^(32 - n)≤4294967296:=Xq1 (Xqc (by omega) (show 32 - n≤32 by omega)) (by decide);have w:2^(32 - n)*y≤4294967296*y:=Xqu _ r;omega
   have hbody:=RI k a g n a.length d.length (aj (o++0::κ (y::l).length 0));simp (disch:=first|omega|(simp [au,ay]<;>omega)) only [aB,Xqf,φ,μ,c,aY,Qi,lD,lX,au,θ,Xxu,fE,a_,dw,aW,jT,bJ,aO,hget1,jP,jS,bu,oO,υ,Qj,Dz,rq,ai0,i] at hbody;exact hbody (by omega) (by omega) (by omega) (by omega) trivial (by omega) (by omega) trivial (by omega) (by omega) (by omega) trivial (by omega) (by omega)
theorem anh (a:List Nat) (b:Bool) (n:Nat) (q:List Nat) (f:a.length<2^40) (hloop:∀ nt,41≤nt→az prog ap [] nt (af 0 (ah f222)) (fun _=> .exit 0) (fun (x:Nat × List Nat)=>alC a b n x.1 x.2) (acN a) (0,κ (a.length+1) 0) (q)) (e:(decide (((0:Nat):Int)≤(γ .i64 ((a.length:Int)+((1:Nat):Int)))))=true) (c:(decide ((γ .i64 ((a.length:Int)+((1:Nat):Int)))=(γ .i64 ((a.length:Int)+((1:Nat):Int)))))=true) (d:(decide ((γ .i64 ((a.length:Int)+((1:Nat):Int)))≤((1099511627776:Nat):Int)))=true):CO 222 [.sl (aj a) a.length b,ω (n:Int)] (.ret (.own (ν ((a.length+1)*1) (aj q)) (a.length+1) 1)):=pK [0] 0 0 (.c e (.c c (.c d .nil))) (.l (by rw [bJ,aO (by omega),aB,pX];exact az.blk hloop (by simp) rfl (aH.of ⟨rfl,rfl,rfl,rfl,rfl,trivial⟩) (aH.of ⟨rfl,trivial⟩):aG prog ap [] 41 (.block 0 (.loop (af 0 (ah f222)))) ⟨[(0,.sl (aj a) a.length b),(1,ω (n:Int)),(4,.nilS),(5,.ref 0 0 0 (δ (γ .i64 ((a.length:Int)+((1:Nat):Int))))),(6,.dead),(7,.dead),(8,.dead),(13,.sl (aj a) a.length b),(14,ω (a.length:Int)),(15,ω 0),(16,.dead)],[(0,⟨(gz (δ (γ .i64 ((a.length:Int)+((1:Nat):Int)))) [.int .u32 0]),0,false,0,1,true⟩)],.dead,[]⟩ (.normal) ⟨[(5,.ref 0 0 0 (a.length+1))],[(0,⟨(aj q),0,false,0,1,true⟩)],.dead,[]⟩) .nil)
theorem acO (a:List Nat) (d:Bool) (n:Nat) (e:n≤31) (f:a.length<2^39) (c:bM a):CO 222 [.sl (aj a) a.length d,ω (n:Int)] (.ret (.own (aj (MQ n 0 a)) (a.length+1) 1)):=by
 have h:=anh a d n (MQ n 0 a) (by omega) (fun nt b=>abZ b a d n e (by omega) c a [] [] 0 (Xqr _) rfl rfl);rw [MI (sK n a 0),bJ,aO (by omega)] at h;exact h (Yq0 (by omega)) (Yq0 rfl) (Yq0 (by omega))
theorem adu (a:List Nat) (b:Bool) (n x:Nat) (q:List Nat) (d:a.length<2^40) (c:q.length=a.length) (g:eX q=digs x) (hloop:∀ nt,48≤nt→az prog ap [] nt (af 0 (ah f226)) (fun _=> .exit 0) (fun (x:Nat × List Nat)=>ahi a b n x.1 x.2) (ace a) (0,κ a.length 0) (q)) (h:(decide (((0:Nat):Int)≤(a.length:Int)))=true) (e:(decide ((a.length:Int)=(a.length:Int)))=true) (f:(decide ((a.length:Int)≤((1099511627776:Nat):Int)))=true):CO 226 [.sl (aj a) a.length b,ω (n:Int)] (.ret (.sl (aj (digs x)) (digs x).length true)):=pK [0] 0 0 (.c h (.c e (.c f .nil))) (.c (BP q _ x c g d) (.l (by rw [aB,pX];exact az.blk hloop (by simp) rfl (aH.of ⟨rfl,rfl,rfl,rfl,rfl,rfl,trivial⟩) (aH.of ⟨rfl,trivial⟩):aG prog ap [] 48 (.block 0 (.loop (af 0 (ah f226)))) ⟨[(0,.sl (aj a) a.length b),(1,ω (n:Int)),(4,.nilS),(5,.ref 0 0 0 (δ (a.length:Int))),(6,.dead),(7,.dead),(11,.sl (aj a) a.length b),(12,ω (a.length:Int)),(13,ω 0),(14,.dead),(28,.dead)],[(0,⟨(gz (δ (a.length:Int)) [.int .u32 0]),0,false,0,1,true⟩)],.dead,[]⟩ (.normal) ⟨[(5,.ref 0 0 0 a.length)],[(0,⟨(aj q),0,false,0,1,true⟩)],.dead,[]⟩) .nil))
theorem YQ (a:List Nat) (e:Bool) (n:Nat) (d:n≤31) (f:a.length<2^40) (b:bM a):CO 226 [.sl (aj a) a.length e,ω (n:Int)] (.ret (.sl (aj (digs (aF a / 2^n))) (digs (aF a / 2^n)).length true)):=
 adu a e n _ (yh n a) f (Iz n a) (by rw [jM (RP d a b),RU d]) (fun nt c=>YP c a e n d f b a [] [] rfl rfl) (Yq0 (by omega)) (Yq0 rfl) (Yq0 (by omega))
def dZ (x:Nat):Nat:=if x=0 then 0 else Yxx x+1
theorem Zy {x m:Nat} (h:2^m≤x) (b:x<2^(m+1)):dZ x=m+1:=by
 have a:x ≠ 0:=by have:=Xqr m;omega
 unfold dZ;rw [if_neg a,(Yqg a).2 ⟨h,b⟩]
theorem u_ {x:Nat} (h:0<x):∃ m,dZ x=m+1∧2^m≤x∧x<2^(m+1):=by
 have a:x ≠ 0:=by omega
 have:=(Yqg (k:=Yxx x) a).1 rfl;exact ⟨Yxx x,by unfold dZ;rw [if_neg a],this.1,this.2⟩
theorem Es {x y:Nat} (k:Nat) (d:0<x) (e:y<2^k):dZ (2^k*x+y)=k+dZ x:=by
 obtain ⟨m,a,c,b⟩:=u_ d;rw [a,← Xze];apply Zy
 ·rw [Xxj];exact Xq1 (Xqy _ c) (Nat.le_add_right _ _)
 ·rw [Xze,Xxj];have:2^k*(x+1)≤2^k*2^(m+1):=Xqy _ b;rw [Xq8,φ] at this;omega
theorem uu {x k:Nat} (h:2^k≤x):dZ x=k+dZ (x / 2^k):=by
 have a:=Xq7 x (2^k);have b:0<x / 2^k:=Xvr h (Xqr _);have:=Es (x:=x / 2^k) (y:=x % 2^k) k b (Xqv _ (Xqr _));rwa [a] at this
theorem lQ {x k:Nat} (h:x<2^k):dZ x≤k:=by
 rcases Θ x with rfl|hx
 ·exact Xxk _
 ·obtain ⟨m,c,b,_⟩:=u_ hx;have:=(Nat.pow_lt_pow_iff_right (a:=2) (by omega)).1 (χ b h);omega
def TQ:List UInt8:= [0,1,2,2,3,3,3,3,4,4,4,4,4,4,4,4,5,5,5,5,5,5,5,5,5,5,5,5,5,5,5,5,6,6,6,6,6,6,6,6,6,6,6,6,6,6,6,6,6,6,6,6,6,6,6,6,6,6,6,6,6,6,6,6,7,7,7,7,7,7,7,7,7,7,7,7,7,7,7,7,7,7,7,7,7,7,7,7,7,7,7,7,7,7,7,7,7,7,7,7,7,7,7,7,7,7,7,7,7,7,7,7,7,7,7,7,7,7,7,7,7,7,7,7,7,7,7,7,8,8,8,8,8,8,8,8,8,8,8,8,8,8,8,8,8,8,8,8,8,8,8,8,8,8,8,8,8,8,8,8,8,8,8,8,8,8,8,8,8,8,8,8,8,8,8,8,8,8,8,8,8,8,8,8,8,8,8,8,8,8,8,8,8,8,8,8,8,8,8,8,8,8,8,8,8,8,8,8,8,8,8,8,8,8,8,8,8,8,8,8,8,8,8,8,8,8,8,8,8,8,8,8,8,8,8,8,8,8,8,8,8,8,8,8,8,8,8,8,8,8,8,8,8,8,8,8]
theorem XJ:∀ i:Fin 256,(TQ.getD i.val 0).toNat=dZ i.val:=by decide
theorem C_ {i:Nat} (h:i<256):(TQ.getD i 0).toNat=dZ i:=XJ ⟨i,h⟩
theorem Zu (x:Nat) (d:(decide (((0:Nat):Int)≤(γ .u8 (Xqw (Xqw (x:Int) (2^(min 16 32))) (2^(min 8 32))))))=true) (a:(decide ((γ .u8 (Xqw (Xqw (x:Int) (2^(min 16 32))) (2^(min 8 32))))<((256:Nat):Int)))=true) (c:lit true (decide (((256:Nat):Int)≤(Xqw (x:Int) (2^(min 16 32)))))=true) (b:lit true (decide (((65536:Nat):Int)≤(x:Int)))=true):CO 161 [.int .u32 (x:Int)] (.ret (ω (γ .i64 (((24:Nat):Int)+(γ .i64 ((Φ (Xqm TQ (δ (γ .u8 (Xqw (Xqw (x:Int) (2^(min 16 32))) (2^(min 8 32))))) 0):Nat):Int)))))):=pK [] 2 3 (.c d (.c a (.k 1 c (.k 1 b .nil)))) (.nil)
theorem Zv (x:Nat) (d:(decide (((0:Nat):Int)≤(γ .u8 (Xqw (x:Int) (2^(min 16 32))))))=true) (a:(decide ((γ .u8 (Xqw (x:Int) (2^(min 16 32))))<((256:Nat):Int)))=true) (c:lit false (decide (((256:Nat):Int)≤(Xqw (x:Int) (2^(min 16 32)))))=true) (b:lit true (decide (((65536:Nat):Int)≤(x:Int)))=true):CO 161 [.int .u32 (x:Int)] (.ret (ω (γ .i64 (((16:Nat):Int)+(γ .i64 ((Φ (Xqm TQ (δ (γ .u8 (Xqw (x:Int) (2^(min 16 32))))) 0):Nat):Int)))))):=pK [] 2 1 (.c d (.c a (.c c (.k 1 b .nil)))) (.nil)
theorem Zw (x:Nat) (d:(decide (((0:Nat):Int)≤(γ .u8 (Xqw (x:Int) (2^(min 8 32))))))=true) (a:(decide ((γ .u8 (Xqw (x:Int) (2^(min 8 32))))<((256:Nat):Int)))=true) (c:lit true (decide (((256:Nat):Int)≤(x:Int)))=true) (b:lit false (decide (((65536:Nat):Int)≤(x:Int)))=true):CO 161 [.int .u32 (x:Int)] (.ret (ω (γ .i64 (((8:Nat):Int)+(γ .i64 ((Φ (Xqm TQ (δ (γ .u8 (Xqw (x:Int) (2^(min 8 32))))) 0):Nat):Int)))))):=pK [] 2 2 (.c d (.c a (.k 1 c (.c b .nil)))) (.nil)
theorem Zx (x:Nat) (d:(decide (((0:Nat):Int)≤(γ .u8 (x:Int))))=true) (a:(decide ((γ .u8 (x:Int))<((256:Nat):Int)))=true) (c:lit false (decide (((256:Nat):Int)≤(x:Int)))=true) (b:lit false (decide (((65536:Nat):Int)≤(x:Int)))=true):CO 161 [.int .u32 (x:Int)] (.ret (ω (γ .i64 (((0:Nat):Int)+(γ .i64 ((Φ (Xqm TQ (δ (γ .u8 (x:Int))) 0):Nat):Int)))))):=pK [] 2 0 (.c d (.c a (.c c (.c b .nil)))) (.nil)
theorem aeP:(2:Nat)^16=65536:=by decide
theorem p_8:(2:Nat)^8=256:=by decide
theorem KQ (x:Nat) (d:x<4294967296):CO 161 [.int .u32 (x:Int)] (.ret (ω ((dZ x:Nat):Int))):=by
 by_cases h1:65536≤x
 ·have b:=uu (k:=16) h1;rw [aeP] at b;by_cases h2:256≤x / 65536
  ·have a:=uu (k:=8) h2;rw [p_8] at a;have h:=Zu x;simp (disch:=first|omega|(simp [au,ay]<;>omega)) only [qV,lD,aeP,p_8,w8u,υ,dw,a_,aW,bu,aB,C_] at h;have c:dZ (x / 65536 / 256)≤8:=lQ (by omega);rw [aO (by omega),bJ,aO (by omega)] at h;rw [b,a,← Xze];exact h (by omega) (by omega) (by omega) (by omega)
  ·have h:=Zv x;simp (disch:=first|omega|(simp [au,ay]<;>omega)) only [qV,lD,aeP,w8u,υ,dw,a_,aW,dH,dQ,eG,bu,aB,C_] at h;have c:dZ (x / 65536)≤8:=lQ (by omega);rw [aO (by omega),bJ,aO (by omega)] at h;rw [b];exact h (by omega) (by omega) (by omega) (by omega)
 ·by_cases h2:256≤x
  ·have a:=uu (k:=8) h2;rw [p_8] at a;have h:=Zw x;simp (disch:=first|omega|(simp [au,ay]<;>omega)) only [qV,lD,p_8,w8u,υ,dw,a_,aW,bu,dH,dQ,eG,aB,C_] at h;have c:dZ (x / 256)≤8:=lQ (by omega);rw [aO (by omega),bJ,aO (by omega)] at h;rw [a];exact h (by omega) (by omega) (by omega) (by omega)
  ·have h:=Zx x;simp (disch:=first|omega|(simp [au,ay]<;>omega)) only [w8u,υ,dw,a_,aW,dH,dQ,eG,aB,C_] at h;have c:dZ x≤8:=lQ (by omega);rw [aO (by omega),bJ,aO (by omega),Xqf] at h;exact h (by omega) (by omega) (by omega) (by omega)
theorem aez (x:Nat) (a:x<4294967296):CO 221 [.int .u32 (x:Int)] (.ret (ω (γ .i64 (((32:Nat):Int) - ((dZ x:Nat):Int))))):=pK [] 0 0 .nil (.c (KQ x a) .nil)
theorem ZG (x:Nat) (a:x<4294967296):CO 221 [.int .u32 (x:Int)] (.ret (ω ((32 - dZ x:Nat):Int))):=by
 have h:=aez x a;have b:dZ x≤32:=lQ a;simp (disch:=first|omega|(simp [au,ay]<;>omega)) only [jT] at h;exact h
theorem NT {nt:Nat} (b:52≤nt) (u2 u1 u0 v1 v0 q r:Nat) (c:lit true (decide (((4294967295:Nat):Int)<(γ .u64 ((r:Int)+(γ .u64 (v1:Int))))))=true) (a:lit true (decide (((4294967295:Nat):Int)<(q:Int)))=true):ψ nt f223 ⟨[(2,.ptr 0 0 0),(3,.ptr 1 0 0),(6,.int .u64 (q:Int)),(7,.int .u64 (r:Int))],[(0,⟨[.int .u32 (u2:Int),.int .u32 (u1:Int),.int .u32 (u0:Int)],0,false,0,0,true⟩),(1,⟨[.int .u32 (v1:Int),.int .u32 (v0:Int),.int .u32 0],0,false,0,0,true⟩)],.dead,[]⟩ (.exit 0) ⟨[(6,.int .u64 (γ .u64 ((q:Int) - ((1:Nat):Int))))],[(0,⟨[.int .u32 (u2:Int),.int .u32 (u1:Int),.int .u32 (u0:Int)],0,false,0,0,true⟩),(1,⟨[.int .u32 (v1:Int),.int .u32 (v0:Int),.int .u32 0],0,false,0,0,true⟩)],.dead,[]⟩:=pJ 223 [] 3 7 (.c c (.k 4 a .nil)) (.nil) b
theorem NU {nt:Nat} (b:52≤nt) (u2 u1 u0 v1 v0 q r:Nat) (c:lit false (decide (((4294967295:Nat):Int)<(γ .u64 ((r:Int)+(γ .u64 (v1:Int))))))=true) (a:lit true (decide (((4294967295:Nat):Int)<(q:Int)))=true):ψ nt f223 ⟨[(2,.ptr 0 0 0),(3,.ptr 1 0 0),(6,.int .u64 (q:Int)),(7,.int .u64 (r:Int))],[(0,⟨[.int .u32 (u2:Int),.int .u32 (u1:Int),.int .u32 (u0:Int)],0,false,0,0,true⟩),(1,⟨[.int .u32 (v1:Int),.int .u32 (v0:Int),.int .u32 0],0,false,0,0,true⟩)],.dead,[]⟩ (.normal) ⟨[(2,.ptr 0 0 0),(3,.ptr 1 0 0),(6,.int .u64 (γ .u64 ((q:Int) - ((1:Nat):Int)))),(7,.int .u64 (γ .u64 ((r:Int)+(γ .u64 (v1:Int)))))],[(0,⟨[.int .u32 (u2:Int),.int .u32 (u1:Int),.int .u32 (u0:Int)],0,false,0,0,true⟩),(1,⟨[.int .u32 (v1:Int),.int .u32 (v0:Int),.int .u32 0],0,false,0,0,true⟩)],.dead,[]⟩:=pJ 223 [] 3 3 (.c c (.k 4 a .nil)) (.nil) b
theorem NV {nt:Nat} (c:52≤nt) (u2 u1 u0 v1 v0 q r:Nat) (d:lit true (decide (((4294967295:Nat):Int)<(γ .u64 ((r:Int)+(γ .u64 (v1:Int))))))=true) (a:lit true (decide ((γ .u64 (Xxi (Xqi (Xqe .u64) (γ .u64 ((r:Int)*2^(min 32 64)))|||Xqi (Xqe .u64) (γ .u64 (u0:Int)))))<(γ .u64 ((q:Int)*(γ .u64 (v0:Int))))))=true) (b:lit false (decide (((4294967295:Nat):Int)<(q:Int)))=true):ψ nt f223 ⟨[(2,.ptr 0 0 0),(3,.ptr 1 0 0),(6,.int .u64 (q:Int)),(7,.int .u64 (r:Int))],[(0,⟨[.int .u32 (u2:Int),.int .u32 (u1:Int),.int .u32 (u0:Int)],0,false,0,0,true⟩),(1,⟨[.int .u32 (v1:Int),.int .u32 (v0:Int),.int .u32 0],0,false,0,0,true⟩)],.dead,[]⟩ (.exit 0) ⟨[(6,.int .u64 (γ .u64 ((q:Int) - ((1:Nat):Int))))],[(0,⟨[.int .u32 (u2:Int),.int .u32 (u1:Int),.int .u32 (u0:Int)],0,false,0,0,true⟩),(1,⟨[.int .u32 (v1:Int),.int .u32 (v0:Int),.int .u32 0],0,false,0,0,true⟩)],.dead,[]⟩:=pJ 223 [] 3 6 (.c d (.k 3 a (.k 7 b .nil))) (.nil) c
theorem NW {nt:Nat} (c:52≤nt) (u2 u1 u0 v1 v0 q r:Nat) (d:lit false (decide (((4294967295:Nat):Int)<(γ .u64 ((r:Int)+(γ .u64 (v1:Int))))))=true) (a:lit true (decide ((γ .u64 (Xxi (Xqi (Xqe .u64) (γ .u64 ((r:Int)*2^(min 32 64)))|||Xqi (Xqe .u64) (γ .u64 (u0:Int)))))<(γ .u64 ((q:Int)*(γ .u64 (v0:Int))))))=true) (b:lit false (decide (((4294967295:Nat):Int)<(q:Int)))=true):ψ nt f223 ⟨[(2,.ptr 0 0 0),(3,.ptr 1 0 0),(6,.int .u64 (q:Int)),(7,.int .u64 (r:Int))],[(0,⟨[.int .u32 (u2:Int),.int .u32 (u1:Int),.int .u32 (u0:Int)],0,false,0,0,true⟩),(1,⟨[.int .u32 (v1:Int),.int .u32 (v0:Int),.int .u32 0],0,false,0,0,true⟩)],.dead,[]⟩ (.normal) ⟨[(2,.ptr 0 0 0),(3,.ptr 1 0 0),(6,.int .u64 (γ .u64 ((q:Int) - ((1:Nat):Int)))),(7,.int .u64 (γ .u64 ((r:Int)+(γ .u64 (v1:Int)))))],[(0,⟨[.int .u32 (u2:Int),.int .u32 (u1:Int),.int .u32 (u0:Int)],0,false,0,0,true⟩),(1,⟨[.int .u32 (v1:Int),.int .u32 (v0:Int),.int .u32 0],0,false,0,0,true⟩)],.dead,[]⟩:=pJ 223 [] 3 2 (.c d (.k 3 a (.k 7 b .nil))) (.nil) c
theorem NY {nt:Nat} (b:52≤nt) (u2 u1 u0 v1 v0 q r:Nat) (c:lit false (decide ((γ .u64 (Xxi (Xqi (Xqe .u64) (γ .u64 ((r:Int)*2^(min 32 64)))|||Xqi (Xqe .u64) (γ .u64 (u0:Int)))))<(γ .u64 ((q:Int)*(γ .u64 (v0:Int))))))=true) (a:lit false (decide (((4294967295:Nat):Int)<(q:Int)))=true):ψ nt f223 ⟨[(2,.ptr 0 0 0),(3,.ptr 1 0 0),(6,.int .u64 (q:Int)),(7,.int .u64 (r:Int))],[(0,⟨[.int .u32 (u2:Int),.int .u32 (u1:Int),.int .u32 (u0:Int)],0,false,0,0,true⟩),(1,⟨[.int .u32 (v1:Int),.int .u32 (v0:Int),.int .u32 0],0,false,0,0,true⟩)],.dead,[]⟩ (.exit 0) ⟨[(6,.int .u64 (q:Int))],[(0,⟨[.int .u32 (u2:Int),.int .u32 (u1:Int),.int .u32 (u0:Int)],0,false,0,0,true⟩),(1,⟨[.int .u32 (v1:Int),.int .u32 (v0:Int),.int .u32 0],0,false,0,0,true⟩)],.dead,[]⟩:=pJ 223 [] 2 0 (.c c (.k 7 a .nil)) (.nil) b
def v_ (u2 u1 u0 v1 v0:Nat):Nat:=min 4294967295 ((4294967296*(4294967296*u2+u1)+u0) / (4294967296*v1+v0))
theorem zN {u2 u1 u0 v1 v0 x:Nat} (a:0<v1):x≤v_ u2 u1 u0 v1 v0↔x≤4294967295∧x*(4294967296*v1+v0)≤4294967296*(4294967296*u2+u1)+u0:=by
 unfold v_;rw [Nat.le_min,Xzf (by omega)]
theorem IK {a u0 v1 v0 q r:Nat} (h:q*v1+r=a):q*(4294967296*v1+v0)≤4294967296*a+u0↔q*v0≤4294967296*r+u0:=by
 rw [← h,Xq8 q,Xq8 4294967296,← Xqn q,Ψ q 4294967296,Xqn];omega
def aci (u2 u1 u0 v1 v0 q r:Nat):St:=⟨[(2,.ptr 0 0 0),(3,.ptr 1 0 0),(6,.int .u64 (q:Int)),(7,.int .u64 (r:Int))],[(0,⟨[.int .u32 (u2:Int),.int .u32 (u1:Int),.int .u32 (u0:Int)],0,false,0,0,true⟩),(1,⟨[.int .u32 (v1:Int),.int .u32 (v0:Int),.int .u32 0],0,false,0,0,true⟩)],.dead,[]⟩
def VC (u2 u1 u0 v1 v0 q:Nat):St:=⟨[(6,.int .u64 (q:Int))],[(0,⟨[.int .u32 (u2:Int),.int .u32 (u1:Int),.int .u32 (u0:Int)],0,false,0,0,true⟩),(1,⟨[.int .u32 (v1:Int),.int .u32 (v0:Int),.int .u32 0],0,false,0,0,true⟩)],.dead,[]⟩
theorem VD {nt:Nat} (i:52≤nt) (u2 u1 u0 v1 v0:Nat) (u:u2≤v1) (w:u1<4294967296) (g:u0<4294967296) (A:v1<4294967296) (z:v0<4294967296) (m:0<v1):
  ∀ (d q r:Nat),q=v_ u2 u1 u0 v1 v0+d→q<8589934592→r<4294967296→q*v1+r=4294967296*u2+u1→az prog ap [] nt (af 0 (ah f223)) (fun _=> .exit 0) (fun (x:Nat × Nat)=>aci u2 u1 u0 v1 v0 x.1 x.2) (VC u2 u1 u0 v1 v0) (q,r) (v_ u2 u1 u0 v1 v0):=by
 intro d
 induction d with
 | zero=>
  intro q r t l y c;obtain ⟨n,o⟩:=(zN (u2:=u2) (u1:=u1) (u0:=u0) (v0:=v0) (x:=q) m).1 (by omega);rw [IK c] at o;have e:4294967296*r|||u0=4294967296*r+u0:=by
   have:=Ac (a:=r) (b:=u0) (k:=32) g;rwa [nJ,Ψ] at this
  have p:q*v0<18446744073709551616:=χ o (by omega);have hbody:=NY i u2 u1 u0 v1 v0 q r;simp (disch:=first|omega|(simp [au,ay]<;>omega)) only [qV,Dz,nJ,oO,υ,WI,e,xX,aW,dH,dQ,eG] at hbody;have:=hbody (by omega) (by omega);rw [t] at this ⊢;exact .done this
 | succ d ih=>
  intro q r t l y c;have n:¬ q≤v_ u2 u1 u0 v1 v0:=by omega
  rw [zN m,IK c] at n;have e:4294967296*r|||u0=4294967296*r+u0:=by
   have:=Ac (a:=r) (b:=u0) (k:=32) g;rwa [nJ,Ψ] at this
  have hinv':(q - 1)*v1+(r+v1)=4294967296*u2+u1:=by
   rw [← c,show q=(q - 1)+1 by omega,Xxm,Xzy];simp only [Xwf];omega
  by_cases h6:4294967295<r+v1
  ·
   have s:q - 1=v_ u2 u1 u0 v1 v0:=by
    refine Nat.le_antisymm ((zN m).2 ⟨?_,(IK hinv').2 ?_⟩) (by omega)
    ·rcases Xq5 (q - 1) 4294967296 with h|h
     ·omega
     ·have j:4294967296*v1≤(q - 1)*v1:=Xqu _ h;have v:4294967296*u2≤4294967296*v1:=Xqy _ u;omega
    ·rcases Xq5 (q - 1) 4294967297 with h|h
     ·have j:(q - 1)*v0≤4294967296*v0:=Xqu _ (by omega);omega
     ·have j:4294967297*v1≤(q - 1)*v1:=Xqu _ h;have v:4294967296*u2≤4294967296*v1:=Xqy _ u;omega
   by_cases j:4294967295<q
   ·have hbody:=NT i u2 u1 u0 v1 v0 q r;have f:γ .u64 ((q:Int) - ((1:Nat):Int))=((q - 1:Nat):Int):=by rw [lC];omega
    rw [f] at hbody;simp (disch:=first|omega|(simp [au,ay]<;>omega)) only [oO,υ,bJ,aW,bu,a_,s] at hbody;exact .done (hbody (by omega) (by omega))
   ·have p:q*v0<18446744073709551616:=by
     have:q*v0≤4294967295*v0:=Xqu _ (by omega);omega
    have hbody:=NV i u2 u1 u0 v1 v0 q r;have f:γ .u64 ((q:Int) - ((1:Nat):Int))=((q - 1:Nat):Int):=by rw [lC];omega
    rw [f] at hbody;simp (disch:=first|omega|(simp [au,ay]<;>omega)) only [oO,υ,bJ,aW,bu,a_,qV,Dz,nJ,WI,e,xX,dH,dQ,eG,s] at hbody;exact .done (hbody (by omega) (by omega) (by omega))
  ·refine .next ?_ (ih (q - 1) (r+v1) (by omega) (by omega) (by omega) hinv')
   by_cases j:4294967295<q
   ·have hbody:=NU i u2 u1 u0 v1 v0 q r;have f:γ .u64 ((q:Int) - ((1:Nat):Int))=((q - 1:Nat):Int):=by rw [lC];omega
    rw [f] at hbody;simp (disch:=first|omega|(simp [au,ay]<;>omega)) only [oO,υ,bJ,aW,dH,dQ,eG,bu,a_] at hbody;exact hbody (by omega) (by omega)
   ·have p:q*v0<18446744073709551616:=by
     have:q*v0≤4294967295*v0:=Xqu _ (by omega);omega
    have hbody:=NW i u2 u1 u0 v1 v0 q r;have f:γ .u64 ((q:Int) - ((1:Nat):Int))=((q - 1:Nat):Int):=by rw [lC];omega
    rw [f] at hbody;simp (disch:=first|omega|(simp [au,ay]<;>omega)) only [oO,υ,bJ,aW,dH,dQ,eG,qV,Dz,nJ,WI,e,xX,bu,a_] at hbody;exact hbody (by omega) (by omega) (by omega)
theorem ahW (u2 u1 u0 v1 v0:Nat) (d:u2<4294967296) (e:u1<4294967296) (f:v1<4294967296) (g:0<v1) (a:4294967296*u2|||u1=4294967296*u2+u1) (b:(4294967296*u2+u1) / v1<8589934592) (hloop:∀ nt,52≤nt→az prog ap [] nt (af 0 (ah f223)) (fun _=> .exit 0) (fun (x:Nat × Nat)=>aci u2 u1 u0 v1 v0 x.1 x.2) (VC u2 u1 u0 v1 v0) ((4294967296*u2+u1) / v1,(4294967296*u2+u1) % v1) (v_ u2 u1 u0 v1 v0)) (c:(!((γ .u64 (v1:Int))==((0:Nat):Int)))=true):CO 223 [.agg [.int .u32 (u2:Int),.int .u32 (u1:Int),.int .u32 (u0:Int)],.agg [.int .u32 (v1:Int),.int .u32 (v0:Int),.int .u32 0]] (.ret (.int .u64 ((v_ u2 u1 u0 v1 v0:Nat):Int))):=pK [0] 0 0 (.c c (.k 3 c (.n 10 .nil))) (.l (by simp (disch:=first|omega|(simp [au,ay]<;>omega)) only [oO,υ,qV,Dz,nJ,WI,a,qg,wU];exact az.blk hloop (by simp) rfl (aH.of ⟨rfl,rfl,rfl,rfl,trivial⟩) (aH.of ⟨rfl,trivial⟩):aG prog ap [] 52 (.block 0 (.loop (af 0 (ah f223)))) ⟨[(0,.agg [.int .u32 (u2:Int),.int .u32 (u1:Int),.int .u32 (u0:Int)]),(1,.agg [.int .u32 (v1:Int),.int .u32 (v0:Int),.int .u32 0]),(2,.ptr 0 0 0),(3,.ptr 1 0 0),(4,.int .u64 0),(5,.int .u64 (γ .u64 (Xxi (Xqi (Xqe .u64) (γ .u64 ((γ .u64 (u2:Int))*2^(min 32 64)))|||Xqi (Xqe .u64) (γ .u64 (u1:Int)))))),(6,.int .u64 (γ .u64 (Xxg (γ .u64 (Xxi (Xqi (Xqe .u64) (γ .u64 ((γ .u64 (u2:Int))*2^(min 32 64)))|||Xqi (Xqe .u64) (γ .u64 (u1:Int))))) (γ .u64 (v1:Int))))),(7,.int .u64 (Xju (γ .u64 (Xxi (Xqi (Xqe .u64) (γ .u64 ((γ .u64 (u2:Int))*2^(min 32 64)))|||Xqi (Xqe .u64) (γ .u64 (u1:Int))))) (γ .u64 (v1:Int)))),(41,.dead),(50,.dead)],[(0,⟨[.int .u32 (u2:Int),.int .u32 (u1:Int),.int .u32 (u0:Int)],0,false,0,0,true⟩),(1,⟨[.int .u32 (v1:Int),.int .u32 (v0:Int),.int .u32 0],0,false,0,0,true⟩)],.dead,[]⟩ (.normal) ⟨[(6,.int .u64 ((v_ u2 u1 u0 v1 v0:Nat):Int))],[(0,⟨[.int .u32 (u2:Int),.int .u32 (u1:Int),.int .u32 (u0:Int)],0,false,0,0,true⟩),(1,⟨[.int .u32 (v1:Int),.int .u32 (v0:Int),.int .u32 0],0,false,0,0,true⟩)],.dead,[]⟩) .nil)
theorem adY (u2 u1 u0 v1 v0:Nat) (l:u2≤v1) (c:u1<4294967296) (f:u0<4294967296) (d:v1<4294967296) (g:v0<4294967296) (p:2147483648≤v1):CO 223 [.agg [.int .u32 (u2:Int),.int .u32 (u1:Int),.int .u32 (u0:Int)],.agg [.int .u32 (v1:Int),.int .u32 (v0:Int),.int .u32 0]] (.ret (.int .u64 ((v_ u2 u1 u0 v1 v0:Nat):Int))):=by
 have e:4294967296*u2|||u1=4294967296*u2+u1:=by
  have:=Ac (a:=u2) (b:=u1) (k:=32) c;rwa [nJ,Ψ] at this
 have j:v_ u2 u1 u0 v1 v0≤(4294967296*u2+u1) / v1:=by
  obtain ⟨n,i⟩:=(zN (u2:=u2) (u1:=u1) (u0:=u0) (v0:=v0) (v1:=v1) (by omega)).1 (Δ _);rw [Xzf (by omega)];rw [Xq8,← Xqn,Ψ _ 4294967296,Xqn] at i;omega
 have hd:(4294967296*u2+u1) / v1<8589934592:=by
  rw [Xqs (by omega)];omega
 have o:(4294967296*u2+u1) % v1<v1:=Xqv _ (by omega);have h:=ahW u2 u1 u0 v1 v0 (by omega) c d (by omega) e hd (fun nt m=>VD m u2 u1 u0 v1 v0 l c f d g (by omega) _ _ _ (Nat.add_sub_cancel' j).symm hd (by omega) (by rw [Ψ];exact Xq7 _ _));simp (disch:=first|omega|(simp [au,ay]<;>omega)) only [oO,υ,jG,dQ,eG] at h;exact h (by omega)
theorem TT {nt:Nat} (m:66≤nt) (U0 U v:List Nat) (d:Bool) (j M q c b i:Nat) (l:(Xqg (((j+(δ (i:Int)))*1)+1) (η (aj U)))=true) (a:(decide (((0:Nat):Int)≤(i:Int)))=true) (e:(decide ((i:Int)<(M:Int)))=true) (g:(chk (.int .u32) (ζ (ε ((j+(δ (i:Int)))*1) (aj U)) .dead))=true) (h:(chk (.int .u32) (ζ (ε ((δ (i:Int))*1) (aj v)) .dead))=true) (k:(decide ((i:Int)<(v.length:Int)))=true) (f:lit true (decide ((i:Int)<(v.length:Int)))=true):ak prog ap [⟨(aj U0),0,false,0,1,true⟩] nt (af 0 (ah f224)) ⟨[(0,.ref 0 0 j M),(1,.sl (aj v) v.length d),(2,.int .u64 (q:Int)),(7,.int .u64 (c:Int)),(8,.int .u64 (b:Int)),(14,ω (v.length:Int)),(15,ω (i:Int))],[(0,⟨(aj U),0,false,0,1,true⟩)],.dead,[]⟩ (.normal) ⟨[(0,.ref 0 0 j M),(1,.sl (aj v) v.length d),(2,.int .u64 (q:Int)),(7,.int .u64 (Xqw (γ .u64 ((γ .u64 ((q:Int)*(γ .u64 (τ (ζ (ε ((δ (i:Int))*1) (aj v)) .dead)))))+(c:Int))) (2^(min 32 64)))),(8,.int .u64 (Xqw (γ .u64 ((γ .u64 ((γ .u64 (τ (ζ (ε ((j+(δ (i:Int)))*1) (aj U)) .dead))) - (γ .u64 (Xxi (Xqi (Xqe .u64) (γ .u64 ((γ .u64 ((q:Int)*(γ .u64 (τ (ζ (ε ((δ (i:Int))*1) (aj v)) .dead)))))+(c:Int))) &&& Xqi (Xqe .u64) ((4294967295:Nat):Int)))))) - (b:Int))) (2^(min 63 64)))),(14,ω (v.length:Int)),(15,ω (γ .i64 ((i:Int)+((1:Nat):Int))))],[(0,⟨(ν ((j+(δ (i:Int)))*1) (aj U)++ [.int .u32 (γ .u32 (γ .u64 ((γ .u64 ((γ .u64 (τ (ζ (ε ((j+(δ (i:Int)))*1) (aj U)) .dead))) - (γ .u64 (Xxi (Xqi (Xqe .u64) (γ .u64 ((γ .u64 ((q:Int)*(γ .u64 (τ (ζ (ε ((δ (i:Int))*1) (aj v)) .dead)))))+(c:Int))) &&& Xqi (Xqe .u64) ((4294967295:Nat):Int)))))) - (b:Int))))]++ε (((j+(δ (i:Int)))*1)+1) (aj U)),0,false,0,1,true⟩)],.dead,[]⟩:=pJ 224 [] 1 1 (.c l (.c a (.c e (.k 1 g (.c a (.c e (.k 1 h (.c a (.c k (.c f .nil)))))))))) (.nil) m
theorem TU {nt:Nat} (e:66≤nt) (U0 U v:List Nat) (a:Bool) (j M q c b i:Nat) (d:lit false (decide ((i:Int)<(v.length:Int)))=true):ak prog ap [⟨(aj U0),0,false,0,1,true⟩] nt (af 0 (ah f224)) ⟨[(0,.ref 0 0 j M),(1,.sl (aj v) v.length a),(2,.int .u64 (q:Int)),(7,.int .u64 (c:Int)),(8,.int .u64 (b:Int)),(14,ω (v.length:Int)),(15,ω (i:Int))],[(0,⟨(aj U),0,false,0,1,true⟩)],.dead,[]⟩ (.exit 0) ⟨[(0,.ref 0 0 j M),(1,.sl (aj v) v.length a),(7,.int .u64 (c:Int)),(8,.int .u64 (b:Int))],[(0,⟨(aj U),0,false,0,1,true⟩)],.dead,[]⟩:=pJ 224 [] 1 0 (.c d .nil) (.nil) e
theorem Su {nt:Nat} (l:42≤nt) (U0 U v:List Nat) (b:Bool) (j M c i:Nat) (h:(Xqg (((j+(δ (i:Int)))*1)+1) (η (aj U)))=true) (a:(decide (((0:Nat):Int)≤(i:Int)))=true) (d:(decide ((i:Int)<(M:Int)))=true) (g:(chk (.int .u32) (ζ (ε ((δ (i:Int))*1) (aj v)) .dead))=true) (k:(decide ((i:Int)<(v.length:Int)))=true) (e:(chk (.int .u32) (ζ (ε ((j+(δ (i:Int)))*1) (aj U)) .dead))=true) (f:lit true (decide ((i:Int)<(v.length:Int)))=true):ak prog ap [⟨(aj U0),0,false,0,1,true⟩] nt (af 0 (ah f225)) ⟨[(0,.ref 0 0 j M),(1,.sl (aj v) v.length b),(4,.int .u64 (c:Int)),(8,ω (v.length:Int)),(9,ω (i:Int))],[(0,⟨(aj U),0,false,0,1,true⟩)],.dead,[]⟩ (.normal) ⟨[(0,.ref 0 0 j M),(1,.sl (aj v) v.length b),(4,.int .u64 (Xqw (γ .u64 ((γ .u64 ((γ .u64 (τ (ζ (ε ((j+(δ (i:Int)))*1) (aj U)) .dead)))+(γ .u64 (τ (ζ (ε ((δ (i:Int))*1) (aj v)) .dead)))))+(c:Int))) (2^(min 32 64)))),(8,ω (v.length:Int)),(9,ω (γ .i64 ((i:Int)+((1:Nat):Int))))],[(0,⟨(ν ((j+(δ (i:Int)))*1) (aj U)++ [.int .u32 (γ .u32 (γ .u64 ((γ .u64 ((γ .u64 (τ (ζ (ε ((j+(δ (i:Int)))*1) (aj U)) .dead)))+(γ .u64 (τ (ζ (ε ((δ (i:Int))*1) (aj v)) .dead)))))+(c:Int))))]++ε (((j+(δ (i:Int)))*1)+1) (aj U)),0,false,0,1,true⟩)],.dead,[]⟩:=pJ 225 [] 1 1 (.c h (.c a (.c d (.k 1 g (.c a (.c k (.c e (.c a (.c d (.c f .nil)))))))))) (.nil) l
theorem Sv {nt:Nat} (d:42≤nt) (U0 U v:List Nat) (a:Bool) (j M c i:Nat) (b:lit false (decide ((i:Int)<(v.length:Int)))=true):ak prog ap [⟨(aj U0),0,false,0,1,true⟩] nt (af 0 (ah f225)) ⟨[(0,.ref 0 0 j M),(1,.sl (aj v) v.length a),(4,.int .u64 (c:Int)),(8,ω (v.length:Int)),(9,ω (i:Int))],[(0,⟨(aj U),0,false,0,1,true⟩)],.dead,[]⟩ (.exit 0) ⟨[(0,.ref 0 0 j M),(1,.sl (aj v) v.length a),(4,.int .u64 (c:Int))],[(0,⟨(aj U),0,false,0,1,true⟩)],.dead,[]⟩:=pJ 225 [] 1 0 (.c b .nil) (.nil) d
def dN (u s b:Nat):Nat:=((u+(18446744073709551616 - s)) % 18446744073709551616+(18446744073709551616 - b)) % 18446744073709551616
theorem Iw {u s b:Nat} (c:u<4294967296) (hs:s<4294967296) (a:b≤1):dN u s b % 4294967296+s+b=u+4294967296*(dN u s b / 9223372036854775808)∧dN u s b / 9223372036854775808≤1∧dN u s b<18446744073709551616:=by
 unfold dN;omega
def nC (q:Nat):List Nat→List Nat→Nat→Nat→List Nat × Nat × Nat
 | [],_,c,b=>([],c,b)
 |_::_,[],c,b=>([],c,b)
 |v::vs,u::us,c,b=>
  let r:=nC q vs us ((q*v+c) / 4294967296) (dN u ((q*v+c) % 4294967296) b / 9223372036854775808)
  (dN u ((q*v+c) % 4294967296) b % 4294967296::r.1,r.2)
theorem Wj {q v c:Nat} (b:q<4294967296) (d:v<4294967296) (a:c<4294967296):q*v<18446744073709551616∧q*v+c<18446744073709551616∧(q*v+c) / 4294967296<4294967296:=by
 have h:q*v≤q*4294967295:=Xqy _ (by omega);omega
theorem TR {q:Nat} (k:q<4294967296) (vs:List Nat):∀ (a:List Nat) (c b:Nat),c<4294967296→b≤1→bM vs→bM a→vs.length≤a.length→
  (nC q vs a c b).2.1<4294967296∧(nC q vs a c b).2.2≤1∧bM (nC q vs a c b).1∧(nC q vs a c b).1.length=vs.length∧
  aF (nC q vs a c b).1+q*aF vs+c+b=aF (a.take vs.length)+4294967296^vs.length*((nC q vs a c b).2.1+(nC q vs a c b).2.2):=by
 induction vs with
 |nil=>intro a c b f g _ _ _;exact ⟨f,g,bM.nil,rfl,by simp [nC,aF]⟩
 | cons v vs ih=>
  intro a c b f g e d h;cases a with
  |nil=>simp at h
  |cons u a=>
   obtain ⟨y,t,i⟩:=Wj k e.head f;obtain ⟨r,m,p⟩:=Iw (u:=u) (s:=(q*v+c) % 4294967296) (b:=b) d.head (Xqv _ (by omega)) g;obtain ⟨l,o,n,j,x⟩:=ih a _ _ i m e.tail d.tail (by simpa using h);simp only [nC];refine ⟨l,o,bM.cons (Xqv _ (by omega)) n,by simp [j], ?_⟩;simp only [aF,μ,Xxw];have w:=Xq7 (q*v+c) 4294967296;rw [Xq8 q,Ψ q (4294967296*aF vs),Xqn,Ψ (aF vs) q,Xq2,Ψ (4294967296^vs.length),Xqn];omega
def alv (v:List Nat) (nv:Bool) (j M q:Nat) (i:Nat) (U:List Nat) (c b:Nat):St:=⟨[(0,.ref 0 0 j M),(1,.sl (aj v) v.length nv),(2,.int .u64 (q:Int)),(7,.int .u64 (c:Int)),(8,.int .u64 (b:Int)),(14,ω (v.length:Int)),(15,ω (i:Int))],[(0,⟨aj U,0,false,0,1,true⟩)],.dead,[]⟩
def acK (v:List Nat) (nv:Bool) (j M:Nat) (U:List Nat) (c b:Nat):St:=⟨[(0,.ref 0 0 j M),(1,.sl (aj v) v.length nv),(7,.int .u64 (c:Int)),(8,.int .u64 (b:Int))],[(0,⟨aj U,0,false,0,1,true⟩)],.dead,[]⟩
def pq (U0:List Nat):List bg:= [⟨aj U0,0,false,0,1,true⟩]
theorem abL {nt:Nat} (o:66≤nt) (U0 v:List Nat) (g:Bool) (j M q:Nat) (t:q<4294967296) (w:bM v) (F:v.length<M) (r:v.length<2^40):
  ∀ (vs d a pre:List Nat) (c b:Nat),d++vs=v→pre.length=j+d.length→vs.length≤a.length→c<4294967296→b≤1→bM a→
  az prog ap (pq U0) nt (af 0 (ah f224)) (fun _=> .exit 0) (fun (x:Nat × List Nat × Nat × Nat)=>alv v g j M q x.1 x.2.1 x.2.2.1 x.2.2.2) (fun (x:List Nat × Nat × Nat)=>acK v g j M x.1 x.2.1 x.2.2) (d.length,pre++a,c,b) (pre++(nC q vs a c b).1++a.drop vs.length,(nC q vs a c b).2.1,(nC q vs a c b).2.2):=by
 intro vs
 induction vs with
 |nil=>
  intro d a pre c b hd hp k l m e;have i:d=v:=by simpa using hd
  have hbody:=TU o U0 (pre++a) v g j M q c b v.length (by rw [aW];simp [lit]);refine .done ?_;simp only [nC,Γ,Xqb,Xj6,i];exact hbody
 | cons x vs ih=>
  intro d a pre c b hd hp k l m e;cases a with
  |nil=>simp at k
  | cons u a=>
   have z:x<4294967296:=w x (by rw [← hd];simp);have n:d.length+(vs.length+1)=v.length:=by rw [← hd];simp
   have A:=e.head;obtain ⟨D,C,p⟩:=Wj t z l;obtain ⟨B,y,E⟩:=Iw (u:=u) (s:=(q*x+c) % 4294967296) (b:=b) A (Xqv _ (by omega)) m;have hnext:=ih (d++ [x]) a (pre++ [dN u ((q*x+c) % 4294967296) b % 4294967296]) ((q*x+c) / 4294967296) (dN u ((q*x+c) % 4294967296) b / 9223372036854775808) (by rw [← hd];simp) (by simp;omega) (by simpa using k) p y e.tail;simp only [nC,μ,Xz9];rw [θ] at hnext;simp only [Xqd,Xq9,Xqk,μ,Xqb] at hnext ⊢;refine .next ?_ hnext
   have f:ζ (ε d.length (aj v)) .dead= .int .u32 (x:Int):=by
    rw [← hd];exact jS rfl
   have hbody:=TT o U0 (pre++u::a) v g j M q c b d.length;have h:((u+(18446744073709551616 - (q*x+c) % 4294967296)) % 18446744073709551616+(18446744073709551616 - b)) % 18446744073709551616=dN u ((q*x+c) % 4294967296) b:=rfl;simp (disch:=first|omega|(simp [au,ay]<;>omega)) only [aB,φ,au,θ,μ,fE,a_,dw,aW,jS,jP,f,bu,aY,oO,υ,xX,bJ,qV,lD,nJ,agO,Dv,lC,h,ai3,aO,rq,lX] at hbody;exact hbody (by omega) (by omega) (by omega) trivial trivial (by omega) (by omega)
def qP:List Nat→List Nat→Nat→List Nat × Nat
 | [],_,c=>([],c)
 |_::_,[],c=>([],c)
 |v::vs,u::us,c=>
  let r:=qP vs us ((u+v+c) / 4294967296)
  ((u+v+c) % 4294967296::r.1,r.2)
theorem Sr (vs:List Nat):∀ (a:List Nat) (c:Nat),c≤1→bM vs→bM a→vs.length≤a.length→
  (qP vs a c).2≤1∧bM (qP vs a c).1∧(qP vs a c).1.length=vs.length∧
  aF (qP vs a c).1+4294967296^vs.length*(qP vs a c).2=aF (a.take vs.length)+aF vs+c:=by
 induction vs with
 |nil=>intro a c e _ _ _;exact ⟨e,bM.nil,rfl,by simp [qP,aF]⟩
 | cons v vs ih=>
  intro a c e d b f;cases a with
  |nil=>simp at f
  |cons u a=>
   have j:=d.head;have l:=b.head;obtain ⟨g,i,h,k⟩:=ih a ((u+v+c) / 4294967296) (by omega) d.tail b.tail (by simpa using f);simp only [qP];refine ⟨g,bM.cons (Xqv _ (by omega)) i,by simp [h], ?_⟩;simp only [aF,μ,Xxw];rw [Xq2,Ψ (4294967296^vs.length),Xqn];omega
def aic (v:List Nat) (nv:Bool) (j M:Nat) (i:Nat) (U:List Nat) (c:Nat):St:=⟨[(0,.ref 0 0 j M),(1,.sl (aj v) v.length nv),(4,.int .u64 (c:Int)),(8,ω (v.length:Int)),(9,ω (i:Int))],[(0,⟨aj U,0,false,0,1,true⟩)],.dead,[]⟩
def acm (v:List Nat) (nv:Bool) (j M:Nat) (U:List Nat) (c:Nat):St:=⟨[(0,.ref 0 0 j M),(1,.sl (aj v) v.length nv),(4,.int .u64 (c:Int))],[(0,⟨aj U,0,false,0,1,true⟩)],.dead,[]⟩
theorem Zq {nt:Nat} (k:42≤nt) (U0 v:List Nat) (f:Bool) (j M:Nat) (n:bM v) (p:v.length<M) (l:v.length<2^40):
  ∀ (vs b a pre:List Nat) (c:Nat),b++vs=v→pre.length=j+b.length→vs.length≤a.length→c≤1→bM a→
  az prog ap (pq U0) nt (af 0 (ah f225)) (fun _=> .exit 0) (fun (x:Nat × List Nat × Nat)=>aic v f j M x.1 x.2.1 x.2.2) (fun (x:List Nat × Nat)=>acm v f j M x.1 x.2) (b.length,pre++a,c) (pre++(qP vs a c).1++a.drop vs.length,(qP vs a c).2):=by
 intro vs
 induction vs with
 |nil=>
  intro b a pre c hd hp h m d;have g:b=v:=by simpa using hd
  have hbody:=Sv k U0 (pre++a) v f j M c v.length (by rw [aW];simp [lit]);refine .done ?_;simp only [qP,Γ,Xqb,Xj6,g];exact hbody
 | cons x vs ih=>
  intro b a pre c hd hp h m d;cases a with
  |nil=>simp at h
  | cons u a=>
   have o:x<4294967296:=n x (by rw [← hd];simp);have i:b.length+(vs.length+1)=v.length:=by rw [← hd];simp
   have q:=d.head;have hnext:=ih (b++ [x]) a (pre++ [(u+x+c) % 4294967296]) ((u+x+c) / 4294967296) (by rw [← hd];simp) (by simp;omega) (by simpa using h) (by omega) d.tail;simp only [qP,μ,Xz9];rw [θ] at hnext;simp only [Xqd,Xq9,Xqk,μ,Xqb] at hnext ⊢;refine .next ?_ hnext
   have e:ζ (ε b.length (aj v)) .dead= .int .u32 (x:Int):=by
    rw [← hd];exact jS rfl
   have hbody:=Su k U0 (pre++u::a) v f j M c b.length;simp (disch:=first|omega|(simp [au,ay]<;>omega)) only [aB,φ,au,θ,μ,fE,a_,dw,aW,e,jP,jS,bu,aY,oO,υ,bJ,qV,lD,nJ,aO,rq,lX] at hbody;exact hbody (by omega) (by omega) (by omega) trivial (by omega) trivial (by omega)
theorem agc (U W v:List Nat) (a:Bool) (j M q c b:Nat) (hloop:∀ nt,66≤nt→az prog ap (pq U) nt (af 0 (ah f224)) (fun _=> .exit 0) (fun (x:Nat × List Nat × Nat × Nat)=>alv v a j M q x.1 x.2.1 x.2.2.1 x.2.2.2) (fun (x:List Nat × Nat × Nat)=>acK v a j M x.1 x.2.1 x.2.2) (0,U,0,0) (W,c,b)) (g:(Xqg (((j+(δ (v.length:Int)))*1)+1) (η (aj W)))=true) (d:(decide (((0:Nat):Int)≤(v.length:Int)))=true) (e:(decide ((v.length:Int)<(M:Int)))=true) (f:(chk (.int .u32) (ζ (ε ((j+(δ (v.length:Int)))*1) (aj W)) .dead))=true):bD prog ap 224 [.ref 0 0 j M,.sl (aj v) v.length a,.int .u64 (q:Int)] [⟨(aj U),0,false,0,1,true⟩] (.ret (.bool (!((Xqw (γ .u64 ((γ .u64 ((γ .u64 (τ (ζ (ε ((j+(δ (v.length:Int)))*1) (aj W)) .dead))) - (c:Int))) - (b:Int))) (2^(min 63 64)))==((0:Nat):Int))))) [⟨(ν ((j+(δ (v.length:Int)))*1) (aj W)++ [.int .u32 (γ .u32 (γ .u64 ((γ .u64 ((γ .u64 (τ (ζ (ε ((j+(δ (v.length:Int)))*1) (aj W)) .dead))) - (c:Int))) - (b:Int))))]++ε (((j+(δ (v.length:Int)))*1)+1) (aj W)),0,false,0,1,true⟩]:=pK [0] 0 0 (.k 1 g (.c d (.c e (.c f (.c d (.c e .nil)))))) (.l (by exact az.blk hloop (by simp) rfl (aH.of ⟨rfl,rfl,rfl,rfl,rfl,rfl,rfl,trivial⟩) (aH.of ⟨rfl,rfl,rfl,rfl,trivial⟩):aG prog ap [⟨(aj U),0,false,0,1,true⟩] 66 (.block 0 (.loop (af 0 (ah f224)))) ⟨[(0,.ref 0 0 j M),(1,.sl (aj v) v.length a),(2,.int .u64 (q:Int)),(6,.bool false),(7,.int .u64 0),(8,.int .u64 0),(9,.dead),(10,.dead),(11,.dead),(12,.dead),(14,ω (v.length:Int)),(15,ω 0),(16,.dead)],[(0,⟨(aj U),0,false,0,1,true⟩)],.dead,[]⟩ (.normal) ⟨[(0,.ref 0 0 j M),(1,.sl (aj v) v.length a),(7,.int .u64 (c:Int)),(8,.int .u64 (b:Int))],[(0,⟨(aj W),0,false,0,1,true⟩)],.dead,[]⟩) .nil)
theorem aen (U W v:List Nat) (a:Bool) (j M c:Nat) (hloop:∀ nt,42≤nt→az prog ap (pq U) nt (af 0 (ah f225)) (fun _=> .exit 0) (fun (x:Nat × List Nat × Nat)=>aic v a j M x.1 x.2.1 x.2.2) (fun (x:List Nat × Nat)=>acm v a j M x.1 x.2) (0,U,0) (W,c)) (f:(Xqg (((j+(δ (v.length:Int)))*1)+1) (η (aj W)))=true) (b:(decide (((0:Nat):Int)≤(v.length:Int)))=true) (d:(decide ((v.length:Int)<(M:Int)))=true) (e:(chk (.int .u32) (ζ (ε ((j+(δ (v.length:Int)))*1) (aj W)) .dead))=true):bD prog ap 225 [.ref 0 0 j M,.sl (aj v) v.length a] [⟨(aj U),0,false,0,1,true⟩] (.ret (.tup [])) [⟨(ν ((j+(δ (v.length:Int)))*1) (aj W)++ [.int .u32 (γ .u32 ((τ (ζ (ε ((j+(δ (v.length:Int)))*1) (aj W)) .dead))+(γ .u32 (c:Int))))]++ε (((j+(δ (v.length:Int)))*1)+1) (aj W)),0,false,0,1,true⟩]:=pK [0] 0 0 (.c f (.c b (.c d (.c e (.c b (.c d .nil)))))) (.l (by exact az.blk hloop (by simp) rfl (aH.of ⟨rfl,rfl,rfl,rfl,rfl,trivial⟩) (aH.of ⟨rfl,rfl,rfl,trivial⟩):aG prog ap [⟨(aj U),0,false,0,1,true⟩] 42 (.block 0 (.loop (af 0 (ah f225)))) ⟨[(0,.ref 0 0 j M),(1,.sl (aj v) v.length a),(4,.int .u64 0),(5,.dead),(6,.dead),(8,ω (v.length:Int)),(9,ω 0),(10,.dead)],[(0,⟨(aj U),0,false,0,1,true⟩)],.dead,[]⟩ (.normal) ⟨[(0,.ref 0 0 j M),(1,.sl (aj v) v.length a),(4,.int .u64 (c:Int))],[(0,⟨(aj W),0,false,0,1,true⟩)],.dead,[]⟩) .nil)
theorem BU (n W:Nat) (post:List Nat):ν n (bP (n+1) W++post)=bP n W:=by
 rw [uD,Xqd,Xxx (by rw [aQ];exact Δ _),Ξ (by rw [aQ];exact Δ _)]
theorem BR (n W:Nat) (post:List Nat):ε n (bP (n+1) W++post)=W / 2^(32*n) % 2^32::post:=by
 rw [uD,Xqd,List.drop_append_of_le_length (by rw [aQ];exact Δ _),List.drop_of_length_le (by rw [aQ];exact Δ _)];rfl
theorem OA {l:List Nat} {m:Nat} (h:bM l) (a:l.length=m):l=bP m (aF l):=by subst a;exact (EX h).symm
theorem abH (pre post v:List Nat) (k:Bool) (n W q:Nat) (j:v.length=n) (B:bM v) (A:q<4294967296) (H:W<4294967296^(n+1)) (hpost:bM post) (N:pre.length+n<2^40):
  bD prog ap 224 [.ref 0 0 pre.length (n+1),.sl (aj v) n k,.int .u64 (q:Int)] (pq (pre++bP (n+1) W++post)) (.ret (.bool (decide (W<q*aF v)))) (pq (pre++bP (n+1) (if W<q*aF v then W+4294967296^(n+1) - q*aF v else W - q*aF v)++post)):=by
 have g:bM (bP (n+1) W++post):=bM.app (bM.pad _ _) hpost;obtain ⟨F,C,E,e,o⟩:=TR A v (bP (n+1) W++post) 0 0 (by omega) (by omega) B g (by simp [aQ];omega);have hloop:=fun nt (hnt:66≤nt)=>abL hnt (pre++bP (n+1) W++post) v k pre.length (n+1) q A B (by omega) (by omega) v [] (bP (n+1) W++post) pre 0 0 rfl rfl (by simp [aQ];omega) (by omega) (by omega) g
 rw [j,BU,vU,mM] at o;rw [j,BR,mM,nJ] at hloop;generalize R:nC q v (bP (n+1) W++post) 0 0=r at*
 obtain ⟨y,c,b⟩:=r;simp only [Xq0,Xqb,← Xqd] at F C E e o hloop;have D:W / 4294967296^n<4294967296:=by
  rw [Xqs (iF n),Ψ,← Xq2];exact H
 rw [υ D] at hloop;have K:=Xq7 W (4294967296^n);generalize I:W / 4294967296^n=x at*
 obtain ⟨G,O,Q⟩:=Iw (u:=x) (s:=c) (b:=b) D F C;have htake:=agc (pre++bP (n+1) W++post) (pre++y++x::post) v k pre.length (n+1) q c b hloop;have d:pre.length+n=(pre++y).length:=by simp [e,j]
 have l:((x+(18446744073709551616 - c)) % 18446744073709551616+(18446744073709551616 - b)) % 18446744073709551616=dN x c b:=rfl;rw [j] at htake e;have m:ζ (ε (pre.length+n) (aj (pre++y++x::post))) .dead= .int .u32 (x:Int):=jS d;have h:∀ z:Nat,ν (pre.length+n) (aj (pre++y++x::post))++ [Xxo .u32 (z:Int)]++ε (pre.length+n+1) (aj (pre++y++x::post))=aj (pre++y++z::post):=fun z=>lX d
 simp (disch:=first|omega|(simp [au,ay]<;>omega)) only [aB,φ,au,θ,μ,fE,a_,dw,aW,m,jP,aY,oO,υ,lC,l,qV,lD,ai3,jG,rq,h] at htake;have htake:=htake (by omega) (by omega) (by omega) trivial;generalize M:dN x c b / 9223372036854775808=f at*
 generalize P:dN x c b % 4294967296=z at*
 have t:z<4294967296:=by omega
 have i:bM (y++ [z]):=bM.app E (bM.cons t bM.nil);have a:aF (y++ [z])+q*aF v=W+4294967296^(n+1)*f:=by
  rw [mQ,e];simp only [aF,Xjc,Xq0];have L:4294967296^n*(z+c+b)=4294967296^n*(x+4294967296*f):=by rw [G]
  rw [Xq2,Xqn];rw [Xq8,Xq8,Xq8] at L;rw [Xq8] at o;omega
 have p:=p_ i;have hlen2:(y++ [z]).length=n+1:=by simp [e]
 rw [hlen2] at p;have hlist:pre++y++z::post=pre++(y++ [z])++post:=by simp
 have w:(!decide (f=0))=decide (W<q*aF v):=by
  rcases Θ f with h0|h0
  ·rw [h0,Xjc,Xq0] at a;rw [h0,Yq0 rfl,Yq1 (by omega)];rfl
  ·rw [show f=1 by omega,φ] at a;rw [Yq1 (by omega),Yq0 (by omega)];rfl
 have J:aF (y++ [z])=if W<q*aF v then W+4294967296^(n+1) - q*aF v else W - q*aF v:=by
  rcases Θ f with h0|h0
  ·rw [h0,Xjc,Xq0] at a;rw [if_neg (by omega)];omega
  ·rw [show f=1 by omega,φ] at a;rw [if_pos (by omega)];omega
 rw [hlist,OA i hlen2,J,w] at htake;exact htake
theorem Zo (pre post v:List Nat) (j:Bool) (n W:Nat) (i:v.length=n) (o:bM v) (t:W<4294967296^(n+1)) (hpost:bM post) (C:pre.length+n<2^40):
  bD prog ap 225 [.ref 0 0 pre.length (n+1),.sl (aj v) n j] (pq (pre++bP (n+1) W++post)) (.ret (.tup [])) (pq (pre++bP (n+1) ((W+aF v) % 4294967296^(n+1))++post)):=by
 have g:bM (bP (n+1) W++post):=bM.app (bM.pad _ _) hpost;obtain ⟨q,l,f,p⟩:=Sr v (bP (n+1) W++post) 0 (by omega) o g (by simp [aQ];omega);have hloop:=fun nt (hnt:42≤nt)=>Zq hnt (pre++bP (n+1) W++post) v j pre.length (n+1) o (by omega) (by omega) v [] (bP (n+1) W++post) pre 0 rfl rfl (by simp [aQ];omega) (by omega) g
 rw [i,BU,vU,mM] at p;rw [i,BR,mM,nJ] at hloop;generalize D:qP v (bP (n+1) W++post) 0=r at*
 obtain ⟨y,c⟩:=r;simp only [Xq0,Xqb,← Xqd] at q l f p hloop;have s:W / 4294967296^n<4294967296:=by
  rw [Xqs (iF n),Ψ,← Xq2];exact t
 rw [υ s] at hloop;have w:=Xq7 W (4294967296^n);generalize A:W / 4294967296^n=x at*
 have hgive:=aen (pre++bP (n+1) W++post) (pre++y++x::post) v j pre.length (n+1) c hloop;have a:pre.length+n=(pre++y).length:=by simp [f,i]
 rw [i] at hgive f;have k:ζ (ε (pre.length+n) (aj (pre++y++x::post))) .dead= .int .u32 (x:Int):=jS a;have d:∀ z:Nat,ν (pre.length+n) (aj (pre++y++x::post))++ [Xxo .u32 (z:Int)]++ε (pre.length+n+1) (aj (pre++y++x::post))=aj (pre++y++z::post):=fun z=>lX a
 rw [rq,υ (show c<4294967296 by omega)] at hgive;have m:γ .u32 ((x:Int)+(c:Int))=(((x+c) % 4294967296:Nat):Int):=by rw [bJ,rq]
 simp (disch:=first|omega|(simp [au,ay]<;>omega)) only [aB,φ,au,θ,μ,fE,a_,dw,aW,k,jP,aY,bJ,rq,d] at hgive;have hgive:=hgive (by omega) (by omega) (by omega) trivial;have e:bM (y++ [(x+c) % 4294967296]):=bM.app l (bM.cons (Xqv _ (by omega)) bM.nil);have b:aF (y++ [(x+c) % 4294967296])+4294967296^(n+1)*((x+c) / 4294967296)=W+aF v:=by
  rw [mQ,f];simp only [aF,Xjc,Xq0];have B:4294967296^n*(x+c)=4294967296^n*(4294967296*((x+c) / 4294967296)+(x+c) % 4294967296):=by rw [Xq7]
  rw [Xq2,Xqn];rw [Xq8,Xq8] at B;omega
 have h:=p_ e;have hlen2:(y++ [(x+c) % 4294967296]).length=n+1:=by simp [f]
 rw [hlen2] at h;have hlist:pre++y++(x+c) % 4294967296::post=pre++(y++ [(x+c) % 4294967296])++post:=by simp
 have u:aF (y++ [(x+c) % 4294967296])=(W+aF v) % 4294967296^(n+1):=by
  rw [← b,Xzi,υ h]
 rw [hlist,OA e hlen2,u] at hgive;exact hgive
theorem ahn {nt:Nat} (D:130≤nt) (Q U U1 U2 v:List Nat) (e s M n j q:Nat) (z:(Xqg (((0+(δ (j:Int)))*1)+1) (η (aj Q)))=true) (l:(decide (((0:Nat):Int)≤(j:Int)))=true) (y:(decide ((j:Int)<(e:Int)))=true) (p:(decide ((j:Int)≤(γ .i64 ((γ .i64 ((j:Int)+(n:Int)))+((1:Nat):Int)))))=true) (r:(decide ((γ .i64 ((γ .i64 ((j:Int)+(n:Int)))+((1:Nat):Int)))≤(M:Int)))=true) (w:(chk (.int .u32) (ζ (ε ((δ (γ .i64 ((n:Int) - ((2:Nat):Int))))*1) (aj v)) .dead))=true) (u:(decide (((0:Nat):Int)≤(γ .i64 ((n:Int) - ((2:Nat):Int)))))=true) (x:(decide ((γ .i64 ((n:Int) - ((2:Nat):Int)))<(v.length:Int)))=true) (B:(chk (.int .u32) (ζ (ε ((δ (γ .i64 ((n:Int) - ((1:Nat):Int))))*1) (aj v)) .dead))=true) (t:(decide (((0:Nat):Int)≤(γ .i64 ((n:Int) - ((1:Nat):Int)))))=true) (a:(decide ((γ .i64 ((n:Int) - ((1:Nat):Int)))<(v.length:Int)))=true) (d:(chk (.int .u32) (ζ (ε ((0+(δ (γ .i64 ((γ .i64 ((j:Int)+(n:Int))) - ((2:Nat):Int)))))*1) (aj U)) .dead))=true) (b:(decide (((0:Nat):Int)≤(γ .i64 ((γ .i64 ((j:Int)+(n:Int))) - ((2:Nat):Int)))))=true) (o:(decide ((γ .i64 ((γ .i64 ((j:Int)+(n:Int))) - ((2:Nat):Int)))<(M:Int)))=true) (k:(chk (.int .u32) (ζ (ε ((0+(δ (γ .i64 ((γ .i64 ((j:Int)+(n:Int))) - ((1:Nat):Int)))))*1) (aj U)) .dead))=true) (m:(decide (((0:Nat):Int)≤(γ .i64 ((γ .i64 ((j:Int)+(n:Int))) - ((1:Nat):Int)))))=true) (i:(decide ((γ .i64 ((γ .i64 ((j:Int)+(n:Int))) - ((1:Nat):Int)))<(M:Int)))=true) (f:(chk (.int .u32) (ζ (ε ((0+(δ (γ .i64 ((j:Int)+(n:Int)))))*1) (aj U)) .dead))=true) (h:(decide (((0:Nat):Int)≤(γ .i64 ((j:Int)+(n:Int)))))=true) (g:(decide ((γ .i64 ((j:Int)+(n:Int)))<(M:Int)))=true) (c:lit true (decide (((0:Nat):Int)≤(j:Int)))=true) (E:CO 223 [.agg [.int .u32 (τ (ζ (ε ((0+(δ (γ .i64 ((j:Int)+(n:Int)))))*1) (aj U)) .dead)),.int .u32 (τ (ζ (ε ((0+(δ (γ .i64 ((γ .i64 ((j:Int)+(n:Int))) - ((1:Nat):Int)))))*1) (aj U)) .dead)),.int .u32 (τ (ζ (ε ((0+(δ (γ .i64 ((γ .i64 ((j:Int)+(n:Int))) - ((2:Nat):Int)))))*1) (aj U)) .dead))],.agg [.int .u32 (τ (ζ (ε ((δ (γ .i64 ((n:Int) - ((1:Nat):Int))))*1) (aj v)) .dead)),.int .u32 (τ (ζ (ε ((δ (γ .i64 ((n:Int) - ((2:Nat):Int))))*1) (aj v)) .dead)),.int .u32 0]] (.ret (.int .u64 (q:Int)))) (C:bD prog ap 224 [.ref 0 0 (0+(δ (j:Int))) ((δ (γ .i64 ((γ .i64 ((j:Int)+(n:Int)))+((1:Nat):Int)))) - (δ (j:Int))),.sl (aj v) v.length true,.int .u64 (q:Int)] [⟨(aj U),0,false,0,1,true⟩] (.ret (.bool true)) [⟨(aj U1),0,false,0,1,true⟩]) (A:bD prog ap 225 [.ref 0 0 (0+(δ (j:Int))) ((δ (γ .i64 ((γ .i64 ((j:Int)+(n:Int)))+((1:Nat):Int)))) - (δ (j:Int))),.sl (aj v) v.length true] [⟨(aj U1),0,false,0,1,true⟩] (.ret (.tup [])) [⟨(aj U2),0,false,0,1,true⟩]):ak prog ap [] nt (af 1 (ah f211)) ⟨[(4,.ref 0 0 0 e),(8,ω (s:Int)),(9,.ref 1 0 0 M),(10,.sl (aj v) v.length true),(11,ω (n:Int)),(12,ω (j:Int))],[(0,⟨(aj Q),0,false,0,1,true⟩),(1,⟨(aj U),0,false,0,1,true⟩)],.dead,[]⟩ (.normal) ⟨[(4,.ref 0 0 0 e),(8,ω (s:Int)),(9,.ref 1 0 0 M),(10,.sl (aj v) v.length true),(11,ω (n:Int)),(12,ω (γ .i64 ((j:Int) - ((1:Nat):Int))))],[(0,⟨(ν ((0+(δ (j:Int)))*1) (aj Q)++ [.int .u32 (γ .u32 (γ .u64 ((q:Int) - ((1:Nat):Int))))]++ε (((0+(δ (j:Int)))*1)+1) (aj Q)),0,false,0,1,true⟩),(1,⟨(aj U2),0,false,0,1,true⟩)],.dead,[]⟩:=pJ 211 [] 2 3 (.c z (.c l (.c y (.c l (.c p (.c r (.k 1 l (.c p (.c r (.c w (.c u (.c x (.c B (.c t (.c a (.c d (.c b (.c o (.c k (.c m (.c i (.c f (.c h (.c g (.c c .nil))))))))))))))))))))))))) (.c A (.c C (.c E .nil))) D
theorem ahl {nt:Nat} (C:130≤nt) (Q U U1 U2 v:List Nat) (e o M n j q:Nat) (z:(Xqg (((0+(δ (j:Int)))*1)+1) (η (aj Q)))=true) (p:(decide (((0:Nat):Int)≤(j:Int)))=true) (y:(decide ((j:Int)<(e:Int)))=true) (t:(decide ((j:Int)≤(γ .i64 ((γ .i64 ((j:Int)+(n:Int)))+((1:Nat):Int)))))=true) (u:(decide ((γ .i64 ((γ .i64 ((j:Int)+(n:Int)))+((1:Nat):Int)))≤(M:Int)))=true) (w:(chk (.int .u32) (ζ (ε ((δ (γ .i64 ((n:Int) - ((2:Nat):Int))))*1) (aj v)) .dead))=true) (s:(decide (((0:Nat):Int)≤(γ .i64 ((n:Int) - ((2:Nat):Int)))))=true) (x:(decide ((γ .i64 ((n:Int) - ((2:Nat):Int)))<(v.length:Int)))=true) (A:(chk (.int .u32) (ζ (ε ((δ (γ .i64 ((n:Int) - ((1:Nat):Int))))*1) (aj v)) .dead))=true) (r:(decide (((0:Nat):Int)≤(γ .i64 ((n:Int) - ((1:Nat):Int)))))=true) (a:(decide ((γ .i64 ((n:Int) - ((1:Nat):Int)))<(v.length:Int)))=true) (d:(chk (.int .u32) (ζ (ε ((0+(δ (γ .i64 ((γ .i64 ((j:Int)+(n:Int))) - ((2:Nat):Int)))))*1) (aj U)) .dead))=true) (b:(decide (((0:Nat):Int)≤(γ .i64 ((γ .i64 ((j:Int)+(n:Int))) - ((2:Nat):Int)))))=true) (m:(decide ((γ .i64 ((γ .i64 ((j:Int)+(n:Int))) - ((2:Nat):Int)))<(M:Int)))=true) (k:(chk (.int .u32) (ζ (ε ((0+(δ (γ .i64 ((γ .i64 ((j:Int)+(n:Int))) - ((1:Nat):Int)))))*1) (aj U)) .dead))=true) (l:(decide (((0:Nat):Int)≤(γ .i64 ((γ .i64 ((j:Int)+(n:Int))) - ((1:Nat):Int)))))=true) (i:(decide ((γ .i64 ((γ .i64 ((j:Int)+(n:Int))) - ((1:Nat):Int)))<(M:Int)))=true) (f:(chk (.int .u32) (ζ (ε ((0+(δ (γ .i64 ((j:Int)+(n:Int)))))*1) (aj U)) .dead))=true) (h:(decide (((0:Nat):Int)≤(γ .i64 ((j:Int)+(n:Int)))))=true) (g:(decide ((γ .i64 ((j:Int)+(n:Int)))<(M:Int)))=true) (c:lit true (decide (((0:Nat):Int)≤(j:Int)))=true) (D:CO 223 [.agg [.int .u32 (τ (ζ (ε ((0+(δ (γ .i64 ((j:Int)+(n:Int)))))*1) (aj U)) .dead)),.int .u32 (τ (ζ (ε ((0+(δ (γ .i64 ((γ .i64 ((j:Int)+(n:Int))) - ((1:Nat):Int)))))*1) (aj U)) .dead)),.int .u32 (τ (ζ (ε ((0+(δ (γ .i64 ((γ .i64 ((j:Int)+(n:Int))) - ((2:Nat):Int)))))*1) (aj U)) .dead))],.agg [.int .u32 (τ (ζ (ε ((δ (γ .i64 ((n:Int) - ((1:Nat):Int))))*1) (aj v)) .dead)),.int .u32 (τ (ζ (ε ((δ (γ .i64 ((n:Int) - ((2:Nat):Int))))*1) (aj v)) .dead)),.int .u32 0]] (.ret (.int .u64 (q:Int)))) (B:bD prog ap 224 [.ref 0 0 (0+(δ (j:Int))) ((δ (γ .i64 ((γ .i64 ((j:Int)+(n:Int)))+((1:Nat):Int)))) - (δ (j:Int))),.sl (aj v) v.length true,.int .u64 (q:Int)] [⟨(aj U),0,false,0,1,true⟩] (.ret (.bool false)) [⟨(aj U1),0,false,0,1,true⟩]):ak prog ap [] nt (af 1 (ah f211)) ⟨[(4,.ref 0 0 0 e),(8,ω (o:Int)),(9,.ref 1 0 0 M),(10,.sl (aj v) v.length true),(11,ω (n:Int)),(12,ω (j:Int))],[(0,⟨(aj Q),0,false,0,1,true⟩),(1,⟨(aj U),0,false,0,1,true⟩)],.dead,[]⟩ (.normal) ⟨[(4,.ref 0 0 0 e),(8,ω (o:Int)),(9,.ref 1 0 0 M),(10,.sl (aj v) v.length true),(11,ω (n:Int)),(12,ω (γ .i64 ((j:Int) - ((1:Nat):Int))))],[(0,⟨(ν ((0+(δ (j:Int)))*1) (aj Q)++ [.int .u32 (γ .u32 (q:Int))]++ε (((0+(δ (j:Int)))*1)+1) (aj Q)),0,false,0,1,true⟩),(1,⟨(aj U1),0,false,0,1,true⟩)],.dead,[]⟩:=pJ 211 [] 2 1 (.c z (.c p (.c y (.k 1 p (.c t (.c u (.c w (.c s (.c x (.c A (.c r (.c a (.c d (.c b (.c m (.c k (.c l (.c i (.c f (.c h (.c g (.c c .nil)))))))))))))))))))))) (.c B (.c D .nil)) C
theorem ahk {nt:Nat} (c:130≤nt) (Q U U1 U2 v:List Nat) (a b M n j q:Nat):ak prog ap [] nt (af 1 (ah f211)) ⟨[(4,.ref 0 0 0 a),(8,ω (b:Int)),(9,.ref 1 0 0 M),(10,.sl (aj v) v.length true),(11,ω (n:Int)),(12,ω (-1))],[(0,⟨(aj Q),0,false,0,1,true⟩),(1,⟨(aj U),0,false,0,1,true⟩)],.dead,[]⟩ (.exit 1) ⟨[(4,.ref 0 0 0 a),(8,ω (b:Int)),(9,.ref 1 0 0 M),(10,.sl (aj v) v.length true),(11,ω (n:Int)),(12,ω (-1))],[(0,⟨(aj Q),0,false,0,1,true⟩),(1,⟨(aj U),0,false,0,1,true⟩)],.dead,[]⟩:=pJ 211 [] 1 0 (.n 1 .nil) (.nil) c
theorem Ls {q Q k:Nat} (a:q<4294967296):bP (k+1) (4294967296*Q+q)=q::bP k Q:=by
 unfold bP;rw [Xwl,Xqh,Xzz];congr 1
 ·simp only [Xjc,Xve,Xz0,nJ];omega
 ·apply Xjb;intro i _;simp only [Xvq,Xkl];rw [show 32*(i+1)=32+32*i by omega,Xxj,← Xxr,nJ,show (4294967296*Q+q) / 4294967296=Q by omega]
theorem NZ {k W V:Nat} (q:V<4294967296^(k+2)) (c:2147483648*4294967296^(k+1)≤V) (o:W<V*4294967296):
  W / V≤v_ (W / 4294967296^(k+2) % 4294967296) (W / 4294967296^(k+1) % 4294967296) (W / 4294967296^k % 4294967296) (V / 4294967296^(k+1) % 4294967296) (V / 4294967296^k % 4294967296)∧
  v_ (W / 4294967296^(k+2) % 4294967296) (W / 4294967296^(k+1) % 4294967296) (W / 4294967296^k % 4294967296) (V / 4294967296^(k+1) % 4294967296) (V / 4294967296^k % 4294967296)≤W / V+1∧
  W / 4294967296^(k+2) % 4294967296≤V / 4294967296^(k+1) % 4294967296∧2147483648≤V / 4294967296^(k+1) % 4294967296:=by
 have a:0<4294967296^k:=iF k;have H:4294967296^(k+1)=4294967296^k*4294967296:=Xq2 ..;have y:4294967296^(k+2)=4294967296^k*4294967296*4294967296:=by rw [Xq2,Xq2]
 rw [y] at q ⊢;rw [H] at c ⊢;generalize 4294967296^k=P at*
 simp only [← Xxr];have J:=Xq7 W P;have A:=Xqv W a;have C:=Xq7 V P;have F:=Xqv V a;have hVpos:0<V:=by
  have:=Xx7 (show 0<2147483648 by omega) (Xx7 a (show 0<4294967296 by omega));omega
 generalize l:W / P=T at*
 generalize f:V / P=D at*
 generalize N:W % P=w at*
 generalize hd:V % P=d at*
 have i:2147483648*4294967296≤D:=by
  rw [← f,Xzf a]
  calc 2147483648*4294967296*P=2147483648*(P*4294967296):=by rw [Xqn,Ψ 4294967296 P]
   _≤V:=c
 have v:D<4294967296*4294967296:=by
  rw [← f,Xqs a]
  calc V<P*4294967296*4294967296:=q
   _=4294967296*4294967296*P:=by rw [Xqn,Ψ P]
 have t:T<(D+1)*4294967296:=by
  rw [← l,Xqs a]
  calc W<V*4294967296:=o
   _≤(D+1)*P*4294967296:=Xqu _ (by rw [Xxm,Ψ D];omega)
   _=(D+1)*4294967296*P:=by rw [Xqn,Xqn,Ψ P]
 have m:W / V≤4294967295:=by
  have:W / V<4294967296:=by rw [Xqs hVpos,Ψ];exact o
  omega
 have E:=Xq7 W V;have z:=Xqv W hVpos;have u:T / 4294967296 / 4294967296<4294967296:=by omega
 have b:4294967296*(4294967296*(T / 4294967296 / 4294967296 % 4294967296)+T / 4294967296 % 4294967296)+T % 4294967296=T:=by omega
 have g:4294967296*(D / 4294967296 % 4294967296)+D % 4294967296=D:=by omega
 have p:0<D / 4294967296 % 4294967296:=by omega
 refine ⟨?_, ?_,by omega,by omega⟩
 ·rw [zN p,b,g];refine ⟨m, ?_⟩;have h:W / V*D*P<(T+1)*P:=by
   have n:W / V*D*P=W / V*(P*D):=by rw [Xqn,Ψ D]
   have j:W / V*(P*D)≤W / V*V:=Xqy _ (by omega);rw [Ψ (W / V) V] at j;rw [Xxm,Ψ T P];omega
  have:=Xvc h;omega
 ·generalize B:v_ _ _ _ _ _=e;have h:=(zN (x:=e) p).1 (by rw [B];exact Δ _);rw [b,g] at h;obtain ⟨n,j⟩:=h;have K:e*V<W+V:=by
   have L:e*V=e*(P*D)+e*d:=by rw [← Xq8,C]
   have O:e*(P*D)=e*D*P:=by rw [Ψ P,Xqn]
   have r:e*D*P≤T*P:=Xqu _ j;have M:e*d≤e*P:=Xqy _ (by omega);have I:e*P≤4294967295*P:=Xqu _ n;have G:2147483648*4294967296*P≤D*P:=Xqu _ i;rw [Ψ D] at G;rw [Ψ T] at r;omega
  have s:e*V<(W / V+2)*V:=by
   rw [Xxm,Ψ (W / V)];omega
  have:=Xvc s;omega
def X9 (a v:List Nat) (m j:Nat):List Nat:=κ j 0++bP (m - j) (aF (a.drop j) / aF v)
def X_ (a v:List Nat) (m j:Nat):List Nat:=a.take j++bP v.length (aF (a.drop j) % aF v)++κ (m - j) 0
def NL (a v:List Nat) (sh m j:Nat):St:=⟨[(4,.ref 0 0 0 m),(8,ω (sh:Int)),(9,.ref 1 0 0 (m+v.length)),(10,.sl (aj v) v.length true),(11,ω (v.length:Int)),(12,ω ((j:Int) - 1))],[(0,⟨aj (X9 a v m j),0,false,0,1,true⟩),(1,⟨aj (X_ a v m j),0,false,0,1,true⟩)],.dead,[]⟩
theorem aaj {n r:Nat} (h:r<4294967296^n):bP (n+1) r=bP n r++ [0]:=by
 rw [uD,mM,Xxy h]
theorem YU {a v:List Nat} {m j:Nat} (e:j<m) (c:a.length=m+v.length) (d:bM v) (b:bM a) (f:0<aF v):X_ a v m (j+1)=a.take j++bP (v.length+1) (4294967296*(aF (a.drop (j+1)) % aF v)+a.getD j 0)++κ (m - j - 1) 0:=by
 unfold X_;rw [Ls (b.getD j),List.take_add_one,show m - (j+1)=m - j - 1 by omega];have:a[j]? =some (a.getD j 0):=by rw [ο,ξ (by omega)];rfl
 rw [this];simp
theorem YT {a v:List Nat} {m j:Nat} (d:j<m) (b:bM v) (c:0<aF v):X_ a v m j=a.take j++bP (v.length+1) (aF (a.drop j) % aF v)++κ (m - j - 1) 0:=by
 unfold X_;rw [aaj (Xxa (Xqv _ c) (p_ b)),show m - j=(m - j - 1)+1 by omega,Xxc];simp
theorem YS {a v:List Nat} {m j:Nat}:X9 a v m (j+1)=κ j 0++0::bP (m - j - 1) (aF (a.drop (j+1)) / aF v):=by
 unfold X9;rw [Xj1,show m - (j+1)=m - j - 1 by omega];simp
theorem adv {V R' Q' x H:Nat} (a:0<V) (h:H=V*Q'+R'):(x+4294967296*H) / V=4294967296*Q'+(4294967296*R'+x) / V∧(x+4294967296*H) % V=(4294967296*R'+x) % V:=by
 subst h;have e:x+4294967296*(V*Q'+R')=4294967296*R'+x+V*(4294967296*Q'):=by
  rw [Xq8,Nat.mul_left_comm];omega
 rw [e];constructor
 ·rw [Xz6 _ _ a,Xxq]
 ·rw [Xzi]
theorem JI {pre post:List Nat} {n W i:Nat} (h:i≤n):(pre++bP (n+1) W++post).getD (pre.length+i) 0=W / 4294967296^i % 4294967296:=by
 rw [ο,Xxd (by simp [aQ];omega),Xjt (by omega),Nat.add_sub_cancel_left,qY (by omega),mM,nJ];rfl
theorem Qc {v:List Nat} (a:bM v) {i:Nat} (h:i<v.length):v.getD i 0=aF v / 4294967296^i % 4294967296:=by
 have e:=qY (n:=aF v) h;rw [EX a,mM,nJ] at e;rw [ο,e];rfl
def dvS (sh m M n:Nat) (v Q U:List Nat) (j:Int):St:=⟨[(4,.ref 0 0 0 m),(8,ω (sh:Int)),(9,.ref 1 0 0 M),(10,.sl (aj v) v.length true),(11,ω (n:Int)),(12,ω j)],[(0,⟨aj Q,0,false,0,1,true⟩),(1,⟨aj U,0,false,0,1,true⟩)],.dead,[]⟩
abbrev ahV (x2 x1 x0 y1 y0:Nat):List AV:= [.agg [.int .u32 (x2:Int),.int .u32 (x1:Int),.int .u32 (x0:Int)],.agg [.int .u32 (y1:Int),.int .u32 (y0:Int),.int .u32 0]]
theorem aho {nt:Nat} (h:130≤nt) (Q R U U1 U2 v:List Nat) (c m n j q:Nat) (l:v.length=n) (o:2≤n) (s:U.length=m+n) (r:j<m) (i:m+n<2^40) (k:q<4294967296) (e:0<q) (p:Q.length=m) (a:∀ y:Nat,ν j (aj Q)++ [Xxo .u32 (y:Int)]++ε (j+1) (aj Q)=aj (Q.set j y)) (f:Q.set j (q - 1)=R)
  (c0:CO 223 (ahV (U.getD (j+n) 0) (U.getD (j+n - 1) 0) (U.getD (j+n - 2) 0) (v.getD (n - 1) 0) (v.getD (n - 2) 0)) (.ret (.int .u64 (q:Int))))
  (c1:bD prog ap 224 [.ref 0 0 j (n+1),.sl (aj v) v.length true,.int .u64 (q:Int)] (pq U) (.ret (.bool true)) (pq U1))
  (c2:bD prog ap 225 [.ref 0 0 j (n+1),.sl (aj v) v.length true] (pq U1) (.ret (.tup [])) (pq U2)):
  ak prog ap [] nt (af 1 (ah f211)) (dvS c m (m+n) n v Q U (j:Int)) .normal (dvS c m (m+n) n v R U2 ((j:Int) - 1)):=by
 have hbody:=ahn h Q U U1 U2 v m c (m+n) n j q;have g:γ .i64 ((j:Int) - ((1:Nat):Int))=(j:Int) - 1:=dC (by omega) (by omega);have b:(q+(18446744073709551616 - 1)) % 18446744073709551616=q - 1:=by omega
 have d:j+n+1 - j=n+1:=by omega
 simp (disch:=first|omega|(simp [au,ay]<;>omega)) only [aB,Xqf,φ,au,fE,a_,dw,aW,bJ,aO,jT,yZ,jP,bu,aY,d,g,lC,υ,b,rq,a] at hbody;rw [f] at hbody;unfold dvS;apply hbody<;>first|exact True.intro|omega|assumption
theorem ahm {nt:Nat} (f:130≤nt) (Q R U U1 v:List Nat) (b m n j q:Nat) (i:v.length=n) (k:2≤n) (p:U.length=m+n) (o:j<m) (g:m+n<2^40) (h:q<4294967296) (l:Q.length=m) (a:∀ y:Nat,ν j (aj Q)++ [Xxo .u32 (y:Int)]++ε (j+1) (aj Q)=aj (Q.set j y)) (d:Q.set j q=R)
  (c0:CO 223 (ahV (U.getD (j+n) 0) (U.getD (j+n - 1) 0) (U.getD (j+n - 2) 0) (v.getD (n - 1) 0) (v.getD (n - 2) 0)) (.ret (.int .u64 (q:Int))))
  (c1:bD prog ap 224 [.ref 0 0 j (n+1),.sl (aj v) v.length true,.int .u64 (q:Int)] (pq U) (.ret (.bool false)) (pq U1)):
  ak prog ap [] nt (af 1 (ah f211)) (dvS b m (m+n) n v Q U (j:Int)) .normal (dvS b m (m+n) n v R U1 ((j:Int) - 1)):=by
 have hbody:=ahl f Q U U1 U v m b (m+n) n j q;have e:γ .i64 ((j:Int) - ((1:Nat):Int))=(j:Int) - 1:=dC (by omega) (by omega);have c:j+n+1 - j=n+1:=by omega
 simp (disch:=first|omega|(simp [au,ay]<;>omega)) only [aB,Xqf,φ,au,fE,a_,dw,aW,bJ,aO,jT,yZ,jP,bu,aY,c,e,rq,υ,a] at hbody;rw [d] at hbody;unfold dvS;apply hbody<;>first|exact True.intro|omega|assumption
theorem Q3 {l:List Nat} {j:Nat} (h:j<l.length) (y:Nat):ν j (aj l)++ [Xxo .u32 (y:Int)]++ε (j+1) (aj l)=aj (l.set j y):=by
 rw [oL,U_,Xx9,if_pos h];simp [aj]
theorem Zg (a b c d e:Nat):v_ a b c d e<4294967296:=χ (Nat.min_le_left _ _) (by omega)
theorem YW {nt:Nat} (T:130≤nt) (a v:List Nat) (B m j k:Nat) (s:v.length=k+2) (C:j<m) (ha:a.length=m+v.length) (r:bM v) (A:bM a) (Q:a.length<2^40) (t:2147483648*4294967296^(k+1)≤aF v):
  ak prog ap [] nt (af 1 (ah f211)) (NL a v B m (j+1)) .normal (NL a v B m j):=by
 have p:=p_ r;have hVpos:0<aF v:=by have:=Xx7 (show 0<2147483648 by omega) (iF (k+1));omega
 have hx:=A.getD j;have O:=Xqv (aF (a.drop (j+1))) hVpos;have K:=Xq7 (aF (a.drop (j+1))) (aF v);have H:aF (a.drop j)=a.getD j 0+4294967296*aF (a.drop (j+1)):=Ug (by omega);obtain ⟨u,z⟩:=adv (x:=a.getD j 0) hVpos K.symm;rw [← H] at u z;unfold NL;rw [show (((j+1:Nat):Int) - 1)=(j:Int) by omega];rw [YU C ha r A hVpos,YT C r hVpos,YS,z];have hQ:X9 a v m j=κ j 0++(4294967296*(aF (a.drop (j+1)) % aF v)+a.getD j 0) / aF v::bP (m - j - 1) (aF (a.drop (j+1)) / aF v):=by
  unfold X9;rw [u,show m - j=(m - j - 1)+1 by omega,Ls]
  ·rfl
  ·rw [Xqs hVpos];omega
 rw [hQ];have M:4294967296*(aF (a.drop (j+1)) % aF v)+a.getD j 0<aF v*4294967296:=by omega
 generalize aF (a.drop (j+1)) / aF v=Q' at*
 generalize 4294967296*(aF (a.drop (j+1)) % aF v)+a.getD j 0=W at*
 have h:(a.take j).length=j:=by simp;omega
 generalize a.take j=pre at*
 obtain ⟨b1,Z,b3,X⟩:=NZ (k:=k) (W:=W) (by rw [← s];exact p) t M;have hpost:bM (κ (m - j - 1) 0):=bM.zeros _;have J:W<4294967296^(v.length+1):=by
  rw [Xq2];exact Xqa M (Xqu _ (Xww p))
 have D:=JI (pre:=pre) (post:=κ (m - j - 1) 0) (n:=v.length) (W:=W) (i:=k+2) (by omega);have L:=JI (pre:=pre) (post:=κ (m - j - 1) 0) (n:=v.length) (W:=W) (i:=k+1) (by omega);have F:=JI (pre:=pre) (post:=κ (m - j - 1) 0) (n:=v.length) (W:=W) (i:=k) (by omega);have v1:=Qc r (i:=k+1) (by omega);have v0:=Qc r (i:=k) (by omega);rw [h] at D L F;have N:j+v.length=j+(k+2):=by rw [s]
 have S:j+v.length - 1=j+(k+1):=by omega
 have U:j+v.length - 2=j+k:=by omega
 have P:v.length - 1=k+1:=by omega
 have R:v.length - 2=k:=by omega
 have Y:=Xqv (W / 4294967296^(k+1)) (show 0<4294967296 by omega);have G:=Xqv (W / 4294967296^k) (show 0<4294967296 by omega);have E:=Xqv (aF v / 4294967296^(k+1)) (show 0<4294967296 by omega);have w:=Xqv (aF v / 4294967296^k) (show 0<4294967296 by omega);have d:=adY _ _ _ _ _ b3 Y G E w X;generalize V:v_ _ _ _ _ _=q at b1 Z d;have g:q<4294967296:=by rw [← V];exact Zg ..
 have y:(pre++bP (v.length+1) W++κ (m - j - 1) 0).length=m+v.length:=by simp [aQ,h];omega
 have htake:=abH pre (κ (m - j - 1) 0) v true v.length W q rfl r g J hpost (by omega);have hqm:=Xq7 W (aF v);have hql:=Xqv W hVpos;rw [h] at htake;rcases Xq5 (W / aF v) q with hlt|hge
 ·have o:q=W / aF v+1:=by omega
  have b:W<q*aF v:=by rw [o,Xxm,Ψ (W / aF v)];omega
  rw [if_pos b,Yq0 b] at htake;have hgive:=Zo pre (κ (m - j - 1) 0) v true v.length (W+4294967296^(v.length+1) - q*aF v) rfl r (by omega) hpost (by omega);rw [h] at hgive;have c:(W+4294967296^(v.length+1) - q*aF v+aF v) % 4294967296^(v.length+1)=W % aF v:=by
   have e:W+4294967296^(v.length+1) - q*aF v+aF v=W % aF v+4294967296^(v.length+1):=by
    have:q*aF v=aF v*(W / aF v)+aF v:=by rw [o,Xxm,Ψ (W / aF v)];omega
    omega
   rw [e,Nat.add_mod_right,υ];have:=Xqc (show 0<4294967296 by omega) (show v.length≤v.length+1 by omega);omega
  rw [c] at hgive;have f:=Q3 (l:=κ j 0++0::bP (m - j - 1) Q') (j:=j) (by simp);have I:(κ j 0++0::bP (m - j - 1) Q').set j (q - 1)=κ j 0++W / aF v::bP (m - j - 1) Q':=by
   rw [Xv7 _ _ (by simp),show q - 1=W / aF v by rw [o,Xwf]];simp
  have:=aho T _ _ _ _ _ v B m v.length j q rfl (by omega) y C (by omega) g (by rw [o];exact Nat.succ_pos _) (by simp [aQ];omega) f I (by rw [S,U,P,R,N,D,L,F,v1,v0];exact d) htake hgive;exact this
 ·have o:q=W / aF v:=by omega
  have b:¬ W<q*aF v:=by rw [o,Ψ];omega
  rw [if_neg b,Yq1 b] at htake;have c:W - q*aF v=W % aF v:=by rw [o,Ψ];omega
  rw [c] at htake;have f:=Q3 (l:=κ j 0++0::bP (m - j - 1) Q') (j:=j) (by simp);have I:(κ j 0++0::bP (m - j - 1) Q').set j q=κ j 0++W / aF v::bP (m - j - 1) Q':=by
   rw [Xv7 _ _ (by simp),o];simp
  have:=ahm T _ _ _ _ v B m v.length j q rfl (by omega) y C (by omega) g (by simp [aQ];omega) f I (by rw [S,U,P,R,N,D,L,F,v1,v0];exact d) htake;exact this
theorem YV {nt:Nat} (g:130≤nt) (a v:List Nat) (d m k:Nat) (e:v.length=k+2) (h:a.length=m+v.length) (i:bM v) (f:bM a) (c:a.length<2^40) (b:2147483648*4294967296^(k+1)≤aF v):
  ∀ j,j≤m→az prog ap [] nt (af 1 (ah f211)) (fun _=> .exit 1) (NL a v d m) (NL a v d m) j 0:=by
 intro j
 induction j with
 |zero=>exact fun _=> .done (ahk g (X9 a v m 0) (X_ a v m 0) [] [] v m d (m+v.length) v.length 0 0)
 |succ j ih=>exact fun l=> .next (YW g a v d m j k e (by omega) h i f c b) (ih (by omega))
theorem ahe (x y s r X1 c:Nat) (A Y Q U v:List Nat) (a:lit true (decide ((lZ x y)<((0:Nat):Int)))=true) (b:CO 210 [.sl (aj (digs x)) (digs x).length false,.sl (aj (digs y)) (digs y).length false] (.ret (ω (lZ x y)))):CO 211 [.sl (aj (digs x)) (digs x).length false,.sl (aj (digs y)) (digs y).length false] (.ret (.tup [.nilS,.sl (aj (digs x)) (digs x).length false])):=pK [1] 1 1 (.c a .nil) (.c b .nil)
theorem ahf (x y s r X1 h:Nat) (A Y Q U v:List Nat) (c:(chk (.int .u32) (ζ (aj (digs y)) .dead))=true) (a:(decide (((0:Nat):Int)<(((digs y).length:Nat):Int)))=true) (d:lit true ((((digs y).length:Nat):Int)==((1:Nat):Int))=true) (b:lit false (decide ((lZ x y)<((0:Nat):Int)))=true) (e:CO 210 [.sl (aj (digs x)) (digs x).length false,.sl (aj (digs y)) (digs y).length false] (.ret (ω (lZ x y)))) (f:CO 220 [.sl (aj (digs x)) (digs x).length false,.int .u32 (τ (ζ (aj (digs y)) .dead))] (.ret (.tup [.sl (aj (digs X1)) (digs X1).length false,.int .u32 (r:Int)]))) (g:CO 162 [.sl [.int .u32 (r:Int)] 1 true] (.ret (.sl (aj (digs r)) (digs r).length false))):CO 211 [.sl (aj (digs x)) (digs x).length false,.sl (aj (digs y)) (digs y).length false] (.ret (.tup [.sl (aj (digs X1)) (digs X1).length false,.sl (aj (digs r)) (digs r).length false])):=pK [1] 2 2 (.c c (.k 1 a (.c d (.c b .nil)))) (.c g (.c f (.c e .nil)))
theorem ahg (x y s r X1 a:Nat) (A Y Q U v:List Nat) (i:(decide (((0:Nat):Int)≤(v.length:Int)))=true) (q:(decide ((v.length:Int)≤(A.length:Int)))=true) (h:(decide (((0:Nat):Int)≤(γ .i64 ((A.length:Int) - (v.length:Int)))))=true) (d:(decide ((γ .i64 ((A.length:Int) - (v.length:Int)))=(γ .i64 ((A.length:Int) - (v.length:Int)))))=true) (e:(decide ((γ .i64 ((A.length:Int) - (v.length:Int)))≤((1099511627776:Nat):Int)))=true) (f:(chk (.int .u32) (ζ (ε ((δ (γ .i64 ((((digs y).length:Nat):Int) - ((1:Nat):Int))))*1) (aj (digs y))) .dead))=true) (c:(decide (((0:Nat):Int)≤(γ .i64 ((((digs y).length:Nat):Int) - ((1:Nat):Int)))))=true) (g:(decide ((γ .i64 ((((digs y).length:Nat):Int) - ((1:Nat):Int)))<(((digs y).length:Nat):Int)))=true) (o:lit false ((((digs y).length:Nat):Int)==((1:Nat):Int))=true) (b:lit false (decide ((lZ x y)<((0:Nat):Int)))=true) (u:CO 210 [.sl (aj (digs x)) (digs x).length false,.sl (aj (digs y)) (digs y).length false] (.ret (ω (lZ x y)))) (p:CO 221 [.int .u32 (τ (ζ (ε ((δ (γ .i64 ((((digs y).length:Nat):Int) - ((1:Nat):Int))))*1) (aj (digs y))) .dead))] (.ret (ω (s:Int)))) (j:CO 222 [.sl (aj (digs x)) (digs x).length false,ω (s:Int)] (.ret (.own (aj A) A.length 1))) (l:CO 222 [.sl (aj (digs y)) (digs y).length false,ω (s:Int)] (.ret (.own (aj Y) Y.length 1))) (t:CO 162 [.sl (ν (Y.length*1) (aj Y)) Y.length true] (.ret (.sl (aj v) v.length true))) (k:aG prog ap [] 130 (.block 1 (.loop (af 1 (ah f211)))) ⟨[(0,.sl (aj (digs x)) (digs x).length false),(1,.sl (aj (digs y)) (digs y).length false),(4,.ref 0 0 0 (δ (γ .i64 ((A.length:Int) - (v.length:Int))))),(5,.nilS),(6,.dead),(7,.dead),(8,ω (s:Int)),(9,.ref 1 0 0 A.length),(10,.sl (aj v) v.length true),(11,ω (v.length:Int)),(12,ω (γ .i64 ((((δ (γ .i64 ((A.length:Int) - (v.length:Int)))):Nat):Int) - ((1:Nat):Int)))),(13,.dead),(14,.bool (decide ((lZ x y)<((0:Nat):Int)))),(20,.bool ((((digs y).length:Nat):Int)==((1:Nat):Int))),(61,.dead),(106,.dead)],[(0,⟨(gz (δ (γ .i64 ((A.length:Int) - (v.length:Int)))) [.int .u32 0]),0,false,0,1,true⟩),(1,⟨(aj A),0,false,0,1,true⟩)],.dead,[]⟩ (.normal) ⟨[(4,.ref 0 0 0 a),(8,ω (s:Int)),(9,.ref 1 0 0 A.length),(11,ω (v.length:Int))],[(0,⟨(aj Q),0,false,0,1,true⟩),(1,⟨(aj U),0,false,0,1,true⟩)],.dead,[]⟩) (m:CO 162 [.sl (ν (a*1) (aj Q)) a true] (.ret (.sl (aj (digs X1)) (digs X1).length false))) (n:CO 226 [.sl (ν (((δ (v.length:Int)) - 0)*1) (aj U)) ((δ (v.length:Int)) - 0) true,ω (s:Int)] (.ret (.sl (aj (digs r)) (digs r).length false))):CO 211 [.sl (aj (digs x)) (digs x).length false,.sl (aj (digs y)) (digs y).length false] (.ret (.tup [.sl (aj (digs X1)) (digs X1).length false,.sl (aj (digs r)) (digs r).length false])):=pK [1] 2 0 (.k 1 i (.c q (.c h (.c d (.c e (.c f (.c c (.c g (.c o (.c b .nil)))))))))) (.c n (.c m (.l k (.c t (.c l (.c j (.c p (.c u .nil))))))))
abbrev dvB (x y s m:Nat) (A v:List Nat):St:=⟨[(0,.sl (aj (digs x)) (digs x).length false),(1,.sl (aj (digs y)) (digs y).length false),(4,.ref 0 0 0 m),(5,.nilS),(6,.dead),(7,.dead),(8,ω (s:Int)),(9,.ref 1 0 0 A.length),(10,.sl (aj v) v.length true),(11,ω (v.length:Int)),(12,ω ((m:Int) - 1)),(13,.dead),(14,.bool (decide (lZ x y<((0:Nat):Int)))),(20,.bool (decide ((digs y).length=1))),(61,.dead),(106,.dead)],[(0,⟨aj (κ m 0),0,false,0,1,true⟩),(1,⟨aj A,0,false,0,1,true⟩)],.dead,[]⟩
abbrev dvC (s m:Nat) (A v Q U:List Nat):St:=⟨[(4,.ref 0 0 0 m),(8,ω (s:Int)),(9,.ref 1 0 0 A.length),(11,ω (v.length:Int))],[(0,⟨aj Q,0,false,0,1,true⟩),(1,⟨aj U,0,false,0,1,true⟩)],.dead,[]⟩
theorem ahh (x y s r z m:Nat) (A Y Q U v:List Nat) (g:A.length=m+v.length) (f:A.length<2^40) (e:2≤(digs y).length) (d:(digs y).length<2^40) (i:0<m) (j:v.length≤U.length) (c:¬ lZ x y<((0:Nat):Int)) (k:CO 210 [.sl (aj (digs x)) (digs x).length false,.sl (aj (digs y)) (digs y).length false] (.ret (ω (lZ x y))))
  (c1:CO 221 [.int .u32 (((digs y).getD ((digs y).length - 1) 0:Nat):Int)] (.ret (ω (s:Int))))
  (c2:CO 222 [.sl (aj (digs x)) (digs x).length false,ω (s:Int)] (.ret (.own (aj A) A.length 1)))
  (c3:CO 222 [.sl (aj (digs y)) (digs y).length false,ω (s:Int)] (.ret (.own (aj Y) Y.length 1)))
  (c4:CO 162 [.sl (aj (ν Y.length Y)) Y.length true] (.ret (.sl (aj v) v.length true)))
  (l0:aG prog ap [] 130 (.block 1 (.loop (af 1 (ah f211)))) (dvB x y s m A v) .normal (dvC s m A v Q U))
  (c5:CO 162 [.sl (aj (ν m Q)) m true] (.ret (.sl (aj (digs z)) (digs z).length false)))
  (c6:CO 226 [.sl (aj (ν v.length U)) v.length true,ω (s:Int)] (.ret (.sl (aj (digs r)) (digs r).length false))):CO 211 [.sl (aj (digs x)) (digs x).length false,.sl (aj (digs y)) (digs y).length false] (.ret (.tup [.sl (aj (digs z)) (digs z).length false,.sl (aj (digs r)) (digs r).length false])):=by
 have h:=ahg x y s r z m A Y Q U v;have b:γ .i64 ((m:Int) - ((1:Nat):Int))=(m:Int) - 1:=Eu (by omega);have a:A.length - v.length=m:=by omega
 simp (disch:=first|omega|(simp [au,ay]<;>omega)) only [dw,a_,jT,a,decide_true,aB,φ,yZ,jP,aW,jG,dH,dQ,eG,aY,oL,b,pX,Xjk] at h;apply h<;>first|exact True.intro|omega|assumption
abbrev dS (x:Nat):AV:= .sl (aj (digs x)) (digs x).length false
theorem j_.sl1 (a:List AV) (n:Nat) (b:Bool):j_ (.ret (.sl a n b)) (.ret (.sl a n false)):=j_.ret rfl rfl (aS.sl a n b)
theorem uf {x:Nat} (h:0<x):0<(digs x).length:=by
 rcases Θ (digs x).length with h0|h0
 ·have:=jW (n:=x) (m:=0) (by omega);simp at this;omega
 ·exact h0
theorem U5 {x:Nat} (h:(digs x).length=1):digs x= [x]∧x<4294967296:=by
 have b:=jW (n:=x) (m:=1) (by omega);rw [φ,nJ] at b;have a:=fH x
 match hd:digs x,h with
 | [d],_=>rw [hd] at a;simp [aF] at a;subst a;exact ⟨rfl,b⟩
theorem nG (x:Nat):x<4294967296^(digs x).length:=by
 have:=jW (n:=x) (Δ _);rwa [mM] at this
theorem PI {x k:Nat} (h:(digs x).length=k+1):4294967296^k≤x:=by
 rcases Xq5 x (4294967296^k) with h1|h1
 ·have:=jI (n:=x) (m:=k) (by rw [mM];exact h1);omega
 ·exact h1
theorem Iy {x k:Nat} (h:x<4294967296^k):(digs x).length≤k:=jI (by rw [mM];exact h)
theorem YN {x k:Nat} (h:4294967296^k≤x) (a:x<4294967296^(k+1)):(digs x).length=k+1:=by
 have c:=Iy a;have b:=nG x;rcases Xq5 (digs x).length (k+1) with h3|h3
 ·have:=Xqc (show 0<4294967296 by omega) (show (digs x).length≤k by omega);omega
 ·omega
theorem qH {x y:Nat} (h:x≤y):(digs x).length≤(digs y).length:=Iy (χ h (nG y))
theorem AO {y k:Nat} (h:(digs y).length=k+1):(digs y).getD k 0=y / 4294967296^k∧0<y / 4294967296^k∧y / 4294967296^k<4294967296:=by
 have a:=yg y k;have d:=PI h;have c:=nG y;rw [h] at c;have b:y / 4294967296^k<4294967296:=by
  rw [Xqs (iF k),Ψ,← Xq2];exact c
 rw [mM,nJ,υ b] at a;exact ⟨a,Xvr d (iF k),b⟩
theorem Wq {y k:Nat} (h:(digs y).length=k+1):let s:=32 - dZ (y / 4294967296^k)
  s≤31∧2147483648*4294967296^k≤2^s*y∧2^s*y<4294967296^(k+1):=by
 obtain ⟨_,f,i⟩:=AO h;obtain ⟨e,a,g,b⟩:=u_ f;have l:e+1≤32:=by rw [← a];exact lQ i
 intro s;have hs:s=31 - e:=by show 32 - dZ (y / 4294967296^k)=_;rw [a];omega
 rw [hs];refine ⟨by omega, ?_, ?_⟩
 ·have d:2147483648=2^(31 - e)*2^e:=by rw [← Xxj,show 31 - e+e=31 by omega]
  rw [d,Xqn];refine Xqy _ ?_;exact (Xzf (iF k)).1 g
 ·have j:y<2^(e+1)*4294967296^k:=(Xqs (iF k)).1 b;have c:4294967296^(k+1)=2^(31 - e)*(2^(e+1)*4294967296^k):=by
   rw [← Xqn,← Xxj,show 31 - e+(e+1)=32 by omega,nJ,Xq2,Ψ]
  rw [c];exact Xza j (Xqr _)
theorem Uh {a:List Nat} {m:Nat} (c:bM a) (h:m≤a.length):aF (a.drop m)=aF a / 4294967296^m:=by
 have d:=FU a m h;have b:=p_ (c.take m);rw [Xqz,Xx1 h] at b;rw [d,Xz6 _ _ (iF m),Xxy b,Xqf]
theorem RX (a v:List Nat) (m:Nat):X9 a v m m=κ m 0:=by unfold X9;rw [Xwv];simp [bP]
theorem RY {a v:List Nat} {m:Nat} (c:a.length=m+v.length) (b:bM a) (h:aF (a.drop m)<aF v):X_ a v m m=a:=by
 unfold X_;rw [Xwv,υ h,← OA (b.drop m) (by rw [Xxz];omega)];simp
theorem GX (x y:Nat) (o:0<y) (W:(digs x).length<2^39) (F:(digs y).length<2^39):CO 211 [dS x,dS y] (.ret (.tup [dS (x / y),dS (x % y)])):=by
 have a:=wV (digs x) (digs y) false false (by omega);rw [zB] at a;rcases Xq5 x y with hlt|hge
 ·have hs:lZ x y= -1:=by unfold lZ;rw [if_pos hlt]
  have h:=ahe x y 0 0 0 0 [] [] [] [] [] (by rw [hs];rfl) a;rw [Xxy hlt,υ hlt];exact h.out (j_.tup (.fit rfl rfl (aS.nilS false rfl) (.same .nil)))
 ·have hs:lit false (decide (lZ x y<((0:Nat):Int)))=true:=by
   unfold lZ;rw [if_neg (by omega)];split<;>rfl
  rcases Xq5 (digs y).length 2 with h1|h1
  ·have E:(digs y).length=1:=by have:=uf o;omega
   obtain ⟨L,Q⟩:=U5 E;have j:=XE (digs x) false y o Q (by omega) (bM.digs x);rw [fH] at j;have hr:x % y<y:=Xqv _ o;have V:=acM [x % y] true (x % y) (by
    have R:=jM (l:= [x % y]) (bM.cons (by omega) bM.nil);simpa [aF] using R) (by simp)
   have h:=ahf x y 0 (x % y) (x / y) 0 [] [] [] [] [];have C:dS y= .sl (aj [y]) [y].length false:=by unfold dS;rw [L]
   rw [L] at h a;rw [C];refine h ?_ ?_ ?_ hs a (j.out (j_.tup (.fit rfl rfl (aS.sl _ _ _) (.same .nil)))) (V.out (j_.sl1 _ _ _))
   all_goals rfl
  ·obtain ⟨k,O⟩:∃ k,(digs y).length=k+2:=⟨(digs y).length - 2,by omega⟩
   obtain ⟨e,z,K⟩:=Wq O;generalize J:32 - dZ (y / 4294967296^(k+1))=s at*
   obtain ⟨t1,t2,X⟩:=AO O;have d:=ZG _ X;rw [J,← t1] at d;have c:=acO (digs x) false s e W (bM.digs x);have b:=acO (digs y) false s e F (bM.digs y);have n:(digs (2^s*y)).length=k+2:=YN (Xq1 (by have:=iF (k+1);omega) z) K;have lY:bM (MQ s 0 (digs y)):=Q4 e _ _ (Xqr _) (bM.digs y);have w:bM (MQ s 0 (digs x)):=Q4 e _ _ (Xqr _) (bM.digs x);have S:aF (MQ s 0 (digs y))=2^s*y:=by rw [Q5,fH,Xqf]
   have u:aF (MQ s 0 (digs x))=2^s*x:=by rw [Q5,fH,Xqf]
   have M:=BP (MQ s 0 (digs y)) _ (2^s*y) rfl (by rw [jM lY,S]) (by rw [sK];omega);have hmono:=qH hge;have V3:=sK s (digs x) 0;have p:=sK s (digs y) 0;rw [← V3] at c;rw [← p] at b;generalize MQ s 0 (digs x)=A at*
   generalize MQ s 0 (digs y)=Y at*
   have g:aF (digs (2^s*y))=2^s*y:=fH _;have T:bM (digs (2^s*y)):=bM.digs _;have hV:0<2^s*y:=Xx7 (Xqr _) o;generalize hve:digs (2^s*y)=v at*
   obtain ⟨m,i⟩:∃ m,A.length=m+v.length:=⟨A.length - v.length,by omega⟩
   have N:aF (A.drop m)<aF v:=by
    rw [Uh w (by omega),u,g];refine Xqa ?_ z;rw [Xqs (iF m),Xqn,← Xxj];have I:2^s*x<2^s*4294967296^(digs x).length:=Xza (nG x) (Xqr _);have D:2^s≤2^31:=Xqc (by omega) e;have Z:2^s*4294967296^(digs x).length≤2147483648*4294967296^(digs x).length:=Xqu _ (Xq1 D (by decide));have U:(digs x).length=k+1+m:=by omega
    rw [U] at I Z;omega
   have hloop:=fun nt hn=>YV (nt:=nt) hn A v s m k n i T w (by omega) (by rw [g];exact z) m (Δ _)
   have G:X9 A v m 0=bP m (x / y):=by
    unfold X9;rw [Xj6,Xjk,u,g,Xkg _ _ (Xqr s),List.replicate_zero,Xqk]
   have H:X_ A v m 0=bP v.length (2^s*(x % y))++κ m 0:=by
    unfold X_;rw [Xj6,Xjk,u,g,Xw3,List.take_zero,Xqk]
   have q:x / y<4294967296^m:=by
    have C:=FU A m (by omega);have I:=p_ (w.take m);rw [Xqz,Xx1 (by omega)] at I;rw [← Xkg x y (Xqr s),← u,Xqs hV,C,← g];have D:4294967296^m*(aF (A.drop m)+1)≤4294967296^m*aF v:=Xqy _ N;rw [Xq8,φ] at D;omega
   have P:=BP (bP m (x / y)) m (x / y) (aQ ..) (CP (by rw [mM];exact q)) (by omega);have r:2^s*(x % y)<4294967296^v.length:=by
    rw [n];refine Xxa ?_ K;exact Xza (Xqv _ o) (Xqr _)
   have f:=YQ (bP v.length (2^s*(x % y))) true s e (by rw [aQ];omega) (bM.pad _ _);rw [vU,mM,υ r,Nat.mul_div_cancel_left _ (Xqr s),aQ] at f;have B:ν v.length (aj (bP v.length (2^s*(x % y))++κ m 0))=aj (bP v.length (2^s*(x % y))):=by
    rw [oL,Xxx (by rw [aQ];exact Δ _),Ξ (by rw [aQ];exact Δ _)]
   have t:(digs y).length - 1=k+1:=by omega
   rw [← t] at d;refine ahh x y s (x % y) (x / y) m A Y (bP m (x / y)) (bP v.length (2^s*(x % y))++κ m 0) v i (by omega) (by omega) (by omega) (by omega) (by rw [θ,aQ];omega) (by simpa [lit] using hs) a d c b ?_ ?_ ?_ ?_
   ·rw [Xqx];rw [φ,oL,Xqx] at M;exact M
   ·refine az.blk hloop (by simp) rfl ?_ ?_
    ·unfold NL;rw [RX,RY i w N,← i];exact aH.of ⟨rfl,rfl,rfl,rfl,rfl,rfl,trivial⟩
    ·unfold NL;rw [G,H,← i];exact aH.of ⟨rfl,rfl,rfl,rfl,trivial⟩
   ·rw [φ,oL] at P;exact P.out (j_.sl1 _ _ _)
   ·rw [← oL,B];exact f.out (j_.sl1 _ _ _)
theorem ajH (s t:List UInt8) (b:lit false ((((digs (ag t)).length:Nat):Int)==((0:Nat):Int))=true) (d:CO 119 [.str t] (.ret (.sl (aj (digs (ag t))) (digs (ag t)).length false))) (e:CO 119 [.str s] (.ret (.sl (aj (digs (ag s))) (digs (ag s)).length false))) (f:CO 211 [.sl (aj (digs (ag s))) (digs (ag s)).length false,.sl (aj (digs (ag t))) (digs (ag t)).length false] (.ret (.tup [.sl (aj (digs ((ag s) / (ag t)))) (digs ((ag s) / (ag t))).length false,.sl (aj (digs ((ag s) % (ag t)))) (digs ((ag s) % (ag t))).length false]))) (c:CO 117 [.sl (aj (digs ((ag s) / (ag t)))) (digs ((ag s) / (ag t))).length false] (.ret (.str (ae ((ag s) / (ag t)))))) (a:CO 117 [.sl (aj (digs ((ag s) % (ag t)))) (digs ((ag s) % (ag t))).length false] (.ret (.str (ae ((ag s) % (ag t)))))):CO 191 [.str s,.str t] (.ret (.tup [.str (ae ((ag s) / (ag t))),.str (ae ((ag s) % (ag t))),.bool true])):=pK [] 1 0 (.c b .nil) (.c a (.c c (.c f (.c e (.c d .nil)))))
theorem aia (s t:List UInt8) (g:Nat) (b:CO 119 [.str s] (.ret (.sl (aj (digs (ag s))) (digs (ag s)).length false))) (c:CO 119 [.str t] (.ret (.sl (aj (digs (ag t))) (digs (ag t)).length false))) (a:aG prog ap [] 26 (.block 0 (.loop (af 0 (ah f190)))) ⟨[(0,.str s),(1,.str t),(4,.str []),(5,.sl (aj (digs (ag s))) (digs (ag s)).length false),(6,.sl (aj (digs (ag t))) (digs (ag t)).length false),(8,.dead),(15,.dead)],[],.dead,[]⟩ (.normal) ⟨[(5,.sl (aj (digs g)) (digs g).length false)],[],.dead,[]⟩) (d:CO 117 [.sl (aj (digs g)) (digs g).length false] (.ret (.str (ae g)))):CO 190 [.str s,.str t] (.ret (.str (ae g))):=pK [0] 0 0 .nil (.c d (.l a (.c c (.c b .nil))))
theorem ah9 {nt:Nat} (a:26≤nt) (x y:Nat) (c:lit true (decide (((0:Nat):Int)<(((digs y).length:Nat):Int)))=true) (b:CO 211 [.sl (aj (digs x)) (digs x).length false,.sl (aj (digs y)) (digs y).length false] (.ret (.tup [.sl (aj (digs (x / y))) (digs (x / y)).length false,.sl (aj (digs (x % y))) (digs (x % y)).length false]))):ψ nt f190 ⟨[(5,.sl (aj (digs x)) (digs x).length false),(6,.sl (aj (digs y)) (digs y).length false)],[],.dead,[]⟩ (.normal) ⟨[(5,.sl (aj (digs y)) (digs y).length false),(6,.sl (aj (digs (x % y))) (digs (x % y)).length false)],[],.dead,[]⟩:=pJ 190 [] 1 1 (.c c .nil) (.c b .nil) a
theorem ah_ {nt:Nat} (a:26≤nt) (x y:Nat) (b:lit false (decide (((0:Nat):Int)<(((digs y).length:Nat):Int)))=true):ψ nt f190 ⟨[(5,.sl (aj (digs x)) (digs x).length false),(6,.sl (aj (digs y)) (digs y).length false)],[],.dead,[]⟩ (.exit 0) ⟨[(5,.sl (aj (digs x)) (digs x).length false)],[],.dead,[]⟩:=pJ 190 [] 1 0 (.c b .nil) (.nil) a
theorem adh (s:List UInt8) (k:Nat) (b:lit true ((((digs (ag s)).length:Nat):Int)==((0:Nat):Int))=true) (a:CO 119 [.str s] (.ret (.sl (aj (digs (ag s))) (digs (ag s)).length false))):CO 116 [.str s] (.ret (ω 0)):=pK [] 1 1 (.c b .nil) (.c a .nil)
theorem adi (s:List UInt8) (k:Nat) (f:(chk (.int .u32) (ζ (ε ((δ (γ .i64 ((((digs (ag s)).length:Nat):Int) - ((1:Nat):Int))))*1) (aj (digs (ag s)))) .dead))=true) (a:(decide (((0:Nat):Int)≤(γ .i64 ((((digs (ag s)).length:Nat):Int) - ((1:Nat):Int)))))=true) (c:(decide ((γ .i64 ((((digs (ag s)).length:Nat):Int) - ((1:Nat):Int)))<(((digs (ag s)).length:Nat):Int)))=true) (b:lit false ((((digs (ag s)).length:Nat):Int)==((0:Nat):Int))=true) (d:CO 119 [.str s] (.ret (.sl (aj (digs (ag s))) (digs (ag s)).length false))) (e:CO 161 [.int .u32 (τ (ζ (ε ((δ (γ .i64 ((((digs (ag s)).length:Nat):Int) - ((1:Nat):Int))))*1) (aj (digs (ag s)))) .dead))] (.ret (ω (k:Int)))):CO 116 [.str s] (.ret (ω (γ .i64 ((γ .i64 (((32:Nat):Int)*(γ .i64 ((((digs (ag s)).length:Nat):Int) - ((1:Nat):Int)))))+(k:Int))))):=pK [] 1 0 (.c f (.c a (.c c (.c b .nil)))) (.c e (.c d .nil))
theorem qI {s:List UInt8} {n:Nat} (h:s.length≤4*n):(digs (ag s)).length≤n:=by
 have:=jI (AX s);omega
theorem SX (s:List UInt8) (hs:s.length<2^38):CO 119 [.str s] (.ret (dS (ag s))):=(uC s (by omega)).out (j_.sl1 _ _ _)
theorem vT (x:Nat):eX (digs x)=digs x:=by
 have:=jM (bM.digs x);rwa [fH] at this
theorem Wx (x:Nat) (h:(digs x).length<2^36):CO 117 [dS x] (.ret (.str (ae x))):=qX (digs x) x false (vT x) (by omega) h
theorem YO {x:Nat}:(digs x).length=0↔x=0:=by
 constructor
 ·intro h;rcases Θ x with h0|h0
  ·exact h0
  ·have:=uf h0;omega
 ·intro h;subst h;rfl
theorem OD (s t:List UInt8) (hs:s.length<2^37) (f:t.length<2^37) (a:0<ag t):CO 191 [.str s,.str t] (.ret (.tup [.str (ae (ag s / ag t)),.str (ae (ag s % ag t)),.bool true])):=by
 have c:=qI (s:=s) (n:=2^35) (by omega);have b:=qI (s:=t) (n:=2^35) (by omega);have hp:=uf a;have d:=qH (Xjq (ag s) (ag t));have e:=qH (Xww (Xqv (ag s) a));have h:=ajH s t;simp (disch:=first|omega|(simp [au,ay]<;>omega)) only [jG,dH,dQ,eG] at h;exact h (by omega) (SX t (by omega)) (SX s (by omega)) (GX _ _ a (by omega) (by omega)) (Wx _ (by omega)) (Wx _ (by omega))
def amn (p:Nat × Nat):St:=⟨[(5,dS p.1),(6,dS p.2)],[],.dead,[]⟩
def ah8 (x:Nat):St:=⟨[(5,dS x)],[],.dead,[]⟩
theorem VJ {nt:Nat} (a:26≤nt):∀ (n y x:Nat),y<n→(digs x).length<2^36→(digs y).length<2^36→az prog ap [] nt (af 0 (ah f190)) (fun _=> .exit 0) amn ah8 (x,y) (Xxn x y):=by
 intro n
 induction n with
 |zero=>intro y x h;omega
 | succ n ih=>
  intro y x h d b;rcases Θ y with rfl|h0
  ·rw [Nat.gcd_zero_right];exact .done (ah_ a x 0 rfl)
  ·have c:=Xqv x h0;have e:=qH (Xww c);have hnext:=ih (x % y) y (by omega) b (by omega);rw [show Xxn y (x % y)=Xxn x y by rw [Xv8 y,← Nat.gcd_rec,Xv8]] at hnext;refine .next ?_ hnext
   have hp:=uf h0;exact ah9 a x y (by rw [aW,bu];exact Yq0 hp) (GX _ _ h0 (by omega) (by omega))
theorem aek (s t:List UInt8) (hs:s.length<2^37) (e:t.length<2^37):CO 190 [.str s,.str t] (.ret (.str (ae (Xxn (ag s) (ag t))))):=by
 have d:=qI (s:=s) (n:=2^35) (by omega);have a:=qI (s:=t) (n:=2^35) (by omega);have c:(digs (Xxn (ag s) (ag t))).length<2^36:=by
  rcases Θ (ag s) with h|h
  ·rw [h,Xwp];omega
  ·have:=qH (Xv9 (ag t) h);omega
 exact aia s t _ (SX s (by omega)) (SX t (by omega)) (az.blk (fun nt b=>VJ b (ag t+1) (ag t) (ag s) (by omega) (by omega) (by omega)) (by simp) rfl (aH.of ⟨rfl,rfl,trivial⟩) (aH.of ⟨rfl,trivial⟩)) (Wx _ c)
theorem V4 {y k:Nat} (h:(digs y).length=k+1):dZ y=32*k+dZ ((digs y).getD k 0):=by
 obtain ⟨b,_,_⟩:=AO h;have a:=PI h;rw [← mM] at a;rw [b,uu a,mM]
theorem Pq (s:List UInt8) (hs:s.length<2^37):CO 116 [.str s] (.ret (ω ((dZ (ag s):Nat):Int))):=by
 have g:=qI (s:=s) (n:=2^35) (by omega);rcases Θ (ag s) with h0|h0
 ·have hp:=YO.2 h0;have h:=adh s 0 (by rw [hp];rfl) (SX s (by omega));rw [h0];exact h
 ·have hp:=uf h0;obtain ⟨k,d⟩:∃ k,(digs (ag s)).length=k+1:=⟨(digs (ag s)).length - 1,by omega⟩
  have c:(digs (ag s)).getD k 0<4294967296:=bM.getD (bM.digs _) k;have i:=KQ _ c;have j:dZ ((digs (ag s)).getD k 0)≤32:=lQ c;rw [V4 d];have h:=adi s (dZ ((digs (ag s)).getD k 0));rw [d] at h;have e:k+1 - 1=k:=rfl;have f:k<(digs (ag s)).length:=by omega
  generalize dZ ((digs (ag s)).getD k 0)=b at*
  simp (disch:=first|omega|(simp [au,ay]<;>omega)) only [jT,e,aB,φ,yZ,jP,dw,a_,aW,jG,dH,dQ,eG,aY,xX,aO,bJ] at h;have a:=SX s (by omega);unfold dS at a;rw [d] at a;apply h<;>first|exact True.intro|omega|assumption|exact rfl
def nR (s:List UInt8):Bool:=match s with| []=>true|c::_=> !(c==0)
def Af (s:List UInt8):Bool:=nR s && decide (0<ag s)
def iG (neg:Bool) (n d:List UInt8):Bool:=nR n && nR d && decide (0<ag d) && decide (Xxn (ag n) (ag d)=1) && (!neg||decide (0<ag n))
theorem ai5 (s:List UInt8) (b:lit true (nR s)=true) (c:CO 159 [.str s] (.ret (.bool (nR s)))) (a:CO 189 [.str s,.str []] (.ret (ω (lZ (ag s) (ag []))))):CO 158 [.agg [.str []],.str s] (.ret (.bool (decide (((0:Nat):Int)<(lZ (ag s) (ag [])))))):=pK [] 1 1 (.k 1 b .nil) (.c a (.c c .nil))
theorem ai6 (s:List UInt8) (a:lit false (nR s)=true) (b:CO 159 [.str s] (.ret (.bool (nR s)))):CO 158 [.agg [.str []],.str s] (.ret (.bool false)):=pK [] 1 0 (.c a .nil) (.c b .nil)
theorem ais (a:Bool) (n d:List UInt8) (g:Nat) (e:lit true a=true) (b:CO 190 [.str n,.str d] (.ret (.str (ae g)))) (c:CO 191 [.str n,.str (ae g)] (.ret (.tup [.str (ae (ag n / g)),.str (ae (ag n % g)),.bool true]))) (f:CO 191 [.str d,.str (ae g)] (.ret (.tup [.str (ae (ag d / g)),.str (ae (ag d % g)),.bool true]))):CO 160 [.bool a,.str n,.str d] (.ret (.agg [.bool (!((ae (ag n / g))== [])),.str (ae (ag n / g)),.str (ae (ag d / g))])):=pK [] 1 1 (.k 4 e .nil) (.c f (.c c (.c b .nil)))
theorem ait (a:Bool) (n d:List UInt8) (g:Nat) (e:lit false a=true) (b:CO 190 [.str n,.str d] (.ret (.str (ae g)))) (c:CO 191 [.str n,.str (ae g)] (.ret (.tup [.str (ae (ag n / g)),.str (ae (ag n % g)),.bool true]))) (f:CO 191 [.str d,.str (ae g)] (.ret (.tup [.str (ae (ag d / g)),.str (ae (ag d % g)),.bool true]))):CO 160 [.bool a,.str n,.str d] (.ret (Ω false (ae (ag n / g)) (ae (ag d / g)))):=pK [] 1 0 (.k 4 e .nil) (.c f (.c c (.c b .nil)))
theorem Xk (b a:Bool) (n d c e:List UInt8) (i:lit true (nR n)=true) (f:lit true (Af d)=true) (g:CO 158 [.agg [.str []],.str d] (.ret (.bool (Af d)))) (h:CO 159 [.str n] (.ret (.bool (nR n)))) (j:CO 160 [.bool b,.str n,.str d] (.ret (Ω a c e))):CO 115 [Ω b n d] (.ret (.bool ((a==b) && ((c==n) && ((e==d) && true))))):=pK [] 2 3 (.k 6 i (.k 1 f (.n 1 .nil))) (.c j (.c h (.c g .nil)))
theorem Xl (a b:Bool) (n d h i:List UInt8) (g:lit false (nR n)=true) (c:lit true (Af d)=true) (e:CO 158 [.agg [.str []],.str d] (.ret (.bool (Af d)))) (f:CO 159 [.str n] (.ret (.bool (nR n)))):CO 115 [Ω a n d] (.ret (.bool false)):=pK [] 2 1 (.c g (.k 1 c (.n 1 .nil))) (.c f (.c e .nil))
theorem Xm (a b:Bool) (n d f g:List UInt8) (e:lit false (Af d)=true) (c:CO 158 [.agg [.str []],.str d] (.ret (.bool (Af d)))):CO 115 [Ω a n d] (.ret (.bool false)):=pK [] 2 0 (.k 1 e (.n 1 .nil)) (.c c .nil)
theorem aeh (a:Bool) (n d:List UInt8) (f:lit true (decide ((((dZ (ag n)):Nat):Int)≤((400:Nat):Int)))=true) (b:lit true (iG a n d)=true) (c:CO 115 [Ω a n d] (.ret (.bool (iG a n d)))) (e:CO 116 [.str n] (.ret (ω (((dZ (ag n)):Nat):Int)))) (g:CO 116 [.str d] (.ret (ω (((dZ (ag d)):Nat):Int)))):CO 70 [Ω a n d] (.ret (.bool (decide ((((dZ (ag d)):Nat):Int)≤((400:Nat):Int))))):=pK [] 2 3 (.k 1 f (.k 1 b (.n 3 .nil))) (.c g (.c e (.c c .nil)))
theorem aei (a:Bool) (n d:List UInt8) (f:lit false (decide ((((dZ (ag n)):Nat):Int)≤((400:Nat):Int)))=true) (b:lit true (iG a n d)=true) (c:CO 115 [Ω a n d] (.ret (.bool (iG a n d)))) (e:CO 116 [.str n] (.ret (ω (((dZ (ag n)):Nat):Int)))):CO 70 [Ω a n d] (.ret (.bool false)):=pK [] 2 1 (.c f (.k 1 b (.n 3 .nil))) (.c e (.c c .nil))
theorem aej (a:Bool) (n d:List UInt8) (c:lit false (iG a n d)=true) (b:CO 115 [Ω a n d] (.ret (.bool (iG a n d)))):CO 70 [Ω a n d] (.ret (.bool false)):=pK [] 2 0 (.k 1 c (.n 3 .nil)) (.c b .nil)
theorem dB:ae 0= []:=EN []
theorem bY {x k:Nat} (h:x<2^(8*k)):(ae x).length≤k:=by
 rw [← Ql h];have a:=(Xzs (· ==0) (l:=ku k x)).length_le;have b:(ku k x).length=k:=by
  have:∀ m,(ku m x).length=m:=by
   intro m
   induction m with
   |zero=>rfl
   |succ m ih=>rw [rG,μ,ih]
  exact this k
 omega
theorem jO (s:List UInt8):ag s<2^(8*s.length):=by
 have h:=vV s;rwa [show (256:Nat)=2^8 from rfl,← Xx5] at h
theorem lV {x:Nat} {s:List UInt8} (h:x≤ag s):(ae x).length≤s.length:=bY (χ h (jO s))
theorem eP {x:Nat}:ae x= []↔x=0:=by
 constructor
 ·intro h;have:=aC x;rw [h] at this;exact this.symm
 ·intro h;subst h;exact dB
theorem EM {x y:Nat} (h:ae x=ae y):x=y:=by rw [← aC x,h,aC]
theorem mX (s:List UInt8):nR s=true↔ae (ag s)=s:=by
 rw [EN];cases s with
 |nil=>simp [nR]
 | cons c r=>
  simp only [nR,Xxv];by_cases h:c=0
  ·subst h;simp only [beq_self_eq_true,Bool.not_true,Xjo,if_true,false_iff];intro a;have:=(Xzs (· ==(0:UInt8)) (l:=r)).length_le;rw [a] at this;simp at this;omega
  ·simp [h]
theorem vw (x:Nat):nR (ae x)=true:=(mX _).2 (by rw [aC])
theorem z_ (s:List UInt8):CO 159 [.str s] (.ret (.bool (nR s))):=by
 cases s with
 |nil=>exact Wl [] rfl
 | cons c r=>
  have h:=Wn (c::r) (by simp) rfl;have e:(!((((c::r).getD 0 0).toNat:Int)==(0:Int)))=nR (c::r):=by
   simp only [List.getD_cons_zero,nR];by_cases hc:c=0
   ·subst hc;rfl
   ·have:c.toNat ≠ 0:=fun h=>hc (by apply UInt8.toNat_inj.1;simpa using h)
    have a:((c.toNat:Int)==(0:Int))=false:=by simp;omega
    rw [a];simp [hc]
  rw [e] at h;exact h
theorem XC (x:Nat):decide (((0:Nat):Int)<lZ x (ag []))=decide (0<x):=by
 have:ag []=0:=rfl;rw [this];unfold lZ;rcases Θ x with rfl|h
 ·rfl
 ·rw [if_neg (by omega),if_pos h,Yq0 h];rfl
theorem WO (s:List UInt8) (hs:s.length<2^37):CO 158 [.agg [.str []],.str s] (.ret (.bool (Af s))):=by
 have b:=z_ s;unfold Af;cases a:nR s with
 |true=>
  have h:=ai5 s (by rw [a];rfl) b (agy s [] (by omega) (by simp));rw [XC] at h;exact h
 |false=>
  exact ai6 s (by rw [a];rfl) b
abbrev LM (neg:Bool) (n d:Nat):AV:= .agg [.bool neg,.str (ae n),.str (ae d)]
abbrev ams (neg:Bool) (n d:Nat):AV:=LM (neg && decide (0<n)) (n / Xxn n d) (d / Xxn n d)
theorem Kt {n d:Nat} (h:0<n):0<n / Xxn n d:=Xvr (Xv9 d h) (Nat.gcd_pos_of_pos_left d h)
theorem V6 (a:Bool) (n d:List UInt8) (m:n.length<2^36) (hd:d.length<2^36) (i:0<ag d):CO 160 [.bool a,.str n,.str d] (.ret (ams a (ag n) (ag d))):=by
 have g:=aek n d (by omega) (by omega);have b:0<Xxn (ag n) (ag d):=Xjz _ i;have k:(ae (Xxn (ag n) (ag d))).length≤d.length:=lV (Nat.gcd_le_right _ i);have c:=OD n (ae (Xxn (ag n) (ag d))) (by omega) (by omega) (by rw [aC];exact b);have f:=OD d (ae (Xxn (ag n) (ag d))) (by omega) (by omega) (by rw [aC];exact b);rw [aC] at c f;cases a with
 | true=>
  have h:=ais true n d (Xxn (ag n) (ag d)) rfl g c f;have e:(!(ae (ag n / Xxn (ag n) (ag d))== []))=(true && decide (0<ag n)):=by
   rcases Θ (ag n) with h1|h1
   ·rw [h1,Nat.zero_div,dB];rfl
   ·have l:=Kt (d:=ag d) h1;have j:ae (ag n / Xxn (ag n) (ag d)) ≠ []:=fun h=>by have:=eP.1 h;omega
    simp [j,h1]
  rw [e] at h;exact h
 |false=>exact ait false n d (Xxn (ag n) (ag d)) rfl g c f
theorem kT {a:Bool} {n d:List UInt8}:iG a n d=true↔nR n=true∧nR d=true∧0<ag d∧Xxn (ag n) (ag d)=1∧(a=true→0<ag n):=by
 unfold iG;cases a<;>simp [and_assoc]
theorem TF {f:Bool} {n d:List UInt8} (i:nR n=true) (k:nR d=true) (g:0<ag d):(((f && decide (0<ag n))==f) && ((ae (ag n / Xxn (ag n) (ag d))==n) && ((ae (ag d / Xxn (ag n) (ag d))==d) && true)))=iG f n d:=by
 rw [Xx2,kT];simp only [π,beq_iff_eq,and_true];have l:0<Xxn (ag n) (ag d):=Xjz _ g;constructor
 ·rintro ⟨a,b,c⟩
  refine ⟨i,k,g, ?_, ?_⟩
  ·have e:=congrArg ag c;rw [aC] at e;have j:=Nat.div_mul_cancel (Nat.gcd_dvd_right (ag n) (ag d));rw [e] at j;exact Nat.eq_of_mul_eq_mul_left g (by rw [j,φ])
  ·intro h;subst h;simpa using a
 ·rintro ⟨_,_,_,hg,h⟩
  rw [hg,Xz0,Xz0];refine ⟨?_,(mX n).1 i,(mX d).1 k⟩;cases f with
  |false=>rfl
  |true=>simp [h rfl]
theorem mO (a:Bool) (n d:List UInt8) (l:n.length<2^36) (hd:d.length<2^36):CO 115 [Ω a n d] (.ret (.bool (iG a n d))):=by
 have hp:=WO d (by omega);have i:=z_ n;cases c:Af d with
 | false=>
  have h:=Xm a a n d n d (by rw [c];rfl) hp;have e:iG a n d=false:=by
   rw [Xvm];intro g;obtain ⟨_,k,j,_⟩:=kT.1 g;simp [Af,k,j] at c
  rw [e];exact h
 | true=>
  have b:nR d=true∧0<ag d:=by simpa [Af] using c
  cases f:nR n with
  | false=>
   have h:=Xl a a n d n d (by rw [f];rfl) (by rw [c];rfl) hp i;have e:iG a n d=false:=by
    rw [Xvm];intro g;have:=(kT.1 g).1;rw [f] at this;cases this
   rw [e];exact h
  |true=>
   have h:=Xk a (a && decide (0<ag n)) n d (ae (ag n / Xxn (ag n) (ag d))) (ae (ag d / Xxn (ag n) (ag d))) (by rw [f];rfl) (by rw [c];rfl) hp i (V6 a n d l hd b.2);rw [TF f b.1 b.2] at h;exact h
def fB (neg:Bool) (n d:List UInt8):Bool:=iG neg n d && decide (dZ (ag n)≤400) && decide (dZ (ag d)≤400)
theorem gu (a:Bool) (n d:List UInt8) (g:n.length<2^36) (hd:d.length<2^36):CO 70 [Ω a n d] (.ret (.bool (fB a n d))):=by
 have b:=mO a n d g hd;have e:=Pq n (by omega);have f:=Pq d (by omega);unfold fB;cases c:iG a n d with
 |false=>exact aej a n d (by rw [c];rfl) b
 | true=>
  by_cases h3:dZ (ag n)≤400
  ·have h:=aeh a n d (by rw [dw,Yq0 h3];rfl) (by rw [c];rfl) b e f;rw [dw] at h;rw [Yq0 h3];exact h
  ·have h:=aei a n d (by rw [dw,Yq1 h3];rfl) (by rw [c];rfl) b e;rw [Yq1 h3];exact h
theorem ZV (x:Nat) (a:lit true (decide ((x:Int)≤((0:Nat):Int)))=true):CO 72 [ω (x:Int)] (.ret (.str [])):=pK [] 1 1 (.c a .nil) (.nil)
theorem ZW (x:Nat) (b:lit false (decide ((x:Int)≤((0:Nat):Int)))=true) (a:CO 117 [.sl [.int .u32 (γ .u32 (γ .i64 (Xxi (Xqi (Xqe .i64) (x:Int) &&& Xqi (Xqe .i64) ((4294967295:Nat):Int))))),.int .u32 (γ .u32 (Xqw (x:Int) (2^(min 32 64))))] 2 true] (.ret (.str (ae x)))):CO 72 [ω (x:Int)] (.ret (.str (ae x))):=pK [] 1 0 (.k 1 b .nil) (.c a .nil)
theorem aaF (x:Nat) (c:lit false (decide ((x:Int)<((0:Nat):Int)))=true) (b:CO 72 [ω (x:Int)] (.ret (.str (ae x)))) (a:CO 72 [ω 1] (.ret (.str (ae 1)))):CO 42 [ω (x:Int)] (.ret (Ω false (ae x) (ae 1))):=pK [] 1 0 (.k 4 c .nil) (.c a (.c b .nil))
theorem aa2 (a:Bool) (n d:List UInt8) (c:lit true (!(iG a n d))=true) (b:CO 115 [Ω a n d] (.ret (.bool (iG a n d)))):CO 121 [Ω a n d] (.ret (ω 0)):=pK [] 2 3 (.k 1 c (.n 3 .nil)) (.c b .nil)
theorem aa3 (a:Bool) (n d:List UInt8) (f:lit true ((a==false) && ((n==(ae 0)) && ((d==(ae 1)) && true)))=true) (b:lit false (!(iG a n d))=true) (c:CO 115 [Ω a n d] (.ret (.bool (iG a n d)))) (e:CO 42 [ω 0] (.ret (Ω false (ae 0) (ae 1)))):CO 121 [Ω a n d] (.ret (ω 0)):=pK [] 2 2 (.c f (.k 3 b (.n 3 .nil))) (.c e (.c c .nil))
theorem aa4 (a:Bool) (n d:List UInt8) (g:lit true a=true) (b:lit false ((a==false) && ((n==(ae 0)) && ((d==(ae 1)) && true)))=true) (c:lit false (!(iG a n d))=true) (e:CO 115 [Ω a n d] (.ret (.bool (iG a n d)))) (f:CO 42 [ω 0] (.ret (Ω false (ae 0) (ae 1)))):CO 121 [Ω a n d] (.ret (ω (-1))):=pK [] 3 4 (.c g (.k 1 b (.k 3 c (.n 3 .nil)))) (.c f (.c e .nil))
theorem aa5 (a:Bool) (n d:List UInt8) (g:lit false a=true) (b:lit false ((a==false) && ((n==(ae 0)) && ((d==(ae 1)) && true)))=true) (c:lit false (!(iG a n d))=true) (e:CO 115 [Ω a n d] (.ret (.bool (iG a n d)))) (f:CO 42 [ω 0] (.ret (Ω false (ae 0) (ae 1)))):CO 121 [Ω a n d] (.ret (ω 1)):=pK [] 3 0 (.c g (.k 1 b (.k 3 c (.n 3 .nil)))) (.c f (.c e .nil))
theorem XZ {x:Nat} (a:x<9223372036854775808):eX [x % 4294967296,x / 4294967296]=digs x:=by
 have h:=jM (l:= [x % 4294967296,x / 4294967296]) (bM.cons (Xqv _ (by omega)) (bM.cons (by omega) bM.nil));rw [h];congr 1;simp only [aF,Xjc,Xq0];omega
theorem NJ {x:Nat} (a:x<9223372036854775808):(digs x).length≤2:=Iy (Xqa a (by decide))
theorem EO (x:Nat) (c:x<9223372036854775808):CO 72 [ω (x:Int)] (.ret (.str (ae x))):=by
 rcases Θ x with rfl|h0
 ·rw [dB];exact ZV 0 rfl
 ·have hd:=NJ c;have b:=qX [x % 4294967296,x / 4294967296] x true (XZ c) (by simp) (by omega);have h:=ZW x;have d:(4294967295:Nat)<18446744073709551616:=by omega
  simp (disch:=first|omega|(simp [au,ay]<;>omega)) only [dw,dH,dQ,eG,al7,Dv,aO,rq,υ,qV,lD,nJ] at h;have a:¬ x≤0:=by omega
  apply h
  ·exact a
  ·exact b
theorem Fa (x:Nat) (a:x<9223372036854775808):CO 42 [ω (x:Int)] (.ret (LM false x 1)):=
 aaF x (by rw [aW];exact (by simp [lit])) (EO x a) (EO 1 (by omega))
theorem jC:CO 42 [ω 0] (.ret (LM false 0 1)):=Fa 0 (by omega)
theorem uH:CO 42 [ω 1] (.ret (LM false 1 1)):=Fa 1 (by omega)
def jD (neg:Bool) (n d:List UInt8):Int:=if iG neg n d=true∧0<ag n then (if neg then -1 else 1) else 0
theorem Ej {a:Bool} {n d:List UInt8} (h:iG a n d=true):((a==false) && ((n==ae 0) && ((d==ae 1) && true)))=decide (ag n=0):=by
 obtain ⟨g,i,k,b,f⟩:=kT.1 h;have e:=(mX n).1 g;have c:=(mX d).1 i;rw [Xx2];simp only [π,beq_iff_eq,and_true,decide_eq_true_eq];constructor
 ·rintro ⟨_,hn,_⟩
  rw [hn,aC]
 ·intro j;rw [j] at e b;rw [Xwp] at b;rw [b] at c;refine ⟨?_,e.symm,c.symm⟩;cases a with
  |false=>rfl
  |true=>have:=f rfl;omega
theorem oJ (a:Bool) (n d:List UInt8) (e:n.length<2^36) (hd:d.length<2^36):CO 121 [Ω a n d] (.ret (ω (jD a n d))):=by
 have c:=mO a n d e hd;unfold jD;cases b:iG a n d with
 |false=>
  have h:=aa2 a n d (by rw [b];rfl) c;rw [if_neg (by simp)];exact h
 | true=>
  by_cases h0:ag n=0
  ·have h:=aa3 a n d (by rw [Ej b,Yq0 h0];rfl) (by rw [b];rfl) c jC;rw [if_neg (by omega)];exact h
  ·rw [if_pos ⟨rfl,by omega⟩];cases a with
   |true=>exact aa4 true n d rfl (by rw [Ej b,Yq1 h0];rfl) (by rw [b];rfl) c jC
   |false=>exact aa5 false n d rfl (by rw [Ej b,Yq1 h0];rfl) (by rw [b];rfl) c jC
theorem Ci {i:Nat} (h:i<2^62):ω (γ .i64 ((i:Int)+((1:Nat):Int)))= ω ((i+1:Nat):Int):=by rw [dC]<;>first|rfl|omega
def cy (fd fc:Nat→Nat→Nat→Nat):List Nat→List Nat→Nat→List Nat × Nat
 | [],_,c=>([],c)
 |x::l,m,c=>(fd x (m.headD 0) c::(cy fd fc l m.tail (fc x (m.headD 0) c)).1,(cy fd fc l m.tail (fc x (m.headD 0) c)).2)
def C9 (x y c:Nat):Nat:=(x+y+c) % 4294967296
def AA (x y c:Nat):Nat:=(x+y+c) / 4294967296
def BC (x y c:Nat):Nat:=(x+4294967296 - y - c) % 4294967296
def xh (x y c:Nat):Nat:=if x<y+c then 1 else 0
def smA (x c:Nat):Nat:=x+c
def smB (x y c:Nat):Nat:=x+y+c
def lsA (x c:Nat):Nat:=(x+18446744073709551616 - c) % 18446744073709551616
def lsB (x y c:Nat):Nat:=(x+18446744073709551616 - y - c) % 18446744073709551616
theorem NH (fd fc:Nat→Nat→Nat→Nat):∀ (l m:List Nat) (c:Nat),(cy fd fc l m c).1.length=l.length
 | [],_,_=>rfl
 |_::l,m,_=>by simp only [cy,μ,NH fd fc l m.tail _]
theorem NI {fd fc:Nat→Nat→Nat→Nat} (h:∀ x y c,fd x y c<4294967296):∀ (l m:List Nat) (c:Nat),bM (cy fd fc l m c).1
 | [],_,_=>bM.nil
 |_::l,m,_=>bM.cons (h _ _ _) (NI h l m.tail _)
theorem acn (m:List Nat):aF m=m.headD 0+4294967296*aF m.tail:=by cases m with|nil=>rfl|cons x l=>rfl
theorem bM.hd {m:List Nat} (h:bM m):m.headD 0<4294967296:=by cases m with|nil=>show 0<_;omega|cons x l=>exact h.head
theorem bM.tl {m:List Nat} (h:bM m):bM m.tail:=by cases m with|nil=>exact h|cons x l=>exact h.tail
theorem XF:∀ (l m:List Nat) (c:Nat),m.length≤l.length→aF (cy C9 AA l m c).1+4294967296^l.length*(cy C9 AA l m c).2=aF l+aF m+c
 | [],m,c,h=>by
  have:m= []:=List.length_eq_zero_iff.1 (by simpa using h);subst this;simp [cy,aF]
 |x::l,m,c,h=>by
  have d:=XF l m.tail (AA x (m.headD 0) c) (by rw [Xvy];simp only [μ] at h;omega);have f:=acn m;have hd:=Xq7 (x+m.headD 0+c) 4294967296;simp only [cy,aF,μ,Xq2];have e:4294967296^l.length*4294967296*(cy C9 AA l m.tail (AA x (m.headD 0) c)).2=4294967296*(4294967296^l.length*(cy C9 AA l m.tail (AA x (m.headD 0) c)).2):=by rw [Ψ (4294967296^l.length),Xqn]
  rw [e,f];generalize 4294967296^l.length*(cy C9 AA l m.tail (AA x (m.headD 0) c)).2=P at*
  generalize aF (cy C9 AA l m.tail (AA x (m.headD 0) c)).1=V at*
  have a:C9 x (m.headD 0) c=(x+m.headD 0+c) % 4294967296:=rfl;have b:AA x (m.headD 0) c=(x+m.headD 0+c) / 4294967296:=rfl;rw [b] at d;rw [a];omega
theorem V9:∀ (l m:List Nat) (c:Nat),bM l→bM m→c≤1→m.length≤l.length→aF (cy BC xh l m c).1+aF m+c=aF l+4294967296^l.length*(cy BC xh l m c).2
 | [],m,c,_,_,_,h=>by
  have:m= []:=List.length_eq_zero_iff.1 (by simpa using h);subst this;simp [cy,aF]
 |x::l,m,c,hl,hm1,hc,h=>by
  have a:xh x (m.headD 0) c≤1:=by unfold xh;split<;>omega
  have f:=V9 l m.tail (xh x (m.headD 0) c) hl.tail hm1.tl a (by rw [Xvy];simp only [μ] at h;omega);have b:=acn m;have g:=hl.head;have d:=hm1.hd;simp only [cy,aF,μ,Xq2];have e:4294967296^l.length*4294967296*(cy BC xh l m.tail (xh x (m.headD 0) c)).2=4294967296*(4294967296^l.length*(cy BC xh l m.tail (xh x (m.headD 0) c)).2):=by rw [Ψ (4294967296^l.length),Xqn]
  rw [e,b];generalize 4294967296^l.length*(cy BC xh l m.tail (xh x (m.headD 0) c)).2=P at*
  generalize aF (cy BC xh l m.tail (xh x (m.headD 0) c)).1=V at*
  generalize m.headD 0=y at*
  have hd:BC x y c+y+c=x+4294967296*xh x y c:=by unfold BC xh;split<;>omega
  omega
theorem ak6 {x c:Nat} (b:x<4294967296) (a:c≤1):Xxo .u64 (γ .u64 ((γ .u64 (x:Int))+(c:Int)))= .int .u64 ((smA x c:Nat):Int):=by
 rw [oO,bJ,oO];unfold smA;congr 2;omega
theorem am6 {x y c:Nat} (d:x<4294967296) (b:y<4294967296) (a:c≤1):Xxo .u64 (γ .u64 (((smA x c:Nat):Int)+(γ .u64 (y:Int))))= .int .u64 ((smB x y c:Nat):Int):=by
 unfold smA smB;rw [oO,bJ,oO];congr 2;omega
theorem am8 (x y c:Nat):Xxo .u32 (γ .u32 ((smB x y c:Nat):Int))= .int .u32 ((C9 x y c:Nat):Int):=by
 unfold smB C9;rw [rq]
theorem am7 (x y c:Nat):Xxo .u64 (Xqw ((smB x y c:Nat):Int) (2^(min 32 64)))= .int .u64 ((AA x y c:Nat):Int):=by
 unfold smB AA;rw [show min 32 64=32 from rfl,lD]
theorem ak8 (x c:Nat):Xxo .u32 (γ .u32 ((smA x c:Nat):Int))= .int .u32 ((C9 x 0 c:Nat):Int):=by
 unfold smA C9;rw [rq];rfl
theorem ak7 (x c:Nat):Xxo .u64 (Xqw ((smA x c:Nat):Int) (2^(min 32 64)))= .int .u64 ((AA x 0 c:Nat):Int):=by
 unfold smA AA;rw [show min 32 64=32 from rfl,lD];rfl
theorem aiu {x c:Nat} (b:x<4294967296) (a:c≤1):Xxo .u64 (γ .u64 ((γ .u64 (x:Int)) - (c:Int)))= .int .u64 ((lsA x c:Nat):Int):=by
 rw [oO,lC];unfold lsA;congr 2;omega
theorem amv {x y c:Nat} (d:x<4294967296) (b:y<4294967296) (a:c≤1):Xxo .u64 (γ .u64 (((lsA x c:Nat):Int) - (γ .u64 (y:Int))))= .int .u64 ((lsB x y c:Nat):Int):=by
 unfold lsA lsB;rw [oO,lC];congr 2;omega
theorem amx {x y c:Nat} (d:x<4294967296) (b:y<4294967296) (a:c≤1):Xxo .u32 (γ .u32 ((lsB x y c:Nat):Int))= .int .u32 ((BC x y c:Nat):Int):=by
 unfold lsB BC;rw [rq];congr 2;omega
theorem p63:(2:Nat)^63=9223372036854775808:=by decide
theorem amw {x y c:Nat} (d:x<4294967296) (b:y<4294967296) (a:c≤1):Xxo .u64 (Xqw ((lsB x y c:Nat):Int) (2^(min 63 64)))= .int .u64 ((xh x y c:Nat):Int):=by
 unfold lsB xh;rw [show min 63 64=63 from rfl,lD,p63];congr 2;split<;>omega
theorem aiw {x c:Nat} (b:x<4294967296) (a:c≤1):Xxo .u32 (γ .u32 ((lsA x c:Nat):Int))= .int .u32 ((BC x 0 c:Nat):Int):=by
 unfold lsA BC;rw [rq];congr 2;omega
theorem aiv {x c:Nat} (b:x<4294967296) (a:c≤1):Xxo .u64 (Xqw ((lsA x c:Nat):Int) (2^(min 63 64)))= .int .u64 ((xh x 0 c:Nat):Int):=by
 unfold lsA xh;rw [show min 63 64=63 from rfl,lD,p63];congr 2;split<;>omega
theorem OY {x y c:Nat} (d:x<4294967296) (b:y<4294967296) (a:c≤1):AA x y c≤1:=by unfold AA;omega
theorem V7 {x y c:Nat}:xh x y c≤1:=by unfold xh;split<;>omega
theorem yY {d l:List Nat} {x:Nat}:ε ((δ (d.length:Int))*1) (aj (d++x::l))= [Xxo .u32 (x:Int)]++aj l:=by
 rw [aB,φ];unfold aj;rw [Xx0,List.drop_left' (by simp)];rfl
theorem y_ {p s:List Nat} {x y:Nat}:ν ((0+(δ (p.length:Int)))*1) (aj (p++x::s))++ [Xxo .u32 (y:Int)]++ε (((0+(δ (p.length:Int)))*1)+1) (aj (p++x::s))=aj (p++y::s):=by
 rw [aB,Xqf,φ];exact lX rfl
def OZ (a b:List Nat) (na nb:Bool) (p:Nat × List Nat × Nat):St:=⟨[(0,.sl (aj a) a.length na),(1,.sl (aj b) b.length nb),(5,.ref 0 0 0 p.2.1.length),(6,.int .u64 (p.2.2:Int)),(21,ω (a.length:Int)),(22,ω (p.1:Int))],[(0,⟨(aj p.2.1),0,false,0,1,true⟩)],.dead,[]⟩
def MC (a b:List Nat) (na nb:Bool) (p:List Nat × Nat):St:=⟨[(0,.sl (aj a) a.length na),(1,.sl (aj b) b.length nb),(5,.ref 0 0 0 p.1.length),(6,.int .u64 (p.2:Int))],[(0,⟨(aj p.1),0,false,0,1,true⟩)],.dead,[]⟩
theorem abB {nt:Nat} (I:59≤nt) (a b:List Nat) (P O:Bool) (H:bM a) (D:bM b) (R:a.length<2^40) (t:List Nat):∀ (l d o e m:List Nat) (c:Nat),c≤1→d++l=a→o.length=d.length→e++m=b→(e.length=d.length∨(m= []∧e.length≤d.length))→
  az prog ap [] nt (af 0 (ah f118)) (fun _=> .exit 0) (OZ a b P O) (MC a b P O) (d.length,o++(κ l.length 0++t),c) (o++((cy C9 AA l m c).1++t),(cy C9 AA l m c).2):=by
 intro l
 induction l with
 |nil=>
  intro d o e m c L hd A r j;rw [Γ] at hd;subst hd;have Q:decide ((d.length:Int)<(d.length:Int))=false:=Yq1 (by omega);exact .done (pN 118 [] 1 0 (.c (aN Q) .nil) .nil I)
 | cons x l ih=>
  intro d o e m c L hd A r j;have i:x<4294967296:=H x (by rw [← hd];simp);have g:=L;have M:d.length+(l.length+1)=a.length:=by rw [← hd];simp
  have F:(ε ((δ (d.length:Int))*1) (aj a))= [Xxo .u32 (x:Int)]++aj l:=by rw [← hd];exact yY
  generalize aj l=ra at F;obtain ⟨w,q⟩:∃ w,w=o++(κ (x::l).length 0++t):=⟨_,rfl⟩
  have p:∀ v:Nat,ν ((0+(δ (d.length:Int)))*1) (aj w)++ [Xxo .u32 (v:Int)]++ε (((0+(δ (d.length:Int)))*1)+1) (aj w)=aj ((o++ [v])++(κ l.length 0++t)):=by
   intro v;rw [q,← A,μ,Xxc,Xq9,y_,Xqd];rfl
  have E:w.length=o.length+(l.length+1)+t.length:=by rw [q];simp;omega
  have n:∀ v:Nat,((o++ [v])++(κ l.length 0++t)).length=w.length:=by intro v;rw [E];simp;omega
  have s:decide (((0:Nat):Int)≤(d.length:Int))=true:=Yq0 (by omega);have C:decide ((d.length:Int)<(a.length:Int))=true:=Yq0 (by omega);have J:decide ((d.length:Int)<(w.length:Int))=true:=Yq0 (by omega);have K:(Xqg (((0+(δ (d.length:Int)))*1)+1) (η (aj w)))=true:=by rw [Xzm,aB,au];omega
  rw [← q];cases m with
  |cons y m=>
   have u:e.length=d.length:=by rcases j with h|h;exact h;cases h.1
   have z:y<4294967296:=D y (by rw [← r];simp);have N:(ε ((δ (d.length:Int))*1) (aj b))= [Xxo .u32 (y:Int)]++aj m:=by rw [← r,← u];exact yY
   generalize aj m=rb at N;have B:decide ((d.length:Int)<(b.length:Int))=true:=Yq0 (by rw [← r];simp;omega);have f:=ih (d++ [x]) (o++ [C9 x y c]) (e++ [y]) m (AA x y c) (OY i z g) (by rw [← hd];simp) (by simp [A]) (by rw [← r];simp) (.inl (by simp [u]));rw [θ,σ] at f;simp only [Xqd,Xxe] at f;simp only [cy,Xjd,Xzj,Xwt,Xvs,Xq9];refine .next ?_ f
   unfold OZ;rw [show o++(C9 x y c::(κ l.length 0++t))=(o++ [C9 x y c])++(κ l.length 0++t) by simp,n,← p];have G:d.length<2^62:=by omega
   generalize d.length=k at*
   exact pN 118 [] 2 3 (.c K (.c s (.c J (.k 2 s (.c B (.c (aK B) (.k 1 s (.c C (.c (aK C) .nil))))))))) (.v 50 (.eq (Ci G)) (.v 48 (.eq (am7 x y c)) (.v 46 (.eq (am8 x y c)) (.v 42 (.eq (am6 i z g)) (.v 39 (.ppt N) (.v 31 (.eq (ak6 i g)) (.v 27 (.ppt F) .nil))))))) I
  |nil=>
   have B:decide ((d.length:Int)<(b.length:Int))=false:=Yq1 (by rw [← r,Γ];rcases j with h|h<;>omega);have f:=ih (d++ [x]) (o++ [C9 x 0 c]) e [] (AA x 0 c) (OY i (by omega) g) (by rw [← hd];simp) (by simp [A]) r (.inr ⟨rfl,by rw [θ];rcases j with h|h<;>omega⟩);rw [θ,σ] at f;simp only [Xqd,Xxe] at f;simp only [cy,Xjd,Xzj,Xwt,Xvs,Xq9];refine .next ?_ f
   unfold OZ;rw [show o++(C9 x 0 c::(κ l.length 0++t))=(o++ [C9 x 0 c])++(κ l.length 0++t) by simp,n,← p];have G:d.length<2^62:=by omega
   generalize d.length=k at*
   exact pN 118 [] 2 1 (.c K (.c s (.c J (.k 1 (aN B) (.k 1 s (.c C (.c (aK C) .nil))))))) (.v 50 (.eq (Ci G)) (.v 48 (.eq (ak7 x c)) (.v 46 (.eq (ak8 x c)) (.v 31 (.eq (ak6 i g)) (.v 27 (.ppt F) .nil))))) I
def SC (a b:List Nat) (na nb:Bool) (p:Nat × List Nat × Nat):St:=⟨[(0,.sl (aj a) a.length na),(1,.sl (aj b) b.length nb),(5,.ref 0 0 0 p.2.1.length),(6,.int .u64 (p.2.2:Int)),(13,ω (a.length:Int)),(14,ω (p.1:Int))],[(0,⟨(aj p.2.1),0,false,0,1,true⟩)],.dead,[]⟩
def V8 (a b:List Nat) (na nb:Bool) (p:List Nat × Nat):St:=⟨[(0,.sl (aj a) a.length na),(1,.sl (aj b) b.length nb),(5,.ref 0 0 0 p.1.length),(6,.int .u64 (p.2:Int))],[(0,⟨(aj p.1),0,false,0,1,true⟩)],.dead,[]⟩
theorem ZF {nt:Nat} (I:45≤nt) (a b:List Nat) (P O:Bool) (H:bM a) (D:bM b) (R:a.length<2^40) (t:List Nat):∀ (l d o e m:List Nat) (c:Nat),c≤1→d++l=a→o.length=d.length→e++m=b→(e.length=d.length∨(m= []∧e.length≤d.length))→
  az prog ap [] nt (af 0 (ah f216)) (fun _=> .exit 0) (SC a b P O) (V8 a b P O) (d.length,o++(κ l.length 0++t),c) (o++((cy BC xh l m c).1++t),(cy BC xh l m c).2):=by
 intro l
 induction l with
 |nil=>
  intro d o e m c L hd A r j;rw [Γ] at hd;subst hd;have Q:decide ((d.length:Int)<(d.length:Int))=false:=Yq1 (by omega);exact .done (pN 216 [] 1 0 (.c (aN Q) .nil) .nil I)
 | cons x l ih=>
  intro d o e m c L hd A r j;have g:x<4294967296:=H x (by rw [← hd];simp);have f:=L;have M:d.length+(l.length+1)=a.length:=by rw [← hd];simp
  have F:(ε ((δ (d.length:Int))*1) (aj a))= [Xxo .u32 (x:Int)]++aj l:=by rw [← hd];exact yY
  generalize aj l=ra at F;obtain ⟨w,q⟩:∃ w,w=o++(κ (x::l).length 0++t):=⟨_,rfl⟩
  have p:∀ v:Nat,ν ((0+(δ (d.length:Int)))*1) (aj w)++ [Xxo .u32 (v:Int)]++ε (((0+(δ (d.length:Int)))*1)+1) (aj w)=aj ((o++ [v])++(κ l.length 0++t)):=by
   intro v;rw [q,← A,μ,Xxc,Xq9,y_,Xqd];rfl
  have E:w.length=o.length+(l.length+1)+t.length:=by rw [q];simp;omega
  have n:∀ v:Nat,((o++ [v])++(κ l.length 0++t)).length=w.length:=by intro v;rw [E];simp;omega
  have u:decide (((0:Nat):Int)≤(d.length:Int))=true:=Yq0 (by omega);have C:decide ((d.length:Int)<(a.length:Int))=true:=Yq0 (by omega);have J:decide ((d.length:Int)<(w.length:Int))=true:=Yq0 (by omega);have K:(Xqg (((0+(δ (d.length:Int)))*1)+1) (η (aj w)))=true:=by rw [Xzm,aB,au];omega
  rw [← q];cases m with
  |cons y m=>
   have z:e.length=d.length:=by rcases j with h|h;exact h;cases h.1
   have s:y<4294967296:=D y (by rw [← r];simp);have N:(ε ((δ (d.length:Int))*1) (aj b))= [Xxo .u32 (y:Int)]++aj m:=by rw [← r,← z];exact yY
   generalize aj m=rb at N;have B:decide ((d.length:Int)<(b.length:Int))=true:=Yq0 (by rw [← r];simp;omega);have i:=ih (d++ [x]) (o++ [BC x y c]) (e++ [y]) m (xh x y c) V7 (by rw [← hd];simp) (by simp [A]) (by rw [← r];simp) (.inl (by simp [z]));rw [θ,σ] at i;simp only [Xqd,Xxe] at i;simp only [cy,Xjd,Xzj,Xwt,Xvs,Xq9];refine .next ?_ i
   unfold SC;rw [show o++(BC x y c::(κ l.length 0++t))=(o++ [BC x y c])++(κ l.length 0++t) by simp,n,← p];have G:d.length<2^62:=by omega
   generalize d.length=k at*
   exact pN 216 [] 2 3 (.c K (.c u (.c J (.k 2 u (.c B (.c (aK B) (.k 1 u (.c C (.c (aK C) .nil))))))))) (.v 42 (.eq (Ci G)) (.v 40 (.eq (amw g s f)) (.v 38 (.eq (amx g s f)) (.v 34 (.eq (amv g s f)) (.v 31 (.ppt N) (.v 23 (.eq (aiu g f)) (.v 19 (.ppt F) .nil))))))) I
  |nil=>
   have B:decide ((d.length:Int)<(b.length:Int))=false:=Yq1 (by rw [← r,Γ];rcases j with h|h<;>omega);have i:=ih (d++ [x]) (o++ [BC x 0 c]) e [] (xh x 0 c) V7 (by rw [← hd];simp) (by simp [A]) r (.inr ⟨rfl,by rw [θ];rcases j with h|h<;>omega⟩);rw [θ,σ] at i;simp only [Xqd,Xxe] at i;simp only [cy,Xjd,Xzj,Xwt,Xvs,Xq9];refine .next ?_ i
   unfold SC;rw [show o++(BC x 0 c::(κ l.length 0++t))=(o++ [BC x 0 c])++(κ l.length 0++t) by simp,n,← p];have G:d.length<2^62:=by omega
   generalize d.length=k at*
   exact pN 216 [] 2 1 (.c K (.c u (.c J (.k 1 (aN B) (.k 1 u (.c C (.c (aK C) .nil))))))) (.v 42 (.eq (Ci G)) (.v 40 (.eq (aiv g f)) (.v 38 (.eq (aiw g f)) (.v 23 (.eq (aiu g f)) (.v 19 (.ppt F) .nil))))) I
theorem af7 (a b w:List Nat) (d e:Bool) (c z:Nat) (f:(Xqg (((0+(δ (a.length:Int)))*1)+1) (η (aj w)))=true) (l:(decide (((0:Nat):Int)≤(a.length:Int)))=true) (g:(decide ((a.length:Int)<(w.length:Int)))=true) (j:(decide (((0:Nat):Int)≤(γ .i64 ((a.length:Int)+((1:Nat):Int)))))=true) (n:(decide ((γ .i64 ((a.length:Int)+((1:Nat):Int)))=(γ .i64 ((a.length:Int)+((1:Nat):Int)))))=true) (h:(decide ((γ .i64 ((a.length:Int)+((1:Nat):Int)))≤((1099511627776:Nat):Int)))=true) (i:(decide ((a.length:Int)<(b.length:Int)))=false) (m:CO 162 [.sl (ν (w.length*1) (ν ((0+(δ (a.length:Int)))*1) (aj w)++ [.int .u32 (γ .u32 (c:Int))]++ε (((0+(δ (a.length:Int)))*1)+1) (aj w))) w.length true] (.ret (.sl (aj (digs z)) (digs z).length true))) (k:aG prog ap [] 59 (.block 0 (.loop (af 0 (ah f118)))) ⟨[(0,.sl (aj a) a.length d),(1,.sl (aj b) b.length e),(4,.nilS),(5,.ref 0 0 0 (δ (γ .i64 ((a.length:Int)+((1:Nat):Int))))),(6,.int .u64 0),(7,.dead),(8,.dead),(13,.bool (decide ((a.length:Int)<(b.length:Int)))),(21,ω (a.length:Int)),(22,ω 0),(23,.dead),(35,.dead)],[(0,⟨(gz (δ (γ .i64 ((a.length:Int)+((1:Nat):Int)))) [.int .u32 0]),0,false,0,1,true⟩)],.dead,[]⟩ (.normal) ⟨[(0,.sl (aj a) a.length d),(1,.sl (aj b) b.length e),(5,.ref 0 0 0 w.length),(6,.int .u64 (c:Int))],[(0,⟨(aj w),0,false,0,1,true⟩)],.dead,[]⟩):CO 118 [.sl (aj a) a.length d,.sl (aj b) b.length e] (.ret (.sl (aj (digs z)) (digs z).length true)):=pK [0] 1 0 (.c f (.c l (.c g (.c j (.c n (.c h (.c (aN i) .nil))))))) (.c m (.l k .nil))
theorem af8 (a b w:List Nat) (d e:Bool) (c z:Nat) (f:(Xqg (((0+(δ (b.length:Int)))*1)+1) (η (aj w)))=true) (l:(decide (((0:Nat):Int)≤(b.length:Int)))=true) (g:(decide ((b.length:Int)<(w.length:Int)))=true) (j:(decide (((0:Nat):Int)≤(γ .i64 ((b.length:Int)+((1:Nat):Int)))))=true) (n:(decide ((γ .i64 ((b.length:Int)+((1:Nat):Int)))=(γ .i64 ((b.length:Int)+((1:Nat):Int)))))=true) (h:(decide ((γ .i64 ((b.length:Int)+((1:Nat):Int)))≤((1099511627776:Nat):Int)))=true) (i:(decide ((a.length:Int)<(b.length:Int)))=true) (m:CO 162 [.sl (ν (w.length*1) (ν ((0+(δ (b.length:Int)))*1) (aj w)++ [.int .u32 (γ .u32 (c:Int))]++ε (((0+(δ (b.length:Int)))*1)+1) (aj w))) w.length true] (.ret (.sl (aj (digs z)) (digs z).length true))) (k:aG prog ap [] 59 (.block 0 (.loop (af 0 (ah f118)))) ⟨[(0,.sl (aj b) b.length e),(1,.sl (aj a) a.length d),(4,.nilS),(5,.ref 0 0 0 (δ (γ .i64 ((b.length:Int)+((1:Nat):Int))))),(6,.int .u64 0),(7,.dead),(8,.dead),(13,.bool (decide ((a.length:Int)<(b.length:Int)))),(21,ω (b.length:Int)),(22,ω 0),(23,.dead),(35,.dead)],[(0,⟨(gz (δ (γ .i64 ((b.length:Int)+((1:Nat):Int)))) [.int .u32 0]),0,false,0,1,true⟩)],.dead,[]⟩ (.normal) ⟨[(0,.sl (aj b) b.length e),(1,.sl (aj a) a.length d),(5,.ref 0 0 0 w.length),(6,.int .u64 (c:Int))],[(0,⟨(aj w),0,false,0,1,true⟩)],.dead,[]⟩):CO 118 [.sl (aj a) a.length d,.sl (aj b) b.length e] (.ret (.sl (aj (digs z)) (digs z).length true)):=pK [0] 1 1 (.c f (.c l (.c g (.c j (.c n (.c h (.c (aK i) .nil))))))) (.c m (.l k .nil))
theorem Zz (a b w:List Nat) (d e:Bool) (c z:Nat) (f:(decide (((0:Nat):Int)≤(a.length:Int)))=true) (i:(decide ((a.length:Int)=(a.length:Int)))=true) (g:(decide ((a.length:Int)≤((1099511627776:Nat):Int)))=true) (j:CO 162 [.sl (ν (w.length*1) (aj w)) w.length true] (.ret (.sl (aj (digs z)) (digs z).length true))) (h:aG prog ap [] 45 (.block 0 (.loop (af 0 (ah f216)))) ⟨[(0,.sl (aj a) a.length d),(1,.sl (aj b) b.length e),(4,.nilS),(5,.ref 0 0 0 (δ (a.length:Int))),(6,.int .u64 0),(7,.dead),(8,.dead),(13,ω (a.length:Int)),(14,ω 0),(15,.dead),(27,.dead)],[(0,⟨(gz (δ (a.length:Int)) [.int .u32 0]),0,false,0,1,true⟩)],.dead,[]⟩ (.normal) ⟨[(0,.sl (aj a) a.length d),(1,.sl (aj b) b.length e),(5,.ref 0 0 0 w.length),(6,.int .u64 (c:Int))],[(0,⟨(aj w),0,false,0,1,true⟩)],.dead,[]⟩):CO 216 [.sl (aj a) a.length d,.sl (aj b) b.length e] (.ret (.sl (aj (digs z)) (digs z).length true)):=pK [0] 0 0 (.c f (.c i (.c g .nil))) (.c j (.l h .nil))
theorem acV (s t:List UInt8) (z:Nat) (b:CO 119 [.str s] (.ret (.sl (aj (digs (ag s))) (digs (ag s)).length true))) (c:CO 119 [.str t] (.ret (.sl (aj (digs (ag t))) (digs (ag t)).length true))) (d:CO 118 [.sl (aj (digs (ag s))) (digs (ag s)).length true,.sl (aj (digs (ag t))) (digs (ag t)).length true] (.ret (.sl (aj (digs z)) (digs z).length true))) (a:CO 117 [.sl (aj (digs z)) (digs z).length true] (.ret (.str (ae z)))):CO 71 [.str s,.str t] (.ret (.str (ae z))):=pK [] 0 0 .nil (.c a (.c d (.c c (.c b .nil))))
theorem af5 (s t:List UInt8) (z:Nat) (a:(decide ((lZ (ag s) (ag t))<((0:Nat):Int)))=true) (b:CO 119 [.str s] (.ret (.sl (aj (digs (ag s))) (digs (ag s)).length true))) (c:CO 119 [.str t] (.ret (.sl (aj (digs (ag t))) (digs (ag t)).length true))) (d:CO 210 [.sl (aj (digs (ag s))) (digs (ag s)).length true,.sl (aj (digs (ag t))) (digs (ag t)).length true] (.ret (ω (lZ (ag s) (ag t))))):CO 199 [.str s,.str t] (.ret (.tup [.str [],.bool false])):=pK [] 1 1 (.c (aK a) .nil) (.c d (.c c (.c b .nil)))
theorem af6 (s t:List UInt8) (z:Nat) (a:(decide ((lZ (ag s) (ag t))<((0:Nat):Int)))=false) (d:CO 119 [.str s] (.ret (.sl (aj (digs (ag s))) (digs (ag s)).length true))) (e:CO 119 [.str t] (.ret (.sl (aj (digs (ag t))) (digs (ag t)).length true))) (f:CO 210 [.sl (aj (digs (ag s))) (digs (ag s)).length true,.sl (aj (digs (ag t))) (digs (ag t)).length true] (.ret (ω (lZ (ag s) (ag t))))) (c:CO 216 [.sl (aj (digs (ag s))) (digs (ag s)).length true,.sl (aj (digs (ag t))) (digs (ag t)).length true] (.ret (.sl (aj (digs z)) (digs z).length true))) (b:CO 117 [.sl (aj (digs z)) (digs z).length true] (.ret (.str (ae z)))):CO 199 [.str s,.str t] (.ret (.tup [.str (ae z),.bool true])):=pK [] 1 0 (.c (aN a) .nil) (.c b (.c c (.c f (.c e (.c d .nil)))))
theorem aeA (s t:List UInt8) (z:Nat) (b:CO 119 [.str s] (.ret (.sl (aj (digs (ag s))) (digs (ag s)).length true))) (c:CO 119 [.str t] (.ret (.sl (aj (digs (ag t))) (digs (ag t)).length true))) (d:CO 201 [.sl (aj (digs (ag s))) (digs (ag s)).length true,.sl (aj (digs (ag t))) (digs (ag t)).length true] (.ret (.sl (aj (digs z)) (digs z).length true))) (a:CO 117 [.sl (aj (digs z)) (digs z).length true] (.ret (.str (ae z)))):CO 171 [.str s,.str t] (.ret (.str (ae z))):=pK [] 0 0 .nil (.c a (.c d (.c c (.c b .nil))))
theorem acd:∀ (l m:List Nat) (c:Nat),bM l→bM m→c≤1→(cy C9 AA l m c).2≤1
 | [],_,_,_,_,h=>h
 |x::l,m,c,hl,hm,h=>by
  simp only [cy];exact acd l m.tail _ hl.tail hm.tl (OY hl.head hm.hd h)
theorem MG {a b:List Nat} (k j:Bool) (g:bM a) (e:bM b) (i:b.length≤a.length) (o:a.length<2^39):∃ (p:List Nat) (c:Nat),c≤1∧p.length=a.length∧bM (p++ [c])∧aF (p++ [c])=aF a+aF b∧∀ nt,59≤nt→
  az prog ap [] nt (af 0 (ah f118)) (fun _=> .exit 0) (OZ a b k j) (MC a b k j) (0,κ (a.length+1) 0,0) (p++ [0],c):=by
 have m:=acd a b 0 g e (by omega);have l:=XF a b 0 i;have d:=NH C9 AA a b 0;have f:=NI (fd:=C9) (fc:=AA) (fun x y c=>Xqv _ (by omega)) a b 0;refine ⟨(cy C9 AA a b 0).1,(cy C9 AA a b 0).2,m,d,f.app (bM.cons (by omega) bM.nil), ?_,fun nt n=> ?_⟩
 ·rw [mQ,d];simp only [aF,Xjc,Xq0] at l ⊢;exact l
 ·have h:=abB n a b k j g e (by omega) [0] a [] [] [] b 0 (by omega) rfl rfl rfl (.inl rfl);rw [Xqk,Xqk,← Xj1] at h;exact h
theorem QW {p:List Nat} {c n:Nat} (a:c≤1) (hp:p.length=n):ν ((0+(δ (n:Int)))*1) (aj (p++ [0]))++ [Xxo .u32 (γ .u32 (c:Int))]++ε (((0+(δ (n:Int)))*1)+1) (aj (p++ [0]))=aj (p++ [c]):=by
 subst hp;rw [rq,υ (by omega)];exact y_ (p:=p) (s:= []) (x:=0) (y:=c)
theorem af9 (a b:List Nat) (e d:Bool) (j:bM a) (i:bM b) (u:a.length<2^38) (v:b.length<2^38):CO 118 [.sl (aj a) a.length e,.sl (aj b) b.length d] (.ret (.sl (aj (digs (aF a+aF b))) (digs (aF a+aF b)).length true)):=by
 have t:∀ n:Nat,n<2^38→γ .i64 ((n:Int)+((1:Nat):Int))=((n+1:Nat):Int):=fun n l=>by rw [bJ,aO (by omega)]
 have hs:∀ (a b:List Nat) (e d:Bool) (p:List Nat) (c:Nat),(∀ nt,59≤nt→az prog ap [] nt (af 0 (ah f118)) (fun _=> .exit 0) (OZ a b e d) (MC a b e d) (0,κ (a.length+1) 0,0) (p++ [0],c))→
   aG prog ap [] 59 (.block 0 (.loop (af 0 (ah f118)))) ⟨[(0,.sl (aj a) a.length e),(1,.sl (aj b) b.length d),(5,.ref 0 0 0 (a.length+1)),(6,.int .u64 ((0:Nat):Int)),(21,ω (a.length:Int)),(22,ω ((0:Nat):Int))],[(0,⟨aj (κ (a.length+1) 0),0,false,0,1,true⟩)],.dead,[]⟩ .normal (MC a b e d (p++ [0],c)):=by
  intro a b e d p c k;have h:=az.blk (s:=OZ a b e d (0,κ (a.length+1) 0,0)) (s':=MC a b e d (p++ [0],c)) (id:=0) k (by simp) rfl (aH.refl _) (aH.refl _);unfold OZ at h;simp only [Xxu] at h;exact h
 rcases Xq5 a.length b.length with hlt|hge
 ·obtain ⟨p,c,o,hp,g,q,k⟩:=MG d e i j (Xww hlt) (by omega);have f:=af8 a b (p++ [0]) e d c (aF a+aF b);have m:=hs b a d e p c k;rw [t b.length v,aB (b.length+1),pX,QW o hp] at f;have r:(p++ [0]).length=b.length+1:=by rw [θ,hp];rfl
  exact f (by rw [Xzm,aB];unfold aj;rw [Xxt];omega) (Yq0 (by omega)) (Yq0 (by omega)) (Yq0 (by omega)) (Yq0 rfl) (Yq0 (by omega)) (Yq0 (by omega))
   (BP (p++ [c]) _ _ (by simp) (by rw [jM g,q,Xxq]) (by omega)) fun nt l=>(m nt l).weak (aH.of ⟨rfl,rfl,rfl,rfl,rfl,rfl,trivial⟩) (aH.refl _)
 ·obtain ⟨p,c,o,hp,g,q,k⟩:=MG e d j i hge (by omega);have f:=af7 a b (p++ [0]) e d c (aF a+aF b);have m:=hs a b e d p c k;rw [t a.length u,aB (a.length+1),pX,QW o hp] at f;have r:(p++ [0]).length=a.length+1:=by rw [θ,hp];rfl
  exact f (by rw [Xzm,aB];unfold aj;rw [Xxt];omega) (Yq0 (by omega)) (Yq0 (by omega)) (Yq0 (by omega)) (Yq0 rfl) (Yq0 (by omega)) (Yq1 (by omega))
   (BP (p++ [c]) _ _ (by simp) (by rw [jM g,q]) (by omega)) fun nt l=>(m nt l).weak (aH.of ⟨rfl,rfl,rfl,rfl,rfl,rfl,trivial⟩) (aH.refl _)
theorem SB {a b:List Nat} (k j:Bool) (g:bM a) (f:bM b) (i:b.length≤a.length) (o:aF b≤aF a) (r:a.length<2^39):∃ (p:List Nat) (c:Nat),p.length=a.length∧bM p∧aF p=aF a - aF b∧∀ nt,45≤nt→
  az prog ap [] nt (af 0 (ah f216)) (fun _=> .exit 0) (SC a b k j) (V8 a b k j) (0,κ a.length 0,0) (p,c):=by
 have m:=V9 a b 0 g f (by omega) i;have d:=NH BC xh a b 0;have e:=NI (fd:=BC) (fc:=xh) (fun x y c=>Xqv _ (by omega)) a b 0;have l:=p_ e;rw [d] at l;refine ⟨(cy BC xh a b 0).1,(cy BC xh a b 0).2,d,e, ?_,fun nt n=> ?_⟩
 ·have q:(cy BC xh a b 0).2=0:=by
   rcases Θ (cy BC xh a b 0).2 with h|h
   ·exact h
   ·have:=Xqy (4294967296^a.length) h;omega
  rw [q] at m;omega
 ·have h:=ZF n a b k j g f (by omega) [] a [] [] [] b 0 (by omega) rfl rfl rfl (.inl rfl);rw [Xqk,Xqk,Γ,Γ] at h;exact h
theorem ZA (a b:List Nat) (g d:Bool) (k:bM a) (j:bM b) (i:b.length≤a.length) (l:aF b≤aF a) (r:a.length<2^38):CO 216 [.sl (aj a) a.length g,.sl (aj b) b.length d] (.ret (.sl (aj (digs (aF a - aF b))) (digs (aF a - aF b)).length true)):=by
 obtain ⟨p,c,hp,e,n,q⟩:=SB g d k j i l (by omega);have f:=Zz a b p g d c (aF a - aF b);have h:=az.blk (s:=SC a b g d (0,κ a.length 0,0)) (s':=V8 a b g d (p,c)) (id:=0) q (by simp) rfl (aH.refl _) (aH.refl _);unfold SC at h;simp only [Xxu] at h;rw [aB,pX] at f;have m:ν (p.length*1) (aj p)=aj p:=by rw [φ,oL,Xqx]
 exact f (Yq0 (by omega)) (Yq0 rfl) (Yq0 (by omega)) (BP p _ _ rfl (by rw [jM e,n]) (by omega)) fun nt o=>(h nt o).weak (aH.of ⟨rfl,rfl,rfl,rfl,rfl,rfl,trivial⟩) (aH.refl _)
theorem qG {s:List UInt8} {n:Nat} (hs:s.length≤4*n):(digs (ag s)).length≤n:=by
 have h:=vV s;refine jI (Xqa h ?_);rw [show (256:Nat)=2^8 from rfl,← Xx5];exact Xqc (by omega) (by omega)
theorem PK {x y:Nat} (h:y≤x):(digs y).length≤(digs x).length:=by
 refine jI (χ h ?_);rw [Xx5];exact nG x
theorem RH {x y m n:Nat} (d:(digs x).length≤m) (c:(digs y).length≤n):(digs (x*y)).length≤m+n:=by
 refine jI ?_;have a:=Xqa (nG x) (Xqc (by omega) d);have b:=Xqa (nG y) (Xqc (by omega) c);rw [Xq8,Xxj,Xx5,Xx5];exact Nat.mul_lt_mul'' a b
theorem RG {x y n:Nat} (b:(digs x).length≤n) (a:(digs y).length≤n):(digs (x+y)).length≤n+1:=by
 refine jI ?_;have c:=Xqa (nG x) (Xqc (by omega) b);have d:=Xqa (nG y) (Xqc (by omega) a);rw [Xx5,Xq2];have:(2:Nat)^32=4294967296:=by decide
 rw [this];generalize 4294967296^n=P at*
 omega
theorem ZM (s t:List UInt8) (hs:s.length<2^36) (c:t.length<2^36):CO 71 [.str s,.str t] (.ret (.str (ae (ag s+ag t)))):=by
 have b:=qG (s:=s) (n:=2^34) (by omega);have a:=qG (s:=t) (n:=2^34) (by omega);have d:=RG b a;have h:=af9 (digs (ag s)) (digs (ag t)) true true (bM.digs _) (bM.digs _) (by omega) (by omega);rw [fH,fH] at h;exact acV s t _ (uC s (by omega)) (uC t (by omega)) h (qX _ _ true (vT _) (by omega) (by omega))
theorem PG (s t:List UInt8) (hs:s.length<2^36):CO 210 [.sl (aj (digs (ag s))) (digs (ag s)).length true,.sl (aj (digs (ag t))) (digs (ag t)).length true] (.ret (ω (lZ (ag s) (ag t)))):=by
 have h:=wV (digs (ag s)) (digs (ag t)) true true (DX (by omega));rw [zB] at h;exact h
theorem QQ (x y:Nat):decide (lZ x y<((0:Nat):Int))=decide (x<y):=by
 unfold lZ;by_cases h:x<y
 ·rw [if_pos h,Yq0 h];rfl
 ·rw [if_neg h,Yq1 h];split<;>rfl
theorem ZZ (s t:List UInt8) (hs:s.length<2^36) (a:t.length<2^36) (h:ag s<ag t):CO 199 [.str s,.str t] (.ret (.tup [.str [],.bool false])):=
 af5 s t 0 (by rw [QQ];exact Yq0 h) (uC s (by omega)) (uC t (by omega)) (PG s t hs)
theorem Z4 (s t:List UInt8) (hs:s.length<2^36) (a:t.length<2^36) (h:ag t≤ag s):CO 199 [.str s,.str t] (.ret (.tup [.str (ae (ag s - ag t)),.bool true])):=by
 have b:=qG (s:=s) (n:=2^34) (by omega);have c:=PK (Nat.sub_le (ag s) (ag t));have f:=ZA (digs (ag s)) (digs (ag t)) true true (bM.digs _) (bM.digs _) (PK h) (by rw [fH,fH];exact h) (by omega);rw [fH,fH] at f;exact af6 s t _ (by rw [QQ];exact Yq1 (by omega)) (uC s (by omega)) (uC t (by omega)) (PG s t hs) f (qX _ _ true (vT _) (by omega) (by omega))
def ai (l:List Nat):List AV:=l.map fun (d:Nat)=>ω (d:Int)
theorem bI (l:List Nat):(ai l).length=l.length:=by simp [ai]
theorem KL (a b:List Nat):ai (a++b)=ai a++ai b:=by simp [ai]
theorem fG {l:List Nat} {k:Nat} (h:k<l.length):ζ (ε k (ai l)) .dead= ω ((l.getD k 0:Nat):Int):=by
 unfold ai;rw [← Xzc,Xxp h,Xqh,Xjd,ο,ξ h];rfl
theorem dh (l:List Nat) (k:Nat):ν k (ai l)=ai (l.take k):=by unfold ai;rw [Xwd]
theorem Ku (l:List Nat) (k:Nat):ε k (ai l)=ai (l.drop k):=by unfold ai;rw [Xzc]
theorem dU (x:Int):chk (.int .i64) (ω x)=true:=rfl
theorem P5 {l:List Nat} {j:Nat} (h:j<l.length) (y:Nat):ν j (ai l)++ [ω (y:Int)]++ε (j+1) (ai l)=ai (l.set j y):=by
 rw [dh,Ku,Xx9,if_pos h];simp [ai]
theorem Jr (m:Nat):gz m [ω 0]=ai (κ m 0):=by
 unfold gz ai
 induction m with
 |zero=>rfl
 |succ m ih=>rw [Xxc,List.flatten_cons,ih,Xxc];rfl
theorem iO (l:List Nat) (x:Nat):ai l++ [ω (x:Int)]=ai (l++ [x]):=by rw [KL];rfl
theorem KN (l:List Nat) (x:Nat):[ω (x:Int)]++ai l=ai (x::l):=rfl
theorem O8 (x:Nat) (l:List Nat):eX (x::l)=if eX l= []∧x=0 then [] else x::eX l:=by
 unfold eX;rw [Xz2,List.dropWhile_append];by_cases h:(Yqo (· ==0) l.reverse)= []
 ·simp only [h,List.isEmpty_nil,if_true,Xwx];by_cases hx:x=0
  ·subst hx;simp
  ·simp [hx]
 ·have:(Yqo (· ==0) l.reverse).isEmpty=false:=by simpa using h
  simp only [this,Xjo,if_false];rw [if_neg (by simp only [List.reverse_eq_nil_iff];exact fun ⟨h1,_⟩=>h h1)];simp
def cO:List Nat→Nat
 | []=>0
 |d::l=>d+16777216*cO l
def bf (l:List Nat):Prop:=∀ d ∈ l,d<16777216
theorem bf.nil:bf []:=fun _ h=>(by cases h)
theorem bf.cons {d:Nat} {l:List Nat} (h:d<16777216) (b:bf l):bf (d::l):=by
 intro x a;rcases List.mem_cons.1 a with rfl|a
 ·exact h
 ·exact b x a
theorem bf.head {d:Nat} {l:List Nat} (h:bf (d::l)):d<16777216:=h d (Xjp ..)
theorem bf.tail {d:Nat} {l:List Nat} (h:bf (d::l)):bf l:=fun x a=>h x (Xx3 _ a)
theorem bf.app {a b:List Nat} (h:bf a) (d:bf b):bf (a++b):=fun x c=>(List.mem_append.1 c).elim (h x) (d x)
theorem bf.take {a:List Nat} (h:bf a) (n:Nat):bf (a.take n):=fun x b=>h x (Xxl b)
theorem bf.getD {a:List Nat} (h:bf a) (n:Nat):a.getD n 0<16777216:=by
 rw [ο];rcases Xq5 n a.length with hn|hn
 ·rw [ξ hn];exact h _ (List.getElem_mem hn)
 ·rw [Xq4 hn];show 0<16777216;omega
theorem bf.zeros (n:Nat):bf (κ n 0):=fun x a=>by rw [(List.mem_replicate.1 a).2];omega
theorem zg (a b:List Nat):cO (a++b)=cO a+16777216^a.length*cO b:=by
 induction a with
 |nil=>simp [cO]
 |cons x a ih=>
  simp only [Xq9,cO,ih,μ,Xq2,Xq8];rw [Ψ (16777216^a.length) 16777216,Xqn];omega
theorem WP (k:Nat):0<16777216^k:=Yqe (by omega)
theorem zh {l:List Nat} (h:bf l):cO l<16777216^l.length:=by
 induction l with
 |nil=>simp [cO]
 |cons d l ih=>
  have a:=ih h.tail;have b:=h.head;simp only [cO,μ,Xq2];omega
theorem O_ (n:Nat):cO (κ n 0)=0:=by
 induction n with
 |zero=>rfl
 |succ n ih=>rw [Xxc];simp only [cO,ih]
def ax (n:Nat):List Nat:=if n=0 then [] else n % 16777216::ax (n / 16777216)
termination_by n
decreasing_by omega
theorem fP:ax 0= []:=by rw [ax,if_pos rfl]
theorem nZ {n:Nat} (h:0<n):ax n=n % 16777216::ax (n / 16777216):=by rw [ax,if_neg (by omega)]
theorem fA (n:Nat):cO (ax n)=n:=by
 induction n using Xka with
 | _ n ih=>
  rcases Θ n with rfl|h
  ·rw [fP];rfl
  ·rw [nZ h];simp only [cO];rw [ih (n / 16777216) (by omega)];omega
theorem bf.dig (n:Nat):bf (ax n):=by
 induction n using Xka with
 | _ n ih=>
  rcases Θ n with rfl|h
  ·rw [fP];exact bf.nil
  ·rw [nZ h];exact bf.cons (Xqv _ (by omega)) (ih (n / 16777216) (by omega))
theorem Kr {n:Nat}:ax n= []↔n=0:=by
 constructor
 ·intro h;have:=fA n;rw [h] at this;exact this.symm
 ·intro h;subst h;exact fP
theorem QZ {l:List Nat} (h:bf l):eX l=ax (cO l):=by
 induction l with
 |nil=>rw [show cO []=0 from rfl,fP];rfl
 | cons d l ih=>
  have hd:=h.head;rw [O8,ih h.tail];simp only [cO];by_cases hz:cO l=0∧d=0
  ·rw [if_pos ⟨Kr.2 hz.1,hz.2⟩,hz.1,hz.2,fP]
  ·rw [if_neg (fun h=>hz ⟨Kr.1 h.1,h.2⟩),nZ (n:=d+16777216*cO l) (by omega)];rw [show (d+16777216*cO l) % 16777216=d by omega,show (d+16777216*cO l) / 16777216=cO l by omega]
theorem uX (n:Nat):n<16777216^(ax n).length:=by
 have:=zh (bf.dig n);rwa [fA] at this
theorem YL {n k:Nat} (h:(ax n).length=k+1):16777216^k≤n:=by
 induction k generalizing n with
 |zero=>
  rcases Θ n with rfl|h0
  ·rw [fP] at h;simp at h
  ·rw [Xve];exact h0
 | succ k ih=>
  rcases Θ n with rfl|h0
  ·rw [fP] at h;simp at h
  ·rw [nZ h0,μ] at h;have:=ih (n:=n / 16777216) (by omega);rw [Xq2];omega
theorem rJ {n k:Nat} (h:n<16777216^k):(ax n).length≤k:=by
 rcases Xq5 k (ax n).length with h1|h1
 ·obtain ⟨j,a⟩:∃ j,(ax n).length=j+1:=⟨(ax n).length - 1,by omega⟩
  have c:=YL a;have b:=Xqc (show 0<16777216 by omega) (show k≤j by omega);omega
 ·exact h1
theorem qF {x y:Nat} (h:x≤y):(ax x).length≤(ax y).length:=rJ (χ h (uX y))
theorem agY {nt:Nat} (d:19≤nt) (s:List UInt8) (k:Nat) (e:lit true (((Φ (Xqm s (δ (k:Int)) 0):Nat):Int)==((0:Nat):Int))=true) (a:(decide (((0:Nat):Int)≤(k:Int)))=true) (c:(decide ((k:Int)<(((η s):Nat):Int)))=true) (b:lit true (decide ((k:Int)<(((η s):Nat):Int)))=true):ψ nt f133 ⟨[(0,.str s),(3,ω (k:Int))],[],.dead,[]⟩ (.normal) ⟨[(0,.str s),(3,ω (γ .i64 ((k:Int)+((1:Nat):Int))))],[],.dead,[]⟩:=pJ 133 [] 2 3 (.c e (.c a (.c c (.c b .nil)))) (.nil) d
theorem agZ {nt:Nat} (d:19≤nt) (s:List UInt8) (k:Nat) (e:lit false (((Φ (Xqm s (δ (k:Int)) 0):Nat):Int)==((0:Nat):Int))=true) (a:(decide (((0:Nat):Int)≤(k:Int)))=true) (c:(decide ((k:Int)<(((η s):Nat):Int)))=true) (b:lit true (decide ((k:Int)<(((η s):Nat):Int)))=true):ψ nt f133 ⟨[(0,.str s),(3,ω (k:Int))],[],.dead,[]⟩ (.exit 0) ⟨[(0,.str s),(3,ω (k:Int))],[],.dead,[]⟩:=pJ 133 [] 2 1 (.c e (.c a (.c c (.c b .nil)))) (.nil) d
theorem ag0 {nt:Nat} (a:19≤nt) (s:List UInt8) (k:Nat) (b:lit false (decide ((k:Int)<(((η s):Nat):Int)))=true):ψ nt f133 ⟨[(0,.str s),(3,ω (k:Int))],[],.dead,[]⟩ (.exit 0) ⟨[(0,.str s),(3,ω (k:Int))],[],.dead,[]⟩:=pJ 133 [] 2 0 (.k 1 b .nil) (.nil) a
theorem adm (s:List UInt8) (k:Nat) (d:(decide (((0:Nat):Int)≤(k:Int)))=true) (a:(decide ((k:Int)≤(((η s):Nat):Int)))=true) (c:(decide ((((η s):Nat):Int)≤(((η s):Nat):Int)))=true) (b:aG prog ap [] 19 (.block 0 (.loop (af 0 (ah f133)))) ⟨[(0,.str s),(2,.str []),(3,ω 0),(13,.dead)],[],.dead,[]⟩ (.normal) ⟨[(0,.str s),(3,ω (k:Int))],[],.dead,[]⟩):CO 133 [.str s] (.ret (.str (ε (δ (k:Int)) (ν (δ (((η s):Nat):Int)) s)))):=pK [0] 0 0 (.c d (.c a (.c c .nil))) (.l b .nil)
theorem akU {nt:Nat} (h:21≤nt) (l:List Nat) (a:Bool) (b:(decide (((0:Nat):Int)≤(γ .i64 ((l.length:Int) - ((1:Nat):Int)))))=true) (d:(decide ((γ .i64 ((l.length:Int) - ((1:Nat):Int)))≤(l.length:Int)))=true) (g:lit true ((τ (ζ (ε ((δ (γ .i64 ((l.length:Int) - ((1:Nat):Int))))*1) (ai l)) .dead))==((0:Nat):Int))=true) (e:(chk (.int .i64) (ζ (ε ((δ (γ .i64 ((l.length:Int) - ((1:Nat):Int))))*1) (ai l)) .dead))=true) (f:(decide ((γ .i64 ((l.length:Int) - ((1:Nat):Int)))<(l.length:Int)))=true) (c:lit true (decide (((0:Nat):Int)<(l.length:Int)))=true):ψ nt f185 ⟨[(0,.sl (ai l) l.length a)],[],.dead,[]⟩ (.normal) ⟨[(0,.sl (ν ((δ (γ .i64 ((l.length:Int) - ((1:Nat):Int))))*1) (ai l)) ((δ (γ .i64 ((l.length:Int) - ((1:Nat):Int)))) - 0) a)],[],.dead,[]⟩:=pJ 185 [] 2 3 (.k 1 b (.c d (.c g (.c e (.c b (.c f (.c c .nil))))))) (.nil) h
theorem akV {nt:Nat} (f:21≤nt) (l:List Nat) (a:Bool) (g:lit false ((τ (ζ (ε ((δ (γ .i64 ((l.length:Int) - ((1:Nat):Int))))*1) (ai l)) .dead))==((0:Nat):Int))=true) (b:(chk (.int .i64) (ζ (ε ((δ (γ .i64 ((l.length:Int) - ((1:Nat):Int))))*1) (ai l)) .dead))=true) (e:(decide (((0:Nat):Int)≤(γ .i64 ((l.length:Int) - ((1:Nat):Int)))))=true) (c:(decide ((γ .i64 ((l.length:Int) - ((1:Nat):Int)))<(l.length:Int)))=true) (d:lit true (decide (((0:Nat):Int)<(l.length:Int)))=true):ψ nt f185 ⟨[(0,.sl (ai l) l.length a)],[],.dead,[]⟩ (.exit 0) ⟨[(0,.sl (ai l) l.length a)],[],.dead,[]⟩:=pJ 185 [] 2 1 (.c g (.c b (.c e (.c c (.c d .nil))))) (.nil) f
theorem akW {nt:Nat} (b:21≤nt) (l:List Nat) (a:Bool) (c:lit false (decide (((0:Nat):Int)<(l.length:Int)))=true):ψ nt f185 ⟨[(0,.sl (ai l) l.length a)],[],.dead,[]⟩ (.exit 0) ⟨[(0,.sl (ai l) l.length a)],[],.dead,[]⟩:=pJ 185 [] 2 0 (.k 1 c .nil) (.nil) b
theorem afT (l r:List Nat) (a:Bool) (b:aG prog ap [] 21 (.block 0 (.loop (af 0 (ah f185)))) ⟨[(0,.sl (ai l) l.length a),(2,.nilS),(14,.dead)],[],.dead,[]⟩ (.normal) ⟨[(0,.sl (ai r) r.length a)],[],.dead,[]⟩):CO 185 [.sl (ai l) l.length a] (.ret (.sl (ai r) r.length a)):=pK [0] 0 0 .nil (.l b .nil)
theorem aki {nt:Nat} (l:41≤nt) (a b:List Nat) (h m:Bool) (k:Nat) (f:(chk (.int .i64) (ζ (ε ((δ (k:Int))*1) (ai b)) .dead))=true) (c:(decide (((0:Nat):Int)≤(k:Int)))=true) (g:(decide ((k:Int)<(b.length:Int)))=true) (d:(chk (.int .i64) (ζ (ε ((δ (k:Int))*1) (ai a)) .dead))=true) (e:(decide ((k:Int)<(a.length:Int)))=true) (i:lit true (!((τ (ζ (ε ((δ (k:Int))*1) (ai a)) .dead))==(τ (ζ (ε ((δ (k:Int))*1) (ai b)) .dead))))=true) (j:lit true (decide (((0:Nat):Int)≤(k:Int)))=true):ψ nt f186 ⟨[(0,.sl (ai a) a.length h),(1,.sl (ai b) b.length m),(5,ω (k:Int))],[],.dead,[]⟩ (.ret) ⟨[(4,ω (γ .i64 ((τ (ζ (ε ((δ (k:Int))*1) (ai a)) .dead)) - (τ (ζ (ε ((δ (k:Int))*1) (ai b)) .dead)))))],[],.dead,[]⟩:=pJ 186 [] 2 3 (.c f (.c c (.c g (.c d (.c c (.c e (.c i (.c f (.c c (.c g (.c d (.c c (.c e (.c j .nil)))))))))))))) (.nil) l
theorem akj {nt:Nat} (m:41≤nt) (a b:List Nat) (c e:Bool) (k:Nat) (l:lit false (!((τ (ζ (ε ((δ (k:Int))*1) (ai a)) .dead))==(τ (ζ (ε ((δ (k:Int))*1) (ai b)) .dead))))=true) (h:(chk (.int .i64) (ζ (ε ((δ (k:Int))*1) (ai b)) .dead))=true) (d:(decide (((0:Nat):Int)≤(k:Int)))=true) (i:(decide ((k:Int)<(b.length:Int)))=true) (j:(chk (.int .i64) (ζ (ε ((δ (k:Int))*1) (ai a)) .dead))=true) (f:(decide ((k:Int)<(a.length:Int)))=true) (g:lit true (decide (((0:Nat):Int)≤(k:Int)))=true):ψ nt f186 ⟨[(0,.sl (ai a) a.length c),(1,.sl (ai b) b.length e),(5,ω (k:Int))],[],.dead,[]⟩ (.normal) ⟨[(0,.sl (ai a) a.length c),(1,.sl (ai b) b.length e),(5,ω (γ .i64 ((k:Int) - ((1:Nat):Int))))],[],.dead,[]⟩:=pJ 186 [] 2 1 (.c l (.c h (.c d (.c i (.c j (.c d (.c f (.c g .nil)))))))) (.nil) m
theorem ae7 {nt:Nat} (d:41≤nt) (a b:List Nat) (c e:Bool):ψ nt f186 ⟨[(0,.sl (ai a) a.length c),(1,.sl (ai b) b.length e),(5,ω (-1))],[],.dead,[]⟩ (.exit 0) ⟨[],[],.dead,[]⟩:=pJ 186 [] 1 0 (.n 1 .nil) (.nil) d
theorem ae8 (a b:List Nat) (c d:Bool) (e:lit true (!((a.length:Int)==(b.length:Int)))=true):CO 186 [.sl (ai a) a.length c,.sl (ai b) b.length d] (.ret (ω (γ .i64 ((a.length:Int) - (b.length:Int))))):=pK [0] 1 1 (.c e .nil) (.nil)
theorem ae9 (a b:List Nat) (c d:Bool) (f:lit false (!((a.length:Int)==(b.length:Int)))=true) (e:aG prog ap [] 41 (.block 0 (.loop (af 0 (ah f186)))) ⟨[(0,.sl (ai a) a.length c),(1,.sl (ai b) b.length d),(4,ω 0),(5,ω (γ .i64 ((a.length:Int) - ((1:Nat):Int)))),(10,.bool (!((a.length:Int)==(b.length:Int)))),(20,.dead),(31,.dead)],[],.dead,[]⟩ (.normal) ⟨[],[],.dead,[]⟩):CO 186 [.sl (ai a) a.length c,.sl (ai b) b.length d] (.ret (ω 0)):=pK [0] 1 0 (.c f .nil) (.l e .nil)
theorem ae_ (a b:List Nat) (d e:Bool) (c:Int) (f:lit false (!((a.length:Int)==(b.length:Int)))=true) (g:aG prog ap [] 41 (.block 0 (.loop (af 0 (ah f186)))) ⟨[(0,.sl (ai a) a.length d),(1,.sl (ai b) b.length e),(4,ω 0),(5,ω (γ .i64 ((a.length:Int) - ((1:Nat):Int)))),(10,.bool (!((a.length:Int)==(b.length:Int)))),(20,.dead),(31,.dead)],[],.dead,[]⟩ (.ret) ⟨[(4,ω c)],[],.dead,[]⟩):CO 186 [.sl (ai a) a.length d,.sl (ai b) b.length e] (.ret (ω c)):=pK [0] 1 0 (.c f .nil) (.l g .nil)
theorem afQ {nt:Nat} (h:35≤nt) (a o:List Nat) (b:Bool) (d c k:Nat) (i:(chk (.int .i64) (ζ (ε ((δ (k:Int))*1) (ai a)) .dead))=true) (e:(decide (((0:Nat):Int)≤(k:Int)))=true) (g:(decide ((k:Int)<(a.length:Int)))=true) (f:lit true (decide ((k:Int)<(a.length:Int)))=true):ψ nt f188 ⟨[(0,.sl (ai a) a.length b),(1,ω (d:Int)),(6,ω (c:Int)),(7,ω (k:Int)),(5,.nilS)],[],.dead,[]⟩ (.normal) ⟨[(0,.sl (ai a) a.length b),(1,ω (d:Int)),(6,ω (γ .i64 (Xxg (γ .i64 ((γ .i64 ((τ (ζ (ε ((δ (k:Int))*1) (ai a)) .dead))*(d:Int)))+(c:Int))) ((16777216:Nat):Int)))),(7,ω (γ .i64 ((k:Int)+((1:Nat):Int)))),(5,.ref 0 0 0 1)],[(0,⟨[ω (Xju (γ .i64 ((γ .i64 ((τ (ζ (ε ((δ (k:Int))*1) (ai a)) .dead))*(d:Int)))+(c:Int))) ((16777216:Nat):Int))],0,false,0,1,true⟩)],.dead,[]⟩:=pJ 188 [] 2 1 (.k 5 i (.c e (.c g (.c f .nil)))) (.nil) h
theorem afR {nt:Nat} (e:35≤nt) (a o:List Nat) (b:Bool) (d c k:Nat) (f:lit false (decide ((k:Int)<(a.length:Int)))=true):ψ nt f188 ⟨[(0,.sl (ai a) a.length b),(1,ω (d:Int)),(6,ω (c:Int)),(7,ω (k:Int)),(5,.nilS)],[],.dead,[]⟩ (.exit 0) ⟨[(5,.nilS),(6,ω (c:Int))],[],.dead,[]⟩:=pJ 188 [] 1 0 (.c f .nil) (.nil) e
theorem aa_ (a o r:List Nat) (b:Bool) (d c:Nat) (e:aG prog ap [] 35 (.block 0 (.loop (af 0 (ah f188)))) ⟨[(0,.sl (ai a) a.length b),(1,ω (d:Int)),(4,.nilS),(5,.nilS),(6,ω 0),(7,ω 0),(8,.dead),(12,.dead)],[],.dead,[]⟩ (.normal) ⟨[(5,.nilS),(6,ω (c:Int))],[],.dead,[]⟩) (f:CO 185 [.sl [ω (c:Int)] 1 true] (.ret (.sl (ai r) r.length true))):CO 188 [.sl (ai a) a.length b,ω (d:Int)] (.ret (.sl (ai r) r.length true)):=pK [0] 1 0 (.n 3 .nil) (.c f (.l e .nil))
theorem afO {nt:Nat} (j:35≤nt) (a o:List Nat) (b:Bool) (d c k:Nat) (l:(Xqg (o.length+1) 1099511627776)=true) (f:(Xqg (o.length*1) (η (ai o)))=true) (i:(chk (.int .i64) (ζ (ε ((δ (k:Int))*1) (ai a)) .dead))=true) (g:(decide (((0:Nat):Int)≤(k:Int)))=true) (h:(decide ((k:Int)<(a.length:Int)))=true) (e:lit true (decide ((k:Int)<(a.length:Int)))=true):ψ nt f188 ⟨[(0,.sl (ai a) a.length b),(1,ω (d:Int)),(6,ω (c:Int)),(7,ω (k:Int)),(5,.ref 0 0 0 o.length)],[(0,⟨(ai o),0,false,0,1,true⟩)],.dead,[]⟩ (.normal) ⟨[(0,.sl (ai a) a.length b),(1,ω (d:Int)),(6,ω (γ .i64 (Xxg (γ .i64 ((γ .i64 ((τ (ζ (ε ((δ (k:Int))*1) (ai a)) .dead))*(d:Int)))+(c:Int))) ((16777216:Nat):Int)))),(7,ω (γ .i64 ((k:Int)+((1:Nat):Int)))),(5,.ref 0 0 0 (o.length+1))],[(0,⟨((ν (o.length*1) (ai o))++ [ω (Xju (γ .i64 ((γ .i64 ((τ (ζ (ε ((δ (k:Int))*1) (ai a)) .dead))*(d:Int)))+(c:Int))) ((16777216:Nat):Int))]),0,false,0,1,true⟩)],.dead,[]⟩:=pJ 188 [] 1 1 (.k 2 l (.c f (.k 2 i (.c g (.c h (.c e .nil)))))) (.nil) j
theorem afP {nt:Nat} (e:35≤nt) (a o:List Nat) (b:Bool) (d c k:Nat) (f:lit false (decide ((k:Int)<(a.length:Int)))=true):ψ nt f188 ⟨[(0,.sl (ai a) a.length b),(1,ω (d:Int)),(6,ω (c:Int)),(7,ω (k:Int)),(5,.ref 0 0 0 o.length)],[(0,⟨(ai o),0,false,0,1,true⟩)],.dead,[]⟩ (.exit 0) ⟨[(5,.ref 0 0 0 o.length),(6,ω (c:Int))],[(0,⟨(ai o),0,false,0,1,true⟩)],.dead,[]⟩:=pJ 188 [] 1 0 (.c f .nil) (.nil) e
theorem aa9 (a o r:List Nat) (b:Bool) (d c:Nat) (h:(Xqg (o.length+1) 1099511627776)=true) (e:(Xqg (o.length*1) (η (ai o)))=true) (f:aG prog ap [] 35 (.block 0 (.loop (af 0 (ah f188)))) ⟨[(0,.sl (ai a) a.length b),(1,ω (d:Int)),(4,.nilS),(5,.nilS),(6,ω 0),(7,ω 0),(8,.dead),(12,.dead)],[],.dead,[]⟩ (.normal) ⟨[(5,.ref 0 0 0 o.length),(6,ω (c:Int))],[(0,⟨(ai o),0,false,0,1,true⟩)],.dead,[]⟩) (g:CO 185 [.sl (ν ((o.length+1)*1) ((ν (o.length*1) (ai o))++ [ω (c:Int)])) (o.length+1) true] (.ret (.sl (ai r) r.length true))):CO 188 [.sl (ai a) a.length b,ω (d:Int)] (.ret (.sl (ai r) r.length true)):=pK [0] 0 0 (.k 1 h (.c e (.n 1 .nil))) (.c g (.l f .nil))
theorem afi {nt:Nat} (p:41≤nt) (a b o:List Nat) (d f:Bool) (c k:Nat) (m:lit true (decide ((γ .i64 ((γ .i64 ((τ (ζ (ε ((δ (k:Int))*1) (ai a)) .dead)) - (c:Int))) - (τ (ζ (ε ((δ (k:Int))*1) (ai b)) .dead))))<((0:Nat):Int)))=true) (j:(chk (.int .i64) (ζ (ε ((δ (k:Int))*1) (ai b)) .dead))=true) (e:(decide (((0:Nat):Int)≤(k:Int)))=true) (l:(decide ((k:Int)<(b.length:Int)))=true) (n:lit true (decide ((k:Int)<(b.length:Int)))=true) (g:(chk (.int .i64) (ζ (ε ((δ (k:Int))*1) (ai a)) .dead))=true) (h:(decide ((k:Int)<(a.length:Int)))=true) (i:lit true (decide ((k:Int)<(a.length:Int)))=true):ψ nt f151 ⟨[(0,.sl (ai a) a.length d),(1,.sl (ai b) b.length f),(6,ω (c:Int)),(7,ω (k:Int)),(5,.nilS)],[],.dead,[]⟩ (.normal) ⟨[(0,.sl (ai a) a.length d),(1,.sl (ai b) b.length f),(6,ω 1),(7,ω (γ .i64 ((k:Int)+((1:Nat):Int)))),(5,.ref 0 0 0 1)],[(0,⟨[ω (γ .i64 ((γ .i64 ((γ .i64 ((τ (ζ (ε ((δ (k:Int))*1) (ai a)) .dead)) - (c:Int))) - (τ (ζ (ε ((δ (k:Int))*1) (ai b)) .dead))))+((16777216:Nat):Int)))],0,false,0,1,true⟩)],.dead,[]⟩:=pJ 151 [] 4 7 (.k 3 m (.c j (.c e (.c l (.c n (.c g (.c e (.c h (.c i .nil))))))))) (.nil) p
theorem afj {nt:Nat} (p:41≤nt) (a b o:List Nat) (d f:Bool) (c k:Nat) (m:lit false (decide ((γ .i64 ((γ .i64 ((τ (ζ (ε ((δ (k:Int))*1) (ai a)) .dead)) - (c:Int))) - (τ (ζ (ε ((δ (k:Int))*1) (ai b)) .dead))))<((0:Nat):Int)))=true) (j:(chk (.int .i64) (ζ (ε ((δ (k:Int))*1) (ai b)) .dead))=true) (e:(decide (((0:Nat):Int)≤(k:Int)))=true) (l:(decide ((k:Int)<(b.length:Int)))=true) (n:lit true (decide ((k:Int)<(b.length:Int)))=true) (g:(chk (.int .i64) (ζ (ε ((δ (k:Int))*1) (ai a)) .dead))=true) (h:(decide ((k:Int)<(a.length:Int)))=true) (i:lit true (decide ((k:Int)<(a.length:Int)))=true):ψ nt f151 ⟨[(0,.sl (ai a) a.length d),(1,.sl (ai b) b.length f),(6,ω (c:Int)),(7,ω (k:Int)),(5,.nilS)],[],.dead,[]⟩ (.normal) ⟨[(0,.sl (ai a) a.length d),(1,.sl (ai b) b.length f),(6,ω 0),(7,ω (γ .i64 ((k:Int)+((1:Nat):Int)))),(5,.ref 0 0 0 1)],[(0,⟨[ω (γ .i64 ((γ .i64 ((τ (ζ (ε ((δ (k:Int))*1) (ai a)) .dead)) - (c:Int))) - (τ (ζ (ε ((δ (k:Int))*1) (ai b)) .dead))))],0,false,0,1,true⟩)],.dead,[]⟩:=pJ 151 [] 4 3 (.k 3 m (.c j (.c e (.c l (.c n (.c g (.c e (.c h (.c i .nil))))))))) (.nil) p
theorem afk {nt:Nat} (m:41≤nt) (a b o:List Nat) (d e:Bool) (c k:Nat) (i:lit true (decide ((γ .i64 ((τ (ζ (ε ((δ (k:Int))*1) (ai a)) .dead)) - (c:Int)))<((0:Nat):Int)))=true) (g:lit false (decide ((k:Int)<(b.length:Int)))=true) (j:(chk (.int .i64) (ζ (ε ((δ (k:Int))*1) (ai a)) .dead))=true) (h:(decide (((0:Nat):Int)≤(k:Int)))=true) (l:(decide ((k:Int)<(a.length:Int)))=true) (f:lit true (decide ((k:Int)<(a.length:Int)))=true):ψ nt f151 ⟨[(0,.sl (ai a) a.length d),(1,.sl (ai b) b.length e),(6,ω (c:Int)),(7,ω (k:Int)),(5,.nilS)],[],.dead,[]⟩ (.normal) ⟨[(0,.sl (ai a) a.length d),(1,.sl (ai b) b.length e),(6,ω 1),(7,ω (γ .i64 ((k:Int)+((1:Nat):Int)))),(5,.ref 0 0 0 1)],[(0,⟨[ω (γ .i64 ((γ .i64 ((τ (ζ (ε ((δ (k:Int))*1) (ai a)) .dead)) - (c:Int)))+((16777216:Nat):Int)))],0,false,0,1,true⟩)],.dead,[]⟩:=pJ 151 [] 4 5 (.k 3 i (.c g (.c j (.c h (.c l (.c f .nil)))))) (.nil) m
theorem afl {nt:Nat} (m:41≤nt) (a b o:List Nat) (d e:Bool) (c k:Nat) (i:lit false (decide ((γ .i64 ((τ (ζ (ε ((δ (k:Int))*1) (ai a)) .dead)) - (c:Int)))<((0:Nat):Int)))=true) (g:lit false (decide ((k:Int)<(b.length:Int)))=true) (j:(chk (.int .i64) (ζ (ε ((δ (k:Int))*1) (ai a)) .dead))=true) (h:(decide (((0:Nat):Int)≤(k:Int)))=true) (l:(decide ((k:Int)<(a.length:Int)))=true) (f:lit true (decide ((k:Int)<(a.length:Int)))=true):ψ nt f151 ⟨[(0,.sl (ai a) a.length d),(1,.sl (ai b) b.length e),(6,ω (c:Int)),(7,ω (k:Int)),(5,.nilS)],[],.dead,[]⟩ (.normal) ⟨[(0,.sl (ai a) a.length d),(1,.sl (ai b) b.length e),(6,ω 0),(7,ω (γ .i64 ((k:Int)+((1:Nat):Int)))),(5,.ref 0 0 0 1)],[(0,⟨[ω (γ .i64 ((τ (ζ (ε ((δ (k:Int))*1) (ai a)) .dead)) - (c:Int)))],0,false,0,1,true⟩)],.dead,[]⟩:=pJ 151 [] 4 1 (.k 3 i (.c g (.c j (.c h (.c l (.c f .nil)))))) (.nil) m
theorem afm {nt:Nat} (f:41≤nt) (a b o:List Nat) (d g:Bool) (c k:Nat) (e:lit false (decide ((k:Int)<(a.length:Int)))=true):ψ nt f151 ⟨[(0,.sl (ai a) a.length d),(1,.sl (ai b) b.length g),(6,ω (c:Int)),(7,ω (k:Int)),(5,.nilS)],[],.dead,[]⟩ (.exit 0) ⟨[(5,.nilS)],[],.dead,[]⟩:=pJ 151 [] 1 0 (.c e .nil) (.nil) f
theorem aaR (a b o r:List Nat) (c d:Bool) (e:aG prog ap [] 41 (.block 0 (.loop (af 0 (ah f151)))) ⟨[(0,.sl (ai a) a.length c),(1,.sl (ai b) b.length d),(4,.nilS),(5,.nilS),(6,ω 0),(7,ω 0),(8,.dead),(12,.dead),(24,.dead),(32,.dead)],[],.dead,[]⟩ (.normal) ⟨[(5,.nilS)],[],.dead,[]⟩) (f:CO 185 [.nilS] (.ret (.sl (ai r) r.length false))):CO 151 [.sl (ai a) a.length c,.sl (ai b) b.length d] (.ret (.sl (ai r) r.length false)):=pK [0] 0 0 .nil (.c f (.l e .nil))
theorem afd {nt:Nat} (r:41≤nt) (a b o:List Nat) (f e:Bool) (c k:Nat) (n:(Xqg (o.length+1) 1099511627776)=true) (q:(Xqg (o.length*1) (η (ai o)))=true) (m:lit true (decide ((γ .i64 ((γ .i64 ((τ (ζ (ε ((δ (k:Int))*1) (ai a)) .dead)) - (c:Int))) - (τ (ζ (ε ((δ (k:Int))*1) (ai b)) .dead))))<((0:Nat):Int)))=true) (i:(chk (.int .i64) (ζ (ε ((δ (k:Int))*1) (ai b)) .dead))=true) (d:(decide (((0:Nat):Int)≤(k:Int)))=true) (j:(decide ((k:Int)<(b.length:Int)))=true) (h:lit true (decide ((k:Int)<(b.length:Int)))=true) (l:(chk (.int .i64) (ζ (ε ((δ (k:Int))*1) (ai a)) .dead))=true) (p:(decide ((k:Int)<(a.length:Int)))=true) (g:lit true (decide ((k:Int)<(a.length:Int)))=true):ψ nt f151 ⟨[(0,.sl (ai a) a.length f),(1,.sl (ai b) b.length e),(6,ω (c:Int)),(7,ω (k:Int)),(5,.ref 0 0 0 o.length)],[(0,⟨(ai o),0,false,0,1,true⟩)],.dead,[]⟩ (.normal) ⟨[(0,.sl (ai a) a.length f),(1,.sl (ai b) b.length e),(6,ω 1),(7,ω (γ .i64 ((k:Int)+((1:Nat):Int)))),(5,.ref 0 0 0 (o.length+1))],[(0,⟨((ν (o.length*1) (ai o))++ [ω (γ .i64 ((γ .i64 ((γ .i64 ((τ (ζ (ε ((δ (k:Int))*1) (ai a)) .dead)) - (c:Int))) - (τ (ζ (ε ((δ (k:Int))*1) (ai b)) .dead))))+((16777216:Nat):Int)))]),0,false,0,1,true⟩)],.dead,[]⟩:=pJ 151 [] 3 7 (.k 1 n (.c q (.k 1 m (.c i (.c d (.c j (.c h (.c l (.c d (.c p (.c g .nil))))))))))) (.nil) r
theorem afe {nt:Nat} (r:41≤nt) (a b o:List Nat) (f e:Bool) (c k:Nat) (n:(Xqg (o.length+1) 1099511627776)=true) (q:(Xqg (o.length*1) (η (ai o)))=true) (m:lit false (decide ((γ .i64 ((γ .i64 ((τ (ζ (ε ((δ (k:Int))*1) (ai a)) .dead)) - (c:Int))) - (τ (ζ (ε ((δ (k:Int))*1) (ai b)) .dead))))<((0:Nat):Int)))=true) (i:(chk (.int .i64) (ζ (ε ((δ (k:Int))*1) (ai b)) .dead))=true) (d:(decide (((0:Nat):Int)≤(k:Int)))=true) (j:(decide ((k:Int)<(b.length:Int)))=true) (h:lit true (decide ((k:Int)<(b.length:Int)))=true) (l:(chk (.int .i64) (ζ (ε ((δ (k:Int))*1) (ai a)) .dead))=true) (p:(decide ((k:Int)<(a.length:Int)))=true) (g:lit true (decide ((k:Int)<(a.length:Int)))=true):ψ nt f151 ⟨[(0,.sl (ai a) a.length f),(1,.sl (ai b) b.length e),(6,ω (c:Int)),(7,ω (k:Int)),(5,.ref 0 0 0 o.length)],[(0,⟨(ai o),0,false,0,1,true⟩)],.dead,[]⟩ (.normal) ⟨[(0,.sl (ai a) a.length f),(1,.sl (ai b) b.length e),(6,ω 0),(7,ω (γ .i64 ((k:Int)+((1:Nat):Int)))),(5,.ref 0 0 0 (o.length+1))],[(0,⟨((ν (o.length*1) (ai o))++ [ω (γ .i64 ((γ .i64 ((τ (ζ (ε ((δ (k:Int))*1) (ai a)) .dead)) - (c:Int))) - (τ (ζ (ε ((δ (k:Int))*1) (ai b)) .dead))))]),0,false,0,1,true⟩)],.dead,[]⟩:=pJ 151 [] 3 3 (.k 1 n (.c q (.k 1 m (.c i (.c d (.c j (.c h (.c l (.c d (.c p (.c g .nil))))))))))) (.nil) r
theorem aff {nt:Nat} (p:41≤nt) (a b o:List Nat) (d e:Bool) (c k:Nat) (l:(Xqg (o.length+1) 1099511627776)=true) (i:(Xqg (o.length*1) (η (ai o)))=true) (m:lit true (decide ((γ .i64 ((τ (ζ (ε ((δ (k:Int))*1) (ai a)) .dead)) - (c:Int)))<((0:Nat):Int)))=true) (j:lit false (decide ((k:Int)<(b.length:Int)))=true) (n:(chk (.int .i64) (ζ (ε ((δ (k:Int))*1) (ai a)) .dead))=true) (f:(decide (((0:Nat):Int)≤(k:Int)))=true) (g:(decide ((k:Int)<(a.length:Int)))=true) (h:lit true (decide ((k:Int)<(a.length:Int)))=true):ψ nt f151 ⟨[(0,.sl (ai a) a.length d),(1,.sl (ai b) b.length e),(6,ω (c:Int)),(7,ω (k:Int)),(5,.ref 0 0 0 o.length)],[(0,⟨(ai o),0,false,0,1,true⟩)],.dead,[]⟩ (.normal) ⟨[(0,.sl (ai a) a.length d),(1,.sl (ai b) b.length e),(6,ω 1),(7,ω (γ .i64 ((k:Int)+((1:Nat):Int)))),(5,.ref 0 0 0 (o.length+1))],[(0,⟨((ν (o.length*1) (ai o))++ [ω (γ .i64 ((γ .i64 ((τ (ζ (ε ((δ (k:Int))*1) (ai a)) .dead)) - (c:Int)))+((16777216:Nat):Int)))]),0,false,0,1,true⟩)],.dead,[]⟩:=pJ 151 [] 3 5 (.k 1 l (.c i (.k 1 m (.c j (.c n (.c f (.c g (.c h .nil)))))))) (.nil) p
theorem afg {nt:Nat} (p:41≤nt) (a b o:List Nat) (d e:Bool) (c k:Nat) (l:(Xqg (o.length+1) 1099511627776)=true) (i:(Xqg (o.length*1) (η (ai o)))=true) (m:lit false (decide ((γ .i64 ((τ (ζ (ε ((δ (k:Int))*1) (ai a)) .dead)) - (c:Int)))<((0:Nat):Int)))=true) (j:lit false (decide ((k:Int)<(b.length:Int)))=true) (n:(chk (.int .i64) (ζ (ε ((δ (k:Int))*1) (ai a)) .dead))=true) (f:(decide (((0:Nat):Int)≤(k:Int)))=true) (g:(decide ((k:Int)<(a.length:Int)))=true) (h:lit true (decide ((k:Int)<(a.length:Int)))=true):ψ nt f151 ⟨[(0,.sl (ai a) a.length d),(1,.sl (ai b) b.length e),(6,ω (c:Int)),(7,ω (k:Int)),(5,.ref 0 0 0 o.length)],[(0,⟨(ai o),0,false,0,1,true⟩)],.dead,[]⟩ (.normal) ⟨[(0,.sl (ai a) a.length d),(1,.sl (ai b) b.length e),(6,ω 0),(7,ω (γ .i64 ((k:Int)+((1:Nat):Int)))),(5,.ref 0 0 0 (o.length+1))],[(0,⟨((ν (o.length*1) (ai o))++ [ω (γ .i64 ((τ (ζ (ε ((δ (k:Int))*1) (ai a)) .dead)) - (c:Int)))]),0,false,0,1,true⟩)],.dead,[]⟩:=pJ 151 [] 3 1 (.k 1 l (.c i (.k 1 m (.c j (.c n (.c f (.c g (.c h .nil)))))))) (.nil) p
theorem afh {nt:Nat} (f:41≤nt) (a b o:List Nat) (d g:Bool) (c k:Nat) (e:lit false (decide ((k:Int)<(a.length:Int)))=true):ψ nt f151 ⟨[(0,.sl (ai a) a.length d),(1,.sl (ai b) b.length g),(6,ω (c:Int)),(7,ω (k:Int)),(5,.ref 0 0 0 o.length)],[(0,⟨(ai o),0,false,0,1,true⟩)],.dead,[]⟩ (.exit 0) ⟨[(5,.ref 0 0 0 o.length)],[(0,⟨(ai o),0,false,0,1,true⟩)],.dead,[]⟩:=pJ 151 [] 1 0 (.c e .nil) (.nil) f
theorem aaQ (a b o r:List Nat) (c d:Bool) (e:aG prog ap [] 41 (.block 0 (.loop (af 0 (ah f151)))) ⟨[(0,.sl (ai a) a.length c),(1,.sl (ai b) b.length d),(4,.nilS),(5,.nilS),(6,ω 0),(7,ω 0),(8,.dead),(12,.dead),(24,.dead),(32,.dead)],[],.dead,[]⟩ (.normal) ⟨[(5,.ref 0 0 0 o.length)],[(0,⟨(ai o),0,false,0,1,true⟩)],.dead,[]⟩) (f:CO 185 [.sl (ν (o.length*1) (ai o)) o.length true] (.ret (.sl (ai r) r.length false))):CO 151 [.sl (ai a) a.length c,.sl (ai b) b.length d] (.ret (.sl (ai r) r.length false)):=pK [0] 0 0 .nil (.c f (.l e .nil))
def nz:List UInt8→Nat
 | []=>0
 |c::r=>if c=0 then nz r+1 else 0
theorem YR (s:List UInt8):s.drop (nz s)=s.dropWhile (· ==0):=by
 induction s with
 |nil=>rfl
 |cons c r ih=>
  simp only [nz,Xxv];by_cases h:c=0
  ·subst h;simpa using ih
  ·simp [h]
theorem aiJ (s:List UInt8):nz s≤s.length:=by
 induction s with
 |nil=>exact Δ _
 |cons c r ih=>simp only [nz,μ];split<;>omega
def acb (s:List UInt8) (k:Nat):St:=⟨[(0,.str s),(3,ω (k:Int))],[],.dead,[]⟩
theorem QV {p r:List UInt8} {c:UInt8} {k:Nat} (h:k=p.length):(p++c::r).getD k 0=c:=by subst h;simp
theorem abY (c:UInt8):(c.toNat=0)=(c=0):=by
 apply propext;constructor
 ·intro h;apply UInt8.toNat_inj.1;simpa using h
 ·intro h;subst h;rfl
theorem UJ {nt:Nat} (b:19≤nt) (s:List UInt8) (hs:s.length<2^40):∀ (r p:List UInt8),p++r=s→az prog ap [] nt (af 0 (ah f133)) (fun _=> .exit 0) (acb s) (acb s) p.length (p.length+nz r):=by
 intro r
 induction r with
 |nil=>
  intro p h;have hp:p.length=s.length:=by rw [← h];simp
  refine .done (ag0 b s p.length ?_);rw [hp,aW];simp [lit]
 | cons c r ih=>
  intro p h;have f:p.length+(r.length+1)=s.length:=by rw [← h];simp
  have e:s.getD p.length 0=c:=by rw [← h];exact QV rfl
  by_cases hc:c=0
  ·have hnext:=ih (p++ [c]) (by simp [h]);rw [θ,σ] at hnext;simp only [nz,if_pos hc];rw [show p.length+(nz r+1)=p.length+1+nz r by omega];refine .next ?_ hnext
   have a:=agY b s p.length;have d:c.toNat=0:=by subst hc;rfl
   simp (disch:=first|omega|(simp [au,ay]<;>omega)) only [aB,e,d,jG,decide_true,bu,dw,a_,aW,bJ,aO] at a;apply a<;>first|exact True.intro|omega|assumption|exact rfl
  ·simp only [nz,if_neg hc,Xq0];refine .done ?_;have a:=agZ b s p.length;have d:¬ c.toNat=0:=by rw [abY];exact hc
   simp (disch:=first|omega|(simp [au,ay]<;>omega)) only [aB,e,jG,dH,dQ,eG,dw,a_,aW,bu] at a;apply a<;>first|exact True.intro|omega|assumption|exact rfl
theorem gQ (s:List UInt8) (hs:s.length<2^40):CO 133 [.str s] (.ret (.str (ae (ag s)))):=by
 have b:=aiJ s;have h:=adm s (nz s);simp (disch:=first|omega|(simp [au,ay]<;>omega)) only [dw,a_,aB,Xqx,YR] at h;rw [EN];apply h<;>first|exact True.intro|omega|assumption|exact rfl|skip
 ·refine az.blk (fun nt a=>UJ a s hs s [] rfl) (by simp) rfl (aH.of ⟨rfl,rfl,trivial⟩) ?_;rw [Xqb,Xqf];exact aH.refl _
theorem O3 (l:List Nat) (d:Nat):ν l.length (ai (l++ [d]))=ai l:=by
 rw [dh];simp
theorem DZ (l:List Nat) (d:Nat):ζ (ε l.length (ai (l++ [d]))) .dead= ω (d:Int):=by
 rw [fG (by simp)];simp
def QL (nn:Bool) (l:List Nat):St:=⟨[(0,.sl (ai l) l.length nn)],[],.dead,[]⟩
theorem Xt {nt:Nat} (g:21≤nt) (b:Bool):∀ (k:Nat) (l:List Nat),l.length=k→k<2^40→az prog ap [] nt (af 0 (ah f185)) (fun _=> .exit 0) (QL b) (QL b) l (eX l):=by
 intro k
 induction k with
 |zero=>
  intro l c _;have:l= []:=Xxh c;subst this;exact .done (akW g [] b rfl)
 | succ k ih=>
  intro l c i;rcases Xzv l with rfl|⟨a,d,rfl⟩
  ·simp at c
  ·rw [Xzw] at c ⊢;have f:a.length=k:=by simpa using c
   have h:a.length+1 - 1=a.length:=by omega
   rw [oM];by_cases hd:d=0
   ·rw [if_pos hd];refine .next ?_ (ih a f (by omega))
    have e:=akU g (a++ [d]) b;simp (disch:=first|omega|(simp [au,ay]<;>omega)) only [θ,μ,Xqb,Xqf,jT,h,dw,a_,aB,φ,DZ,aY,jG,bu,dU,aW,O3,Xjk] at e;simp only [QL,θ,σ];apply e<;>first|exact True.intro|omega|assumption|exact rfl
   ·rw [if_neg hd];refine .done ?_;have e:=akV g (a++ [d]) b;simp (disch:=first|omega|(simp [au,ay]<;>omega)) only [θ,μ,Xqb,Xqf,jT,h,aB,φ,DZ,aY,jG,dH,dQ,eG,dU,dw,a_,aW,bu] at e;simp only [QL,θ,σ];apply e<;>first|exact True.intro|omega|assumption|exact rfl
theorem yO (l:List Nat) (a:Bool) (c:l.length<2^40):CO 185 [.sl (ai l) l.length a] (.ret (.sl (ai (eX l)) (eX l).length a)):=
 afT l (eX l) a (az.blk (fun nt b=>Xt b a _ l rfl c) (by simp) rfl (aH.of ⟨rfl,trivial⟩) (aH.of ⟨rfl,trivial⟩))
def Nj (l:List Nat):AV:=match l with| []=> .nilS|x::l=> .ref 0 0 0 (x::l).length
def Nk (l:List Nat):Hp:=match l with| []=> []|x::l=> [(0,⟨ai (x::l),0,false,0,1,true⟩)]
theorem gG {l:List Nat} (h:l ≠ []):Nj l= .ref 0 0 0 l.length:=by cases l with|nil=>exact absurd rfl h|cons _ _=>rfl
theorem gI {l:List Nat} (h:l ≠ []):Nk l= [(0,⟨ai l,0,false,0,1,true⟩)]:=by cases l with|nil=>exact absurd rfl h|cons _ _=>rfl
theorem iC (l:List Nat) (y:Nat):l++ [y] ≠ []:=by simp
theorem PZ {p s:List Nat} {x k:Nat} (h:k=p.length):ζ (ε k (ai (p++x::s))) .dead= ω (x:Int):=by
 rw [fG (by subst h;simp)];subst h;simp
def TV (d:Nat):List Nat→Nat→List Nat × Nat
 | [],c=>([],c)
 |x::l,c=>((x*d+c) % 16777216::(TV d l ((x*d+c) / 16777216)).1,(TV d l ((x*d+c) / 16777216)).2)
theorem MM {d x c:Nat} (hd:d<16777216) (e:x<16777216) (a:c<16777216):x*d+c<281474976710656∧(x*d+c) / 16777216<16777216∧x*d<281474976710656:=by
 have b:x*d≤16777215*16777215:=Nat.mul_le_mul (by omega) (by omega);omega
theorem abN {d:Nat} (hd:d<16777216) (l:List Nat):∀ c,c<16777216→bf l→(TV d l c).2<16777216∧bf (TV d l c).1∧(TV d l c).1.length=l.length∧cO (TV d l c).1+16777216^l.length*(TV d l c).2=cO l*d+c:=by
 induction l with
 |nil=>intro c a _;exact ⟨a,bf.nil,rfl,by simp [TV,cO]⟩
 |cons x l ih=>
  intro c a b;obtain ⟨_,f,_⟩:=MM hd b.head a;obtain ⟨e,h,g,i⟩:=ih _ f b.tail;simp only [TV];refine ⟨e,bf.cons (Xqv _ (by omega)) h,by simp [g], ?_⟩;simp only [cO,μ,Xq2];rw [Ψ (16777216^l.length),Xqn,Xxm,Xqn 16777216 (cO l)];omega
def TW (a:List Nat) (na:Bool) (d:Nat) (p:Nat × Nat × List Nat):St:=⟨[(0,.sl (ai a) a.length na),(1,ω (d:Int)),(6,ω (p.2.1:Int)),(7,ω (p.1:Int)),(5,Nj p.2.2)],Nk p.2.2,.dead,[]⟩
def QY (p:Nat × List Nat):St:=⟨[(5,Nj p.2),(6,ω (p.1:Int))],Nk p.2,.dead,[]⟩
theorem abQ {nt:Nat} (h:35≤nt) (a o:List Nat) (f:Bool) (d c k x:Nat) (q:a.length<2^40) (n:k<a.length) (p:o.length=k) (g:a.getD k 0=x) (j:x*d+c<281474976710656) (m:x*d<281474976710656):
  ψ nt f188 (TW a f d (k,c,o)) .normal (TW a f d (k+1,(x*d+c) / 16777216,o++ [(x*d+c) % 16777216])):=by
 unfold TW;have l:(x*d+c) / 16777216<9223372036854775808:=by omega
 have i:(x*d+c) % 16777216<9223372036854775808:=by omega
 have e:(((x*d:Nat):Int))+(c:Int)=((x*d+c:Nat):Int):=by omega
 rcases Xxf (o= []) with rfl|hne
 ·have b:=afQ h a [] f d c k;simp (disch:=first|omega|(simp [au,ay]<;>omega)) only [aB,φ,fG,g,dU,dw,a_,aW,bu,aY,xX,aO,e,qg,bJ,wU] at b;simp only [Xqk,Nj,Nk,ai,Xqh,List.map_nil,μ,Xqb] at b ⊢;apply b<;>first|exact True.intro|omega|assumption|exact rfl
 ·have b:=afO h a o f d c k;rw [gG hne,gI hne,gG (iC _ _),gI (iC _ _)];simp (disch:=first|omega|(simp [au,ay]<;>omega)) only [fE,a_,φ,bI,aB,fG,g,dU,dw,aW,bu,aY,xX,aO,e,qg,bJ,dh,Xqx,wU,iO] at b;simp only [θ,σ];apply b<;>first|exact True.intro|omega|assumption|exact rfl
theorem abO {nt:Nat} (f:35≤nt) (a o:List Nat) (b:Bool) (d c:Nat):ψ nt f188 (TW a b d (a.length,c,o)) (.exit 0) (QY (c,o)):=by
 unfold TW QY;rcases Xxf (o= []) with rfl|hne
 ·have e:=afR f a [] b d c a.length (by rw [aW];simp [lit]);exact e
 ·have e:=afP f a o b d c a.length (by rw [aW];simp [lit]);rw [gG hne,gI hne];exact e
theorem abP {nt:Nat} (i:35≤nt) (a:List Nat) (e:Bool) (d:Nat) (hd:d<16777216) (m:a.length<2^40) (f:bf a):∀ (l p o:List Nat) (c:Nat),p++l=a→o.length=p.length→c<16777216→
  az prog ap [] nt (af 0 (ah f188)) (fun _=> .exit 0) (TW a e d) QY (p.length,c,o) ((TV d l c).2,o++(TV d l c).1):=by
 intro l
 induction l with
 |nil=>
  intro p o c h b g;have hp:p=a:=by simpa using h
  rw [hp];simp only [TV,Γ];exact .done (abO i a o e d c)
 |cons x l ih=>
  intro p o c h b g;have s:p.length+(l.length+1)=a.length:=by rw [← h];simp
  have j:x<16777216:=f x (by rw [← h];simp);have k:a.getD p.length 0=x:=by rw [← h];simp
  obtain ⟨q,n,r⟩:=MM hd j g;have hnext:=ih (p++ [x]) (o++ [(x*d+c) % 16777216]) ((x*d+c) / 16777216) (by simp [h]) (by simp [b]) n;rw [θ,σ,Xqd] at hnext;exact .next (abQ i a o e d c p.length x m (by omega) b k q r) hnext
theorem MK (x d:Nat) (a:Bool) (hd:d<16777216) (n:(ax x).length<2^36):CO 188 [.sl (ai (ax x)) (ax x).length a,ω (d:Int)] (.ret (.sl (ai (ax (x*d))) (ax (x*d)).length true)):=by
 obtain ⟨f,g,i,j⟩:=abN hd (ax x) 0 (by omega) (bf.dig x);have hloop:=fun nt (hn:35≤nt)=>abP hn (ax x) a d hd (by omega) (bf.dig x) (ax x) [] [] 0 rfl rfl (by omega)
 generalize m:TV d (ax x) 0=r at*
 obtain ⟨o,c⟩:=r;simp only [Xqk,Xqb] at hloop f g i j;rw [fA,Xq0] at j;have k:cO (o++ [c])=x*d:=by rw [zg,i];simp only [cO];omega
 have e:=yO (o++ [c]) true (by simp;omega);rw [QZ (bf.app g (bf.cons f bf.nil)),k] at e;rcases Xxf (o= []) with rfl|hne
 ·have h:=aa_ (ax x) [] (ax (x*d)) a d c;apply h
  ·exact az.blk hloop (by simp) rfl (aH.of ⟨rfl,rfl,rfl,rfl,rfl,trivial⟩) (aH.of ⟨rfl,rfl,trivial⟩)
  ·exact e
 ·have h:=aa9 (ax x) o (ax (x*d)) a d c;have l:o.length<2^37:=by omega
  have b:ν (o.length+1) (ai (o++ [c]))=ai (o++ [c]):=by
   rw [dh,Ξ (by simp)]
  simp (disch:=first|omega|(simp [au,ay]<;>omega)) only [fE,a_,φ,bI,dh,Xqx,iO] at h;rw [θ,σ] at e;rw [← dh] at h;rw [b] at h;apply h<;>first|exact True.intro|omega|assumption|exact rfl|skip
  ·exact az.blk hloop (by simp) rfl (aH.of ⟨rfl,rfl,rfl,rfl,rfl,trivial⟩) (by unfold QY;rw [gG hne,gI hne];exact aH.of ⟨rfl,rfl,trivial⟩)
end Go.Proofs.Tryz
