/- Contracts of functions that the law reaches, each by its own hypotheses; joined by a program of mine. -/
import Derived.Test.YtcjindbblhcopaaGreatDoorAp
import Derived.Test.YtcjindbblhcopaaGreatDoorChecked
import Derived.Eval
import Derived.Test.YtcjindbblhcopaaGreatDoorM5
set_option linter.unusedSimpArgs false
set_option linter.unusedVariables false
open Go AM
open List renaming range→Xq2,headD→η,drop→ε,take→μ,reverse_cons→Xj3,reverse_nil→Xwu,nil_append→Xqc,dropWhile_cons→Xx0,take_append_of_le_length→Xx3,take_of_length_le→Xqd,getD_eq_getElem?_getD→ξ,getElem?_append_right→Xjs,eq_nil_of_length_eq_zero→Xxk,eq_nil_or_concat→Xzu,concat_eq_append→Xzv,length→ζ,getD→Xql,foldl_cons→Xjn,length_cons→ν,ext_getElem?→Xju,getElem?_set→Xzi,getElem?_eq_none→Xqx,length_set→Xqk,drop_eq_getElem_cons→Xxb,length_drop→Xx5,getElem?_eq_getElem→π,map_take→Xwe,map_drop→Xjx,set_eq_take_append_cons_drop→Xxs,getElem?_map→Xqz,range_succ→Xzx,map_append→Xxt,replicate_succ'→Xzg,flatten_append→Xzm,getElem?_append_left→Xxf,length_append→θ,length_reverse→Xj4,dropWhile_sublist→Xzs,take_length→Xqy,map_congr_left→Xjk,map→Xjh,map_map→Xwc,all→Yqx,range_succ_eq_map→Xwi,map_cons→Xqf,mem_cons_self→Xji,mem_cons_of_mem→Xxx,mem_of_mem_take→Xjg,replicate→κ,cons_append→Xq1,length_take→Xqq,length_nil→Δ,append_assoc→Ψ,length_replicate→Xq8,append_nil→Γ,headD_cons→Xje,take_succ_cons→Xx1,drop_zero→Xx7,drop_succ_cons→Xz9,take_add_one→Xwk,replicate_succ→Xxe,set_append_right→Xvx,dropWhile→Yqm,length_singleton→ο,map_nil→Xxz
open IntKind renaming wrap→γ,bits→Xqe
open AV renaming toInt→τ,int→Xxr
open Int renaming toNat→δ,tdiv→Xxi,tmod→Xjt,tdiv_eq_ediv_of_nonneg→Xz4,tmod_eq_emod_of_nonneg→Xw7,fdiv→Xq0,fdiv_eq_ediv_of_nonneg→Xw8,natCast_nonneg→Xkg,natCast_ediv→Xkx,natCast_mul→Xvw
open Nat renaming mul_one→υ,le_refl→Θ,sub_self→Xws,sub_zero→Xjq,ble→Ξ,pow_succ→Xq3,mul_comm→Xqa,mul_assoc→Xqp,add_mul→Xxp,zero_mul→Xzl,zero_add→χ,mul_le_mul_right→Xqv,pow_add→Xxn,add_comm→Xx9,add_mul_div_right→Xzw,two_pow_pos→Xqu,div_lt_iff_lt_mul→Xqt,pow_le_pow_right→Xqj,mod_eq_of_lt→φ,div_eq_of_lt→Xx4,add_mul_mod_self_right→Xw6,shiftLeft_add_eq_or_of_lt→Xwv,shiftLeft_eq→Xkw,or_comm→Yqa,pow_mul→Xja,lt_of_le_of_lt→Xq7,ble_eq_true_of_le→Xq4,lt_of_lt_of_le→Xqg,le_total→Xks,mod_one→Yqb,mod_lt→Xqw,one_mul→Xwj,div_div_eq_div_mul→Xxv,zero_le→Xxq,beq→Xqo,beq_refl→Xzy,div_add_mod→Xxc,min_eq_left→Xjc,mul_add→Xxa,pow_pos→Yqc,mul_zero→Xjd,pow_zero→Xva,div_one→Xvk,succ_eq_add_one→Xkc,add_zero→Xq5,mul_le_mul_left→Xq6,le_trans→Xxm,mul_mod_mul_left→Xw0,mul_lt_mul_of_pos_left→Xj7,add_mul_mod_self_left→Xze,add_mul_div_left→Xz6,div_le_self→Xzz,log2→Yxz,log2_eq_iff→Yqe,add_assoc→Xza,div_pos→Xvl,eq_zero_or_pos→Xqb,le_div_iff_mul_le→Xzb,add_sub_cancel→Xki,lt_or_ge→Xq9,mul_pos→Xz0,lt_of_mul_lt_mul_right→Xw9,lt_trans→Xxo,le_of_lt→Xwt,mul_div_mul_left→Xv6,gcd→Xxu,gcd_comm→Xvy,gcd_zero_left→Xwm,gcd_le_left→Xvz,gcd_pos_of_pos_right→Xzj,strongRecOn→Xv0,not_lt→Xko
open BitVec renaming toNat→Xxl,ofInt→Xqh,ofInt_natCast→Xv5,toNat_ofNat→Xkf,toNat_or→Xk9
open UInt8 renaming toNat→Φ,ofNat→Xqi
open Bool renaming false_and→Xxy,false_eq_true→Xj8,not_eq_true'→Xqm,not_true→Xwg,eq_iff_iff→Xx6,and_eq_true→σ,eq_false_iff→Xwn,not_false→Xjj
open Function renaming comp→Xvj
open Decidable renaming em→Xxh
namespace Go.Proofs.Tryz
abbrev ψ (n:Nat) (f:Func):=aj prog ap [] n (ae 0 (af f))
theorem afH:(Xq2 ap.nty).map ap.ty.get=(Xq2 ap.nty).map (Xk prog):=by kernel_rfl
noncomputable def afF (i:Nat):Bool:=match ap.fn.get i with|some _=>true|_=>false
theorem afG:(Xq2 ap.nfn).map (fun i=>(ap.fn.get i).map AF.fn)=(Xq2 ap.nfn).map fun i=>match afF i with|true=>prog.funcs[i]? |false=>none:=by kernel_rfl
theorem XP:(Xq2 ap.nfn).all (fun i=>DD (ap.fn.get i))=true:=by kernel_rfl
theorem akW:iM prog ap:=XT afH
theorem ak6:JS prog ap:=YD afG XP
theorem mixed:prog.follows .mixedOrders=true:=Tryz.checked.mixed
end Go.Proofs.Tryz
namespace Go.Proofs.Tryz
open Go AM
theorem IU:CG prog ap:=⟨akW,mixed,ak6⟩
abbrev CO (f:Nat) (args:List AV) (out:kC):Prop:=ax prog ap f args [] out []
theorem cK {ans:List (kC × List bi)} {ps:List Prop} {f:Nat} {args:List AV} {h a:List bi} {out:kC} (hp:PS prog ap ps ans [] [])
  (he:t_ ap (xN prog ap 3000 4) 3000 .dead f args h ⟨true,[],[],[],ans,[]⟩= .ok (out,a,.dead) ⟨true,[],[],ps,[],[]⟩:=by kernel_rfl):ax prog ap f args h out a:=ck IU hp he
theorem pK (c:List Nat) (n k:Nat) {ans:List (kC × List bi)} {a:xW} {hs:List ww} {bs:List Bool} {ps:List Prop} {f:Nat} {args:List AV} {h b:List bi} {out:kC} (d:lV bs) (hp:PS prog ap ps ans a hs)
  (he:Po prog ap (xN prog ap 3000 4) 3000 c f args h a ⟨false,yf n k,[],[],ans,hs⟩= .ok (out,b,.dead) ⟨false,[],bs,ps,[],[]⟩:=by kernel_rfl):ax prog ap f args h out b:=pk IU c n k d hp he
theorem pJ (f:Nat) (c:List Nat) (n k:Nat) {nt nt0:Nat} {ans:List (kC × List bi)} {b:xW} {hs:List ww} {bs:List Bool} {ps:List Prop} {a:Code} {s s':St} {h0:List bi} {e:bK} (g:lV bs) (hp:PS prog ap ps ans b hs) (d:nt0≤nt)
  (he:Ot prog ap h0 f nt0 c a s b (yf n k) ans hs s'.env= .ok ((e,s'),[]) ⟨false,[],bs,ps,[],[]⟩:=by kernel_rfl):aj prog ap h0 nt a s e s':=pj IU f c n k g hp d he
theorem pN (f:Nat) (c:List Nat) (n k:Nat) {nt nt0:Nat} {ans:List (kC × List bi)} {b:xW} {hs:List ww} {bs:List Bool} {ps:List Prop} {a:Code} {s s':St} {h0:List bi} {e:bK} (g:lV bs) (hp:PS prog ap ps ans b hs) (d:nt0≤nt)
  (he:Oq prog ap h0 f nt0 c a s b (yf n k) ans hs s'.env= .ok ((e,s'),[]) ⟨false,[],bs,ps,[],[]⟩:=by kernel_rfl):aj prog ap h0 nt a s e s':=pn IU f c n k g hp d he
end Go.Proofs.Tryz
set_option maxRecDepth 100000
open Go AM
namespace Go.Proofs.Tryz
theorem MF {nt:Nat} (c:21≤nt) (a:List AV) (n:Nat) (b:Bool) (h0:(decide ((0:Int)≤(γ .i64 ((n:Int) - (1:Int)))))=true) (g:(decide ((γ .i64 ((n:Int) - (1:Int)))≤(n:Int)))=true) (f:lit true ((τ (η (ε ((δ (γ .i64 ((n:Int) - (1:Int))))*1) a) .dead))==(0:Int))=true) (h:(chk (.int .u32) (η (ε ((δ (γ .i64 ((n:Int) - (1:Int))))*1) a) .dead))=true) (d:(decide ((γ .i64 ((n:Int) - (1:Int)))<(n:Int)))=true) (e:lit true (decide ((0:Int)<(n:Int)))=true):ψ nt f161 ⟨[(0,.sl a n b)],[],.dead,[]⟩ (.normal) ⟨[(0,.sl (μ ((δ (γ .i64 ((n:Int) - (1:Int))))*1) a) ((δ (γ .i64 ((n:Int) - (1:Int)))) - 0) b)],[],.dead,[]⟩:=pJ 161 [] 2 3 (.k 1 h0 (.c g (.c f (.c h (.c h0 (.c d (.c e .nil))))))) (.nil) c
theorem MG {nt:Nat} (c:21≤nt) (a:List AV) (n:Nat) (b:Bool) (h0:lit false ((τ (η (ε ((δ (γ .i64 ((n:Int) - (1:Int))))*1) a) .dead))==(0:Int))=true) (f:(chk (.int .u32) (η (ε ((δ (γ .i64 ((n:Int) - (1:Int))))*1) a) .dead))=true) (e:(decide ((0:Int)≤(γ .i64 ((n:Int) - (1:Int)))))=true) (g:(decide ((γ .i64 ((n:Int) - (1:Int)))<(n:Int)))=true) (d:lit true (decide ((0:Int)<(n:Int)))=true):ψ nt f161 ⟨[(0,.sl a n b)],[],.dead,[]⟩ (.exit 0) ⟨[(0,.sl a n b)],[],.dead,[]⟩:=pJ 161 [] 2 1 (.c h0 (.c f (.c e (.c g (.c d .nil))))) (.nil) c
theorem MH {nt:Nat} (c:21≤nt) (b:List AV) (n:Nat) (a:Bool) (h0:lit false (decide ((0:Int)<(n:Int)))=true):ψ nt f161 ⟨[(0,.sl b n a)],[],.dead,[]⟩ (.exit 0) ⟨[(0,.sl b n a)],[],.dead,[]⟩:=pJ 161 [] 2 0 (.k 1 h0 .nil) (.nil) c
theorem iq {x:Int} (h: -2^63≤x) (a:x<2^63):γ .i64 x=x:=by
 show (if (true && decide (x % 2^64≥2^63))=true then x % 2^64 - 2^64 else x % 2^64)=x;rw [Bool.true_and];by_cases hx:x % 2^64≥2^63
 ·rw [if_pos (by simpa using hx)];omega
 ·rw [if_neg (by simpa using hx)];omega
abbrev ci (n:Int):AV:= ω n
def ak (l:List Nat):List AV:=l.map fun (d:Nat)=>Xxr .u32 (d:Int)
theorem au (l:List Nat):(ak l).length=l.length:=by simp [ak]
theorem Ba (l r:List Nat):ak (l++r)=ak l++ak r:=by simp [ak]
def fC (l:List Nat):List Nat:=(l.reverse.dropWhile (· ==0)).reverse
theorem oq (l:List Nat) (d:Nat):fC (l++ [d])=if d=0 then fC l else l++ [d]:=by
 unfold fC;rw [List.reverse_append];simp only [Xj3,Xwu,Xqc,List.singleton_append,Xx0];by_cases h:d=0
 ·subst h;simp
 ·simp [h]
theorem Tm (l:List Nat) (d:Nat):μ (l.length*1) (ak (l++ [d]))=ak l:=by
 rw [Ba,υ,Xx3 (by rw [au];exact Θ _),Xqd (by rw [au];exact Θ _)]
theorem zB (l:List Nat) (d:Nat):η (ε (l.length*1) (ak (l++ [d]))) .dead= .int .u32 (d:Int):=by
 rw [nS,Ba,υ,ξ,Xjs (by rw [au];exact Θ _),au,Xws];rfl
def Xp (nn:Bool) (l:List Nat):St:=⟨[(0,.sl (ak l) l.length nn)],[],.dead,[]⟩
theorem TB {nt:Nat} (i:21≤nt) (g:Bool):∀ (k:Nat) (l:List Nat),l.length=k→k<2^40→aF prog ap [] nt (ae 0 (af f161)) (fun _=> .exit 0) (Xp g) (Xp g) l (fC l):=by
 intro k
 induction k with
 |zero=>
  intro l f _;have:l= []:=Xxk f;subst this;exact .done (MH i (ak []) 0 g (by rfl))
 | succ k ih=>
  intro l f p;rcases Xzu l with rfl|⟨a,d,rfl⟩
  ·simp at f
  ·rw [Xzv] at f ⊢;have e:a.length=k:=by simpa using f
   have b:(a++ [d]).length=k+1:=by simp [e]
   have h:γ .i64 ((((a++ [d]).length:Nat):Int) - 1)=(k:Int):=by
    rw [b,iq (by omega) (by omega)];omega
   have c:(δ (γ .i64 ((((a++ [d]).length:Nat):Int) - 1)))=a.length:=by rw [h];omega
   have h0:decide ((0:Int)≤γ .i64 ((((a++ [d]).length:Nat):Int) - 1))=true:=by rw [h];simp
   have o:decide (γ .i64 ((((a++ [d]).length:Nat):Int) - 1)≤(((a++ [d]).length:Nat):Int))=true:=by rw [h,b];simp;omega
   have j:decide (γ .i64 ((((a++ [d]).length:Nat):Int) - 1)<(((a++ [d]).length:Nat):Int))=true:=by rw [h,b];simp;omega
   have m:lit true (decide ((0:Int)<(((a++ [d]).length:Nat):Int)))=true:=by rw [b];simp [lit]
   have n:chk (.int .u32) (η (ε (δ (γ .i64 ((((a++ [d]).length:Nat):Int) - 1))*1) (ak (a++ [d]))) .dead)=true:=by rw [c,zB];rfl
   rw [oq];by_cases hd:d=0
   ·rw [if_pos hd];refine .next ?_ (ih a e (by omega))
    have:=MF i (ak (a++ [d])) (a++ [d]).length g h0 o (by rw [c,zB];subst hd;rfl) n j m;rw [c,Tm,Xjq] at this;exact this
   ·rw [if_neg hd];refine .done (MG i (ak (a++ [d])) (a++ [d]).length g (by rw [c,zB];simp [lit,τ,hd]) n h0 j m)
theorem O0 (l:List Nat) (a:Bool) (b:l.length<2^40):CO 161 [.sl (ak l) l.length a] (.ret (.sl (ak (fC l)) (fC l).length a)):=pK [0] 0 0 .nil (.l (aF.blk (fun nt c=>TB c a _ l rfl b) (by simp) rfl (aJ.of ⟨rfl,trivial⟩) (aJ.of ⟨rfl,trivial⟩):aI prog ap [] 21 (.block 0 (.loop (ae 0 (af f161)))) ⟨[(0,.sl (ak l) l.length a),(2,.nilS),(14,.dead)],[],.dead,[]⟩ (.normal) ⟨[(0,.sl (ak (fC l)) (fC l).length a)],[],.dead,[]⟩) .nil)
theorem R_ {nt:Nat} (d:38≤nt) (s:List UInt8) (cs:List AV) (L:Nat) (n k:Int) (h0:(Ξ (((0+(δ (γ .i64 (Xxi k (4:Int)))))*1)+1) (ζ cs))=true) (b:(decide ((0:Int)≤(γ .i64 (Xxi k (4:Int)))))=true) (a:(decide ((γ .i64 (Xxi k (4:Int)))<(L:Int)))=true) (h:(decide ((0:Int)≤(γ .i64 ((8:Int)*(Xjt k (4:Int))))))=true) (e:(decide ((0:Int)≤(γ .i64 ((γ .i64 ((((ζ s):Nat):Int) - (1:Int))) - k))))=true) (f:(decide ((γ .i64 ((γ .i64 ((((ζ s):Nat):Int) - (1:Int))) - k))<(((ζ s):Nat):Int)))=true) (g:(chk (.int .u32) (η (ε ((0+(δ (γ .i64 (Xxi k (4:Int)))))*1) cs) .dead))=true) (c:lit true (decide (k<n))=true):ψ nt f136 ⟨[(0,.str s),(3,.ref 0 0 0 L),(12,ω n),(13,ω k)],[(0,⟨cs,0,false,0,1,true⟩)],.dead,[]⟩ (.normal) ⟨[(0,.str s),(3,.ref 0 0 0 L),(12,ω n),(13,ω (γ .i64 (k+(1:Int))))],[(0,⟨(μ ((0+(δ (γ .i64 (Xxi k (4:Int)))))*1) cs++ [.int .u32 (γ .u32 (Xxl (Xqh (Xqe .u32) (τ (η (ε ((0+(δ (γ .i64 (Xxi k (4:Int)))))*1) cs) .dead))|||Xqh (Xqe .u32) (γ .u32 ((γ .u32 ((Φ (Xql s (δ (γ .i64 ((γ .i64 ((((ζ s):Nat):Int) - (1:Int))) - k))) 0):Nat):Int))*2^(min (δ (γ .i64 ((8:Int)*(Xjt k (4:Int))))) (Xqe .u32)))))))]++ε (((0+(δ (γ .i64 (Xxi k (4:Int)))))*1)+1) cs),0,false,0,1,true⟩)],.dead,[]⟩:=pJ 136 [] 1 1 (.c h0 (.c b (.c a (.c h (.k 1 e (.c f (.c g (.c b (.c a (.k 1 c .nil)))))))))) (.nil) d
theorem Si {nt:Nat} (a:38≤nt) (s:List UInt8) (cs:List AV) (L:Nat) (n k:Int) (h0:lit false (decide (k<n))=true):ψ nt f136 ⟨[(0,.str s),(3,.ref 0 0 0 L),(12,ω n),(13,ω k)],[(0,⟨cs,0,false,0,1,true⟩)],.dead,[]⟩ (.exit 0) ⟨[(0,.str s),(3,.ref 0 0 0 L),(12,ω n),(13,ω k)],[(0,⟨cs,0,false,0,1,true⟩)],.dead,[]⟩:=pJ 136 [] 1 0 (.c h0 .nil) (.nil) a
def ag (s:List UInt8):Nat:=s.foldl (fun a b=>a*256+b.toNat) 0
theorem GZ (s:List UInt8):∀ a,s.foldl (fun a b=>a*256+b.toNat) a=a*256^s.length+ag s:=by
 induction s with
 |nil=>intro a;simp [ag]
 | cons b r ih=>
  intro a;simp only [Xjn,ag,ν,Xq3];rw [ih,ih (0*256+b.toNat)];have:a*(256^r.length*256)=a*256*256^r.length:=by
   rw [Xqa (256^r.length) 256,Xqp]
  rw [this];simp only [Xxp,Xzl,χ];omega
theorem jb (b:UInt8) (r:List UInt8):ag (b::r)=b.toNat*256^r.length+ag r:=by
 show (b::r).foldl _ 0=_;rw [Xjn,GZ];simp
theorem wu (s:List UInt8):ag s<256^s.length:=by
 induction s with
 |nil=>simp [ag]
 |cons b r ih=>
  rw [jb,ν,Xq3];have:=b.toNat_lt;have h:b.toNat*256^r.length≤255*256^r.length:=Xqv _ (by omega);omega
def b_ (m n:Nat):List Nat:=(Xq2 m).map fun i=>n / 2^(32*i) % 2^32
theorem aV (m n:Nat):(b_ m n).length=m:=by simp [b_]
theorem qL {m n i:Nat} (h:i<m):(b_ m n)[i]? =some (n / 2^(32*i) % 2^32):=by simp [b_,h]
theorem Wi {m j n b:Nat} (d:n<2^(8*j)) (p:b<256):
  b_ m (b*2^(8*j)+n)=(b_ m n).set (j / 4) (n / 2^(32*(j / 4)) % 2^32+b*2^(8*(j % 4))):=by
 apply Xju;intro i;by_cases hi:i<m
 ·rw [qL hi,Xzi];have l:j=4*(j / 4)+j % 4:=by omega
  generalize k:j / 4=q at*
  generalize g:j % 4=r at*
  have o:r<4:=by omega
  by_cases h1:q=i
  ·subst h1;rw [if_pos rfl,if_pos (by rw [aV];exact hi)];congr 1;have e:8*j=8*r+32*q:=by omega
   rw [e,Xxn,← Xqp,Xx9,Xzw _ _ (Xqu _)];have a:n / 2^(32*q)<2^(8*r):=by
    rw [Xqt (Xqu _),← Xxn,← e];exact d
   have c:2^(8*r)≤2^24:=Xqj (by omega) (by omega);have f:b*2^(8*r)≤255*2^(8*r):=Xqv _ (by omega);rw [φ (by omega),φ (by omega)]
  ·rw [if_neg h1,qL hi];congr 1;rcases Nat.lt_or_gt_of_ne h1 with h|h
   ·
    have e:8*j+8≤32*i:=by omega
    have a:b*2^(8*j)+n<2^(32*i):=by
     have c:2^(8*j+8)≤2^(32*i):=Xqj (by omega) e;have f:b*2^(8*j)≤255*2^(8*j):=Xqv _ (by omega);rw [Xxn] at c;omega
    rw [Xx4 a,Xx4 (by omega)]
   ·
    have e:8*j=(8*j - 32*i - 32)+32+32*i:=by omega
    rw [e,Xxn,Xxn,← Xqp,← Xqp,Xx9,Xzw _ _ (Xqu _),Xw6]
 ·rw [Xqx (by rw [aV];omega),Xqx (by rw [Xqk,aV];omega)]
theorem FC {x:Int} (h:0≤x) (a:x<2^32):γ .u32 x=x:=by
 show (if (false && decide (x % 2^32≥2^31))=true then x % 2^32 - 2^32 else x % 2^32)=x;simp only [Xxy,Xj8,if_false];omega
theorem adb {a b r:Nat} (d:a<2^(8*r)) (k:b<256) (j:r<4):
  γ .u32 (Xxl (Xqh (Xqe .u32) (a:Int)|||Xqh (Xqe .u32) (γ .u32 ((b:Int)*2^(8*r)))))=((a+b*2^(8*r):Nat):Int):=by
 have l:2^(8*r)≤2^24:=Xqj (by omega) (by omega);have i:b*2^(8*r)≤255*2^(8*r):=Xqv _ (by omega);have e:((b:Int)*2^(8*r))=((b*2^(8*r):Nat):Int):=by simp
 have f:γ .u32 ((b*2^(8*r):Nat):Int)=((b*2^(8*r):Nat):Int):=FC (by omega) (by omega);rw [e,f];have c:∀ x:Nat,x<2^32→(Xqh (Xqe .u32) (x:Int)).toNat=x:=by
  intro x h;show (Xqh 32 (x:Int)).toNat=x;rw [Xv5,Xkf,φ h]
 rw [Xk9,c a (by omega),c _ (by omega)];have g:a|||b*2^(8*r)=a+b*2^(8*r):=by
  have:=Xwv d b;rw [Xkw] at this;rw [Yqa,← this,Xx9]
 rw [g,FC (by omega) (by omega)]
theorem X9 {s:List UInt8} {j:Nat} (d:j<s.length):ag (s.drop (s.length - (j+1)))=(s.getD (s.length - 1 - j) 0).toNat*2^(8*j)+ag (s.drop (s.length - j)):=by
 have a:s.length - (j+1)<s.length:=by omega
 rw [Xxb a,jb];have b:s.length - (j+1)+1=s.length - j:=by omega
 rw [b,Xx5];have c:s.length - (s.length - j)=j:=by omega
 rw [c,ξ,show s.length - 1 - j=s.length - (j+1) by omega,π a];have:(256:Nat)^j=2^(8*j):=by rw [Xja]
 rw [this];rfl
def ahO (s:List UInt8) (L:Nat) (j:Nat):St:=⟨[(0,.str s),(3,.ref 0 0 0 L),(12,ω (s.length:Int)),(13,ω (j:Int))],[(0,⟨ak (b_ L (ag (s.drop (s.length - j)))),0,false,0,1,true⟩)],.dead,[]⟩
theorem Qw (l:List Nat) (i:Nat) (x:Nat) (a:i<l.length):μ i (ak l)++ [Xxr .u32 (x:Int)]++ε (i+1) (ak l)=ak (l.set i x):=by
 unfold ak;rw [← Xwe,← Xjx,Xxs,if_pos a];simp
theorem Zt {nt:Nat} (e:38≤nt) (s:List UInt8) (hs:s.length<2^40):∀ (d j:Nat),j+d=s.length→aF prog ap [] nt (ae 0 (af f136)) (fun _=> .exit 0) (ahO s ((s.length+3) / 4)) (ahO s ((s.length+3) / 4)) j s.length:=by
 intro d
 induction d with
 |zero=>
  intro j l;have:j=s.length:=by omega
  subst this;exact .done (Si e s _ _ (s.length:Int) (s.length:Int) (by simp [lit]))
 | succ d ih=>
  intro j l;refine .next ?_ (ih (j+1) (by omega))
  have b:j<s.length:=by omega
  have g:j / 4<(s.length+3) / 4:=by omega
  have r:γ .i64 (Xxi (j:Int) 4)=((j / 4:Nat):Int):=by
   rw [Xz4 (by omega),iq (by omega) (by omega)];omega
  have i:Xjt (j:Int) 4=((j % 4:Nat):Int):=by
   rw [Xw7 (by omega)];omega
  have n:γ .i64 ((8:Int)*((j % 4:Nat):Int))=((8*(j % 4):Nat):Int):=by
   rw [iq (by omega) (by omega)];omega
  have p:γ .i64 (γ .i64 ((s.length:Int) - 1) - (j:Int))=((s.length - 1 - j:Nat):Int):=by
   have t:γ .i64 ((s.length:Int) - 1)=((s.length - 1:Nat):Int):=by
    rw [iq (by omega) (by omega)];omega
   rw [t,iq (by omega) (by omega)];omega
  have m:(0+δ ((j / 4:Nat):Int))*1=j / 4:=by omega
  have u:γ .i64 ((j:Int)+1)=((j+1:Nat):Int):=by
   rw [iq (by omega) (by omega)];omega
  have f:ag (s.drop (s.length - j))<2^(8*j):=by
   have:=wu (s.drop (s.length - j));rw [Xx5,show s.length - (s.length - j)=j by omega] at this;rw [Xja];exact this
  have h:(s.getD (s.length - 1 - j) 0).toNat<256:=(s.getD (s.length - 1 - j) 0).toNat_lt;have hcell:η (ε (j / 4) (ak (b_ ((s.length+3) / 4) (ag (s.drop (s.length - j)))))) .dead= .int .u32 ((ag (s.drop (s.length - j)) / 2^(32*(j / 4)) % 2^32:Nat):Int):=by
   rw [nS,ξ];unfold ak;rw [Xqz,qL g];rfl
  have a:ag (s.drop (s.length - j)) / 2^(32*(j / 4)) % 2^32<2^(8*(j % 4)):=by
   have q:ag (s.drop (s.length - j)) / 2^(32*(j / 4))<2^(8*(j % 4)):=by
    rw [Xqt (Xqu _),← Xxn,show 8*(j % 4)+32*(j / 4)=8*j by omega];exact f
   exact Xq7 (Nat.mod_le _ _) q
  have hbody:=R_ e s (ak (b_ ((s.length+3) / 4) (ag (s.drop (s.length - j))))) ((s.length+3) / 4) (s.length:Int) (j:Int);rw [r,i,n,p,m,u] at hbody;rw [hcell] at hbody;have k:min (δ ((8*(j % 4):Nat):Int)) (Xqe .u32)=8*(j % 4):=by
   show min (δ ((8*(j % 4):Nat):Int)) 32=_;omega
  have o:δ ((s.length - 1 - j:Nat):Int)=s.length - 1 - j:=by omega
  have c:γ .u32 (((s.getD (s.length - 1 - j) 0).toNat:Nat):Int)=(((s.getD (s.length - 1 - j) 0).toNat:Nat):Int):=FC (by omega) (by omega);rw [k,o,c] at hbody;simp only [τ] at hbody;rw [adb a h (by omega)] at hbody;rw [Qw _ _ _ (by rw [aV];exact g),← Wi f h,← X9 b] at hbody;exact hbody (by rw [au,aV];exact Xq4 (by omega)) (Yq0 (by omega)) (Yq0 (by omega)) (Yq0 (by omega)) (Yq0 (by omega)) (Yq0 (by omega)) rfl (Yq0 (by omega))
def digs (n:Nat):List Nat:=fC (b_ n n)
theorem Xg (m n:Nat):μ (m*1) (ak (b_ m n))=ak (b_ m n):=by
 rw [υ,Xqd (by rw [au,aV];exact Θ _)]
theorem uY {n:Nat}:∀ (d m:Nat),n<2^(32*m)→fC (b_ (m+d) n)=fC (b_ m n)
 |0,m,_=>rfl
 | d+1,m,h=>by
  have a:n / 2^(32*(m+d)) % 2^32=0:=by
   have:n<2^(32*(m+d)):=Xqg h (Xqj (by omega) (by omega));rw [Xx4 this]
  have e:b_ (m+(d+1)) n=b_ (m+d) n++ [n / 2^(32*(m+d)) % 2^32]:=by
   unfold b_;rw [show m+(d+1)=(m+d)+1 by omega,Xzx,Xxt];rfl
  rw [e,oq,if_pos a];exact uY d m h
theorem lK (n:Nat):n<2^(32*n):=by
 have a:n<2^n:=Nat.lt_two_pow_self;exact Xqg a (Xqj (by omega) (by omega))
theorem BN {m n:Nat} (h:n<2^(32*m)):fC (b_ m n)=digs n:=by
 unfold digs;rcases Xks m n with hm|hm
 ·have:=uY (n - m) m h;rw [show m+(n - m)=n by omega] at this;exact this.symm
 ·have:=uY (m - n) n (lK n);rw [show n+(m - n)=m by omega] at this;exact this
theorem Ad (s:List UInt8):ag s<2^(32*((s.length+3) / 4)):=by
 have h:=wu s;have e:(256:Nat)^s.length=2^(8*s.length):=by rw [Xja]
 rw [e] at h;exact Xqg h (Xqj (by omega) (by omega))
theorem Xr (s:List UInt8) (hs:s.length<2^40):CO 161 [.sl (ak (b_ ((s.length+3) / 4) (ag s))) ((s.length+3) / 4) true] (.ret (.sl (ak (digs (ag s))) (digs (ag s)).length true)):=by
 have h:=O0 (b_ ((s.length+3) / 4) (ag s)) true (by rw [aV];omega);rw [aV,BN (Ad s)] at h;exact h
theorem Jl (s:List UInt8) (hs:s.length<2^40):γ .i64 (Xxi (γ .i64 ((γ .i64 ((s.length:Int)+(4:Int))) - (1:Int))) (4:Int))=(((s.length+3) / 4:Nat):Int):=by
 rw [iq (x:=(s.length:Int)+4) (by omega) (by omega),iq (x:=(s.length:Int)+4 - 1) (by omega) (by omega),Xz4 (by omega),iq (by omega) (by omega)];omega
theorem Qr (m:Nat):gp m [Xxr .u32 0]=ak (b_ m 0):=by
 unfold gp ak b_
 induction m with
 |zero=>rfl
 |succ m ih=>
  rw [Xzg,Xzm,ih,Xzx,Xxt,Xxt];simp
theorem xR (n:Nat):δ (n:Int)=n:=by omega
theorem UN (s:List UInt8):ag (s.drop (s.length - 0))=0:=by simp [ag]
theorem V5 (s:List UInt8) (hs:s.length<2^40):gp (δ (γ .i64 (Xxi (γ .i64 ((γ .i64 ((s.length:Int)+(4:Int))) - (1:Int))) (4:Int)))) [Xxr .u32 0]=ak (b_ ((s.length+3) / 4) (ag (s.drop (s.length - 0)))):=by
 rw [Jl s hs,xR,Qr,UN]
theorem Ro (s:List UInt8):ag (s.drop (s.length - s.length))=ag s:=by simp
theorem apn (s:List UInt8) (hs:s.length<2^40) (h0:(decide ((0:Int)≤(γ .i64 (Xxi (γ .i64 ((γ .i64 ((((ζ s):Nat):Int)+(4:Int))) - (1:Int))) (4:Int)))))=true) (c:(decide ((γ .i64 (Xxi (γ .i64 ((γ .i64 ((((ζ s):Nat):Int)+(4:Int))) - (1:Int))) (4:Int)))=(γ .i64 (Xxi (γ .i64 ((γ .i64 ((((ζ s):Nat):Int)+(4:Int))) - (1:Int))) (4:Int)))))=true) (b:(decide ((γ .i64 (Xxi (γ .i64 ((γ .i64 ((((ζ s):Nat):Int)+(4:Int))) - (1:Int))) (4:Int)))≤(1099511627776:Int)))=true):CO 136 [.str s] (.ret (.sl (ak (digs (ag s))) (digs (ag s)).length true)):=pK [0] 0 0 (.c h0 (.c c (.c b (.n 1 .nil)))) (.c (by rw [Xg];exact Xr s hs:CO 161 [.sl (μ (((s.length+3) / 4)*1) (ak (b_ ((s.length+3) / 4) (ag s)))) ((s.length+3) / 4) true] (.ret (.sl (ak (digs (ag s))) (digs (ag s)).length true))) (.l (by rw [V5 s hs,Jl s hs,xR,← Ro s];exact aF.blk (fun nt a=>Zt a s hs s.length 0 (by omega)) (by simp) rfl (aJ.of ⟨rfl,rfl,rfl,rfl,trivial⟩) (aJ.of ⟨rfl,trivial⟩):aI prog ap [] 38 (.block 0 (.loop (ae 0 (af f136)))) ⟨[(0,.str s),(2,.nilS),(3,.ref 0 0 0 (δ (γ .i64 (Xxi (γ .i64 ((γ .i64 ((((ζ s):Nat):Int)+(4:Int))) - (1:Int))) (4:Int))))),(4,.dead),(12,ω (((ζ s):Nat):Int)),(13,ω 0),(14,.dead)],[(0,⟨(gp (δ (γ .i64 (Xxi (γ .i64 ((γ .i64 ((((ζ s):Nat):Int)+(4:Int))) - (1:Int))) (4:Int)))) [.int .u32 0]),0,false,0,1,true⟩)],.dead,[]⟩ (.normal) ⟨[(3,.ref 0 0 0 ((s.length+3) / 4))],[(0,⟨(ak (b_ ((s.length+3) / 4) (ag s))),0,false,0,1,true⟩)],.dead,[]⟩) .nil))
theorem uJ (s:List UInt8) (hs:s.length<2^40):CO 136 [.str s] (.ret (.sl (ak (digs (ag s))) (digs (ag s)).length true)):=
 apn s hs (by rw [Jl s hs];exact Yq0 (by omega)) (Yq0 rfl) (by rw [Jl s hs];exact Yq0 (by omega))
theorem Nu {nt:Nat} (e:43≤nt) (b a:List AV) (n c:Nat) (h j:Bool) (k:Int) (h0:lit true (decide ((τ (η (ε ((δ k)*1) b) .dead))<(τ (η (ε ((δ k)*1) a) .dead))))=true) (l:(chk (.int .u32) (η (ε ((δ k)*1) a) .dead))=true) (d:(decide ((0:Int)≤k))=true) (m:(decide (k<(c:Int)))=true) (f:(chk (.int .u32) (η (ε ((δ k)*1) b) .dead))=true) (g:(decide (k<(n:Int)))=true) (i:lit true (decide ((0:Int)≤k))=true):ψ nt f183 ⟨[(0,.sl b n h),(1,.sl a c j),(5,ω k)],[],.dead,[]⟩ (.ret) ⟨[(4,ω (-1))],[],.dead,[]⟩:=pJ 183 [] 2 3 (.c h0 (.c l (.c d (.c m (.c f (.c d (.c g (.c i .nil)))))))) (.nil) e
theorem Nw {nt:Nat} (j:43≤nt) (b a:List AV) (n e:Nat) (l o:Bool) (k:Int) (h0:lit true (decide ((τ (η (ε ((δ k)*1) a) .dead))<(τ (η (ε ((δ k)*1) b) .dead))))=true) (g:(chk (.int .u32) (η (ε ((δ k)*1) a) .dead))=true) (c:(decide ((0:Int)≤k))=true) (h:(decide (k<(e:Int)))=true) (d:(chk (.int .u32) (η (ε ((δ k)*1) b) .dead))=true) (f:(decide (k<(n:Int)))=true) (m:lit false (decide ((τ (η (ε ((δ k)*1) b) .dead))<(τ (η (ε ((δ k)*1) a) .dead))))=true) (i:lit true (decide ((0:Int)≤k))=true):ψ nt f183 ⟨[(0,.sl b n l),(1,.sl a e o),(5,ω k)],[],.dead,[]⟩ (.ret) ⟨[(4,ω 1)],[],.dead,[]⟩:=pJ 183 [] 3 5 (.c h0 (.c g (.c c (.c h (.c d (.c c (.c f (.c m (.c g (.c c (.c h (.c d (.c c (.c f (.c i .nil))))))))))))))) (.nil) j
theorem Ny {nt:Nat} (m:43≤nt) (b a:List AV) (n d:Nat) (g h:Bool) (k:Int) (h0:lit false (decide ((τ (η (ε ((δ k)*1) a) .dead))<(τ (η (ε ((δ k)*1) b) .dead))))=true) (i:(chk (.int .u32) (η (ε ((δ k)*1) a) .dead))=true) (c:(decide ((0:Int)≤k))=true) (j:(decide (k<(d:Int)))=true) (e:(chk (.int .u32) (η (ε ((δ k)*1) b) .dead))=true) (f:(decide (k<(n:Int)))=true) (o:lit false (decide ((τ (η (ε ((δ k)*1) b) .dead))<(τ (η (ε ((δ k)*1) a) .dead))))=true) (l:lit true (decide ((0:Int)≤k))=true):ψ nt f183 ⟨[(0,.sl b n g),(1,.sl a d h),(5,ω k)],[],.dead,[]⟩ (.normal) ⟨[(0,.sl b n g),(1,.sl a d h),(5,ω (γ .i64 (k - (1:Int))))],[],.dead,[]⟩:=pJ 183 [] 3 1 (.c h0 (.c i (.c c (.c j (.c e (.c c (.c f (.c o (.c i (.c c (.c j (.c e (.c c (.c f (.c l .nil))))))))))))))) (.nil) m
theorem Nz {nt:Nat} (a:43≤nt) (f c:List AV) (n b:Nat) (d e:Bool) (k:Int) (h0:lit false (decide ((0:Int)≤k))=true):ψ nt f183 ⟨[(0,.sl f n d),(1,.sl c b e),(5,ω k)],[],.dead,[]⟩ (.exit 0) ⟨[],[],.dead,[]⟩:=pJ 183 [] 1 0 (.c h0 .nil) (.nil) a
def sO (a b:List Nat):Nat→Int
 |0=>0
 |k+1=>if a.getD k 0<b.getD k 0 then -1 else if b.getD k 0<a.getD k 0 then 1 else sO a b k
def af1 (a b:List Nat) (na nb:Bool) (k:Nat):St:=⟨[(0,.sl (ak a) a.length na),(1,.sl (ak b) b.length nb),(5,ω ((k:Int) - 1))],[],.dead,[]⟩
def acj (r:Int):St:=⟨if r=0 then [] else [(4,ω r)],[],.dead,[]⟩
def UB (r:Int):bK:=if r=0 then .exit 0 else .ret
theorem JH {l:List Nat} {k:Nat} (h:k<l.length):η (ε (k*1) (ak l)) .dead= .int .u32 ((l.getD k 0:Nat):Int):=by
 rw [nS,υ,ξ];unfold ak;rw [Xqz,ξ,π h];rfl
theorem Dl {nt:Nat} (f:43≤nt) (a b:List Nat) (d e:Bool) (g:a.length=b.length) (r:a.length<2^40):∀ (k:Nat),k≤a.length→aF prog ap [] nt (ae 0 (af f183)) UB (af1 a b d e) acj k (sO a b k)
 |0,_=>by
  refine .done ?_;exact Nz f (ak a) (ak b) a.length b.length d e (((0:Nat):Int) - 1) (by decide)
 | k +1,hk=>by
  have o:(((k+1:Nat):Int) - 1)=(k:Int):=by omega
  have u:δ (k:Int)=k:=by omega
  have s:=JH (l:=a) (k:=k) (by omega);have t:=JH (l:=b) (k:=k) (by omega);have c:decide ((0:Int)≤(k:Int))=true:=Yq0 (by omega);have j:decide ((k:Int)<(a.length:Int))=true:=Yq0 (by omega);have i:decide ((k:Int)<(b.length:Int))=true:=Yq0 (by omega);have h:=Nu f (ak a) (ak b) a.length b.length d e (k:Int);have n:=Nw f (ak a) (ak b) a.length b.length d e (k:Int);have m:=Ny f (ak a) (ak b) a.length b.length d e (k:Int);rw [u,s,t] at h n m;simp only [τ] at h n m;simp only [sO];by_cases h1:a.getD k 0<b.getD k 0
  ·rw [if_pos h1];refine .done ?_;have:=h (by simp only [lit];exact Yq0 (by omega)) rfl c i rfl j (by simp only [lit];exact c);show aj _ _ _ _ _ ⟨[_,_,(5,ω (((k+1:Nat):Int) - 1))],[],.dead,[]⟩ _ _;rw [o];exact this
  ·rw [if_neg h1];have p:lit false (decide (((a.getD k 0:Nat):Int)<((b.getD k 0:Nat):Int)))=true:=by
    simp only [lit,Xqm];exact Yq1 (by omega)
   by_cases h2:b.getD k 0<a.getD k 0
   ·rw [if_pos h2];refine .done ?_;have:=n (by simp only [lit];exact Yq0 (by omega)) rfl c i rfl j p (by simp only [lit];exact c);show aj _ _ _ _ _ ⟨[_,_,(5,ω (((k+1:Nat):Int) - 1))],[],.dead,[]⟩ _ _;rw [o];exact this
   ·rw [if_neg h2];refine .next ?_ (Dl f a b d e g r k (by omega))
    have q:lit false (decide (((b.getD k 0:Nat):Int)<((a.getD k 0:Nat):Int)))=true:=by
     simp only [lit,Xqm];exact Yq1 (by omega)
    have:=m q rfl c i rfl j p (by simp only [lit];exact c);rw [iq (by omega) (by omega)] at this;show aj _ _ _ _ _ ⟨[_,_,(5,ω (((k+1:Nat):Int) - 1))],[],.dead,[]⟩ _ _;rw [o];exact this
theorem KP {n:Nat} (h:n<2^40):γ .i64 ((n:Int) - (1:Int))=(n:Int) - 1:=iq (by omega) (by omega)
theorem acg (a b:List Nat) (c d:Bool) (h0:lit true (decide ((a.length:Int)<(b.length:Int)))=true) (e:lit true (!((a.length:Int)==(b.length:Int)))=true):CO 183 [.sl (ak a) a.length c,.sl (ak b) b.length d] (.ret (ω (-1))):=pK [0] 2 3 (.c h0 (.c e .nil)) (.nil)
theorem ach (a b:List Nat) (c d:Bool) (h0:lit false (decide ((a.length:Int)<(b.length:Int)))=true) (e:lit true (!((a.length:Int)==(b.length:Int)))=true):CO 183 [.sl (ak a) a.length c,.sl (ak b) b.length d] (.ret (ω 1)):=pK [0] 2 1 (.c h0 (.c e .nil)) (.nil)
theorem aci (a b:List Nat) (d e:Bool) (g:a.length<2^40) (c:a.length=b.length) (f:sO a b a.length=0) (h0:lit false (!((a.length:Int)==(b.length:Int)))=true):CO 183 [.sl (ak a) a.length d,.sl (ak b) b.length e] (.ret (ω 0)):=pK [0] 1 0 (.c h0 .nil) (.l (by exact aF.blk (fun nt h=>Dl h a b d e c g _ (Θ _)) (by simp [UB,f]) (by simp [UB,f,oU]) (aJ.of ⟨rfl,rfl,congrArg _ (KP g),trivial⟩) (aJ.of trivial):aI prog ap [] 43 (.block 0 (.loop (ae 0 (af f183)))) ⟨[(0,.sl (ak a) a.length d),(1,.sl (ak b) b.length e),(4,ω 0),(5,ω (γ .i64 ((a.length:Int) - (1:Int)))),(10,.bool (!((a.length:Int)==(b.length:Int)))),(15,.dead),(20,.dead),(23,.dead),(33,.dead)],[],.dead,[]⟩ (.normal) ⟨[],[],.dead,[]⟩) .nil)
theorem ack (a b:List Nat) (e f:Bool) (g:a.length<2^40) (c:a.length=b.length) (d:¬ sO a b a.length=0) (h0:lit false (!((a.length:Int)==(b.length:Int)))=true):CO 183 [.sl (ak a) a.length e,.sl (ak b) b.length f] (.ret (ω (sO a b a.length))):=pK [0] 1 0 (.c h0 .nil) (.l (by exact aF.blk (fun nt h=>Dl h a b e f c g _ (Θ _)) (by simp [UB,d]) (by simp [UB,d,oU]) (aJ.of ⟨rfl,rfl,congrArg _ (KP g),trivial⟩) (aJ.of ⟨by rw [if_neg d];rfl,trivial⟩):aI prog ap [] 43 (.block 0 (.loop (ae 0 (af f183)))) ⟨[(0,.sl (ak a) a.length e),(1,.sl (ak b) b.length f),(4,ω 0),(5,ω (γ .i64 ((a.length:Int) - (1:Int)))),(10,.bool (!((a.length:Int)==(b.length:Int)))),(15,.dead),(20,.dead),(23,.dead),(33,.dead)],[],.dead,[]⟩ (.ret) ⟨[(4,ω (sO a b a.length))],[],.dead,[]⟩) .nil)
def Yb (a b:List Nat):Int:=if a.length<b.length then -1 else if b.length<a.length then 1 else sO a b a.length
theorem xh (a b:List Nat) (d e:Bool) (f:a.length<2^40):CO 183 [.sl (ak a) a.length d,.sl (ak b) b.length e] (.ret (ω (Yb a b))):=by
 unfold Yb;by_cases h1:a.length<b.length
 ·rw [if_pos h1];exact acg a b d e (by simp only [lit];exact Yq0 (by omega)) (by simp [lit];omega)
 ·rw [if_neg h1];by_cases h2:b.length<a.length
  ·rw [if_pos h2];exact ach a b d e (by simp only [lit,Xqm];exact Yq1 (by omega)) (by simp [lit];omega)
  ·rw [if_neg h2];have c:a.length=b.length:=by omega
   have g:lit false (!((a.length:Int)==(b.length:Int)))=true:=by simp [lit,c]
   by_cases hz:sO a b a.length=0
   ·rw [hz];exact aci a b d e f c hz g
   ·exact ack a b d e f c hz g
theorem uM (m n:Nat):b_ (m+1) n=b_ m n++ [n / 2^(32*m) % 2^32]:=by
 unfold b_;rw [Xzx,Xxt];rfl
theorem yz (n:Nat):∀ (k:Nat),(digs n).getD k 0=n / 2^(32*k) % 2^32:=by
 have key:∀ (m k:Nat),(fC (b_ m n)).getD k 0=if k<m then n / 2^(32*k) % 2^32 else 0:=by
  intro m
  induction m with
  |zero=>intro k;simp [b_,fC]
  | succ m ih=>
   intro k;rw [uM,oq];by_cases hd:n / 2^(32*m) % 2^32=0
   ·rw [if_pos hd,ih];by_cases hk:k<m
    ·rw [if_pos hk,if_pos (by omega)]
    ·rw [if_neg hk];by_cases hkm:k=m
     ·subst hkm;rw [if_pos (by omega),hd]
     ·rw [if_neg (by omega)]
   ·rw [if_neg hd,ξ];by_cases hk:k<m
    ·rw [Xxf (by rw [aV];exact hk),qL hk,if_pos (by omega)];rfl
    ·by_cases hkm:k=m
     ·subst hkm;rw [Xjs (by rw [aV];exact Θ _),aV,Xws,if_pos (by omega)];rfl
     ·rw [Xqx (by rw [θ,aV];simp;omega),if_neg (by omega)];rfl
 intro k;unfold digs;rw [key];by_cases hk:k<n
 ·rw [if_pos hk]
 ·rw [if_neg hk];have:n<2^(32*k):=Xqg (lK n) (Xqj (by omega) (by omega));rw [Xx4 this]
theorem Xo (l:List Nat):(fC l).length≤l.length:=by
 unfold fC;rw [Xj4];have:=(Xzs (· ==0) (l:=l.reverse)).length_le;simpa using this
theorem jL {n m:Nat} (h:n<2^(32*m)):(digs n).length≤m:=by
 rw [← BN h];have:=Xo (b_ m n);rwa [aV] at this
theorem jY {n m:Nat} (h:(digs n).length≤m):n<2^(32*m):=by
 have key:∀ d,n<2^(32*(m+d))→n<2^(32*m):=by
  intro d
  induction d with
  |zero=>exact fun h=>h
  | succ d ih=>
   intro b;refine ih ?_;have c:=yz n (m+d);rw [ξ,Xqx (by omega)] at c;have e:n / 2^(32*(m+d))<2^32:=by
    rw [Xqt (Xqu _),← Xxn,show 32+32*(m+d)=32*(m+(d+1)) by omega];exact b
   have a:n / 2^(32*(m+d)) % 2^32=0:=c.symm;rw [φ e] at a;rcases Nat.div_eq_zero_iff.1 a with h2|h2
   ·have:=Xqu (32*(m+d));omega
   ·exact h2
 refine key n ?_;exact Xqg (lK n) (Xqj (by omega) (by omega))
def lU (x y:Nat):Int:=if x<y then -1 else if y<x then 1 else 0
theorem zO (x k:Nat):x % 2^(32*(k+1))=x / 2^(32*k) % 2^32*2^(32*k)+x % 2^(32*k):=by
 rw [show 32*(k+1)=32*k+32 by omega,Xxn,Nat.mod_mul];rw [Xx9,Xqa (2^(32*k))]
theorem Dj (x y:Nat):∀ k,sO (digs x) (digs y) k=lU (x % 2^(32*k)) (y % 2^(32*k))
 |0=>by simp [sO,lU,Yqb]
 | k +1=>by
  simp only [sO,yz];rw [Dj x y k,zO x k,zO y k];have g:=Xqw x (Xqu (32*k));have f:=Xqw y (Xqu (32*k));generalize x / 2^(32*k) % 2^32=a;generalize y / 2^(32*k) % 2^32=b;generalize x % 2^(32*k)=c at g ⊢;generalize y % 2^(32*k)=d at f ⊢;generalize 2^(32*k)=M at g f ⊢;unfold lU;by_cases h1:a<b
  ·rw [if_pos h1];have e:a*M+M≤b*M:=by
    have:=Xqv M (show a+1≤b from h1);rw [Xxp,Xwj] at this;exact this
   rw [if_pos (by omega)]
  ·rw [if_neg h1];by_cases e:b<a
   ·rw [if_pos e];have h:b*M+M≤a*M:=by
     have:=Xqv M (show b+1≤a from e);rw [Xxp,Xwj] at this;exact this
    rw [if_neg (by omega),if_pos (by omega)]
   ·rw [if_neg e];have:a=b:=by omega
    subst this;simp only [Nat.add_lt_add_iff_left]
theorem zx (x y:Nat):Yb (digs x) (digs y)=lU x y:=by
 have d:=jY (n:=x) (Θ _);have c:=jY (n:=y) (Θ _);unfold Yb;by_cases h1:(digs x).length<(digs y).length
 ·rw [if_pos h1];have a:¬ y<2^(32*(digs x).length):=fun h=>by have:=jL h;omega
  unfold lU;rw [if_pos (by omega)]
 ·rw [if_neg h1];by_cases a:(digs y).length<(digs x).length
  ·rw [if_pos a];have e:¬ x<2^(32*(digs y).length):=fun h=>by have:=jL h;omega
   unfold lU;rw [if_neg (by omega),if_pos (by omega)]
  ·rw [if_neg a,Dj];have b:(digs x).length=(digs y).length:=by omega
   rw [φ d,φ (by rw [b];exact c)]
theorem Du {s:List UInt8} (hs:s.length<2^40):(digs (ag s)).length<2^40:=by
 have:=jL (Ad s);omega
theorem afs (s t:List UInt8) (hs:s.length<2^40) (a:t.length<2^40):CO 163 [.str s,.str t] (.ret (ω (lU (ag s) (ag t)))):=pK [] 0 0 .nil (.c (by rw [← zx];exact xh _ _ _ _ (Du hs):CO 183 [.sl (ak (digs (ag s))) (digs (ag s)).length true,.sl (ak (digs (ag t))) (digs (ag t)).length true] (.ret (ω (lU (ag s) (ag t))))) (.c (uJ t a) (.c (uJ s hs) .nil)))
theorem VN (s:List UInt8) (h0:lit true (s== [])=true):CO 138 [.str s] (.ret (.bool true)):=pK [] 1 1 (.c h0 .nil) (.nil)
theorem VO (s:List UInt8) (h0:(decide ((0:Int)<(((ζ s):Nat):Int)))=true) (a:lit false (s== [])=true):CO 138 [.str s] (.ret (.bool (!(((Φ (Xql s 0 0):Nat):Int)==(0:Int))))):=pK [] 1 0 (.k 1 h0 (.c a .nil)) (.nil)
theorem Ol {nt:Nat} (d:37≤nt) (a cs:List AV) (L M:Nat) (b:Bool) (n k:Int) (h0:(Ξ (((0+(δ (γ .i64 ((γ .i64 ((M:Int) - (1:Int))) - k))))*1)+1) (ζ cs))=true) (i:(decide ((0:Int)≤(γ .i64 ((γ .i64 ((M:Int) - (1:Int))) - k))))=true) (h:(decide ((γ .i64 ((γ .i64 ((M:Int) - (1:Int))) - k))<(M:Int)))=true) (j:(decide ((0:Int)≤(γ .i64 ((8:Int)*(Xjt k (4:Int))))))=true) (e:(chk (.int .u32) (η (ε ((δ (γ .i64 (Xxi k (4:Int))))*1) a) .dead))=true) (f:(decide ((0:Int)≤(γ .i64 (Xxi k (4:Int)))))=true) (g:(decide ((γ .i64 (Xxi k (4:Int)))<(L:Int)))=true) (c:lit true (decide (k<n))=true):ψ nt f134 ⟨[(0,.sl a L b),(3,.ref 0 0 0 M),(12,ω n),(13,ω k)],[(0,⟨cs,0,false,0,1,true⟩)],.dead,[]⟩ (.normal) ⟨[(0,.sl a L b),(3,.ref 0 0 0 M),(12,ω n),(13,ω (γ .i64 (k+(1:Int))))],[(0,⟨(μ ((0+(δ (γ .i64 ((γ .i64 ((M:Int) - (1:Int))) - k))))*1) cs++ [.int .u8 (γ .u8 (Xq0 (τ (η (ε ((δ (γ .i64 (Xxi k (4:Int))))*1) a) .dead)) (2^(min (δ (γ .i64 ((8:Int)*(Xjt k (4:Int))))) (Xqe .u32)))))]++ε (((0+(δ (γ .i64 ((γ .i64 ((M:Int) - (1:Int))) - k))))*1)+1) cs),0,false,0,1,true⟩)],.dead,[]⟩:=pJ 134 [] 1 1 (.c h0 (.c i (.c h (.c j (.k 1 e (.c f (.c g (.k 1 c .nil)))))))) (.nil) d
theorem Om {nt:Nat} (a:37≤nt) (b cs:List AV) (L M:Nat) (c:Bool) (n k:Int) (h0:lit false (decide (k<n))=true):ψ nt f134 ⟨[(0,.sl b L c),(3,.ref 0 0 0 M),(12,ω n),(13,ω k)],[(0,⟨cs,0,false,0,1,true⟩)],.dead,[]⟩ (.exit 0) ⟨[(3,.ref 0 0 0 M)],[(0,⟨cs,0,false,0,1,true⟩)],.dead,[]⟩:=pJ 134 [] 1 0 (.c h0 .nil) (.nil) a
theorem OW {nt:Nat} (a:17≤nt) (s:List UInt8) (c:Int) (h0:(decide ((1:Int)≤(((ζ s):Nat):Int)))=true) (e:(decide ((((ζ s):Nat):Int)≤(((ζ s):Nat):Int)))=true) (d:lit true (((Φ (Xql s 0 0):Nat):Int)==c)=true) (f:(decide ((0:Int)<(((ζ s):Nat):Int)))=true) (b:lit true (decide ((0:Int)<(((ζ s):Nat):Int)))=true):ψ nt f141 ⟨[(0,.str s),(1,.int .u8 c)],[],.dead,[]⟩ (.normal) ⟨[(0,.str (ε 1 (μ (δ (((ζ s):Nat):Int)) s))),(1,.int .u8 c)],[],.dead,[]⟩:=pJ 141 [] 2 3 (.k 1 h0 (.c e (.c d (.k 1 f (.c b .nil))))) (.nil) a
theorem OX {nt:Nat} (a:17≤nt) (s:List UInt8) (c:Int) (h0:lit false (((Φ (Xql s 0 0):Nat):Int)==c)=true) (d:(decide ((0:Int)<(((ζ s):Nat):Int)))=true) (b:lit true (decide ((0:Int)<(((ζ s):Nat):Int)))=true):ψ nt f141 ⟨[(0,.str s),(1,.int .u8 c)],[],.dead,[]⟩ (.exit 0) ⟨[(0,.str s)],[],.dead,[]⟩:=pJ 141 [] 2 1 (.c h0 (.k 1 d (.c b .nil))) (.nil) a
theorem OY {nt:Nat} (a:17≤nt) (s:List UInt8) (c:Int) (h0:lit false (decide ((0:Int)<(((ζ s):Nat):Int)))=true):ψ nt f141 ⟨[(0,.str s),(1,.int .u8 c)],[],.dead,[]⟩ (.exit 0) ⟨[(0,.str s)],[],.dead,[]⟩:=pJ 141 [] 2 0 (.k 1 h0 .nil) (.nil) a
def apV (c:UInt8) (s:List UInt8):St:=⟨[(0,.str s),(1,.int .u8 (c.toNat:Int))],[],.dead,[]⟩
def akg (s:List UInt8):St:=⟨[(0,.str s)],[],.dead,[]⟩
theorem MB {nt:Nat} (d:17≤nt) (c:UInt8):∀ (s:List UInt8),aF prog ap [] nt (ae 0 (af f141)) (fun _=> .exit 0) (apV c) akg s (s.dropWhile (· ==c))
 | []=> .done (OY d [] (c.toNat:Int) (by simp [lit]))
 | b::r=>by
  have a:decide ((0:Int)<(((b::r).length:Nat):Int))=true:=Yq0 (by simp only [ν];omega);have g:decide ((1:Int)≤(((b::r).length:Nat):Int))=true:=Yq0 (by simp only [ν];omega);have f:decide ((((b::r).length:Nat):Int)≤(((b::r).length:Nat):Int))=true:=Yq0 (Int.le_refl _);rw [Xx0];by_cases hb:b=c
  ·subst hb;rw [if_pos (by simp)];refine .next ?_ (MB d b r)
   have:=OW d (b::r) (b.toNat:Int) g f (by simp [lit]) a (by simp only [lit];exact a);rw [show δ (((b::r).length:Nat):Int)=(b::r).length by omega,Xqy] at this;exact this
  ·rw [if_neg (by simpa using hb)];refine .done ?_;have e:¬ (b.toNat:Int)=(c.toNat:Int):=fun h=>hb (UInt8.toNat_inj.1 (by omega))
   exact OX d (b::r) (c.toNat:Int) (by simp [lit];omega) a (by simp only [lit];exact a)
def oD (l:List Nat):List AV:=l.map fun (d:Nat)=>Xxr .u8 (d:Int)
def oJ (m k x:Nat):List Nat:=(Xq2 m).map fun i=>if m - k≤i then x / 2^(8*(m - 1 - i)) % 256 else 0
theorem jr (m k x:Nat):(oJ m k x).length=m:=by simp [oJ]
theorem Ld {m k x i:Nat} (h:i<m):(oJ m k x)[i]? =some (if m - k≤i then x / 2^(8*(m - 1 - i)) % 256 else 0):=by simp [oJ,h]
theorem VX {m k x:Nat} (a:k<m):oJ m (k+1) x=(oJ m k x).set (m - 1 - k) (x / 2^(8*k) % 256):=by
 apply Xju;intro i;by_cases hi:i<m
 ·rw [Ld hi,Xzi];by_cases h:m - 1 - k=i
  ·rw [if_pos (show m - (k+1)≤i by omega),if_pos h,if_pos (by rw [jr];omega),show m - 1 - i=k by omega]
  ·rw [if_neg h,Ld hi];by_cases h2:m - k≤i
   ·rw [if_pos h2,if_pos (by omega)]
   ·rw [if_neg h2,if_neg (by omega)]
 ·rw [Xqx (by rw [jr];omega),Xqx (by rw [Xqk,jr];omega)]
theorem az (l:List Nat):(oD l).length=l.length:=by simp [oD]
theorem aeG (l:List Nat) (i:Nat) (x:Nat) (a:i<l.length):μ i (oD l)++ [Xxr .u8 (x:Int)]++ε (i+1) (oD l)=oD (l.set i x):=by
 unfold oD;rw [← Xwe,← Xjx,Xxs,if_pos a];simp
theorem aaQ (x:Nat):γ .u8 (x:Int)=((x % 256:Nat):Int):=by
 show (if (false && decide ((x:Int) % 2^8≥2^7))=true then (x:Int) % 2^8 - 2^8 else (x:Int) % 2^8)=_;simp only [Xxy,Xj8,if_false];omega
theorem X_ (x k:Nat):x / 2^(32*(k / 4)) % 2^32 / 2^(8*(k % 4)) % 256=x / 2^(8*k) % 256:=by
 have b:8*k=32*(k / 4)+8*(k % 4):=by omega
 rw [b,Xxn,← Xxv];generalize x / 2^(32*(k / 4))=y;have a:k % 4<4:=by omega
 generalize k % 4=r at a
 match r,a with
 |0,_=>omega
 |1,_=>omega
 |2,_=>omega
 |3,_=>omega
def ahF (xs:List AV) (L:Nat) (nn:Bool) (x M k:Nat):St:=⟨[(0,.sl xs L nn),(3,.ref 0 0 0 M),(12,ω (M:Int)),(13,ω (k:Int))],[(0,⟨oD (oJ M k x),0,false,0,1,true⟩)],.dead,[]⟩
def ac8 (x M k:Nat):St:=⟨[(3,.ref 0 0 0 M)],[(0,⟨oD (oJ M k x),0,false,0,1,true⟩)],.dead,[]⟩
theorem VW {nt:Nat} (e:37≤nt) (x:Nat) (b:Bool) (s:(digs x).length<2^40):∀ (d k:Nat),k+d=4*(digs x).length→aF prog ap [] nt (ae 0 (af f134)) (fun _=> .exit 0) (ahF (ak (digs x)) (digs x).length b x (4*(digs x).length)) (ac8 x (4*(digs x).length)) k (4*(digs x).length):=by
 intro d
 induction d with
 |zero=>
  intro k g;have:k=4*(digs x).length:=by omega
  subst this;exact .done (Om e _ _ _ _ b _ _ (by simp [lit]))
 | succ d ih=>
  intro k g;refine .next ?_ (ih (k+1) (by omega))
  generalize t:4*(digs x).length=M at*
  have a:k<M:=by omega
  have h:k / 4<(digs x).length:=by omega
  have p:γ .i64 (Xxi (k:Int) 4)=((k / 4:Nat):Int):=by
   rw [Xz4 (by omega),iq (by omega) (by omega)];omega
  have f:Xjt (k:Int) 4=((k % 4:Nat):Int):=by
   rw [Xw7 (by omega)];omega
  have j:γ .i64 ((8:Int)*((k % 4:Nat):Int))=((8*(k % 4):Nat):Int):=by
   rw [iq (by omega) (by omega)];omega
  have n:γ .i64 (γ .i64 ((M:Int) - 1) - (k:Int))=((M - 1 - k:Nat):Int):=by
   have q:γ .i64 ((M:Int) - 1)=((M - 1:Nat):Int):=by
    rw [iq (by omega) (by omega)];omega
   rw [q,iq (by omega) (by omega)];omega
  have m:(0+δ ((M - 1 - k:Nat):Int))*1=M - 1 - k:=by omega
  have r:γ .i64 ((k:Int)+1)=((k+1:Nat):Int):=by
   rw [iq (by omega) (by omega)];omega
  have i:min (δ ((8*(k % 4):Nat):Int)) (Xqe .u32)=8*(k % 4):=by
   show min (δ ((8*(k % 4):Nat):Int)) 32=_;omega
  have o:δ ((k / 4:Nat):Int)=k / 4:=by omega
  have hcell:=JH (l:=digs x) h;rw [yz] at hcell;have hbody:=Ol e (ak (digs x)) (oD (oJ M k x)) (digs x).length M b (M:Int) (k:Int);rw [p,f,j,n,m,r,i,o,hcell] at hbody;simp only [τ] at hbody;have c:Xq0 ((x / 2^(32*(k / 4)) % 2^32:Nat):Int) (2^(8*(k % 4)))=((x / 2^(32*(k / 4)) % 2^32 / 2^(8*(k % 4)):Nat):Int):=by
   have:((2:Int)^(8*(k % 4)))=((2^(8*(k % 4)):Nat):Int):=by simp
   rw [this,Xw8 _ (Xkg _)];exact (Xkx _ _).symm
  rw [c,aaQ,X_,aeG _ _ _ (by rw [jr];omega),← VX a] at hbody;exact hbody (by rw [az,jr];exact Xq4 (by omega)) (Yq0 (by omega)) (Yq0 (by omega)) (Yq0 (by omega)) rfl (Yq0 (by omega)) (Yq0 (by omega)) (Yq0 (by omega))
theorem akh (s:List UInt8) (c:UInt8):CO 141 [.str s,.int .u8 (c.toNat:Int)] (.ret (.str (s.dropWhile (· ==c)))):=pK [0] 0 0 .nil (.l (aF.blk (fun nt a=>MB a c s) (by simp) rfl (aJ.of ⟨rfl,rfl,trivial⟩) (aJ.of ⟨rfl,trivial⟩):aI prog ap [] 17 (.block 0 (.loop (ae 0 (af f141)))) ⟨[(0,.str s),(1,.int .u8 (c.toNat:Int)),(4,.str []),(13,.dead)],[],.dead,[]⟩ (.normal) ⟨[(0,.str (s.dropWhile (· ==c)))],[],.dead,[]⟩) .nil)
theorem MW (s:List UInt8) (h0:lit true (s== [])=true):CO 162 [.str s,.str [0]] (.ret (.str s)):=pK [] 2 3 (.k 1 h0 .nil) (.nil)
theorem MX (s:List UInt8) (h0:lit false (s== [])=true):CO 162 [.str s,.str [0]] (.ret (.str (s.dropWhile (· ==0)))):=pK [] 4 12 (.k 7 h0 .nil) (.c (akh s 0) .nil)
theorem JY (s:List UInt8):CO 162 [.str s,.str [0]] (.ret (.str (s.dropWhile (· ==0)))):=by
 by_cases h:s= []
 ·subst h;exact MW [] rfl
 ·exact MX s (by simp [lit,h])
def kF (m x:Nat):List UInt8:=(Xq2 m).map fun i=>Xqi (x / 2^(8*(m - 1 - i)) % 256)
def ai (x:Nat):List UInt8:=(kF (4*(digs x).length) x).dropWhile (· ==0)
theorem Jj (x:Nat) (h:(digs x).length<2^40):γ .i64 ((4:Int)*(((digs x).length:Nat):Int))=((4*(digs x).length:Nat):Int):=by
 rw [iq (by omega) (by omega)];omega
theorem adR (m x:Nat):gp m [Xxr .u8 0]=oD (oJ m 0 x):=by
 have e:oJ m 0 x=(Xq2 m).map fun _=>0:=by
  unfold oJ;apply Xjk;intro i a;rw [if_neg (by have:=List.mem_range.1 a;omega)]
 rw [e];unfold gp oD
 induction m with
 |zero=>rfl
 | succ m ih=>
  rw [Xzg,Xzm,Xzx,Xxt,Xxt];have b:oJ m 0 x=(Xq2 m).map fun _=>0:=by
   unfold oJ;apply Xjk;intro i a;rw [if_neg (by have:=List.mem_range.1 a;omega)]
  rw [ih b];simp
theorem RZ (m x:Nat):Xjh (fun c=>Xqi (δ (τ c))) (oD (oJ m m x))=kF m x:=by
 unfold oD oJ kF;rw [Xwc,Xwc];apply Xjk;intro i _;simp only [Xvj,Xws,Xxq,if_true,τ];congr 1
theorem abS (l:List Nat):Yqx (oD l) (chk (.int .u8))=true:=by
 unfold oD;rw [List.all_map];exact List.all_eq_true.2 fun x _=>rfl
theorem Fj (m k x:Nat):μ (m*1) (oD (oJ m k x))=oD (oJ m k x):=by
 rw [υ,Xqd (by rw [az,jr];exact Θ _)]
theorem VZ (l:List Nat) (x:Nat) (a:Bool) (i:fC l=digs x) (d:l.length<2^40) (hd:(digs x).length<2^40) (h0:(Xqo (ζ (μ ((4*(digs x).length)*1) (oD (oJ (4*(digs x).length) (4*(digs x).length) x)))) (4*(digs x).length))=true) (g:(Yqx (μ ((4*(digs x).length)*1) (oD (oJ (4*(digs x).length) (4*(digs x).length) x))) (chk (.int .u8)))=true) (f:(decide ((0:Int)≤(γ .i64 ((4:Int)*(((digs x).length:Nat):Int)))))=true) (h:(decide ((γ .i64 ((4:Int)*(((digs x).length:Nat):Int)))=(γ .i64 ((4:Int)*(((digs x).length:Nat):Int)))))=true) (e:(decide ((γ .i64 ((4:Int)*(((digs x).length:Nat):Int)))≤(1099511627776:Int)))=true):CO 134 [.sl (ak l) l.length a] (.ret (.str (ai x))):=pK [0] 0 0 (.c h0 (.c g (.c f (.c h (.c e .nil))))) (.c (by rw [Fj,RZ];exact JY _:CO 162 [.str (Xjh (fun c=>Xqi (δ (τ c))) (μ ((4*(digs x).length)*1) (oD (oJ (4*(digs x).length) (4*(digs x).length) x)))),.str [0]] (.ret (.str (ai x)))) (.l (by rw [Jj x hd,xR,adR _ x];exact aF.blk (fun nt b=>VW b x a hd (4*(digs x).length) 0 (by omega)) (by simp) rfl (aJ.of ⟨rfl,rfl,rfl,rfl,trivial⟩) (aJ.of ⟨rfl,trivial⟩):aI prog ap [] 37 (.block 0 (.loop (ae 0 (af f134)))) ⟨[(0,.sl (ak (digs x)) (digs x).length a),(2,.str []),(3,.ref 0 0 0 (δ (γ .i64 ((4:Int)*(((digs x).length:Nat):Int))))),(4,.dead),(12,ω (((δ (γ .i64 ((4:Int)*(((digs x).length:Nat):Int)))):Nat):Int)),(13,ω 0),(14,.dead)],[(0,⟨(gp (δ (γ .i64 ((4:Int)*(((digs x).length:Nat):Int)))) [.int .u8 0]),0,false,0,1,true⟩)],.dead,[]⟩ (.normal) ⟨[(3,.ref 0 0 0 (4*(digs x).length))],[(0,⟨(oD (oJ (4*(digs x).length) (4*(digs x).length) x)),0,false,0,1,true⟩)],.dead,[]⟩) (.c (by rw [← i];exact O0 l a d:CO 161 [.sl (ak l) l.length a] (.ret (.sl (ak (digs x)) (digs x).length a))) .nil)))
theorem qK (l:List Nat) (x:Nat) (a:Bool) (c:fC l=digs x) (b:l.length<2^40) (hd:(digs x).length<2^36):CO 134 [.sl (ak l) l.length a] (.ret (.str (ai x))):=
 VZ l x a c b (by omega)
  (by rw [Fj,az,jr];exact Xzy _) (by rw [Fj];exact abS _)
  (by rw [Jj x (by omega)];exact Yq0 (by omega)) (Yq0 rfl) (by rw [Jj x (by omega)];exact Yq0 (by omega))
theorem qW (m x:Nat):kF (m+1) x=Xqi (x / 2^(8*m) % 256)::kF m x:=by
 unfold kF;rw [Xwi,Xqf,Xwc];congr 1;apply Xjk;intro i a;simp only [Xvj];have:=List.mem_range.1 a;rw [show m+1 - 1 - (i+1)=m - 1 - i by omega]
theorem GG:∀ (m:Nat) (b x:Nat),kF m (b*2^(8*m)+x)=kF m x:=by
 intro m b x;unfold kF;apply Xjk;intro i a;have a:=List.mem_range.1 a;have e:8*m=(8*m - 8*(m - 1 - i) - 8)+8+8*(m - 1 - i):=by omega
 congr 1
 conv=>lhs;rw [e]
 rw [Xxn,Xxn,← Xqp,← Xqp,Xx9,Xzw _ _ (Xqu _)];exact Xw6 _ _ 256
theorem GH:∀ (s:List UInt8),kF s.length (ag s)=s
 | []=>rfl
 |b::r=>by
  rw [ν,qW,jb,show (256:Nat)^r.length=2^(8*r.length) by rw [Xja],GG,GH r];have h:=wu r;rw [show (256:Nat)^r.length=2^(8*r.length) by rw [Xja]] at h;have a:=b.toNat_lt;rw [Xx9,Xzw _ _ (Xqu _),Xx4 h,χ,φ (by omega)];congr 1;exact UInt8.ofNat_toNat
theorem xf (x:Nat):∀ (d m:Nat),x<2^(8*m)→(kF (m+d) x).dropWhile (· ==0)=(kF m x).dropWhile (· ==0)
 |0,_,_=>rfl
 |d+1,m,h=>by
  rw [show m+(d+1)=(m+d)+1 by omega,qW];have a:x<2^(8*(m+d)):=Xqg h (Xqj (by omega) (by omega));rw [Xx4 a,Xx0,if_pos (by rfl)];exact xf x d m h
theorem P_ {m x:Nat} (h:x<2^(8*m)):(kF m x).dropWhile (· ==0)=ai x:=by
 unfold ai;have a:x<2^(8*(4*(digs x).length)):=by
  have:=jY (n:=x) (Θ _);rwa [show 8*(4*(digs x).length)=32*(digs x).length by omega]
 rcases Xks m (4*(digs x).length) with hm|hm
 ·have:=xf x (4*(digs x).length - m) m h;rw [show m+(4*(digs x).length - m)=4*(digs x).length by omega] at this;exact this.symm
 ·have:=xf x (m - 4*(digs x).length) (4*(digs x).length) a;rw [show 4*(digs x).length+(m - 4*(digs x).length)=m by omega] at this;exact this
theorem Ez (s:List UInt8):ai (ag s)=s.dropWhile (· ==0):=by
 have h:=wu s;rw [show (256:Nat)^s.length=2^(8*s.length) by rw [Xja]] at h;rw [← P_ h,GH]
theorem MJ:∀ (s:List UInt8),ag (s.dropWhile (· ==0))=ag s
 | []=>rfl
 | b::r=>by
  rw [Xx0];by_cases hb:b=0
  ·subst hb;rw [if_pos (by rfl),MJ r,jb];simp
  ·rw [if_neg (by simpa using hb)]
theorem Ia:∀ (m x:Nat),x<2^(8*m)→ag (kF m x)=x
 |0,x,h=>by simp at h;subst h;rfl
 | m+1,x,h=>by
  rw [qW,jb];have c:(kF m x).length=m:=by simp [kF]
  have a:x / 2^(8*m)<256:=by
   rw [Xqt (Xqu _)];have e:(2:Nat)^(8*(m+1))=256*2^(8*m):=by rw [show 8*(m+1)=8+8*m by omega,Xxn]
   rw [← e];exact h
  have b:ag (kF m x)=x % 2^(8*m):=by
   have e:x=x / 2^(8*m)*2^(8*m)+x % 2^(8*m):=by
    have:=Xxc x (2^(8*m));rw [Xqa] at this;omega
   conv=>lhs;rw [e]
   rw [GG];exact Ia m _ (Xqw _ (Xqu _))
  rw [c,b,φ a];have d:(Xqi (x / 2^(8*m))).toNat=x / 2^(8*m):=by
   rw [UInt8.toNat_ofNat'];exact φ a
  rw [d,show (256:Nat)^m=2^(8*m) by rw [Xja]];have:=Xxc x (2^(8*m));rw [Xqa] at this;exact this
theorem aN (x:Nat):ag (ai x)=x:=by
 unfold ai;rw [MJ];refine Ia _ _ ?_;have:=jY (n:=x) (Θ _);rwa [show 8*(4*(digs x).length)=32*(digs x).length by omega]
end Go.Proofs.Tryz
set_option maxRecDepth 100000
open Go
namespace AM
theorem dL {x:Int} (h: -9223372036854775808≤x) (a:x<9223372036854775808):γ .i64 x=x:=by
 show (if (true && decide (x % 2^64≥2^63))=true then x % 2^64 - 2^64 else x % 2^64)=x;by_cases hx:x % 2^64≥2^63
 ·rw [if_pos (by simpa using hx)];omega
 ·rw [if_neg (by simpa using hx)];omega
theorem aX {a:Nat} (h:a<9223372036854775808):γ .i64 (a:Int)=(a:Int):=dL (by omega) (by omega)
theorem Ci {a b:Nat} (h:a+b<9223372036854775808):γ .i64 ((a:Int)+(b:Int))=((a+b:Nat):Int):=by
 rw [dL (by omega) (by omega)];omega
theorem jV {a b:Nat} (h:b≤a) (c:a<9223372036854775808):γ .i64 ((a:Int) - (b:Int))=((a - b:Nat):Int):=by
 rw [dL (by omega) (by omega)];omega
theorem QK {a b:Nat} (h:a*b<9223372036854775808):γ .i64 ((a:Int)*(b:Int))=((a*b:Nat):Int):=by
 rw [← Xvw,aX h]
theorem Xv (k:IntKind) (a:k.signed=false) (x:Int):γ k x=x % 2^k.bits:=by
 show (if (k.signed && _)=true then _ else _)=_;rw [a];rfl
theorem O3 {w:Nat} {k:IntKind} (c:k.signed=false) (b:k.bits=w) (a:Nat):γ k (a:Int)=((a % 2^w:Nat):Int):=by
 rw [Xv k c,b];simp
theorem w8u (a:Nat):γ .u8 (a:Int)=((a % 256:Nat):Int):=O3 (w:=8) rfl rfl a
theorem qP (a:Nat):γ .u32 (a:Int)=((a % 4294967296:Nat):Int):=O3 (w:=32) rfl rfl a
theorem oK (a:Nat):γ .u64 (a:Int)=((a % 18446744073709551616:Nat):Int):=O3 (w:=64) rfl rfl a
theorem lh (a b:Nat):γ .u64 ((a:Int) - (b:Int))=(((a+(18446744073709551616 - b % 18446744073709551616)) % 18446744073709551616:Nat):Int):=by
 rw [Xv .u64 rfl,show Xqe .u64=64 from rfl];omega
theorem bW (a b:Nat):((a:Int)+(b:Int))=((a+b:Nat):Int):=(Int.natCast_add a b).symm
theorem yl (a b:Nat):((a:Int)*(b:Int))=((a*b:Nat):Int):=(Xvw a b).symm
theorem pO (a b:Nat):Xxi (a:Int) (b:Int)=((a / b:Nat):Int):=(Int.ofNat_tdiv a b).symm
theorem xg (a b:Nat):Xjt (a:Int) (b:Int)=((a % b:Nat):Int):=(Int.ofNat_tmod a b).symm
theorem C9 (a n:Nat):((a:Int)*2^n)=((2^n*a:Nat):Int):=by rw [Xqa];simp
theorem qH {a b:Nat} (h:a≤b):min a b=a:=Xjc h
theorem P8 {a:Nat} (h:a≤64):min a (Xqe .u64)=a:=Xjc h
theorem P7 {a:Nat} (h:a≤32):min a (Xqe .u32)=a:=Xjc h
theorem ni:(2:Nat)^32=4294967296:=by decide
theorem ahZ:(2:Nat)^63=9223372036854775808:=by decide
theorem lm (a n:Nat):Xq0 (a:Int) (2^n)=((a / 2^n:Nat):Int):=by
 have:((2:Int)^n)=((2^n:Nat):Int):=by simp
 rw [this,Xw8 _ (Xkg _)];exact (Xkx _ _).symm
theorem aA (a:Nat):δ (a:Int)=a:=rfl
theorem vP {w x:Nat} (h:x<2^w):(Xqh w (x:Int)).toNat=x:=by
 rw [Xv5,Xkf,φ h]
theorem Pj {w a b:Nat} (c:a<2^w) (d:b<2^w):Xxl (Xqh w (a:Int)|||Xqh w (b:Int))=a|||b:=by
 rw [Xk9,vP c,vP d]
theorem J6 {w a b:Nat} (c:a<2^w) (d:b<2^w):Xxl (Xqh w (a:Int) &&& Xqh w (b:Int))=a &&& b:=by
 rw [BitVec.toNat_and,vP c,vP d]
theorem V_ {a b:Nat} (c:a<18446744073709551616) (d:b<18446744073709551616):Xxl (Xqh (Xqe .u64) (a:Int)|||Xqh (Xqe .u64) (b:Int))=a|||b:=Pj (w:=64) c d
theorem ahY {a b:Nat} (c:a<4294967296) (d:b<4294967296):Xxl (Xqh (Xqe .u32) (a:Int)|||Xqh (Xqe .u32) (b:Int))=a|||b:=Pj (w:=32) c d
theorem afI {a b:Nat} (c:a<18446744073709551616) (d:b<18446744073709551616):Xxl (Xqh (Xqe .u64) (a:Int) &&& Xqh (Xqe .u64) (b:Int))=a &&& b:=J6 (w:=64) c d
theorem akV {a b:Nat} (c:a<18446744073709551616) (d:b<18446744073709551616):Xxl (Xqh (Xqe .i64) (a:Int) &&& Xqh (Xqe .i64) (b:Int))=a &&& b:=J6 (w:=64) c d
theorem zQ {a b k:Nat} (h:b<2^k):a*2^k|||b=a*2^k+b:=by
 have:=Xwv h a;rw [Xkw] at this;exact this.symm
theorem Um (a k:Nat):a &&& (2^k - 1)=a % 2^k:=Nat.and_two_pow_sub_one_eq_mod a k
theorem CW (a:Nat):a &&& 4294967295=a % 4294967296:=Um a 32
theorem dI (a b:Nat):decide ((a:Int)≤(b:Int))=decide (a≤b):=by
 by_cases h:a≤b<;>simp [h]
theorem aY (a b:Nat):decide ((a:Int)<(b:Int))=decide (a<b):=by
 by_cases h:a<b<;>simp [h]
theorem d_eq (a b:Nat):decide ((a:Int)=(b:Int))=decide (a=b):=by
 by_cases h:a=b
 ·simp [h]
 ·rw [Yq1 h,Yq1 (by omega)]
theorem jJ (a b:Nat):((a:Int)==(b:Int))=decide (a=b):=d_eq a b
theorem fH (a b:Nat):Ξ a b=decide (a≤b):=by
 by_cases h:a≤b
 ·rw [Yq0 h];exact Xq4 h
 ·rw [Yq1 h];cases c:Ξ a b with
  |false=>rfl
  |true=>exact absurd (Nat.le_of_ble_eq_true c) h
theorem Jg (a b:Nat):Xqo a b=decide (a=b):=by
 by_cases h:a=b
 ·rw [Yq0 h,h];exact Xzy _
 ·rw [Yq1 h];cases c:Xqo a b with
  |false=>rfl
  |true=>exact absurd (Nat.eq_of_beq_eq_true c) h
theorem bF (b:Bool):lit true b=b:=rfl
theorem dP (b:Bool):lit false b= !b:=rfl
theorem dY (b:Bool):((!b)=true)=(b=false):=by cases b<;>simp
theorem AU (b:Bool):((!b)=false)=(b=true):=by cases b<;>simp
theorem bu (p:Prop) [Decidable p]:(decide p=true)=p:=by simp
theorem eY (p:Prop) [Decidable p]:(decide p=false)=¬ p:=by simp
end AM
set_option maxRecDepth 100000
open Go AM
namespace Go.Proofs.Tryz
def aK:List Nat→Nat
 | []=>0
 |d::r=>d+4294967296*aK r
def bZ (l:List Nat):Prop:=∀ d ∈ l,d<4294967296
theorem bZ.nil:bZ []:=fun _ h=>(by cases h)
theorem bZ.cons {d:Nat} {l:List Nat} (h:d<4294967296) (a:bZ l):bZ (d::l):=by
 intro x b;rcases List.mem_cons.1 b with rfl|h1
 ·exact h
 ·exact a x h1
theorem bZ.head {d:Nat} {l:List Nat} (h:bZ (d::l)):d<4294967296:=h d (Xji ..)
theorem bZ.tail {d:Nat} {l:List Nat} (h:bZ (d::l)):bZ l:=fun x a=>h x (Xxx _ a)
theorem bZ.app {a b:List Nat} (h:bZ a) (d:bZ b):bZ (a++b):=fun x c=>(List.mem_append.1 c).elim (h x) (d x)
theorem bZ.take {a:List Nat} (h:bZ a) (n:Nat):bZ (a.take n):=fun x b=>h x (Xjg b)
theorem bZ.drop {a:List Nat} (h:bZ a) (n:Nat):bZ (a.drop n):=fun x b=>h x (List.mem_of_mem_drop b)
theorem bZ.getD {a:List Nat} (h:bZ a) (n:Nat):a.getD n 0<4294967296:=by
 rw [ξ];cases b:a[n]? with
 |none=>simp
 |some x=>simpa using h x (List.mem_of_getElem? b)
theorem bZ.zeros (n:Nat):bZ (κ n 0):=fun x a=>by rw [(List.mem_replicate.1 a).2];omega
theorem mg (a b:List Nat):aK (a++b)=aK a+4294967296^a.length*aK b:=by
 induction a with
 |nil=>simp [aK]
 |cons d a ih=>
  simp only [Xq1,aK,ih,ν,Xq3,Xxa,← Xqp];rw [Xqa (4294967296^a.length) 4294967296];omega
theorem pG {l:List Nat} (h:bZ l):aK l<4294967296^l.length:=by
 induction l with
 |nil=>simp [aK]
 |cons d l ih=>
  have a:=ih h.tail;have b:=h.head;simp only [aK,ν,Xq3];omega
theorem l_ (k:Nat):(2:Nat)^(32*k)=4294967296^k:=by rw [Xja]
theorem iJ (k:Nat):0<4294967296^k:=Yqc (by omega)
theorem EI {l:List Nat} (h:bZ l):b_ l.length (aK l)=l:=by
 unfold b_
 induction l with
 |nil=>rfl
 | cons d l ih=>
  rw [ν,Xwi,Xqf,Xwc];congr 1
  ·have:=h.head;simp only [aK,Xjd,Xva,Xvk];omega
  ·refine Eq.trans ?_ (ih h.tail);apply Xjk;intro i _;simp only [Xvj];have e:(2:Nat)^(32*(i+1))=4294967296*2^(32*i):=by rw [Xxa,Xxn,Xqa]
   rw [Xkc,e,← Xxv];have:aK (d::l) / 4294967296=aK l:=by have:=h.head;simp only [aK];omega
   rw [this]
theorem jR {l:List Nat} (h:bZ l):fC l=digs (aK l):=by
 have a:=BN (m:=l.length) (n:=aK l) (by rw [l_];exact pG h);rw [EI h] at a;exact a
theorem wo (m n:Nat):aK (b_ m n)=n % 2^(32*m):=by
 induction m with
 |zero=>simp [b_,aK,Yqb]
 |succ m ih=>
  rw [uM,mg,ih,aV,zO];simp only [aK,l_,Xjd,Xq5];rw [Xqa,Xx9]
theorem bZ.pad (m n:Nat):bZ (b_ m n):=by
 intro x a;obtain ⟨i,_,rfl⟩:=List.mem_map.1 a;exact Xqw _ (by omega)
theorem TA:∀ (l:List Nat),aK (fC l)=aK l:=by
 intro l
 induction h:l.length generalizing l with
 |zero=>rw [List.length_eq_zero_iff.1 h];rfl
 | succ n ih=>
  rcases Xzu l with rfl|⟨r,d,rfl⟩
  ·rfl
  ·rw [Xzv,oq];split
   ·next hd=>subst hd;rw [ih r (by simpa using h),mg];simp [aK]
   ·rfl
theorem Tz {x:Nat}:∀ (l:List Nat),x ∈ fC l→x ∈ l:=by
 intro l a;unfold fC at a;have:=List.dropWhile_suffix (fun x:Nat=>x==0) (l:=l.reverse)|>.subset (List.mem_reverse.1 a)
 exact List.mem_reverse.1 this
theorem fO (n:Nat):aK (digs n)=n:=by
 unfold digs;rw [TA,wo,φ (lK n)]
theorem bZ.digs (n:Nat):bZ (digs n):=fun x a=>bZ.pad n n x (Tz _ a)
theorem TK {l:List Nat} {k:Nat} (h:k<l.length):aK (l.drop k)=l.getD k 0+4294967296*aK (l.drop (k+1)):=by
 rw [Xxb h,ξ,π h];rfl
theorem Fv (l:List Nat) (k:Nat) (h:k≤l.length):aK l=aK (l.take k)+4294967296^k*aK (l.drop k):=by
 have:=mg (l.take k) (l.drop k);rwa [List.take_append_drop,Xqq,Xjc h] at this
theorem zf {l:List Nat} {k:Nat} (h:k<l.length):η (ε k (ak l)) .dead= .int .u32 ((l.getD k 0:Nat):Int):=by
 have:=JH h;rwa [υ] at this
theorem jU {p s:List Nat} {x k:Nat} (h:k=p.length):η (ε k (ak (p++x::s))) .dead= .int .u32 (x:Int):=by
 subst h;rw [zf (by simp)];simp
theorem lS {p s:List Nat} {x y k:Nat} (h:k=p.length):μ k (ak (p++x::s))++ [Xxr .u32 (y:Int)]++ε (k+1) (ak (p++x::s))=ak (p++y::s):=by
 subst h;rw [Qw _ _ _ (by simp)];simp
theorem jT (x:Int):chk (.int .u32) (.int .u32 x)=true:=rfl
theorem bf (k:IntKind) (x:Int):τ (.int k x)=x:=rfl
theorem pz (m:Nat):gp m [Xxr .u32 0]=ak (κ m 0):=by
 rw [Qr];congr 1;unfold b_;apply List.ext_getElem
 ·simp
 ·intro i a b;simp
theorem oh (l:List Nat) (k:Nat):μ k (ak l)=ak (l.take k):=by unfold ak;rw [Xwe]
theorem UO (l:List Nat) (k:Nat):ε k (ak l)=ak (l.drop k):=by unfold ak;rw [Xjx]
theorem Tc {nt:Nat} (f:44≤nt) (a:List Nat) (c:Bool) (b r M:Nat) (k:Int) (cs:List AV) (h0:(Ξ (((0+(δ k))*1)+1) (ζ cs))=true) (d:(decide (((0:Nat):Int)≤k))=true) (j:(decide (k<(M:Int)))=true) (e:(!((γ .u64 (b:Int))==((0:Nat):Int)))=true) (g:(chk (.int .u32) (η (ε ((δ k)*1) (ak a)) .dead))=true) (h:(decide (k<(a.length:Int)))=true) (i:lit true (decide (((0:Nat):Int)≤k))=true):ψ nt f193 ⟨[(0,.sl (ak a) a.length c),(1,.int .u32 (b:Int)),(6,.ref 0 0 0 M),(7,.int .u64 (r:Int)),(8,ω k)],[(0,⟨cs,0,false,0,1,true⟩)],.dead,[]⟩ (.normal) ⟨[(0,.sl (ak a) a.length c),(1,.int .u32 (b:Int)),(6,.ref 0 0 0 M),(7,.int .u64 (Xjt (γ .u64 (Xxl (Xqh (Xqe .u64) (γ .u64 ((r:Int)*2^(min 32 64)))|||Xqh (Xqe .u64) (γ .u64 (τ (η (ε ((δ k)*1) (ak a)) .dead)))))) (γ .u64 (b:Int)))),(8,ω (γ .i64 (k - ((1:Nat):Int))))],[(0,⟨(μ ((0+(δ k))*1) cs++ [.int .u32 (γ .u32 (γ .u64 (Xxi (γ .u64 (Xxl (Xqh (Xqe .u64) (γ .u64 ((r:Int)*2^(min 32 64)))|||Xqh (Xqe .u64) (γ .u64 (τ (η (ε ((δ k)*1) (ak a)) .dead)))))) (γ .u64 (b:Int)))))]++ε (((0+(δ k))*1)+1) cs),0,false,0,1,true⟩)],.dead,[]⟩:=pJ 193 [] 1 1 (.c h0 (.c d (.c j (.c e (.c e (.c g (.c d (.c h (.k 1 i .nil))))))))) (.nil) f
theorem Td {nt:Nat} (d:44≤nt) (a:List Nat) (c:Bool) (b r M:Nat) (k:Int) (cs:List AV) (h0:lit false (decide (((0:Nat):Int)≤k))=true):ψ nt f193 ⟨[(0,.sl (ak a) a.length c),(1,.int .u32 (b:Int)),(6,.ref 0 0 0 M),(7,.int .u64 (r:Int)),(8,ω k)],[(0,⟨cs,0,false,0,1,true⟩)],.dead,[]⟩ (.exit 0) ⟨[(0,.sl (ak a) a.length c),(1,.int .u32 (b:Int)),(6,.ref 0 0 0 M),(7,.int .u64 (r:Int)),(8,ω k)],[(0,⟨cs,0,false,0,1,true⟩)],.dead,[]⟩:=pJ 193 [] 1 0 (.c h0 .nil) (.nil) d
theorem TE {nt:Nat} (f:41≤nt) (a:List Nat) (e:Bool) (n M k:Nat) (cs:List AV) (h0:(Ξ (((0+(δ (γ .i64 ((k:Int)+((1:Nat):Int)))))*1)+1) (ζ (μ ((0+(δ (k:Int)))*1) cs++ [.int .u32 (γ .u32 (Xxl (Xqh (Xqe .u32) (τ (η (ε ((0+(δ (k:Int)))*1) cs) .dead))|||Xqh (Xqe .u32) (γ .u32 (γ .u64 ((γ .u64 (τ (η (ε ((δ (k:Int))*1) (ak a)) .dead)))*2^(min (δ (n:Int)) (Xqe .u64))))))))]++ε (((0+(δ (k:Int)))*1)+1) cs)))=true) (l:(decide (((0:Nat):Int)≤(γ .i64 ((k:Int)+((1:Nat):Int)))))=true) (j:(decide ((γ .i64 ((k:Int)+((1:Nat):Int)))<(M:Int)))=true) (m:(Ξ (((0+(δ (k:Int)))*1)+1) (ζ cs))=true) (b:(decide (((0:Nat):Int)≤(k:Int)))=true) (d:(decide ((k:Int)<(M:Int)))=true) (h:(chk (.int .u32) (η (ε ((0+(δ (k:Int)))*1) cs) .dead))=true) (o:(decide (((0:Nat):Int)≤(n:Int)))=true) (g:(chk (.int .u32) (η (ε ((δ (k:Int))*1) (ak a)) .dead))=true) (i:(decide ((k:Int)<(a.length:Int)))=true) (c:lit true (decide ((k:Int)<(a.length:Int)))=true):ψ nt f195 ⟨[(5,.ref 0 0 0 M),(1,ω (n:Int)),(13,.sl (ak a) a.length e),(14,ω (a.length:Int)),(15,ω (k:Int))],[(0,⟨cs,0,false,0,1,true⟩)],.dead,[]⟩ (.normal) ⟨[(5,.ref 0 0 0 M),(1,ω (n:Int)),(13,.sl (ak a) a.length e),(14,ω (a.length:Int)),(15,ω (γ .i64 ((k:Int)+((1:Nat):Int))))],[(0,⟨(μ ((0+(δ (γ .i64 ((k:Int)+((1:Nat):Int)))))*1) (μ ((0+(δ (k:Int)))*1) cs++ [.int .u32 (γ .u32 (Xxl (Xqh (Xqe .u32) (τ (η (ε ((0+(δ (k:Int)))*1) cs) .dead))|||Xqh (Xqe .u32) (γ .u32 (γ .u64 ((γ .u64 (τ (η (ε ((δ (k:Int))*1) (ak a)) .dead)))*2^(min (δ (n:Int)) (Xqe .u64))))))))]++ε (((0+(δ (k:Int)))*1)+1) cs)++ [.int .u32 (γ .u32 (Xq0 (γ .u64 ((γ .u64 (τ (η (ε ((δ (k:Int))*1) (ak a)) .dead)))*2^(min (δ (n:Int)) (Xqe .u64)))) (2^(min 32 64))))]++ε (((0+(δ (γ .i64 ((k:Int)+((1:Nat):Int)))))*1)+1) (μ ((0+(δ (k:Int)))*1) cs++ [.int .u32 (γ .u32 (Xxl (Xqh (Xqe .u32) (τ (η (ε ((0+(δ (k:Int)))*1) cs) .dead))|||Xqh (Xqe .u32) (γ .u32 (γ .u64 ((γ .u64 (τ (η (ε ((δ (k:Int))*1) (ak a)) .dead)))*2^(min (δ (n:Int)) (Xqe .u64))))))))]++ε (((0+(δ (k:Int)))*1)+1) cs)),0,false,0,1,true⟩)],.dead,[]⟩:=pJ 195 [] 1 1 (.c h0 (.c l (.c j (.k 1 m (.c b (.c d (.c h (.c b (.c d (.c o (.c g (.c b (.c i (.c c .nil)))))))))))))) (.nil) f
theorem TF {nt:Nat} (b:41≤nt) (a:List Nat) (c:Bool) (n M k:Nat) (cs:List AV) (h0:lit false (decide ((k:Int)<(a.length:Int)))=true):ψ nt f195 ⟨[(5,.ref 0 0 0 M),(1,ω (n:Int)),(13,.sl (ak a) a.length c),(14,ω (a.length:Int)),(15,ω (k:Int))],[(0,⟨cs,0,false,0,1,true⟩)],.dead,[]⟩ (.exit 0) ⟨[(5,.ref 0 0 0 M)],[(0,⟨cs,0,false,0,1,true⟩)],.dead,[]⟩:=pJ 195 [] 1 0 (.c h0 .nil) (.nil) b
theorem Rh {nt:Nat} (i:48≤nt) (a:List Nat) (c:Bool) (n M k:Nat) (cs:List AV) (h0:(Ξ (((0+(δ (k:Int)))*1)+1) (ζ (μ ((0+(δ (k:Int)))*1) cs++ [.int .u32 (Xq0 (τ (η (ε ((δ (k:Int))*1) (ak a)) .dead)) (2^(min (δ (n:Int)) (Xqe .u32))))]++ε (((0+(δ (k:Int)))*1)+1) cs)))=true) (b:(decide (((0:Nat):Int)≤(k:Int)))=true) (e:(decide ((k:Int)<(M:Int)))=true) (o:(decide (((0:Nat):Int)≤(γ .i64 (((32:Nat):Int) - (n:Int)))))=true) (p:(chk (.int .u32) (η (ε ((δ (γ .i64 ((k:Int)+((1:Nat):Int))))*1) (ak a)) .dead))=true) (r:(decide (((0:Nat):Int)≤(γ .i64 ((k:Int)+((1:Nat):Int)))))=true) (l:(decide ((γ .i64 ((k:Int)+((1:Nat):Int)))<(a.length:Int)))=true) (q:(chk (.int .u32) (η (ε ((0+(δ (k:Int)))*1) (μ ((0+(δ (k:Int)))*1) cs++ [.int .u32 (Xq0 (τ (η (ε ((δ (k:Int))*1) (ak a)) .dead)) (2^(min (δ (n:Int)) (Xqe .u32))))]++ε (((0+(δ (k:Int)))*1)+1) cs)) .dead))=true) (j:lit true (decide ((γ .i64 ((k:Int)+((1:Nat):Int)))<(a.length:Int)))=true) (m:(Ξ (((0+(δ (k:Int)))*1)+1) (ζ cs))=true) (g:(decide (((0:Nat):Int)≤(n:Int)))=true) (d:(chk (.int .u32) (η (ε ((δ (k:Int))*1) (ak a)) .dead))=true) (f:(decide ((k:Int)<(a.length:Int)))=true) (h:lit true (decide ((k:Int)<(a.length:Int)))=true):ψ nt f199 ⟨[(0,.sl (ak a) a.length c),(1,ω (n:Int)),(5,.ref 0 0 0 M),(11,.sl (ak a) a.length c),(12,ω (a.length:Int)),(13,ω (k:Int))],[(0,⟨cs,0,false,0,1,true⟩)],.dead,[]⟩ (.normal) ⟨[(0,.sl (ak a) a.length c),(1,ω (n:Int)),(5,.ref 0 0 0 M),(11,.sl (ak a) a.length c),(12,ω (a.length:Int)),(13,ω (γ .i64 ((k:Int)+((1:Nat):Int))))],[(0,⟨(μ ((0+(δ (k:Int)))*1) (μ ((0+(δ (k:Int)))*1) cs++ [.int .u32 (Xq0 (τ (η (ε ((δ (k:Int))*1) (ak a)) .dead)) (2^(min (δ (n:Int)) (Xqe .u32))))]++ε (((0+(δ (k:Int)))*1)+1) cs)++ [.int .u32 (γ .u32 (Xxl (Xqh (Xqe .u32) (τ (η (ε ((0+(δ (k:Int)))*1) (μ ((0+(δ (k:Int)))*1) cs++ [.int .u32 (Xq0 (τ (η (ε ((δ (k:Int))*1) (ak a)) .dead)) (2^(min (δ (n:Int)) (Xqe .u32))))]++ε (((0+(δ (k:Int)))*1)+1) cs)) .dead))|||Xqh (Xqe .u32) (γ .u32 (γ .u64 ((γ .u64 (τ (η (ε ((δ (γ .i64 ((k:Int)+((1:Nat):Int))))*1) (ak a)) .dead)))*2^(min (δ (γ .i64 (((32:Nat):Int) - (n:Int)))) (Xqe .u64))))))))]++ε (((0+(δ (k:Int)))*1)+1) (μ ((0+(δ (k:Int)))*1) cs++ [.int .u32 (Xq0 (τ (η (ε ((δ (k:Int))*1) (ak a)) .dead)) (2^(min (δ (n:Int)) (Xqe .u32))))]++ε (((0+(δ (k:Int)))*1)+1) cs)),0,false,0,1,true⟩)],.dead,[]⟩:=pJ 199 [] 2 3 (.c h0 (.c b (.c e (.c o (.c p (.c r (.c l (.c q (.c b (.c e (.c j (.c m (.c b (.c e (.c g (.c d (.c b (.c f (.c h .nil))))))))))))))))))) (.nil) i
theorem Ri {nt:Nat} (e:48≤nt) (a:List Nat) (b:Bool) (n M k:Nat) (cs:List AV) (h0:lit false (decide ((γ .i64 ((k:Int)+((1:Nat):Int)))<(a.length:Int)))=true) (i:(Ξ (((0+(δ (k:Int)))*1)+1) (ζ cs))=true) (c:(decide (((0:Nat):Int)≤(k:Int)))=true) (j:(decide ((k:Int)<(M:Int)))=true) (f:(decide (((0:Nat):Int)≤(n:Int)))=true) (g:(chk (.int .u32) (η (ε ((δ (k:Int))*1) (ak a)) .dead))=true) (h:(decide ((k:Int)<(a.length:Int)))=true) (d:lit true (decide ((k:Int)<(a.length:Int)))=true):ψ nt f199 ⟨[(0,.sl (ak a) a.length b),(1,ω (n:Int)),(5,.ref 0 0 0 M),(11,.sl (ak a) a.length b),(12,ω (a.length:Int)),(13,ω (k:Int))],[(0,⟨cs,0,false,0,1,true⟩)],.dead,[]⟩ (.normal) ⟨[(0,.sl (ak a) a.length b),(1,ω (n:Int)),(5,.ref 0 0 0 M),(11,.sl (ak a) a.length b),(12,ω (a.length:Int)),(13,ω (γ .i64 ((k:Int)+((1:Nat):Int))))],[(0,⟨(μ ((0+(δ (k:Int)))*1) cs++ [.int .u32 (Xq0 (τ (η (ε ((δ (k:Int))*1) (ak a)) .dead)) (2^(min (δ (n:Int)) (Xqe .u32))))]++ε (((0+(δ (k:Int)))*1)+1) cs),0,false,0,1,true⟩)],.dead,[]⟩:=pJ 199 [] 2 1 (.c h0 (.c i (.c c (.c j (.c f (.c g (.c c (.c h (.c d .nil))))))))) (.nil) e
theorem Rj {nt:Nat} (c:48≤nt) (a:List Nat) (b:Bool) (n M k:Nat) (cs:List AV) (h0:lit false (decide ((k:Int)<(a.length:Int)))=true):ψ nt f199 ⟨[(0,.sl (ak a) a.length b),(1,ω (n:Int)),(5,.ref 0 0 0 M),(11,.sl (ak a) a.length b),(12,ω (a.length:Int)),(13,ω (k:Int))],[(0,⟨cs,0,false,0,1,true⟩)],.dead,[]⟩ (.exit 0) ⟨[(5,.ref 0 0 0 M)],[(0,⟨cs,0,false,0,1,true⟩)],.dead,[]⟩:=pJ 199 [] 1 0 (.c h0 .nil) (.nil) c
def mJ (b:Nat):List Nat→List Nat→Nat→List Nat × Nat
 | [],q,r=>(q,r)
 |x::l,q,r=>mJ b l ((4294967296*r+x) / b::q) ((4294967296*r+x) % b)
theorem Ff {b r x:Nat} (c:0<b) (a:r<b) (e:x<4294967296):(4294967296*r+x) / b<4294967296:=by
 rw [Xqt c];have d:4294967296*(r+1)≤4294967296*b:=Xq6 _ a;omega
theorem Xa {b r x v:Nat}:((4294967296*r+x) / b+4294967296*v)*b+(4294967296*r+x) % b=4294967296*(v*b+r)+x:=by
 have a:=Xxc (4294967296*r+x) b;generalize (4294967296*r+x) / b=y at*
 generalize (4294967296*r+x) % b=z at*
 rw [Xxp,Xqp,Xqa y b];omega
theorem OG {b:Nat} (e:0<b) (l:List Nat):∀ (q:List Nat) (r:Nat),r<b→bZ l→bZ q→
  (mJ b l q r).2<b∧bZ (mJ b l q r).1∧(mJ b l q r).1.length=q.length+l.length∧aK (mJ b l q r).1*b+(mJ b l q r).2=4294967296^l.length*(aK q*b+r)+aK l.reverse:=by
 induction l with
 |nil=>
  intro q r c _ a;refine ⟨c,a,rfl, ?_⟩;simp only [mJ,Δ,Xva,Xwj,Xwu,aK,Xq5]
 |cons x l ih=>
  intro q r c d a;obtain ⟨h,f,g,i⟩:=ih ((4294967296*r+x) / b::q) ((4294967296*r+x) % b) (Xqw _ e) d.tail (a.cons (Ff e c d.head));refine ⟨h,f, ?_, ?_⟩
  ·simp only [mJ];rw [g,ν,ν];omega
  simp only [mJ];rw [i,Xj3,mg,Xj4,ν,Xq3];simp only [aK,Xjd,Xq5];rw [Xa,Xxa,Xqp];omega
def S_ (a:List Nat) (nn:Bool) (b:Nat) (k:Nat) (q:List Nat) (r:Nat):St:=⟨[(0,.sl (ak a) a.length nn),(1,.int .u32 (b:Int)),(6,.ref 0 0 0 a.length),(7,.int .u64 (r:Int)),(8,ω ((k:Int) - 1))],[(0,⟨ak (κ k 0++q),0,false,0,1,true⟩)],.dead,[]⟩
theorem OH {nt:Nat} (i:44≤nt) (a:List Nat) (e:Bool) (b:Nat) (g:0<b) (p:b<4294967296) (w:a.length<2^40) (f:bZ a):
  ∀ (l q d:List Nat) (r:Nat),r<b→l.reverse++d=a→q.length=d.length→aF prog ap [] nt (ae 0 (af f193)) (fun _=> .exit 0) (fun (x:Nat × List Nat × Nat)=>S_ a e b x.1 x.2.1 x.2.2) (fun (x:List Nat × Nat)=>S_ a e b 0 x.1 x.2) (l.length,q,r) (mJ b l q r):=by
 intro l
 induction l with
 |nil=>
  intro q d r n hd j;have hbody:=Td i a e b r a.length (-1) (ak q) rfl;exact .done (by simpa [S_,mJ] using hbody)
 | cons x l ih=>
  intro q d r n hd j;have o:x<4294967296:=f x (by rw [← hd];simp);have m:l.length+1+d.length=a.length:=by rw [← hd];simp;omega
  refine .next ?_ (ih ((4294967296*r+x) / b::q) (x::d) ((4294967296*r+x) % b) (Xqw _ g) (by rw [← hd];simp) (by simp [j]))
  have hbody:=Tc i a e b r a.length (l.length:Int) (ak (κ l.length 0++0::q));have c:η (ε l.length (ak a)) .dead= .int .u32 (x:Int):=by
   rw [← hd,Xj3,Ψ];exact jU (by simp)
  have v:(((x::l).length:Nat):Int) - 1=(l.length:Int):=by simp
  have t:κ (x::l).length 0++q=κ l.length 0++0::q:=by rw [ν,Xzg,Ψ];rfl
  have h:4294967296*r|||x=4294967296*r+x:=by
   have:=zQ (a:=r) (b:=x) (k:=32) o;rwa [ni,Xqa] at this
  have u:=Ff g n o;have s:=Xqw (4294967296*r+x) g;simp (disch:=first|omega|(simp [au,az]<;>omega)) only [aA,χ,υ,au,θ,Xq8,ν,fH,bu,dI,aY,oK,φ,jJ,dY,eY,c,jT,bF,qH,C9,ni,bf,V_,h,xg,pO,qP,lS] at hbody;rw [dL (by omega) (by omega)] at hbody;simp only [S_,v,t];exact hbody (by omega) (by omega) (by omega) (by omega) trivial (by omega) (by omega)
theorem Ed {n:Nat} (h:n<2^40):γ .i64 ((n:Int) - ((1:Nat):Int))=(n:Int) - 1:=dL (by omega) (by omega)
theorem abE (q:List Nat) (a:Bool) (x:Nat) (b:fC q=digs x) (h:q.length<2^40):CO 161 [.sl (ak q) q.length a] (.ret (.sl (ak (digs x)) (digs x).length a)):=by
 have:=O0 q a h;rwa [b] at this
theorem Md {l:List Nat} {n:Nat} (h:l.length=n):μ (n*1) (ak l)=ak l:=by
 rw [υ,Xqd (by rw [au,h];exact Θ _)]
theorem A_ (q:List Nat) (n x:Nat) (a:q.length=n) (b:fC q=digs x) (h:n<2^40):CO 161 [.sl (μ (n*1) (ak q)) n true] (.ret (.sl (ak (digs x)) (digs x).length true)):=by
 rw [Md a];subst a;exact abE q true x b h
theorem Gi (n:Nat):κ n 0++([]:List Nat)=κ n 0:=Γ _
theorem aas (a:List Nat) (c:Bool) (b:Nat) (q:List Nat) (r x:Nat) (e:a.length<2^40) (d:q.length=a.length) (f:fC q=digs x) (hloop:∀ nt,44≤nt→aF prog ap [] nt (ae 0 (af f193)) (fun _=> .exit 0) (fun (x:Nat × List Nat × Nat)=>S_ a c b x.1 x.2.1 x.2.2) (fun (x:List Nat × Nat)=>S_ a c b 0 x.1 x.2) (a.length,[],0) (q,r)) (h0:(decide (((0:Nat):Int)≤(a.length:Int)))=true) (h:(decide ((a.length:Int)=(a.length:Int)))=true) (g:(decide ((a.length:Int)≤((1099511627776:Nat):Int)))=true):CO 193 [.sl (ak a) a.length c,.int .u32 (b:Int)] (.ret (.tup [.sl (ak (digs x)) (digs x).length true,.int .u32 (γ .u32 (r:Int))])):=pK [0] 0 0 (.c h0 (.c h (.c g .nil))) (.c (A_ q _ x d f e) (.l (by rw [aA,pz,← Gi];exact aF.blk hloop (by simp) rfl (aJ.of ⟨rfl,rfl,rfl,rfl,congrArg (Xxr .i64) (Ed e),trivial⟩) (aJ.of ⟨rfl,rfl,trivial⟩):aI prog ap [] 44 (.block 0 (.loop (ae 0 (af f193)))) ⟨[(0,.sl (ak a) a.length c),(1,.int .u32 (b:Int)),(4,.nilS),(5,.int .u32 0),(6,.ref 0 0 0 (δ (a.length:Int))),(7,.int .u64 0),(8,ω (γ .i64 ((a.length:Int) - ((1:Nat):Int)))),(9,.dead),(17,.dead)],[(0,⟨(gp (δ (a.length:Int)) [.int .u32 0]),0,false,0,1,true⟩)],.dead,[]⟩ (.normal) ⟨[(6,.ref 0 0 0 a.length),(7,.int .u64 (r:Int))],[(0,⟨(ak q),0,false,0,1,true⟩)],.dead,[]⟩) .nil))
theorem Xb (a:List Nat) (h:Bool) (b:Nat) (d:0<b) (f:b<4294967296) (m:a.length<2^40) (c:bZ a):CO 193 [.sl (ak a) a.length h,.int .u32 (b:Int)] (.ret (.tup [.sl (ak (digs (aK a / b))) (digs (aK a / b)).length true,.int .u32 ((aK a % b:Nat):Int)])):=by
 have g:bZ a.reverse:=fun x t=>c x (List.mem_reverse.1 t)
 obtain ⟨i,n,j,e⟩:=OG d a.reverse [] 0 d g bZ.nil;rw [Xj4,Δ,χ] at j;simp only [aK,Xzl,Xjd,χ,Xq5,List.reverse_reverse] at e;have l:=fun nt (hn:44≤nt)=>OH hn a h b d f m c a.reverse [] [] 0 d (by simp) rfl
 rw [Xj4] at l;generalize hp:mJ b a.reverse [] 0=p at*
 obtain ⟨q,r⟩:=p;simp only at i n j e;have o:aK q=aK a / b:=by rw [← e,Xqa,Nat.mul_add_div d,Xx4 i,Xq5]
 have s:r=aK a % b:=by rw [← e,Xqa,Nat.mul_add_mod,φ i]
 have k:=aas a h b q r (aK a / b) m j (by rw [jR n,o]) l (Yq0 (by omega)) (Yq0 rfl) (Yq0 (by omega));rw [qP,φ (by omega),s] at k;exact k
def MI (n c:Nat):List Nat→List Nat
 | []=> [c]
 |x::l=>(c+2^n*x % 4294967296)::MI n (2^n*x / 4294967296) l
theorem sG (n:Nat) (l:List Nat):∀ c,(MI n c l).length=l.length+1:=by
 induction l with
 |nil=>intro c;rfl
 |cons x l ih=>intro c;simp only [MI,ν,ih]
theorem QI (n:Nat) (l:List Nat):∀ c,aK (MI n c l)=c+2^n*aK l:=by
 induction l with
 |nil=>intro c;simp only [MI,aK,Xjd]
 |cons x l ih=>
  intro c;simp only [MI,aK,ih,Xxa];have h:=Xxc (2^n*x) 4294967296;rw [← Xqp 4294967296 (2^n),← Xqp (2^n) 4294967296,Xqa (2^n) 4294967296];omega
theorem zZ {n x:Nat} (c:n≤31) (g:x<4294967296):2^n*x<18446744073709551616∧2^n*x / 4294967296<2^n∧2^n*x % 4294967296=2^n*(x % 2^(32 - n))∧2^n*x % 4294967296+2^n≤4294967296∧2^n≤2147483648:=by
 have hp:(2:Nat)^n*2^(32 - n)=4294967296:=by rw [← Xxn,show n+(32 - n)=32 by omega,ni]
 have e:2^n≤2147483648:=Xxm (Xqj (by omega) c) (by decide);have h:2^n*x≤2^n*4294967295:=Xq6 _ (by omega);have b:2^n*x % 4294967296=2^n*(x % 2^(32 - n)):=by rw [← hp,Xw0]
 have d:x % 2^(32 - n)+1≤2^(32 - n):=Xqw _ (Xqu _);have a:2^n*(x % 2^(32 - n)+1)≤2^n*2^(32 - n):=Xq6 _ d;rw [hp,Xxa,υ,← b] at a;have f:2^n*x / 4294967296<2^n:=by
  rw [Xqt (by omega)];exact Xj7 g (Xqu _)
 exact ⟨by omega,f,b,a,e⟩
theorem aeH {n x c:Nat} (a:n≤31) (d:x<4294967296) (b:c<2^n):c|||2^n*x % 4294967296=c+2^n*x % 4294967296:=by
 rw [(zZ a d).2.2.1,Yqa,Xqa,zQ b,Xx9]
theorem QH {n:Nat} (a:n≤31) (l:List Nat):∀ c,c<2^n→bZ l→bZ (MI n c l):=by
 induction l with
 |nil=>
  intro c d _;have g:2^n≤2147483648:=Xxm (Xqj (by omega) a) (by decide);exact bZ.cons (by omega) bZ.nil
 |cons x l ih=>
  intro c d b;obtain ⟨_,e,_,f,_⟩:=zZ a b.head;exact bZ.cons (by omega) (ih _ e b.tail)
theorem WX {p s:List Nat} {v x y k:Nat} (h:k=p.length+1):μ k (ak (p++v::x::s))++ [Xxr .u32 (y:Int)]++ε (k+1) (ak (p++v::x::s))=ak (p++v::y::s):=by
 have:=lS (p:=p++ [v]) (s:=s) (x:=x) (y:=y) (k:=k) (by simpa using h);simpa using this
def akj (a:List Nat) (nn:Bool) (n:Nat) (k:Nat) (o:List Nat):St:=⟨[(5,.ref 0 0 0 (a.length+1)),(1,ω (n:Int)),(13,.sl (ak a) a.length nn),(14,ω (a.length:Int)),(15,ω (k:Int))],[(0,⟨ak o,0,false,0,1,true⟩)],.dead,[]⟩
def abG (a o:List Nat):St:=⟨[(5,.ref 0 0 0 (a.length+1))],[(0,⟨ak o,0,false,0,1,true⟩)],.dead,[]⟩
theorem aaO {nt:Nat} (j:41≤nt) (a:List Nat) (g:Bool) (n:Nat) (b:n≤31) (v:a.length<2^40) (f:bZ a):
  ∀ (l d o:List Nat) (c:Nat),c<2^n→d++l=a→o.length=d.length→aF prog ap [] nt (ae 0 (af f195)) (fun _=> .exit 0) (fun (x:Nat × List Nat)=>akj a g n x.1 x.2) (abG a) (d.length,o++c::κ l.length 0) (o++MI n c l):=by
 intro l
 induction l with
 |nil=>
  intro d o c p hd k;have i:d=a:=by simpa using hd
  have hbody:=TF j a g n (a.length+1) a.length (ak (o++ [c])) (by rw [aY];simp [lit]);rw [i];exact .done hbody
 | cons x l ih=>
  intro d o c p hd k;have m:d.length+(l.length+1)=a.length:=by rw [← hd];simp
  have q:x<4294967296:=f x (by rw [← hd];simp);obtain ⟨u,r,s,w,t⟩:=zZ b q;have hnext:=ih (d++ [x]) (o++ [c+2^n*x % 4294967296]) (2^n*x / 4294967296) r (by rw [← hd];simp) (by simp [k]);rw [θ,Ψ,Ψ] at hnext;refine .next ?_ hnext
  have h:=aeH b q p;have hbody:=TE j a g n (a.length+1) d.length (ak (o++c::0::κ l.length 0));have e:η (ε d.length (ak a)) .dead= .int .u32 (x:Int):=by
   rw [← hd];exact jU rfl
  simp (disch:=first|omega|(simp [au,az]<;>omega)) only [bW,aX,aA,χ,υ,jU,bf,e,oK,φ,P8,C9,qP,ahY,h,lS,au,θ,ν,Xq8,fH,bu,dI,aY,jT,bF,qH,lm,ni,WX] at hbody;exact hbody (by omega) (by omega) (by omega) (by omega) (by omega) (by omega) trivial (by omega) trivial (by omega) (by omega)
def yA (n:Nat):List Nat→List Nat
 | []=> []
 |x::l=>(x / 2^n+2^(32 - n)*l.headD 0 % 4294967296)::yA n l
theorem IG (n:Nat) (l:List Nat):(yA n l).length=l.length:=by
 induction l with
 |nil=>rfl
 |cons x l ih=>simp only [yA,ν,ih]
theorem Su {n:Nat} (a:n≤31):(2:Nat)^(32 - n)*2^n=4294967296:=by rw [← Xxn,show 32 - n+n=32 by omega,ni]
theorem Y4 {n:Nat} (a:n≤31) (l:List Nat):aK l % 2^n=l.headD 0 % 2^n:=by
 cases l with
 |nil=>rfl
 |cons h l=>
  simp only [aK,Xje];rw [← Su a,Xqa (2^(32 - n)),Xqp,Xze]
theorem Dw {n h:Nat} (a:n≤31):2^(32 - n)*h % 4294967296=2^(32 - n)*(h % 2^n):=by
 rw [← Su a,Xw0]
theorem Rl {n:Nat} (a:n≤31) (l:List Nat):aK (yA n l)=aK l / 2^n:=by
 induction l with
 |nil=>simp [yA,aK]
 | cons x l ih=>
  simp only [yA,aK];rw [ih,Dw a,← Y4 a];have c:=Xxc (aK l) (2^n);have b:x+4294967296*aK l=x+2^n*(2^(32 - n)*aK l):=by rw [← Xqp,Xqa (2^n),Su a]
  rw [b,Xz6 _ _ (Xqu _)];have d:2^(32 - n)*aK l=4294967296*(aK l / 2^n)+2^(32 - n)*(aK l % 2^n):=by
   rw [← Su a,Xqp,← Xxa,c]
  omega
theorem abd {n x:Nat} (b:n≤31) (a:x<4294967296):x / 2^n<2^(32 - n):=by
 rw [Xqt (Xqu _),Su b];exact a
theorem agm {n x h:Nat} (a:n≤31) (b:x<4294967296):x / 2^n|||2^(32 - n)*h % 4294967296=x / 2^n+2^(32 - n)*h % 4294967296:=by
 rw [Dw a,Yqa,Xqa (2^(32 - n)),zQ (abd a b),Xx9]
theorem UL {n x h:Nat} (a:n≤31) (d:x<4294967296):x / 2^n+2^(32 - n)*h % 4294967296<4294967296:=by
 rw [Dw a];have c:h % 2^n+1≤2^n:=Xqw _ (Xqu _);have b:2^(32 - n)*(h % 2^n+1)≤2^(32 - n)*2^n:=Xq6 _ c;rw [Su a,Xxa,υ] at b;have:=abd a d;omega
theorem Rk {n:Nat} (a:n≤31) (l:List Nat):bZ l→bZ (yA n l):=by
 induction l with
 |nil=>exact fun h=>h
 |cons x l ih=>exact fun h=>bZ.cons (UL a h.head) (ih h.tail)
def agl (a:List Nat) (nn:Bool) (n:Nat) (k:Nat) (o:List Nat):St:=⟨[(0,.sl (ak a) a.length nn),(1,ω (n:Int)),(5,.ref 0 0 0 a.length),(11,.sl (ak a) a.length nn),(12,ω (a.length:Int)),(13,ω (k:Int))],[(0,⟨ak o,0,false,0,1,true⟩)],.dead,[]⟩
def abb (a o:List Nat):St:=⟨[(5,.ref 0 0 0 a.length)],[(0,⟨ak o,0,false,0,1,true⟩)],.dead,[]⟩
theorem Yq {nt:Nat} (i:48≤nt) (a:List Nat) (g:Bool) (n:Nat) (e:n≤31) (v:a.length<2^40) (f:bZ a):
  ∀ (l d o:List Nat),d++l=a→o.length=d.length→aF prog ap [] nt (ae 0 (af f199)) (fun _=> .exit 0) (fun (x:Nat × List Nat)=>agl a g n x.1 x.2) (abb a) (d.length,o++κ l.length 0) (o++yA n l):=by
 intro l
 induction l with
 |nil=>
  intro d o hd m;have j:d=a:=by simpa using hd
  have hbody:=Rj i a g n a.length a.length (ak (o++ [])) (by rw [aY];simp [lit]);rw [j];exact .done hbody
 | cons x l ih=>
  intro d o hd m;have b:d.length+(l.length+1)=a.length:=by rw [← hd];simp
  have q:x<4294967296:=f x (by rw [← hd];simp);have hnext:=ih (d++ [x]) (o++ [x / 2^n+2^(32 - n)*l.headD 0 % 4294967296]) (by rw [← hd];simp) (by simp [m]);rw [θ,Ψ,Ψ] at hnext;refine .next ?_ hnext
  have c:η (ε d.length (ak a)) .dead= .int .u32 (x:Int):=by
   rw [← hd];exact jU rfl
  have r:x / 2^n≤x:=Xzz _ _;cases l with
  |nil=>
   have hbody:=Ri i a g n a.length d.length (ak (o++0::κ 0 0));simp only [Δ] at b;simp (disch:=first|omega|(simp [au,az]<;>omega)) only [bW,aX,aY,dP,dY,eY,aA,χ,υ,au,θ,ν,Xq8,fH,bu,dI,c,jT,bF,bf,P7,lm,lS] at hbody;simp only [List.headD_nil,Xjd,Nat.zero_mod,Xq5];exact hbody (by omega) (by omega) (by omega) (by omega) (by omega) trivial (by omega) (by omega)
  | cons y l=>
   have u:y<4294967296:=f y (by rw [← hd];simp);simp only [ν] at b;have hget1:η (ε (d.length+1) (ak a)) .dead= .int .u32 (y:Int):=by
    rw [← hd,show d++x::y::l=(d++ [x])++y::l by simp];exact jU (by simp)
   have k:=agm (h:=y) e q;have p:=UL (h:=y) e q;have t:2^(32 - n)*y<18446744073709551616:=by
    have s:2^(32 - n)≤4294967296:=Xxm (Xqj (by omega) (show 32 - n≤32 by omega)) (by decide);have w:2^(32 - n)*y≤4294967296*y:=Xqv _ s;omega
   have hbody:=Rh i a g n a.length d.length (ak (o++0::κ (y::l).length 0));simp (disch:=first|omega|(simp [au,az]<;>omega)) only [aA,χ,υ,ν,c,bf,P7,lm,lS,au,θ,Xq8,fH,bu,dI,aY,jV,bW,aX,hget1,jT,jU,bF,oK,φ,P8,C9,qP,ahY,k] at hbody;exact hbody (by omega) (by omega) (by omega) (by omega) trivial (by omega) (by omega) trivial (by omega) (by omega) (by omega) trivial (by omega) (by omega)
theorem ap3 (a:List Nat) (b:Bool) (n:Nat) (q:List Nat) (e:a.length<2^40) (hloop:∀ nt,41≤nt→aF prog ap [] nt (ae 0 (af f195)) (fun _=> .exit 0) (fun (x:Nat × List Nat)=>akj a b n x.1 x.2) (abG a) (0,κ (a.length+1) 0) (q)) (h0:(decide (((0:Nat):Int)≤(γ .i64 ((a.length:Int)+((1:Nat):Int)))))=true) (d:(decide ((γ .i64 ((a.length:Int)+((1:Nat):Int)))=(γ .i64 ((a.length:Int)+((1:Nat):Int)))))=true) (c:(decide ((γ .i64 ((a.length:Int)+((1:Nat):Int)))≤((1099511627776:Nat):Int)))=true):CO 195 [.sl (ak a) a.length b,ω (n:Int)] (.ret (.own (μ ((a.length+1)*1) (ak q)) (a.length+1) 1)):=pK [0] 0 0 (.c h0 (.c d (.c c .nil))) (.l (by rw [bW,aX (by omega),aA,pz];exact aF.blk hloop (by simp) rfl (aJ.of ⟨rfl,rfl,rfl,rfl,rfl,trivial⟩) (aJ.of ⟨rfl,trivial⟩):aI prog ap [] 41 (.block 0 (.loop (ae 0 (af f195)))) ⟨[(0,.sl (ak a) a.length b),(1,ω (n:Int)),(4,.nilS),(5,.ref 0 0 0 (δ (γ .i64 ((a.length:Int)+((1:Nat):Int))))),(6,.dead),(7,.dead),(8,.dead),(13,.sl (ak a) a.length b),(14,ω (a.length:Int)),(15,ω 0),(16,.dead)],[(0,⟨(gp (δ (γ .i64 ((a.length:Int)+((1:Nat):Int)))) [.int .u32 0]),0,false,0,1,true⟩)],.dead,[]⟩ (.normal) ⟨[(5,.ref 0 0 0 (a.length+1))],[(0,⟨(ak q),0,false,0,1,true⟩)],.dead,[]⟩) .nil)
theorem abH (a:List Nat) (d:Bool) (n:Nat) (e:n≤31) (f:a.length<2^39) (c:bZ a):CO 195 [.sl (ak a) a.length d,ω (n:Int)] (.ret (.own (ak (MI n 0 a)) (a.length+1) 1)):=by
 have h:=ap3 a d n (MI n 0 a) (by omega) (fun nt b=>aaO b a d n e (by omega) c a [] [] 0 (Xqu _) rfl rfl);rw [Md (sG n a 0),bW,aX (by omega)] at h;exact h (Yq0 (by omega)) (Yq0 rfl) (Yq0 (by omega))
theorem acp (a:List Nat) (b:Bool) (n x:Nat) (q:List Nat) (d:a.length<2^40) (c:q.length=a.length) (e:fC q=digs x) (hloop:∀ nt,48≤nt→aF prog ap [] nt (ae 0 (af f199)) (fun _=> .exit 0) (fun (x:Nat × List Nat)=>agl a b n x.1 x.2) (abb a) (0,κ a.length 0) (q)) (h0:(decide (((0:Nat):Int)≤(a.length:Int)))=true) (g:(decide ((a.length:Int)=(a.length:Int)))=true) (f:(decide ((a.length:Int)≤((1099511627776:Nat):Int)))=true):CO 199 [.sl (ak a) a.length b,ω (n:Int)] (.ret (.sl (ak (digs x)) (digs x).length true)):=pK [0] 0 0 (.c h0 (.c g (.c f .nil))) (.c (A_ q _ x c e d) (.l (by rw [aA,pz];exact aF.blk hloop (by simp) rfl (aJ.of ⟨rfl,rfl,rfl,rfl,rfl,rfl,trivial⟩) (aJ.of ⟨rfl,trivial⟩):aI prog ap [] 48 (.block 0 (.loop (ae 0 (af f199)))) ⟨[(0,.sl (ak a) a.length b),(1,ω (n:Int)),(4,.nilS),(5,.ref 0 0 0 (δ (a.length:Int))),(6,.dead),(7,.dead),(11,.sl (ak a) a.length b),(12,ω (a.length:Int)),(13,ω 0),(14,.dead),(28,.dead)],[(0,⟨(gp (δ (a.length:Int)) [.int .u32 0]),0,false,0,1,true⟩)],.dead,[]⟩ (.normal) ⟨[(5,.ref 0 0 0 a.length)],[(0,⟨(ak q),0,false,0,1,true⟩)],.dead,[]⟩) .nil))
theorem Yr (a:List Nat) (e:Bool) (n:Nat) (c:n≤31) (f:a.length<2^40) (b:bZ a):CO 199 [.sl (ak a) a.length e,ω (n:Int)] (.ret (.sl (ak (digs (aK a / 2^n))) (digs (aK a / 2^n)).length true)):=
 acp a e n _ (yA n a) f (IG n a) (by rw [jR (Rk c a b),Rl c]) (fun nt d=>Yq d a e n c f b a [] [] rfl rfl) (Yq0 (by omega)) (Yq0 rfl) (Yq0 (by omega))
def fE (x:Nat):Nat:=if x=0 then 0 else Yxz x+1
theorem Y0 {x m:Nat} (h:2^m≤x) (a:x<2^(m+1)):fE x=m+1:=by
 have h0:x ≠ 0:=by have:=Xqu m;omega
 unfold fE;rw [if_neg h0,(Yqe h0).2 ⟨h,a⟩]
theorem zI {x:Nat} (h:0<x):∃ m,fE x=m+1∧2^m≤x∧x<2^(m+1):=by
 have h0:x ≠ 0:=by omega
 have:=(Yqe (k:=Yxz x) h0).1 rfl;exact ⟨Yxz x,by unfold fE;rw [if_neg h0],this.1,this.2⟩
theorem D_ {x y:Nat} (k:Nat) (d:0<x) (e:y<2^k):fE (2^k*x+y)=k+fE x:=by
 obtain ⟨m,b,a,c⟩:=zI d;rw [b,← Xza];apply Y0
 ·rw [Xxn];exact Xxm (Xq6 _ a) (Nat.le_add_right _ _)
 ·rw [Xza,Xxn];have:2^k*(x+1)≤2^k*2^(m+1):=Xq6 _ c;rw [Xxa,υ] at this;omega
theorem uz {x k:Nat} (h:2^k≤x):fE x=k+fE (x / 2^k):=by
 have b:=Xxc x (2^k);have a:0<x / 2^k:=Xvl h (Xqu _);have:=D_ (x:=x / 2^k) (y:=x % 2^k) k a (Xqw _ (Xqu _));rwa [b] at this
theorem pg {x k:Nat} (h:x<2^k):fE x≤k:=by
 rcases Xqb x with rfl|hx
 ·exact Xxq _
 ·obtain ⟨m,c,b,_⟩:=zI hx;have:=(Nat.pow_lt_pow_iff_right (a:=2) (by omega)).1 (Xq7 b h);omega
def Ti:List UInt8:= [0,1,2,2,3,3,3,3,4,4,4,4,4,4,4,4,5,5,5,5,5,5,5,5,5,5,5,5,5,5,5,5,6,6,6,6,6,6,6,6,6,6,6,6,6,6,6,6,6,6,6,6,6,6,6,6,6,6,6,6,6,6,6,6,7,7,7,7,7,7,7,7,7,7,7,7,7,7,7,7,7,7,7,7,7,7,7,7,7,7,7,7,7,7,7,7,7,7,7,7,7,7,7,7,7,7,7,7,7,7,7,7,7,7,7,7,7,7,7,7,7,7,7,7,7,7,7,7,8,8,8,8,8,8,8,8,8,8,8,8,8,8,8,8,8,8,8,8,8,8,8,8,8,8,8,8,8,8,8,8,8,8,8,8,8,8,8,8,8,8,8,8,8,8,8,8,8,8,8,8,8,8,8,8,8,8,8,8,8,8,8,8,8,8,8,8,8,8,8,8,8,8,8,8,8,8,8,8,8,8,8,8,8,8,8,8,8,8,8,8,8,8,8,8,8,8,8,8,8,8,8,8,8,8,8,8,8,8,8,8,8,8,8,8,8,8,8,8,8,8,8,8,8,8,8,8]
theorem Xf:∀ i:Fin 256,(Ti.getD i.val 0).toNat=fE i.val:=by decide
theorem Cc {i:Nat} (h:i<256):(Ti.getD i 0).toNat=fE i:=Xf ⟨i,h⟩
theorem YW (x:Nat) (h0:(decide (((0:Nat):Int)≤(γ .u8 (Xq0 (Xq0 (x:Int) (2^(min 16 32))) (2^(min 8 32))))))=true) (b:(decide ((γ .u8 (Xq0 (Xq0 (x:Int) (2^(min 16 32))) (2^(min 8 32))))<((256:Nat):Int)))=true) (a:lit true (decide (((256:Nat):Int)≤(Xq0 (x:Int) (2^(min 16 32)))))=true) (c:lit true (decide (((65536:Nat):Int)≤(x:Int)))=true):CO 140 [.int .u32 (x:Int)] (.ret (ω (γ .i64 (((24:Nat):Int)+(γ .i64 ((Φ (Xql Ti (δ (γ .u8 (Xq0 (Xq0 (x:Int) (2^(min 16 32))) (2^(min 8 32))))) 0):Nat):Int)))))):=pK [] 2 3 (.c h0 (.c b (.k 1 a (.k 1 c .nil)))) (.nil)
theorem YX (x:Nat) (h0:(decide (((0:Nat):Int)≤(γ .u8 (Xq0 (x:Int) (2^(min 16 32))))))=true) (b:(decide ((γ .u8 (Xq0 (x:Int) (2^(min 16 32))))<((256:Nat):Int)))=true) (a:lit false (decide (((256:Nat):Int)≤(Xq0 (x:Int) (2^(min 16 32)))))=true) (c:lit true (decide (((65536:Nat):Int)≤(x:Int)))=true):CO 140 [.int .u32 (x:Int)] (.ret (ω (γ .i64 (((16:Nat):Int)+(γ .i64 ((Φ (Xql Ti (δ (γ .u8 (Xq0 (x:Int) (2^(min 16 32))))) 0):Nat):Int)))))):=pK [] 2 1 (.c h0 (.c b (.c a (.k 1 c .nil)))) (.nil)
theorem YY (x:Nat) (h0:(decide (((0:Nat):Int)≤(γ .u8 (Xq0 (x:Int) (2^(min 8 32))))))=true) (b:(decide ((γ .u8 (Xq0 (x:Int) (2^(min 8 32))))<((256:Nat):Int)))=true) (a:lit true (decide (((256:Nat):Int)≤(x:Int)))=true) (c:lit false (decide (((65536:Nat):Int)≤(x:Int)))=true):CO 140 [.int .u32 (x:Int)] (.ret (ω (γ .i64 (((8:Nat):Int)+(γ .i64 ((Φ (Xql Ti (δ (γ .u8 (Xq0 (x:Int) (2^(min 8 32))))) 0):Nat):Int)))))):=pK [] 2 2 (.c h0 (.c b (.k 1 a (.c c .nil)))) (.nil)
theorem YZ (x:Nat) (h0:(decide (((0:Nat):Int)≤(γ .u8 (x:Int))))=true) (b:(decide ((γ .u8 (x:Int))<((256:Nat):Int)))=true) (a:lit false (decide (((256:Nat):Int)≤(x:Int)))=true) (c:lit false (decide (((65536:Nat):Int)≤(x:Int)))=true):CO 140 [.int .u32 (x:Int)] (.ret (ω (γ .i64 (((0:Nat):Int)+(γ .i64 ((Φ (Xql Ti (δ (γ .u8 (x:Int))) 0):Nat):Int)))))):=pK [] 2 0 (.c h0 (.c b (.c a (.c c .nil)))) (.nil)
theorem adc:(2:Nat)^16=65536:=by decide
theorem p_8:(2:Nat)^8=256:=by decide
theorem KN (x:Nat) (d:x<4294967296):CO 140 [.int .u32 (x:Int)] (.ret (ω ((fE x:Nat):Int))):=by
 by_cases h1:65536≤x
 ·have b:=uz (k:=16) h1;rw [adc] at b;by_cases h2:256≤x / 65536
  ·have a:=uz (k:=8) h2;rw [p_8] at a;have h:=YW x;simp (disch:=first|omega|(simp [au,az]<;>omega)) only [qH,lm,adc,p_8,w8u,φ,dI,bu,aY,bF,aA,Cc] at h;have c:fE (x / 65536 / 256)≤8:=pg (by omega);rw [aX (by omega),bW,aX (by omega)] at h;rw [b,a,← Xza];exact h (by omega) (by omega) (by omega) (by omega)
  ·have h:=YX x;simp (disch:=first|omega|(simp [au,az]<;>omega)) only [qH,lm,adc,w8u,φ,dI,bu,aY,dP,dY,eY,bF,aA,Cc] at h;have c:fE (x / 65536)≤8:=pg (by omega);rw [aX (by omega),bW,aX (by omega)] at h;rw [b];exact h (by omega) (by omega) (by omega) (by omega)
 ·by_cases h2:256≤x
  ·have a:=uz (k:=8) h2;rw [p_8] at a;have h:=YY x;simp (disch:=first|omega|(simp [au,az]<;>omega)) only [qH,lm,p_8,w8u,φ,dI,bu,aY,bF,dP,dY,eY,aA,Cc] at h;have c:fE (x / 256)≤8:=pg (by omega);rw [aX (by omega),bW,aX (by omega)] at h;rw [a];exact h (by omega) (by omega) (by omega) (by omega)
  ·have h:=YZ x;simp (disch:=first|omega|(simp [au,az]<;>omega)) only [w8u,φ,dI,bu,aY,dP,dY,eY,aA,Cc] at h;have c:fE x≤8:=pg (by omega);rw [aX (by omega),bW,aX (by omega),χ] at h;exact h (by omega) (by omega) (by omega) (by omega)
theorem acY (x:Nat) (a:x<4294967296):CO 194 [.int .u32 (x:Int)] (.ret (ω (γ .i64 (((32:Nat):Int) - ((fE x:Nat):Int))))):=pK [] 0 0 .nil (.c (KN x a) .nil)
theorem Y6 (x:Nat) (a:x<4294967296):CO 194 [.int .u32 (x:Int)] (.ret (ω ((32 - fE x:Nat):Int))):=by
 have h:=acY x a;have b:fE x≤32:=pg a;simp (disch:=first|omega|(simp [au,az]<;>omega)) only [jV] at h;exact h
theorem NJ {nt:Nat} (a:52≤nt) (u2 u1 u0 v1 v0 q r:Nat) (h0:lit true (decide (((4294967295:Nat):Int)<(γ .u64 ((r:Int)+(γ .u64 (v1:Int))))))=true) (b:lit true (decide (((4294967295:Nat):Int)<(q:Int)))=true):ψ nt f196 ⟨[(2,.ptr 0 0 0),(3,.ptr 1 0 0),(6,.int .u64 (q:Int)),(7,.int .u64 (r:Int))],[(0,⟨[.int .u32 (u2:Int),.int .u32 (u1:Int),.int .u32 (u0:Int)],0,false,0,0,true⟩),(1,⟨[.int .u32 (v1:Int),.int .u32 (v0:Int),.int .u32 0],0,false,0,0,true⟩)],.dead,[]⟩ (.exit 0) ⟨[(6,.int .u64 (γ .u64 ((q:Int) - ((1:Nat):Int))))],[(0,⟨[.int .u32 (u2:Int),.int .u32 (u1:Int),.int .u32 (u0:Int)],0,false,0,0,true⟩),(1,⟨[.int .u32 (v1:Int),.int .u32 (v0:Int),.int .u32 0],0,false,0,0,true⟩)],.dead,[]⟩:=pJ 196 [] 3 7 (.c h0 (.k 4 b .nil)) (.nil) a
theorem NK {nt:Nat} (a:52≤nt) (u2 u1 u0 v1 v0 q r:Nat) (h0:lit false (decide (((4294967295:Nat):Int)<(γ .u64 ((r:Int)+(γ .u64 (v1:Int))))))=true) (b:lit true (decide (((4294967295:Nat):Int)<(q:Int)))=true):ψ nt f196 ⟨[(2,.ptr 0 0 0),(3,.ptr 1 0 0),(6,.int .u64 (q:Int)),(7,.int .u64 (r:Int))],[(0,⟨[.int .u32 (u2:Int),.int .u32 (u1:Int),.int .u32 (u0:Int)],0,false,0,0,true⟩),(1,⟨[.int .u32 (v1:Int),.int .u32 (v0:Int),.int .u32 0],0,false,0,0,true⟩)],.dead,[]⟩ (.normal) ⟨[(2,.ptr 0 0 0),(3,.ptr 1 0 0),(6,.int .u64 (γ .u64 ((q:Int) - ((1:Nat):Int)))),(7,.int .u64 (γ .u64 ((r:Int)+(γ .u64 (v1:Int)))))],[(0,⟨[.int .u32 (u2:Int),.int .u32 (u1:Int),.int .u32 (u0:Int)],0,false,0,0,true⟩),(1,⟨[.int .u32 (v1:Int),.int .u32 (v0:Int),.int .u32 0],0,false,0,0,true⟩)],.dead,[]⟩:=pJ 196 [] 3 3 (.c h0 (.k 4 b .nil)) (.nil) a
theorem NL {nt:Nat} (a:52≤nt) (u2 u1 u0 v1 v0 q r:Nat) (h0:lit true (decide (((4294967295:Nat):Int)<(γ .u64 ((r:Int)+(γ .u64 (v1:Int))))))=true) (c:lit true (decide ((γ .u64 (Xxl (Xqh (Xqe .u64) (γ .u64 ((r:Int)*2^(min 32 64)))|||Xqh (Xqe .u64) (γ .u64 (u0:Int)))))<(γ .u64 ((q:Int)*(γ .u64 (v0:Int))))))=true) (b:lit false (decide (((4294967295:Nat):Int)<(q:Int)))=true):ψ nt f196 ⟨[(2,.ptr 0 0 0),(3,.ptr 1 0 0),(6,.int .u64 (q:Int)),(7,.int .u64 (r:Int))],[(0,⟨[.int .u32 (u2:Int),.int .u32 (u1:Int),.int .u32 (u0:Int)],0,false,0,0,true⟩),(1,⟨[.int .u32 (v1:Int),.int .u32 (v0:Int),.int .u32 0],0,false,0,0,true⟩)],.dead,[]⟩ (.exit 0) ⟨[(6,.int .u64 (γ .u64 ((q:Int) - ((1:Nat):Int))))],[(0,⟨[.int .u32 (u2:Int),.int .u32 (u1:Int),.int .u32 (u0:Int)],0,false,0,0,true⟩),(1,⟨[.int .u32 (v1:Int),.int .u32 (v0:Int),.int .u32 0],0,false,0,0,true⟩)],.dead,[]⟩:=pJ 196 [] 3 6 (.c h0 (.k 3 c (.k 7 b .nil))) (.nil) a
theorem NP {nt:Nat} (a:52≤nt) (u2 u1 u0 v1 v0 q r:Nat) (h0:lit false (decide (((4294967295:Nat):Int)<(γ .u64 ((r:Int)+(γ .u64 (v1:Int))))))=true) (c:lit true (decide ((γ .u64 (Xxl (Xqh (Xqe .u64) (γ .u64 ((r:Int)*2^(min 32 64)))|||Xqh (Xqe .u64) (γ .u64 (u0:Int)))))<(γ .u64 ((q:Int)*(γ .u64 (v0:Int))))))=true) (b:lit false (decide (((4294967295:Nat):Int)<(q:Int)))=true):ψ nt f196 ⟨[(2,.ptr 0 0 0),(3,.ptr 1 0 0),(6,.int .u64 (q:Int)),(7,.int .u64 (r:Int))],[(0,⟨[.int .u32 (u2:Int),.int .u32 (u1:Int),.int .u32 (u0:Int)],0,false,0,0,true⟩),(1,⟨[.int .u32 (v1:Int),.int .u32 (v0:Int),.int .u32 0],0,false,0,0,true⟩)],.dead,[]⟩ (.normal) ⟨[(2,.ptr 0 0 0),(3,.ptr 1 0 0),(6,.int .u64 (γ .u64 ((q:Int) - ((1:Nat):Int)))),(7,.int .u64 (γ .u64 ((r:Int)+(γ .u64 (v1:Int)))))],[(0,⟨[.int .u32 (u2:Int),.int .u32 (u1:Int),.int .u32 (u0:Int)],0,false,0,0,true⟩),(1,⟨[.int .u32 (v1:Int),.int .u32 (v0:Int),.int .u32 0],0,false,0,0,true⟩)],.dead,[]⟩:=pJ 196 [] 3 2 (.c h0 (.k 3 c (.k 7 b .nil))) (.nil) a
theorem NQ {nt:Nat} (a:52≤nt) (u2 u1 u0 v1 v0 q r:Nat) (h0:lit false (decide ((γ .u64 (Xxl (Xqh (Xqe .u64) (γ .u64 ((r:Int)*2^(min 32 64)))|||Xqh (Xqe .u64) (γ .u64 (u0:Int)))))<(γ .u64 ((q:Int)*(γ .u64 (v0:Int))))))=true) (b:lit false (decide (((4294967295:Nat):Int)<(q:Int)))=true):ψ nt f196 ⟨[(2,.ptr 0 0 0),(3,.ptr 1 0 0),(6,.int .u64 (q:Int)),(7,.int .u64 (r:Int))],[(0,⟨[.int .u32 (u2:Int),.int .u32 (u1:Int),.int .u32 (u0:Int)],0,false,0,0,true⟩),(1,⟨[.int .u32 (v1:Int),.int .u32 (v0:Int),.int .u32 0],0,false,0,0,true⟩)],.dead,[]⟩ (.exit 0) ⟨[(6,.int .u64 (q:Int))],[(0,⟨[.int .u32 (u2:Int),.int .u32 (u1:Int),.int .u32 (u0:Int)],0,false,0,0,true⟩),(1,⟨[.int .u32 (v1:Int),.int .u32 (v0:Int),.int .u32 0],0,false,0,0,true⟩)],.dead,[]⟩:=pJ 196 [] 2 0 (.c h0 (.k 7 b .nil)) (.nil) a
def wC (u2 u1 u0 v1 v0:Nat):Nat:=min 4294967295 ((4294967296*(4294967296*u2+u1)+u0) / (4294967296*v1+v0))
theorem zH {u2 u1 u0 v1 v0 x:Nat} (a:0<v1):x≤wC u2 u1 u0 v1 v0↔x≤4294967295∧x*(4294967296*v1+v0)≤4294967296*(4294967296*u2+u1)+u0:=by
 unfold wC;rw [Nat.le_min,Xzb (by omega)]
theorem IP {a u0 v1 v0 q r:Nat} (h:q*v1+r=a):q*(4294967296*v1+v0)≤4294967296*a+u0↔q*v0≤4294967296*r+u0:=by
 rw [← h,Xxa q,Xxa 4294967296,← Xqp q,Xqa q 4294967296,Xqp];omega
def abe (u2 u1 u0 v1 v0 q r:Nat):St:=⟨[(2,.ptr 0 0 0),(3,.ptr 1 0 0),(6,.int .u64 (q:Int)),(7,.int .u64 (r:Int))],[(0,⟨[.int .u32 (u2:Int),.int .u32 (u1:Int),.int .u32 (u0:Int)],0,false,0,0,true⟩),(1,⟨[.int .u32 (v1:Int),.int .u32 (v0:Int),.int .u32 0],0,false,0,0,true⟩)],.dead,[]⟩
def UU (u2 u1 u0 v1 v0 q:Nat):St:=⟨[(6,.int .u64 (q:Int))],[(0,⟨[.int .u32 (u2:Int),.int .u32 (u1:Int),.int .u32 (u0:Int)],0,false,0,0,true⟩),(1,⟨[.int .u32 (v1:Int),.int .u32 (v0:Int),.int .u32 0],0,false,0,0,true⟩)],.dead,[]⟩
theorem UV {nt:Nat} (g:52≤nt) (u2 u1 u0 v1 v0:Nat) (t:u2≤v1) (A:u1<4294967296) (i:u0<4294967296) (v:v1<4294967296) (w:v0<4294967296) (m:0<v1):
  ∀ (d q r:Nat),q=wC u2 u1 u0 v1 v0+d→q<8589934592→r<4294967296→q*v1+r=4294967296*u2+u1→aF prog ap [] nt (ae 0 (af f196)) (fun _=> .exit 0) (fun (x:Nat × Nat)=>abe u2 u1 u0 v1 v0 x.1 x.2) (UU u2 u1 u0 v1 v0) (q,r) (wC u2 u1 u0 v1 v0):=by
 intro d
 induction d with
 | zero=>
  intro q r p l z c;obtain ⟨u,n⟩:=(zH (u2:=u2) (u1:=u1) (u0:=u0) (v0:=v0) (x:=q) m).1 (by omega);rw [IP c] at n;have e:4294967296*r|||u0=4294967296*r+u0:=by
   have:=zQ (a:=r) (b:=u0) (k:=32) i;rwa [ni,Xqa] at this
  have s:q*v0<18446744073709551616:=Xq7 n (by omega);have hbody:=NQ g u2 u1 u0 v1 v0 q r;simp (disch:=first|omega|(simp [au,az]<;>omega)) only [qH,C9,ni,oK,φ,V_,e,yl,aY,dP,dY,eY] at hbody;have:=hbody (by omega) (by omega);rw [p] at this ⊢;exact .done this
 | succ d ih=>
  intro q r p l z c;have u:¬ q≤wC u2 u1 u0 v1 v0:=by omega
  rw [zH m,IP c] at u;have e:4294967296*r|||u0=4294967296*r+u0:=by
   have:=zQ (a:=r) (b:=u0) (k:=32) i;rwa [ni,Xqa] at this
  have hinv':(q - 1)*v1+(r+v1)=4294967296*u2+u1:=by
   rw [← c,show q=(q - 1)+1 by omega,Xxp,Xwj];simp only [Xki];omega
  by_cases h6:4294967295<r+v1
  ·
   have o:q - 1=wC u2 u1 u0 v1 v0:=by
    refine Nat.le_antisymm ((zH m).2 ⟨?_,(IP hinv').2 ?_⟩) (by omega)
    ·rcases Xq9 (q - 1) 4294967296 with h|h
     ·omega
     ·have j:4294967296*v1≤(q - 1)*v1:=Xqv _ h;have y:4294967296*u2≤4294967296*v1:=Xq6 _ t;omega
    ·rcases Xq9 (q - 1) 4294967297 with h|h
     ·have j:(q - 1)*v0≤4294967296*v0:=Xqv _ (by omega);omega
     ·have j:4294967297*v1≤(q - 1)*v1:=Xqv _ h;have y:4294967296*u2≤4294967296*v1:=Xq6 _ t;omega
   by_cases j:4294967295<q
   ·have hbody:=NJ g u2 u1 u0 v1 v0 q r;have f:γ .u64 ((q:Int) - ((1:Nat):Int))=((q - 1:Nat):Int):=by rw [lh];omega
    rw [f] at hbody;simp (disch:=first|omega|(simp [au,az]<;>omega)) only [oK,φ,bW,aY,bF,bu,o] at hbody;exact .done (hbody (by omega) (by omega))
   ·have s:q*v0<18446744073709551616:=by
     have:q*v0≤4294967295*v0:=Xqv _ (by omega);omega
    have hbody:=NL g u2 u1 u0 v1 v0 q r;have f:γ .u64 ((q:Int) - ((1:Nat):Int))=((q - 1:Nat):Int):=by rw [lh];omega
    rw [f] at hbody;simp (disch:=first|omega|(simp [au,az]<;>omega)) only [oK,φ,bW,aY,bF,bu,qH,C9,ni,V_,e,yl,dP,dY,eY,o] at hbody;exact .done (hbody (by omega) (by omega) (by omega))
  ·refine .next ?_ (ih (q - 1) (r+v1) (by omega) (by omega) (by omega) hinv')
   by_cases j:4294967295<q
   ·have hbody:=NK g u2 u1 u0 v1 v0 q r;have f:γ .u64 ((q:Int) - ((1:Nat):Int))=((q - 1:Nat):Int):=by rw [lh];omega
    rw [f] at hbody;simp (disch:=first|omega|(simp [au,az]<;>omega)) only [oK,φ,bW,aY,dP,dY,eY,bF,bu] at hbody;exact hbody (by omega) (by omega)
   ·have s:q*v0<18446744073709551616:=by
     have:q*v0≤4294967295*v0:=Xqv _ (by omega);omega
    have hbody:=NP g u2 u1 u0 v1 v0 q r;have f:γ .u64 ((q:Int) - ((1:Nat):Int))=((q - 1:Nat):Int):=by rw [lh];omega
    rw [f] at hbody;simp (disch:=first|omega|(simp [au,az]<;>omega)) only [oK,φ,bW,aY,dP,dY,eY,qH,C9,ni,V_,e,yl,bF,bu] at hbody;exact hbody (by omega) (by omega) (by omega)
theorem agv (u2 u1 u0 v1 v0:Nat) (d:u2<4294967296) (e:u1<4294967296) (c:v1<4294967296) (f:0<v1) (a:4294967296*u2|||u1=4294967296*u2+u1) (b:(4294967296*u2+u1) / v1<8589934592) (hloop:∀ nt,52≤nt→aF prog ap [] nt (ae 0 (af f196)) (fun _=> .exit 0) (fun (x:Nat × Nat)=>abe u2 u1 u0 v1 v0 x.1 x.2) (UU u2 u1 u0 v1 v0) ((4294967296*u2+u1) / v1,(4294967296*u2+u1) % v1) (wC u2 u1 u0 v1 v0)) (h0:(!((γ .u64 (v1:Int))==((0:Nat):Int)))=true):CO 196 [.agg [.int .u32 (u2:Int),.int .u32 (u1:Int),.int .u32 (u0:Int)],.agg [.int .u32 (v1:Int),.int .u32 (v0:Int),.int .u32 0]] (.ret (.int .u64 ((wC u2 u1 u0 v1 v0:Nat):Int))):=pK [0] 0 0 (.c h0 (.k 3 h0 (.n 10 .nil))) (.l (by simp (disch:=first|omega|(simp [au,az]<;>omega)) only [oK,φ,qH,C9,ni,V_,a,pO,xg];exact aF.blk hloop (by simp) rfl (aJ.of ⟨rfl,rfl,rfl,rfl,trivial⟩) (aJ.of ⟨rfl,trivial⟩):aI prog ap [] 52 (.block 0 (.loop (ae 0 (af f196)))) ⟨[(0,.agg [.int .u32 (u2:Int),.int .u32 (u1:Int),.int .u32 (u0:Int)]),(1,.agg [.int .u32 (v1:Int),.int .u32 (v0:Int),.int .u32 0]),(2,.ptr 0 0 0),(3,.ptr 1 0 0),(4,.int .u64 0),(5,.int .u64 (γ .u64 (Xxl (Xqh (Xqe .u64) (γ .u64 ((γ .u64 (u2:Int))*2^(min 32 64)))|||Xqh (Xqe .u64) (γ .u64 (u1:Int)))))),(6,.int .u64 (γ .u64 (Xxi (γ .u64 (Xxl (Xqh (Xqe .u64) (γ .u64 ((γ .u64 (u2:Int))*2^(min 32 64)))|||Xqh (Xqe .u64) (γ .u64 (u1:Int))))) (γ .u64 (v1:Int))))),(7,.int .u64 (Xjt (γ .u64 (Xxl (Xqh (Xqe .u64) (γ .u64 ((γ .u64 (u2:Int))*2^(min 32 64)))|||Xqh (Xqe .u64) (γ .u64 (u1:Int))))) (γ .u64 (v1:Int)))),(41,.dead),(50,.dead)],[(0,⟨[.int .u32 (u2:Int),.int .u32 (u1:Int),.int .u32 (u0:Int)],0,false,0,0,true⟩),(1,⟨[.int .u32 (v1:Int),.int .u32 (v0:Int),.int .u32 0],0,false,0,0,true⟩)],.dead,[]⟩ (.normal) ⟨[(6,.int .u64 ((wC u2 u1 u0 v1 v0:Nat):Int))],[(0,⟨[.int .u32 (u2:Int),.int .u32 (u1:Int),.int .u32 (u0:Int)],0,false,0,0,true⟩),(1,⟨[.int .u32 (v1:Int),.int .u32 (v0:Int),.int .u32 0],0,false,0,0,true⟩)],.dead,[]⟩) .nil)
theorem acs (u2 u1 u0 v1 v0:Nat) (l:u2≤v1) (c:u1<4294967296) (e:u0<4294967296) (d:v1<4294967296) (f:v0<4294967296) (o:2147483648≤v1):CO 196 [.agg [.int .u32 (u2:Int),.int .u32 (u1:Int),.int .u32 (u0:Int)],.agg [.int .u32 (v1:Int),.int .u32 (v0:Int),.int .u32 0]] (.ret (.int .u64 ((wC u2 u1 u0 v1 v0:Nat):Int))):=by
 have g:4294967296*u2|||u1=4294967296*u2+u1:=by
  have:=zQ (a:=u2) (b:=u1) (k:=32) c;rwa [ni,Xqa] at this
 have m:wC u2 u1 u0 v1 v0≤(4294967296*u2+u1) / v1:=by
  obtain ⟨p,j⟩:=(zH (u2:=u2) (u1:=u1) (u0:=u0) (v0:=v0) (v1:=v1) (by omega)).1 (Θ _);rw [Xzb (by omega)];rw [Xxa,← Xqp,Xqa _ 4294967296,Xqp] at j;omega
 have hd:(4294967296*u2+u1) / v1<8589934592:=by
  rw [Xqt (by omega)];omega
 have n:(4294967296*u2+u1) % v1<v1:=Xqw _ (by omega);have h:=agv u2 u1 u0 v1 v0 (by omega) c d (by omega) g hd (fun nt i=>UV i u2 u1 u0 v1 v0 l c e d f (by omega) _ _ _ (Nat.add_sub_cancel' m).symm hd (by omega) (by rw [Xqa];exact Xxc _ _));simp (disch:=first|omega|(simp [au,az]<;>omega)) only [oK,φ,jJ,dY,eY] at h;exact h (by omega)
theorem Tn {nt:Nat} (f:66≤nt) (U0 U v:List Nat) (e:Bool) (j M q c b i:Nat) (h0:(Ξ (((j+(δ (i:Int)))*1)+1) (ζ (ak U)))=true) (a:(decide (((0:Nat):Int)≤(i:Int)))=true) (d:(decide ((i:Int)<(M:Int)))=true) (h:(chk (.int .u32) (η (ε ((j+(δ (i:Int)))*1) (ak U)) .dead))=true) (k:(chk (.int .u32) (η (ε ((δ (i:Int))*1) (ak v)) .dead))=true) (l:(decide ((i:Int)<(v.length:Int)))=true) (g:lit true (decide ((i:Int)<(v.length:Int)))=true):aj prog ap [⟨(ak U0),0,false,0,1,true⟩] nt (ae 0 (af f197)) ⟨[(0,.ref 0 0 j M),(1,.sl (ak v) v.length e),(2,.int .u64 (q:Int)),(7,.int .u64 (c:Int)),(8,.int .u64 (b:Int)),(14,ω (v.length:Int)),(15,ω (i:Int))],[(0,⟨(ak U),0,false,0,1,true⟩)],.dead,[]⟩ (.normal) ⟨[(0,.ref 0 0 j M),(1,.sl (ak v) v.length e),(2,.int .u64 (q:Int)),(7,.int .u64 (Xq0 (γ .u64 ((γ .u64 ((q:Int)*(γ .u64 (τ (η (ε ((δ (i:Int))*1) (ak v)) .dead)))))+(c:Int))) (2^(min 32 64)))),(8,.int .u64 (Xq0 (γ .u64 ((γ .u64 ((γ .u64 (τ (η (ε ((j+(δ (i:Int)))*1) (ak U)) .dead))) - (γ .u64 (Xxl (Xqh (Xqe .u64) (γ .u64 ((γ .u64 ((q:Int)*(γ .u64 (τ (η (ε ((δ (i:Int))*1) (ak v)) .dead)))))+(c:Int))) &&& Xqh (Xqe .u64) ((4294967295:Nat):Int)))))) - (b:Int))) (2^(min 63 64)))),(14,ω (v.length:Int)),(15,ω (γ .i64 ((i:Int)+((1:Nat):Int))))],[(0,⟨(μ ((j+(δ (i:Int)))*1) (ak U)++ [.int .u32 (γ .u32 (γ .u64 ((γ .u64 ((γ .u64 (τ (η (ε ((j+(δ (i:Int)))*1) (ak U)) .dead))) - (γ .u64 (Xxl (Xqh (Xqe .u64) (γ .u64 ((γ .u64 ((q:Int)*(γ .u64 (τ (η (ε ((δ (i:Int))*1) (ak v)) .dead)))))+(c:Int))) &&& Xqh (Xqe .u64) ((4294967295:Nat):Int)))))) - (b:Int))))]++ε (((j+(δ (i:Int)))*1)+1) (ak U)),0,false,0,1,true⟩)],.dead,[]⟩:=pJ 197 [] 1 1 (.c h0 (.c a (.c d (.k 1 h (.c a (.c d (.k 1 k (.c a (.c l (.c g .nil)))))))))) (.nil) f
theorem Tq {nt:Nat} (d:66≤nt) (U0 U v:List Nat) (a:Bool) (j M q c b i:Nat) (h0:lit false (decide ((i:Int)<(v.length:Int)))=true):aj prog ap [⟨(ak U0),0,false,0,1,true⟩] nt (ae 0 (af f197)) ⟨[(0,.ref 0 0 j M),(1,.sl (ak v) v.length a),(2,.int .u64 (q:Int)),(7,.int .u64 (c:Int)),(8,.int .u64 (b:Int)),(14,ω (v.length:Int)),(15,ω (i:Int))],[(0,⟨(ak U),0,false,0,1,true⟩)],.dead,[]⟩ (.exit 0) ⟨[(0,.ref 0 0 j M),(1,.sl (ak v) v.length a),(7,.int .u64 (c:Int)),(8,.int .u64 (b:Int))],[(0,⟨(ak U),0,false,0,1,true⟩)],.dead,[]⟩:=pJ 197 [] 1 0 (.c h0 .nil) (.nil) d
theorem Rx {nt:Nat} (e:42≤nt) (U0 U v:List Nat) (b:Bool) (j M c i:Nat) (h0:(Ξ (((j+(δ (i:Int)))*1)+1) (ζ (ak U)))=true) (a:(decide (((0:Nat):Int)≤(i:Int)))=true) (d:(decide ((i:Int)<(M:Int)))=true) (k:(chk (.int .u32) (η (ε ((δ (i:Int))*1) (ak v)) .dead))=true) (f:(decide ((i:Int)<(v.length:Int)))=true) (g:(chk (.int .u32) (η (ε ((j+(δ (i:Int)))*1) (ak U)) .dead))=true) (h:lit true (decide ((i:Int)<(v.length:Int)))=true):aj prog ap [⟨(ak U0),0,false,0,1,true⟩] nt (ae 0 (af f198)) ⟨[(0,.ref 0 0 j M),(1,.sl (ak v) v.length b),(4,.int .u64 (c:Int)),(8,ω (v.length:Int)),(9,ω (i:Int))],[(0,⟨(ak U),0,false,0,1,true⟩)],.dead,[]⟩ (.normal) ⟨[(0,.ref 0 0 j M),(1,.sl (ak v) v.length b),(4,.int .u64 (Xq0 (γ .u64 ((γ .u64 ((γ .u64 (τ (η (ε ((j+(δ (i:Int)))*1) (ak U)) .dead)))+(γ .u64 (τ (η (ε ((δ (i:Int))*1) (ak v)) .dead)))))+(c:Int))) (2^(min 32 64)))),(8,ω (v.length:Int)),(9,ω (γ .i64 ((i:Int)+((1:Nat):Int))))],[(0,⟨(μ ((j+(δ (i:Int)))*1) (ak U)++ [.int .u32 (γ .u32 (γ .u64 ((γ .u64 ((γ .u64 (τ (η (ε ((j+(δ (i:Int)))*1) (ak U)) .dead)))+(γ .u64 (τ (η (ε ((δ (i:Int))*1) (ak v)) .dead)))))+(c:Int))))]++ε (((j+(δ (i:Int)))*1)+1) (ak U)),0,false,0,1,true⟩)],.dead,[]⟩:=pJ 198 [] 1 1 (.c h0 (.c a (.c d (.k 1 k (.c a (.c f (.c g (.c a (.c d (.c h .nil)))))))))) (.nil) e
theorem Ry {nt:Nat} (b:42≤nt) (U0 U v:List Nat) (a:Bool) (j M c i:Nat) (h0:lit false (decide ((i:Int)<(v.length:Int)))=true):aj prog ap [⟨(ak U0),0,false,0,1,true⟩] nt (ae 0 (af f198)) ⟨[(0,.ref 0 0 j M),(1,.sl (ak v) v.length a),(4,.int .u64 (c:Int)),(8,ω (v.length:Int)),(9,ω (i:Int))],[(0,⟨(ak U),0,false,0,1,true⟩)],.dead,[]⟩ (.exit 0) ⟨[(0,.ref 0 0 j M),(1,.sl (ak v) v.length a),(4,.int .u64 (c:Int))],[(0,⟨(ak U),0,false,0,1,true⟩)],.dead,[]⟩:=pJ 198 [] 1 0 (.c h0 .nil) (.nil) b
def dN (u s b:Nat):Nat:=((u+(18446744073709551616 - s)) % 18446744073709551616+(18446744073709551616 - b)) % 18446744073709551616
theorem IC {u s b:Nat} (a:u<4294967296) (hs:s<4294967296) (c:b≤1):dN u s b % 4294967296+s+b=u+4294967296*(dN u s b / 9223372036854775808)∧dN u s b / 9223372036854775808≤1∧dN u s b<18446744073709551616:=by
 unfold dN;omega
def mW (q:Nat):List Nat→List Nat→Nat→Nat→List Nat × Nat × Nat
 | [],_,c,b=>([],c,b)
 |_::_,[],c,b=>([],c,b)
 |v::vs,u::us,c,b=>
  let r:=mW q vs us ((q*v+c) / 4294967296) (dN u ((q*v+c) % 4294967296) b / 9223372036854775808)
  (dN u ((q*v+c) % 4294967296) b % 4294967296::r.1,r.2)
theorem VM {q v c:Nat} (a:q<4294967296) (b:v<4294967296) (d:c<4294967296):q*v<18446744073709551616∧q*v+c<18446744073709551616∧(q*v+c) / 4294967296<4294967296:=by
 have h:q*v≤q*4294967295:=Xq6 _ (by omega);omega
theorem Tj {q:Nat} (m:q<4294967296) (vs:List Nat):∀ (a:List Nat) (c b:Nat),c<4294967296→b≤1→bZ vs→bZ a→vs.length≤a.length→
  (mW q vs a c b).2.1<4294967296∧(mW q vs a c b).2.2≤1∧bZ (mW q vs a c b).1∧(mW q vs a c b).1.length=vs.length∧
  aK (mW q vs a c b).1+q*aK vs+c+b=aK (a.take vs.length)+4294967296^vs.length*((mW q vs a c b).2.1+(mW q vs a c b).2.2):=by
 induction vs with
 |nil=>intro a c b f g _ _ _;exact ⟨f,g,bZ.nil,rfl,by simp [mW,aK]⟩
 | cons v vs ih=>
  intro a c b f g e d h;cases a with
  |nil=>simp at h
  |cons u a=>
   obtain ⟨t,r,n⟩:=VM m e.head f;obtain ⟨y,o,p⟩:=IC (u:=u) (s:=(q*v+c) % 4294967296) (b:=b) d.head (Xqw _ (by omega)) g;obtain ⟨l,j,k,i,x⟩:=ih a _ _ n o e.tail d.tail (by simpa using h);simp only [mW];refine ⟨l,j,bZ.cons (Xqw _ (by omega)) k,by simp [i], ?_⟩;simp only [aK,ν,Xx1];have w:=Xxc (q*v+c) 4294967296;rw [Xxa q,Xqa q (4294967296*aK vs),Xqp,Xqa (aK vs) q,Xq3,Xqa (4294967296^vs.length),Xqp];omega
def ake (v:List Nat) (nv:Bool) (j M q:Nat) (i:Nat) (U:List Nat) (c b:Nat):St:=⟨[(0,.ref 0 0 j M),(1,.sl (ak v) v.length nv),(2,.int .u64 (q:Int)),(7,.int .u64 (c:Int)),(8,.int .u64 (b:Int)),(14,ω (v.length:Int)),(15,ω (i:Int))],[(0,⟨ak U,0,false,0,1,true⟩)],.dead,[]⟩
def abD (v:List Nat) (nv:Bool) (j M:Nat) (U:List Nat) (c b:Nat):St:=⟨[(0,.ref 0 0 j M),(1,.sl (ak v) v.length nv),(7,.int .u64 (c:Int)),(8,.int .u64 (b:Int))],[(0,⟨ak U,0,false,0,1,true⟩)],.dead,[]⟩
def oO (U0:List Nat):List bi:= [⟨ak U0,0,false,0,1,true⟩]
theorem aaB {nt:Nat} (l:66≤nt) (U0 v:List Nat) (g:Bool) (j M q:Nat) (y:q<4294967296) (r:bZ v) (C:v.length<M) (w:v.length<2^40):
  ∀ (vs d a pre:List Nat) (c b:Nat),d++vs=v→pre.length=j+d.length→vs.length≤a.length→c<4294967296→b≤1→bZ a→
  aF prog ap (oO U0) nt (ae 0 (af f197)) (fun _=> .exit 0) (fun (x:Nat × List Nat × Nat × Nat)=>ake v g j M q x.1 x.2.1 x.2.2.1 x.2.2.2) (fun (x:List Nat × Nat × Nat)=>abD v g j M x.1 x.2.1 x.2.2) (d.length,pre++a,c,b) (pre++(mW q vs a c b).1++a.drop vs.length,(mW q vs a c b).2.1,(mW q vs a c b).2.2):=by
 intro vs
 induction vs with
 |nil=>
  intro d a pre c b hd hp k n o e;have i:d=v:=by simpa using hd
  have hbody:=Tq l U0 (pre++a) v g j M q c b v.length (by rw [aY];simp [lit]);refine .done ?_;simp only [mW,Γ,Δ,Xx7,i];exact hbody
 | cons x vs ih=>
  intro d a pre c b hd hp k n o e;cases a with
  |nil=>simp at k
  | cons u a=>
   have A:x<4294967296:=r x (by rw [← hd];simp);have m:d.length+(vs.length+1)=v.length:=by rw [← hd];simp
   have p:=e.head;obtain ⟨E,D,z⟩:=VM y A n;obtain ⟨F,t,B⟩:=IC (u:=u) (s:=(q*x+c) % 4294967296) (b:=b) p (Xqw _ (by omega)) o;have hnext:=ih (d++ [x]) a (pre++ [dN u ((q*x+c) % 4294967296) b % 4294967296]) ((q*x+c) / 4294967296) (dN u ((q*x+c) % 4294967296) b / 9223372036854775808) (by rw [← hd];simp) (by simp;omega) (by simpa using k) z t e.tail;simp only [mW,ν,Xz9];rw [θ] at hnext;simp only [Ψ,Xq1,Xqc,ν,Δ] at hnext ⊢;refine .next ?_ hnext
   have f:η (ε d.length (ak v)) .dead= .int .u32 (x:Int):=by
    rw [← hd];exact jU rfl
   have hbody:=Tn l U0 (pre++u::a) v g j M q c b d.length;have h:((u+(18446744073709551616 - (q*x+c) % 4294967296)) % 18446744073709551616+(18446744073709551616 - b)) % 18446744073709551616=dN u ((q*x+c) % 4294967296) b:=rfl;simp (disch:=first|omega|(simp [au,az]<;>omega)) only [aA,υ,au,θ,ν,fH,bu,dI,aY,jU,jT,f,bF,bf,oK,φ,yl,bW,qH,lm,ni,afI,CW,lh,h,ahZ,aX,qP,lS] at hbody;exact hbody (by omega) (by omega) (by omega) trivial trivial (by omega) (by omega)
def qC:List Nat→List Nat→Nat→List Nat × Nat
 | [],_,c=>([],c)
 |_::_,[],c=>([],c)
 |v::vs,u::us,c=>
  let r:=qC vs us ((u+v+c) / 4294967296)
  ((u+v+c) % 4294967296::r.1,r.2)
theorem Rw (vs:List Nat):∀ (a:List Nat) (c:Nat),c≤1→bZ vs→bZ a→vs.length≤a.length→
  (qC vs a c).2≤1∧bZ (qC vs a c).1∧(qC vs a c).1.length=vs.length∧
  aK (qC vs a c).1+4294967296^vs.length*(qC vs a c).2=aK (a.take vs.length)+aK vs+c:=by
 induction vs with
 |nil=>intro a c f _ _ _;exact ⟨f,bZ.nil,rfl,by simp [qC,aK]⟩
 | cons v vs ih=>
  intro a c f d b e;cases a with
  |nil=>simp at e
  |cons u a=>
   have k:=d.head;have j:=b.head;obtain ⟨i,h,g,l⟩:=ih a ((u+v+c) / 4294967296) (by omega) d.tail b.tail (by simpa using e);simp only [qC];refine ⟨i,bZ.cons (Xqw _ (by omega)) h,by simp [g], ?_⟩;simp only [aK,ν,Xx1];rw [Xq3,Xqa (4294967296^vs.length),Xqp];omega
def agB (v:List Nat) (nv:Bool) (j M:Nat) (i:Nat) (U:List Nat) (c:Nat):St:=⟨[(0,.ref 0 0 j M),(1,.sl (ak v) v.length nv),(4,.int .u64 (c:Int)),(8,ω (v.length:Int)),(9,ω (i:Int))],[(0,⟨ak U,0,false,0,1,true⟩)],.dead,[]⟩
def abg (v:List Nat) (nv:Bool) (j M:Nat) (U:List Nat) (c:Nat):St:=⟨[(0,.ref 0 0 j M),(1,.sl (ak v) v.length nv),(4,.int .u64 (c:Int))],[(0,⟨ak U,0,false,0,1,true⟩)],.dead,[]⟩
theorem YH {nt:Nat} (i:42≤nt) (U0 v:List Nat) (f:Bool) (j M:Nat) (m:bZ v) (p:v.length<M) (l:v.length<2^40):
  ∀ (vs b a pre:List Nat) (c:Nat),b++vs=v→pre.length=j+b.length→vs.length≤a.length→c≤1→bZ a→
  aF prog ap (oO U0) nt (ae 0 (af f198)) (fun _=> .exit 0) (fun (x:Nat × List Nat × Nat)=>agB v f j M x.1 x.2.1 x.2.2) (fun (x:List Nat × Nat)=>abg v f j M x.1 x.2) (b.length,pre++a,c) (pre++(qC vs a c).1++a.drop vs.length,(qC vs a c).2):=by
 intro vs
 induction vs with
 |nil=>
  intro b a pre c hd hp g n d;have h:b=v:=by simpa using hd
  have hbody:=Ry i U0 (pre++a) v f j M c v.length (by rw [aY];simp [lit]);refine .done ?_;simp only [qC,Γ,Δ,Xx7,h];exact hbody
 | cons x vs ih=>
  intro b a pre c hd hp g n d;cases a with
  |nil=>simp at g
  | cons u a=>
   have q:x<4294967296:=m x (by rw [← hd];simp);have k:b.length+(vs.length+1)=v.length:=by rw [← hd];simp
   have o:=d.head;have hnext:=ih (b++ [x]) a (pre++ [(u+x+c) % 4294967296]) ((u+x+c) / 4294967296) (by rw [← hd];simp) (by simp;omega) (by simpa using g) (by omega) d.tail;simp only [qC,ν,Xz9];rw [θ] at hnext;simp only [Ψ,Xq1,Xqc,ν,Δ] at hnext ⊢;refine .next ?_ hnext
   have e:η (ε b.length (ak v)) .dead= .int .u32 (x:Int):=by
    rw [← hd];exact jU rfl
   have hbody:=Rx i U0 (pre++u::a) v f j M c b.length;simp (disch:=first|omega|(simp [au,az]<;>omega)) only [aA,υ,au,θ,ν,fH,bu,dI,aY,e,jT,jU,bF,bf,oK,φ,bW,qH,lm,ni,aX,qP,lS] at hbody;exact hbody (by omega) (by omega) (by omega) trivial (by omega) trivial (by omega)
theorem aeT (U W v:List Nat) (a:Bool) (j M q c b:Nat) (hloop:∀ nt,66≤nt→aF prog ap (oO U) nt (ae 0 (af f197)) (fun _=> .exit 0) (fun (x:Nat × List Nat × Nat × Nat)=>ake v a j M q x.1 x.2.1 x.2.2.1 x.2.2.2) (fun (x:List Nat × Nat × Nat)=>abD v a j M x.1 x.2.1 x.2.2) (0,U,0,0) (W,c,b)) (h0:(Ξ (((j+(δ (v.length:Int)))*1)+1) (ζ (ak W)))=true) (e:(decide (((0:Nat):Int)≤(v.length:Int)))=true) (d:(decide ((v.length:Int)<(M:Int)))=true) (f:(chk (.int .u32) (η (ε ((j+(δ (v.length:Int)))*1) (ak W)) .dead))=true):ax prog ap 197 [.ref 0 0 j M,.sl (ak v) v.length a,.int .u64 (q:Int)] [⟨(ak U),0,false,0,1,true⟩] (.ret (.bool (!((Xq0 (γ .u64 ((γ .u64 ((γ .u64 (τ (η (ε ((j+(δ (v.length:Int)))*1) (ak W)) .dead))) - (c:Int))) - (b:Int))) (2^(min 63 64)))==((0:Nat):Int))))) [⟨(μ ((j+(δ (v.length:Int)))*1) (ak W)++ [.int .u32 (γ .u32 (γ .u64 ((γ .u64 ((γ .u64 (τ (η (ε ((j+(δ (v.length:Int)))*1) (ak W)) .dead))) - (c:Int))) - (b:Int))))]++ε (((j+(δ (v.length:Int)))*1)+1) (ak W)),0,false,0,1,true⟩]:=pK [0] 0 0 (.k 1 h0 (.c e (.c d (.c f (.c e (.c d .nil)))))) (.l (by exact aF.blk hloop (by simp) rfl (aJ.of ⟨rfl,rfl,rfl,rfl,rfl,rfl,rfl,trivial⟩) (aJ.of ⟨rfl,rfl,rfl,rfl,trivial⟩):aI prog ap [⟨(ak U),0,false,0,1,true⟩] 66 (.block 0 (.loop (ae 0 (af f197)))) ⟨[(0,.ref 0 0 j M),(1,.sl (ak v) v.length a),(2,.int .u64 (q:Int)),(6,.bool false),(7,.int .u64 0),(8,.int .u64 0),(9,.dead),(10,.dead),(11,.dead),(12,.dead),(14,ω (v.length:Int)),(15,ω 0),(16,.dead)],[(0,⟨(ak U),0,false,0,1,true⟩)],.dead,[]⟩ (.normal) ⟨[(0,.ref 0 0 j M),(1,.sl (ak v) v.length a),(7,.int .u64 (c:Int)),(8,.int .u64 (b:Int))],[(0,⟨(ak W),0,false,0,1,true⟩)],.dead,[]⟩) .nil)
theorem acA (U W v:List Nat) (a:Bool) (j M c:Nat) (hloop:∀ nt,42≤nt→aF prog ap (oO U) nt (ae 0 (af f198)) (fun _=> .exit 0) (fun (x:Nat × List Nat × Nat)=>agB v a j M x.1 x.2.1 x.2.2) (fun (x:List Nat × Nat)=>abg v a j M x.1 x.2) (0,U,0) (W,c)) (h0:(Ξ (((j+(δ (v.length:Int)))*1)+1) (ζ (ak W)))=true) (d:(decide (((0:Nat):Int)≤(v.length:Int)))=true) (b:(decide ((v.length:Int)<(M:Int)))=true) (e:(chk (.int .u32) (η (ε ((j+(δ (v.length:Int)))*1) (ak W)) .dead))=true):ax prog ap 198 [.ref 0 0 j M,.sl (ak v) v.length a] [⟨(ak U),0,false,0,1,true⟩] (.ret (.tup [])) [⟨(μ ((j+(δ (v.length:Int)))*1) (ak W)++ [.int .u32 (γ .u32 ((τ (η (ε ((j+(δ (v.length:Int)))*1) (ak W)) .dead))+(γ .u32 (c:Int))))]++ε (((j+(δ (v.length:Int)))*1)+1) (ak W)),0,false,0,1,true⟩]:=pK [0] 0 0 (.c h0 (.c d (.c b (.c e (.c d (.c b .nil)))))) (.l (by exact aF.blk hloop (by simp) rfl (aJ.of ⟨rfl,rfl,rfl,rfl,rfl,trivial⟩) (aJ.of ⟨rfl,rfl,rfl,trivial⟩):aI prog ap [⟨(ak U),0,false,0,1,true⟩] 42 (.block 0 (.loop (ae 0 (af f198)))) ⟨[(0,.ref 0 0 j M),(1,.sl (ak v) v.length a),(4,.int .u64 0),(5,.dead),(6,.dead),(8,ω (v.length:Int)),(9,ω 0),(10,.dead)],[(0,⟨(ak U),0,false,0,1,true⟩)],.dead,[]⟩ (.normal) ⟨[(0,.ref 0 0 j M),(1,.sl (ak v) v.length a),(4,.int .u64 (c:Int))],[(0,⟨(ak W),0,false,0,1,true⟩)],.dead,[]⟩) .nil)
theorem Be (n W:Nat) (post:List Nat):μ n (b_ (n+1) W++post)=b_ n W:=by
 rw [uM,Ψ,Xx3 (by rw [aV];exact Θ _),Xqd (by rw [aV];exact Θ _)]
theorem Bd (n W:Nat) (post:List Nat):ε n (b_ (n+1) W++post)=W / 2^(32*n) % 2^32::post:=by
 rw [uM,Ψ,List.drop_append_of_le_length (by rw [aV];exact Θ _),List.drop_of_length_le (by rw [aV];exact Θ _)];rfl
theorem Oo {l:List Nat} {m:Nat} (h:bZ l) (a:l.length=m):l=b_ m (aK l):=by subst a;exact (EI h).symm
theorem aay (pre post v:List Nat) (t:Bool) (n W q:Nat) (j:v.length=n) (C:bZ v) (E:q<4294967296) (K:W<4294967296^(n+1)) (hpost:bZ post) (Q:pre.length+n<2^40):
  ax prog ap 197 [.ref 0 0 pre.length (n+1),.sl (ak v) n t,.int .u64 (q:Int)] (oO (pre++b_ (n+1) W++post)) (.ret (.bool (decide (W<q*aK v)))) (oO (pre++b_ (n+1) (if W<q*aK v then W+4294967296^(n+1) - q*aK v else W - q*aK v)++post)):=by
 have i:bZ (b_ (n+1) W++post):=bZ.app (bZ.pad _ _) hpost;obtain ⟨A,D,B,e,l⟩:=Tj E v (b_ (n+1) W++post) 0 0 (by omega) (by omega) C i (by simp [aV];omega);have hloop:=fun nt (hnt:66≤nt)=>aaB hnt (pre++b_ (n+1) W++post) v t pre.length (n+1) q E C (by omega) (by omega) v [] (b_ (n+1) W++post) pre 0 0 rfl rfl (by simp [aV];omega) (by omega) (by omega) i
 rw [j,Be,wo,l_] at l;rw [j,Bd,l_,ni] at hloop;generalize R:mW q v (b_ (n+1) W++post) 0 0=r at*
 obtain ⟨y,c,b⟩:=r;simp only [Xq5,Δ,← Ψ] at A D B e l hloop;have F:W / 4294967296^n<4294967296:=by
  rw [Xqt (iJ n),Xqa,← Xq3];exact K
 rw [φ F] at hloop;have I:=Xxc W (4294967296^n);generalize H:W / 4294967296^n=x at*
 obtain ⟨J,P,M⟩:=IC (u:=x) (s:=c) (b:=b) F A D;have htake:=aeT (pre++b_ (n+1) W++post) (pre++y++x::post) v t pre.length (n+1) q c b hloop;have d:pre.length+n=(pre++y).length:=by simp [e,j]
 have m:((x+(18446744073709551616 - c)) % 18446744073709551616+(18446744073709551616 - b)) % 18446744073709551616=dN x c b:=rfl;rw [j] at htake e;have w:η (ε (pre.length+n) (ak (pre++y++x::post))) .dead= .int .u32 (x:Int):=jU d;have g:∀ z:Nat,μ (pre.length+n) (ak (pre++y++x::post))++ [Xxr .u32 (z:Int)]++ε (pre.length+n+1) (ak (pre++y++x::post))=ak (pre++y++z::post):=fun z=>lS d
 simp (disch:=first|omega|(simp [au,az]<;>omega)) only [aA,υ,au,θ,ν,fH,bu,dI,aY,w,jT,bf,oK,φ,lh,m,qH,lm,ahZ,jJ,qP,g] at htake;have htake:=htake (by omega) (by omega) (by omega) trivial;generalize N:dN x c b / 9223372036854775808=f at*
 generalize O:dN x c b % 4294967296=z at*
 have p:z<4294967296:=by omega
 have h:bZ (y++ [z]):=bZ.app B (bZ.cons p bZ.nil);have a:aK (y++ [z])+q*aK v=W+4294967296^(n+1)*f:=by
  rw [mg,e];simp only [aK,Xjd,Xq5];have L:4294967296^n*(z+c+b)=4294967296^n*(x+4294967296*f):=by rw [J]
  rw [Xq3,Xqp];rw [Xxa,Xxa,Xxa] at L;rw [Xxa] at l;omega
 have o:=pG h;have hlen2:(y++ [z]).length=n+1:=by simp [e]
 rw [hlen2] at o;have hlist:pre++y++z::post=pre++(y++ [z])++post:=by simp
 have k:(!decide (f=0))=decide (W<q*aK v):=by
  rcases Xqb f with h0|h0
  ·rw [h0,Xjd,Xq5] at a;rw [h0,Yq0 rfl,Yq1 (by omega)];rfl
  ·rw [show f=1 by omega,υ] at a;rw [Yq1 (by omega),Yq0 (by omega)];rfl
 have G:aK (y++ [z])=if W<q*aK v then W+4294967296^(n+1) - q*aK v else W - q*aK v:=by
  rcases Xqb f with h0|h0
  ·rw [h0,Xjd,Xq5] at a;rw [if_neg (by omega)];omega
  ·rw [show f=1 by omega,υ] at a;rw [if_pos (by omega)];omega
 rw [hlist,Oo h hlen2,G,k] at htake;exact htake
theorem YF (pre post v:List Nat) (j:Bool) (n W:Nat) (i:v.length=n) (o:bZ v) (u:W<4294967296^(n+1)) (hpost:bZ post) (C:pre.length+n<2^40):
  ax prog ap 198 [.ref 0 0 pre.length (n+1),.sl (ak v) n j] (oO (pre++b_ (n+1) W++post)) (.ret (.tup [])) (oO (pre++b_ (n+1) ((W+aK v) % 4294967296^(n+1))++post)):=by
 have b:bZ (b_ (n+1) W++post):=bZ.app (bZ.pad _ _) hpost;obtain ⟨t,m,d,l⟩:=Rw v (b_ (n+1) W++post) 0 (by omega) o b (by simp [aV];omega);have hloop:=fun nt (hnt:42≤nt)=>YH hnt (pre++b_ (n+1) W++post) v j pre.length (n+1) o (by omega) (by omega) v [] (b_ (n+1) W++post) pre 0 rfl rfl (by simp [aV];omega) (by omega) b
 rw [i,Be,wo,l_] at l;rw [i,Bd,l_,ni] at hloop;generalize D:qC v (b_ (n+1) W++post) 0=r at*
 obtain ⟨y,c⟩:=r;simp only [Xq5,Δ,← Ψ] at t m d l hloop;have w:W / 4294967296^n<4294967296:=by
  rw [Xqt (iJ n),Xqa,← Xq3];exact u
 rw [φ w] at hloop;have A:=Xxc W (4294967296^n);generalize s:W / 4294967296^n=x at*
 have hgive:=acA (pre++b_ (n+1) W++post) (pre++y++x::post) v j pre.length (n+1) c hloop;have a:pre.length+n=(pre++y).length:=by simp [d,i]
 rw [i] at hgive d;have k:η (ε (pre.length+n) (ak (pre++y++x::post))) .dead= .int .u32 (x:Int):=jU a;have f:∀ z:Nat,μ (pre.length+n) (ak (pre++y++x::post))++ [Xxr .u32 (z:Int)]++ε (pre.length+n+1) (ak (pre++y++x::post))=ak (pre++y++z::post):=fun z=>lS a
 rw [qP,φ (show c<4294967296 by omega)] at hgive;have p:γ .u32 ((x:Int)+(c:Int))=(((x+c) % 4294967296:Nat):Int):=by rw [bW,qP]
 simp (disch:=first|omega|(simp [au,az]<;>omega)) only [aA,υ,au,θ,ν,fH,bu,dI,aY,k,jT,bf,bW,qP,f] at hgive;have hgive:=hgive (by omega) (by omega) (by omega) trivial;have h:bZ (y++ [(x+c) % 4294967296]):=bZ.app m (bZ.cons (Xqw _ (by omega)) bZ.nil);have e:aK (y++ [(x+c) % 4294967296])+4294967296^(n+1)*((x+c) / 4294967296)=W+aK v:=by
  rw [mg,d];simp only [aK,Xjd,Xq5];have B:4294967296^n*(x+c)=4294967296^n*(4294967296*((x+c) / 4294967296)+(x+c) % 4294967296):=by rw [Xxc]
  rw [Xq3,Xqp];rw [Xxa,Xxa] at B;omega
 have g:=pG h;have hlen2:(y++ [(x+c) % 4294967296]).length=n+1:=by simp [d]
 rw [hlen2] at g;have hlist:pre++y++(x+c) % 4294967296::post=pre++(y++ [(x+c) % 4294967296])++post:=by simp
 have q:aK (y++ [(x+c) % 4294967296])=(W+aK v) % 4294967296^(n+1):=by
  rw [← e,Xze,φ g]
 rw [hlist,Oo h hlen2,q] at hgive;exact hgive
theorem agr {nt:Nat} (t:130≤nt) (Q U U1 U2 v:List Nat) (d p M n j q:Nat) (h0:(Ξ (((0+(δ (j:Int)))*1)+1) (ζ (ak Q)))=true) (f:(decide (((0:Nat):Int)≤(j:Int)))=true) (A:(decide ((j:Int)<(d:Int)))=true) (r:(decide ((j:Int)≤(γ .i64 ((γ .i64 ((j:Int)+(n:Int)))+((1:Nat):Int)))))=true) (s:(decide ((γ .i64 ((γ .i64 ((j:Int)+(n:Int)))+((1:Nat):Int)))≤(M:Int)))=true) (D:(chk (.int .u32) (η (ε ((δ (γ .i64 ((n:Int) - ((2:Nat):Int))))*1) (ak v)) .dead))=true) (y:(decide (((0:Nat):Int)≤(γ .i64 ((n:Int) - ((2:Nat):Int)))))=true) (C:(decide ((γ .i64 ((n:Int) - ((2:Nat):Int)))<(v.length:Int)))=true) (w:(chk (.int .u32) (η (ε ((δ (γ .i64 ((n:Int) - ((1:Nat):Int))))*1) (ak v)) .dead))=true) (z:(decide (((0:Nat):Int)≤(γ .i64 ((n:Int) - ((1:Nat):Int)))))=true) (l:(decide ((γ .i64 ((n:Int) - ((1:Nat):Int)))<(v.length:Int)))=true) (c:(chk (.int .u32) (η (ε ((0+(δ (γ .i64 ((γ .i64 ((j:Int)+(n:Int))) - ((2:Nat):Int)))))*1) (ak U)) .dead))=true) (i:(decide (((0:Nat):Int)≤(γ .i64 ((γ .i64 ((j:Int)+(n:Int))) - ((2:Nat):Int)))))=true) (o:(decide ((γ .i64 ((γ .i64 ((j:Int)+(n:Int))) - ((2:Nat):Int)))<(M:Int)))=true) (m:(chk (.int .u32) (η (ε ((0+(δ (γ .i64 ((γ .i64 ((j:Int)+(n:Int))) - ((1:Nat):Int)))))*1) (ak U)) .dead))=true) (a:(decide (((0:Nat):Int)≤(γ .i64 ((γ .i64 ((j:Int)+(n:Int))) - ((1:Nat):Int)))))=true) (e:(decide ((γ .i64 ((γ .i64 ((j:Int)+(n:Int))) - ((1:Nat):Int)))<(M:Int)))=true) (h:(chk (.int .u32) (η (ε ((0+(δ (γ .i64 ((j:Int)+(n:Int)))))*1) (ak U)) .dead))=true) (g:(decide (((0:Nat):Int)≤(γ .i64 ((j:Int)+(n:Int)))))=true) (k:(decide ((γ .i64 ((j:Int)+(n:Int)))<(M:Int)))=true) (b:lit true (decide (((0:Nat):Int)≤(j:Int)))=true) (B:CO 196 [.agg [.int .u32 (τ (η (ε ((0+(δ (γ .i64 ((j:Int)+(n:Int)))))*1) (ak U)) .dead)),.int .u32 (τ (η (ε ((0+(δ (γ .i64 ((γ .i64 ((j:Int)+(n:Int))) - ((1:Nat):Int)))))*1) (ak U)) .dead)),.int .u32 (τ (η (ε ((0+(δ (γ .i64 ((γ .i64 ((j:Int)+(n:Int))) - ((2:Nat):Int)))))*1) (ak U)) .dead))],.agg [.int .u32 (τ (η (ε ((δ (γ .i64 ((n:Int) - ((1:Nat):Int))))*1) (ak v)) .dead)),.int .u32 (τ (η (ε ((δ (γ .i64 ((n:Int) - ((2:Nat):Int))))*1) (ak v)) .dead)),.int .u32 0]] (.ret (.int .u64 (q:Int)))) (u:ax prog ap 197 [.ref 0 0 (0+(δ (j:Int))) ((δ (γ .i64 ((γ .i64 ((j:Int)+(n:Int)))+((1:Nat):Int)))) - (δ (j:Int))),.sl (ak v) v.length true,.int .u64 (q:Int)] [⟨(ak U),0,false,0,1,true⟩] (.ret (.bool true)) [⟨(ak U1),0,false,0,1,true⟩]) (x:ax prog ap 198 [.ref 0 0 (0+(δ (j:Int))) ((δ (γ .i64 ((γ .i64 ((j:Int)+(n:Int)))+((1:Nat):Int)))) - (δ (j:Int))),.sl (ak v) v.length true] [⟨(ak U1),0,false,0,1,true⟩] (.ret (.tup [])) [⟨(ak U2),0,false,0,1,true⟩]):aj prog ap [] nt (ae 1 (af f184)) ⟨[(4,.ref 0 0 0 d),(8,ω (p:Int)),(9,.ref 1 0 0 M),(10,.sl (ak v) v.length true),(11,ω (n:Int)),(12,ω (j:Int))],[(0,⟨(ak Q),0,false,0,1,true⟩),(1,⟨(ak U),0,false,0,1,true⟩)],.dead,[]⟩ (.normal) ⟨[(4,.ref 0 0 0 d),(8,ω (p:Int)),(9,.ref 1 0 0 M),(10,.sl (ak v) v.length true),(11,ω (n:Int)),(12,ω (γ .i64 ((j:Int) - ((1:Nat):Int))))],[(0,⟨(μ ((0+(δ (j:Int)))*1) (ak Q)++ [.int .u32 (γ .u32 (γ .u64 ((q:Int) - ((1:Nat):Int))))]++ε (((0+(δ (j:Int)))*1)+1) (ak Q)),0,false,0,1,true⟩),(1,⟨(ak U2),0,false,0,1,true⟩)],.dead,[]⟩:=pJ 184 [] 2 3 (.c h0 (.c f (.c A (.c f (.c r (.c s (.k 1 f (.c r (.c s (.c D (.c y (.c C (.c w (.c z (.c l (.c c (.c i (.c o (.c m (.c a (.c e (.c h (.c g (.c k (.c b .nil))))))))))))))))))))))))) (.c x (.c u (.c B .nil))) t
theorem agp {nt:Nat} (r:130≤nt) (Q U U1 U2 v:List Nat) (d o M n j q:Nat) (h0:(Ξ (((0+(δ (j:Int)))*1)+1) (ζ (ak Q)))=true) (p:(decide (((0:Nat):Int)≤(j:Int)))=true) (x:(decide ((j:Int)<(d:Int)))=true) (y:(decide ((j:Int)≤(γ .i64 ((γ .i64 ((j:Int)+(n:Int)))+((1:Nat):Int)))))=true) (z:(decide ((γ .i64 ((γ .i64 ((j:Int)+(n:Int)))+((1:Nat):Int)))≤(M:Int)))=true) (C:(chk (.int .u32) (η (ε ((δ (γ .i64 ((n:Int) - ((2:Nat):Int))))*1) (ak v)) .dead))=true) (u:(decide (((0:Nat):Int)≤(γ .i64 ((n:Int) - ((2:Nat):Int)))))=true) (B:(decide ((γ .i64 ((n:Int) - ((2:Nat):Int)))<(v.length:Int)))=true) (t:(chk (.int .u32) (η (ε ((δ (γ .i64 ((n:Int) - ((1:Nat):Int))))*1) (ak v)) .dead))=true) (w:(decide (((0:Nat):Int)≤(γ .i64 ((n:Int) - ((1:Nat):Int)))))=true) (k:(decide ((γ .i64 ((n:Int) - ((1:Nat):Int)))<(v.length:Int)))=true) (c:(chk (.int .u32) (η (ε ((0+(δ (γ .i64 ((γ .i64 ((j:Int)+(n:Int))) - ((2:Nat):Int)))))*1) (ak U)) .dead))=true) (h:(decide (((0:Nat):Int)≤(γ .i64 ((γ .i64 ((j:Int)+(n:Int))) - ((2:Nat):Int)))))=true) (m:(decide ((γ .i64 ((γ .i64 ((j:Int)+(n:Int))) - ((2:Nat):Int)))<(M:Int)))=true) (l:(chk (.int .u32) (η (ε ((0+(δ (γ .i64 ((γ .i64 ((j:Int)+(n:Int))) - ((1:Nat):Int)))))*1) (ak U)) .dead))=true) (a:(decide (((0:Nat):Int)≤(γ .i64 ((γ .i64 ((j:Int)+(n:Int))) - ((1:Nat):Int)))))=true) (e:(decide ((γ .i64 ((γ .i64 ((j:Int)+(n:Int))) - ((1:Nat):Int)))<(M:Int)))=true) (g:(chk (.int .u32) (η (ε ((0+(δ (γ .i64 ((j:Int)+(n:Int)))))*1) (ak U)) .dead))=true) (f:(decide (((0:Nat):Int)≤(γ .i64 ((j:Int)+(n:Int)))))=true) (i:(decide ((γ .i64 ((j:Int)+(n:Int)))<(M:Int)))=true) (b:lit true (decide (((0:Nat):Int)≤(j:Int)))=true) (A:CO 196 [.agg [.int .u32 (τ (η (ε ((0+(δ (γ .i64 ((j:Int)+(n:Int)))))*1) (ak U)) .dead)),.int .u32 (τ (η (ε ((0+(δ (γ .i64 ((γ .i64 ((j:Int)+(n:Int))) - ((1:Nat):Int)))))*1) (ak U)) .dead)),.int .u32 (τ (η (ε ((0+(δ (γ .i64 ((γ .i64 ((j:Int)+(n:Int))) - ((2:Nat):Int)))))*1) (ak U)) .dead))],.agg [.int .u32 (τ (η (ε ((δ (γ .i64 ((n:Int) - ((1:Nat):Int))))*1) (ak v)) .dead)),.int .u32 (τ (η (ε ((δ (γ .i64 ((n:Int) - ((2:Nat):Int))))*1) (ak v)) .dead)),.int .u32 0]] (.ret (.int .u64 (q:Int)))) (s:ax prog ap 197 [.ref 0 0 (0+(δ (j:Int))) ((δ (γ .i64 ((γ .i64 ((j:Int)+(n:Int)))+((1:Nat):Int)))) - (δ (j:Int))),.sl (ak v) v.length true,.int .u64 (q:Int)] [⟨(ak U),0,false,0,1,true⟩] (.ret (.bool false)) [⟨(ak U1),0,false,0,1,true⟩]):aj prog ap [] nt (ae 1 (af f184)) ⟨[(4,.ref 0 0 0 d),(8,ω (o:Int)),(9,.ref 1 0 0 M),(10,.sl (ak v) v.length true),(11,ω (n:Int)),(12,ω (j:Int))],[(0,⟨(ak Q),0,false,0,1,true⟩),(1,⟨(ak U),0,false,0,1,true⟩)],.dead,[]⟩ (.normal) ⟨[(4,.ref 0 0 0 d),(8,ω (o:Int)),(9,.ref 1 0 0 M),(10,.sl (ak v) v.length true),(11,ω (n:Int)),(12,ω (γ .i64 ((j:Int) - ((1:Nat):Int))))],[(0,⟨(μ ((0+(δ (j:Int)))*1) (ak Q)++ [.int .u32 (γ .u32 (q:Int))]++ε (((0+(δ (j:Int)))*1)+1) (ak Q)),0,false,0,1,true⟩),(1,⟨(ak U1),0,false,0,1,true⟩)],.dead,[]⟩:=pJ 184 [] 2 1 (.c h0 (.c p (.c x (.k 1 p (.c y (.c z (.c C (.c u (.c B (.c t (.c w (.c k (.c c (.c h (.c m (.c l (.c a (.c e (.c g (.c f (.c i (.c b .nil)))))))))))))))))))))) (.c s (.c A .nil)) r
theorem agn {nt:Nat} (c:130≤nt) (Q U U1 U2 v:List Nat) (b a M n j q:Nat):aj prog ap [] nt (ae 1 (af f184)) ⟨[(4,.ref 0 0 0 b),(8,ω (a:Int)),(9,.ref 1 0 0 M),(10,.sl (ak v) v.length true),(11,ω (n:Int)),(12,ω (-1))],[(0,⟨(ak Q),0,false,0,1,true⟩),(1,⟨(ak U),0,false,0,1,true⟩)],.dead,[]⟩ (.exit 1) ⟨[(4,.ref 0 0 0 b),(8,ω (a:Int)),(9,.ref 1 0 0 M),(10,.sl (ak v) v.length true),(11,ω (n:Int)),(12,ω (-1))],[(0,⟨(ak Q),0,false,0,1,true⟩),(1,⟨(ak U),0,false,0,1,true⟩)],.dead,[]⟩:=pJ 184 [] 1 0 (.n 1 .nil) (.nil) c
theorem Lj {q Q k:Nat} (a:q<4294967296):b_ (k+1) (4294967296*Q+q)=q::b_ k Q:=by
 unfold b_;rw [Xwi,Xqf,Xwc];congr 1
 ·simp only [Xjd,Xva,Xvk,ni];omega
 ·apply Xjk;intro i _;simp only [Xvj,Xkc];rw [show 32*(i+1)=32+32*i by omega,Xxn,← Xxv,ni,show (4294967296*Q+q) / 4294967296=Q by omega]
theorem NR {k W V:Nat} (p:V<4294967296^(k+2)) (c:2147483648*4294967296^(k+1)≤V) (q:W<V*4294967296):
  W / V≤wC (W / 4294967296^(k+2) % 4294967296) (W / 4294967296^(k+1) % 4294967296) (W / 4294967296^k % 4294967296) (V / 4294967296^(k+1) % 4294967296) (V / 4294967296^k % 4294967296)∧
  wC (W / 4294967296^(k+2) % 4294967296) (W / 4294967296^(k+1) % 4294967296) (W / 4294967296^k % 4294967296) (V / 4294967296^(k+1) % 4294967296) (V / 4294967296^k % 4294967296)≤W / V+1∧
  W / 4294967296^(k+2) % 4294967296≤V / 4294967296^(k+1) % 4294967296∧2147483648≤V / 4294967296^(k+1) % 4294967296:=by
 have a:0<4294967296^k:=iJ k;have H:4294967296^(k+1)=4294967296^k*4294967296:=Xq3 ..;have t:4294967296^(k+2)=4294967296^k*4294967296*4294967296:=by rw [Xq3,Xq3]
 rw [t] at p ⊢;rw [H] at c ⊢;generalize 4294967296^k=P at*
 simp only [← Xxv];have O:=Xxc W P;have y:=Xqw W a;have u:=Xxc V P;have A:=Xqw V a;have hVpos:0<V:=by
  have:=Xz0 (show 0<2147483648 by omega) (Xz0 a (show 0<4294967296 by omega));omega
 generalize m:W / P=T at*
 generalize g:V / P=D at*
 generalize J:W % P=w at*
 generalize hd:V % P=d at*
 have l:2147483648*4294967296≤D:=by
  rw [← g,Xzb a]
  calc 2147483648*4294967296*P=2147483648*(P*4294967296):=by rw [Xqp,Xqa 4294967296 P]
   _≤V:=c
 have z:D<4294967296*4294967296:=by
  rw [← g,Xqt a]
  calc V<P*4294967296*4294967296:=p
   _=4294967296*4294967296*P:=by rw [Xqp,Xqa P]
 have r:T<(D+1)*4294967296:=by
  rw [← m,Xqt a]
  calc W<V*4294967296:=q
   _≤(D+1)*P*4294967296:=Xqv _ (by rw [Xxp,Xqa D];omega)
   _=(D+1)*4294967296*P:=by rw [Xqp,Xqp,Xqa P]
 have i:W / V≤4294967295:=by
  have:W / V<4294967296:=by rw [Xqt hVpos,Xqa];exact q
  omega
 have G:=Xxc W V;have C:=Xqw W hVpos;have s:T / 4294967296 / 4294967296<4294967296:=by omega
 have b:4294967296*(4294967296*(T / 4294967296 / 4294967296 % 4294967296)+T / 4294967296 % 4294967296)+T % 4294967296=T:=by omega
 have f:4294967296*(D / 4294967296 % 4294967296)+D % 4294967296=D:=by omega
 have n:0<D / 4294967296 % 4294967296:=by omega
 refine ⟨?_, ?_,by omega,by omega⟩
 ·rw [zH n,b,f];refine ⟨i, ?_⟩;have h:W / V*D*P<(T+1)*P:=by
   have o:W / V*D*P=W / V*(P*D):=by rw [Xqp,Xqa D]
   have j:W / V*(P*D)≤W / V*V:=Xq6 _ (by omega);rw [Xqa (W / V) V] at j;rw [Xxp,Xqa T P];omega
  have:=Xw9 h;omega
 ·generalize E:wC _ _ _ _ _=e;have h:=(zH (x:=e) n).1 (by rw [E];exact Θ _);rw [b,f] at h;obtain ⟨o,j⟩:=h;have N:e*V<W+V:=by
   have M:e*V=e*(P*D)+e*d:=by rw [← Xxa,u]
   have K:e*(P*D)=e*D*P:=by rw [Xqa P,Xqp]
   have F:e*D*P≤T*P:=Xqv _ j;have I:e*d≤e*P:=Xq6 _ (by omega);have L:e*P≤4294967295*P:=Xqv _ o;have B:2147483648*4294967296*P≤D*P:=Xqv _ l;rw [Xqa D] at B;rw [Xqa T] at F;omega
  have v:e*V<(W / V+2)*V:=by
   rw [Xxp,Xqa (W / V)];omega
  have:=Xw9 v;omega
def XE (a v:List Nat) (m j:Nat):List Nat:=κ j 0++b_ (m - j) (aK (a.drop j) / aK v)
def XF (a v:List Nat) (m j:Nat):List Nat:=a.take j++b_ v.length (aK (a.drop j) % aK v)++κ (m - j) 0
def NF (a v:List Nat) (sh m j:Nat):St:=⟨[(4,.ref 0 0 0 m),(8,ω (sh:Int)),(9,.ref 1 0 0 (m+v.length)),(10,.sl (ak v) v.length true),(11,ω (v.length:Int)),(12,ω ((j:Int) - 1))],[(0,⟨ak (XE a v m j),0,false,0,1,true⟩),(1,⟨ak (XF a v m j),0,false,0,1,true⟩)],.dead,[]⟩
theorem Zy {n r:Nat} (h:r<4294967296^n):b_ (n+1) r=b_ n r++ [0]:=by
 rw [uM,l_,Xx4 h]
theorem Yw {a v:List Nat} {m j:Nat} (f:j<m) (c:a.length=m+v.length) (d:bZ v) (b:bZ a) (e:0<aK v):XF a v m (j+1)=a.take j++b_ (v.length+1) (4294967296*(aK (a.drop (j+1)) % aK v)+a.getD j 0)++κ (m - j - 1) 0:=by
 unfold XF;rw [Lj (b.getD j),Xwk,show m - (j+1)=m - j - 1 by omega];have:a[j]? =some (a.getD j 0):=by rw [ξ,π (by omega)];rfl
 rw [this];simp
theorem Yv {a v:List Nat} {m j:Nat} (d:j<m) (b:bZ v) (c:0<aK v):XF a v m j=a.take j++b_ (v.length+1) (aK (a.drop j) % aK v)++κ (m - j - 1) 0:=by
 unfold XF;rw [Zy (Xxo (Xqw _ c) (pG b)),show m - j=(m - j - 1)+1 by omega,Xxe];simp
theorem Yu {a v:List Nat} {m j:Nat}:XE a v m (j+1)=κ j 0++0::b_ (m - j - 1) (aK (a.drop (j+1)) / aK v):=by
 unfold XE;rw [Xzg,show m - (j+1)=m - j - 1 by omega];simp
theorem acr {V R' Q' x H:Nat} (a:0<V) (h:H=V*Q'+R'):(x+4294967296*H) / V=4294967296*Q'+(4294967296*R'+x) / V∧(x+4294967296*H) % V=(4294967296*R'+x) % V:=by
 subst h;have e:x+4294967296*(V*Q'+R')=4294967296*R'+x+V*(4294967296*Q'):=by
  rw [Xxa,Nat.mul_left_comm];omega
 rw [e];constructor
 ·rw [Xz6 _ _ a,Xx9]
 ·rw [Xze]
theorem JJ {pre post:List Nat} {n W i:Nat} (h:i≤n):(pre++b_ (n+1) W++post).getD (pre.length+i) 0=W / 4294967296^i % 4294967296:=by
 rw [ξ,Xxf (by simp [aV];omega),Xjs (by omega),Nat.add_sub_cancel_left,qL (by omega),l_,ni];rfl
theorem PZ {v:List Nat} (a:bZ v) {i:Nat} (h:i<v.length):v.getD i 0=aK v / 4294967296^i % 4294967296:=by
 have e:=qL (n:=aK v) h;rw [EI a,l_,ni] at e;rw [ξ,e];rfl
def dvS (sh m M n:Nat) (v Q U:List Nat) (j:Int):St:=⟨[(4,.ref 0 0 0 m),(8,ω (sh:Int)),(9,.ref 1 0 0 M),(10,.sl (ak v) v.length true),(11,ω (n:Int)),(12,ω j)],[(0,⟨ak Q,0,false,0,1,true⟩),(1,⟨ak U,0,false,0,1,true⟩)],.dead,[]⟩
abbrev agu (x2 x1 x0 y1 y0:Nat):List AV:= [.agg [.int .u32 (x2:Int),.int .u32 (x1:Int),.int .u32 (x0:Int)],.agg [.int .u32 (y1:Int),.int .u32 (y0:Int),.int .u32 0]]
theorem ags {nt:Nat} (d:130≤nt) (Q R U U1 U2 v:List Nat) (b m n j q:Nat) (k:v.length=n) (o:2≤n) (p:U.length=m+n) (l:j<m) (r:m+n<2^40) (s:q<4294967296) (h:0<q) (i:Q.length=m) (a:∀ y:Nat,μ j (ak Q)++ [Xxr .u32 (y:Int)]++ε (j+1) (ak Q)=ak (Q.set j y)) (g:Q.set j (q - 1)=R)
  (c0:CO 196 (agu (U.getD (j+n) 0) (U.getD (j+n - 1) 0) (U.getD (j+n - 2) 0) (v.getD (n - 1) 0) (v.getD (n - 2) 0)) (.ret (.int .u64 (q:Int))))
  (c1:ax prog ap 197 [.ref 0 0 j (n+1),.sl (ak v) v.length true,.int .u64 (q:Int)] (oO U) (.ret (.bool true)) (oO U1))
  (c2:ax prog ap 198 [.ref 0 0 j (n+1),.sl (ak v) v.length true] (oO U1) (.ret (.tup [])) (oO U2)):
  aj prog ap [] nt (ae 1 (af f184)) (dvS b m (m+n) n v Q U (j:Int)) .normal (dvS b m (m+n) n v R U2 ((j:Int) - 1)):=by
 have hbody:=agr d Q U U1 U2 v m b (m+n) n j q;have e:γ .i64 ((j:Int) - ((1:Nat):Int))=(j:Int) - 1:=dL (by omega) (by omega);have c:(q+(18446744073709551616 - 1)) % 18446744073709551616=q - 1:=by omega
 have f:j+n+1 - j=n+1:=by omega
 simp (disch:=first|omega|(simp [au,az]<;>omega)) only [aA,χ,υ,au,fH,bu,dI,aY,bW,aX,jV,zf,jT,bF,bf,f,e,lh,φ,c,qP,a] at hbody;rw [g] at hbody;unfold dvS;apply hbody<;>first|exact True.intro|omega|assumption
theorem agq {nt:Nat} (c:130≤nt) (Q R U U1 v:List Nat) (b m n j q:Nat) (h:v.length=n) (k:2≤n) (l:U.length=m+n) (i:j<m) (o:m+n<2^40) (p:q<4294967296) (g:Q.length=m) (a:∀ y:Nat,μ j (ak Q)++ [Xxr .u32 (y:Int)]++ε (j+1) (ak Q)=ak (Q.set j y)) (f:Q.set j q=R)
  (c0:CO 196 (agu (U.getD (j+n) 0) (U.getD (j+n - 1) 0) (U.getD (j+n - 2) 0) (v.getD (n - 1) 0) (v.getD (n - 2) 0)) (.ret (.int .u64 (q:Int))))
  (c1:ax prog ap 197 [.ref 0 0 j (n+1),.sl (ak v) v.length true,.int .u64 (q:Int)] (oO U) (.ret (.bool false)) (oO U1)):
  aj prog ap [] nt (ae 1 (af f184)) (dvS b m (m+n) n v Q U (j:Int)) .normal (dvS b m (m+n) n v R U1 ((j:Int) - 1)):=by
 have hbody:=agp c Q U U1 U v m b (m+n) n j q;have d:γ .i64 ((j:Int) - ((1:Nat):Int))=(j:Int) - 1:=dL (by omega) (by omega);have e:j+n+1 - j=n+1:=by omega
 simp (disch:=first|omega|(simp [au,az]<;>omega)) only [aA,χ,υ,au,fH,bu,dI,aY,bW,aX,jV,zf,jT,bF,bf,e,d,qP,φ,a] at hbody;rw [f] at hbody;unfold dvS;apply hbody<;>first|exact True.intro|omega|assumption
theorem QG {l:List Nat} {j:Nat} (h:j<l.length) (y:Nat):μ j (ak l)++ [Xxr .u32 (y:Int)]++ε (j+1) (ak l)=ak (l.set j y):=by
 rw [oh,UO,Xxs,if_pos h];simp [ak]
theorem YA (a b c d e:Nat):wC a b c d e<4294967296:=Xq7 (Nat.min_le_left _ _) (by omega)
theorem Yy {nt:Nat} (M:130≤nt) (a v:List Nat) (B m j k:Nat) (A:v.length=k+2) (C:j<m) (ha:a.length=m+v.length) (r:bZ v) (w:bZ a) (P:a.length<2^40) (s:2147483648*4294967296^(k+1)≤aK v):
  aj prog ap [] nt (ae 1 (af f184)) (NF a v B m (j+1)) .normal (NF a v B m j):=by
 have o:=pG r;have hVpos:0<aK v:=by have:=Xz0 (show 0<2147483648 by omega) (iJ (k+1));omega
 have hx:=w.getD j;have Q:=Xqw (aK (a.drop (j+1))) hVpos;have H:=Xxc (aK (a.drop (j+1))) (aK v);have L:aK (a.drop j)=a.getD j 0+4294967296*aK (a.drop (j+1)):=TK (by omega);obtain ⟨z,t⟩:=acr (x:=a.getD j 0) hVpos H.symm;rw [← L] at z t;unfold NF;rw [show (((j+1:Nat):Int) - 1)=(j:Int) by omega];rw [Yw C ha r w hVpos,Yv C r hVpos,Yu,t];have X:XE a v m j=κ j 0++(4294967296*(aK (a.drop (j+1)) % aK v)+a.getD j 0) / aK v::b_ (m - j - 1) (aK (a.drop (j+1)) / aK v):=by
  unfold XE;rw [z,show m - j=(m - j - 1)+1 by omega,Lj]
  ·rfl
  ·rw [Xqt hVpos];omega
 rw [X];have U:4294967296*(aK (a.drop (j+1)) % aK v)+a.getD j 0<aK v*4294967296:=by omega
 generalize aK (a.drop (j+1)) / aK v=Q' at*
 generalize 4294967296*(aK (a.drop (j+1)) % aK v)+a.getD j 0=W at*
 have h:(a.take j).length=j:=by simp;omega
 generalize a.take j=pre at*
 obtain ⟨Y,Z,b3,b4⟩:=NR (k:=k) (W:=W) (by rw [← A];exact o) s U;have hpost:bZ (κ (m - j - 1) 0):=bZ.zeros _;have G:W<4294967296^(v.length+1):=by
  rw [Xq3];exact Xqg U (Xqv _ (Xwt o))
 have K:=JJ (pre:=pre) (post:=κ (m - j - 1) 0) (n:=v.length) (W:=W) (i:=k+2) (by omega);have D:=JJ (pre:=pre) (post:=κ (m - j - 1) 0) (n:=v.length) (W:=W) (i:=k+1) (by omega);have J:=JJ (pre:=pre) (post:=κ (m - j - 1) 0) (n:=v.length) (W:=W) (i:=k) (by omega);have v1:=PZ r (i:=k+1) (by omega);have v0:=PZ r (i:=k) (by omega);rw [h] at K D J;have O:j+v.length=j+(k+2):=by rw [A]
 have T:j+v.length - 1=j+(k+1):=by omega
 have R:j+v.length - 2=j+k:=by omega
 have S:v.length - 1=k+1:=by omega
 have N:v.length - 2=k:=by omega
 have V:=Xqw (W / 4294967296^(k+1)) (show 0<4294967296 by omega);have E:=Xqw (W / 4294967296^k) (show 0<4294967296 by omega);have F:=Xqw (aK v / 4294967296^(k+1)) (show 0<4294967296 by omega);have u:=Xqw (aK v / 4294967296^k) (show 0<4294967296 by omega);have g:=acs _ _ _ _ _ b3 V E F u b4;generalize hE:wC _ _ _ _ _=q at Y Z g;have c:q<4294967296:=by rw [← hE];exact YA ..
 have y:(pre++b_ (v.length+1) W++κ (m - j - 1) 0).length=m+v.length:=by simp [aV,h];omega
 have htake:=aay pre (κ (m - j - 1) 0) v true v.length W q rfl r c G hpost (by omega);have hqm:=Xxc W (aK v);have hql:=Xqw W hVpos;rw [h] at htake;rcases Xq9 (W / aK v) q with hlt|hge
 ·have p:q=W / aK v+1:=by omega
  have b:W<q*aK v:=by rw [p,Xxp,Xqa (W / aK v)];omega
  rw [if_pos b,Yq0 b] at htake;have hgive:=YF pre (κ (m - j - 1) 0) v true v.length (W+4294967296^(v.length+1) - q*aK v) rfl r (by omega) hpost (by omega);rw [h] at hgive;have d:(W+4294967296^(v.length+1) - q*aK v+aK v) % 4294967296^(v.length+1)=W % aK v:=by
   have e:W+4294967296^(v.length+1) - q*aK v+aK v=W % aK v+4294967296^(v.length+1):=by
    have:q*aK v=aK v*(W / aK v)+aK v:=by rw [p,Xxp,Xqa (W / aK v)];omega
    omega
   rw [e,Nat.add_mod_right,φ];have:=Xqj (show 0<4294967296 by omega) (show v.length≤v.length+1 by omega);omega
  rw [d] at hgive;have f:=QG (l:=κ j 0++0::b_ (m - j - 1) Q') (j:=j) (by simp);have I:(κ j 0++0::b_ (m - j - 1) Q').set j (q - 1)=κ j 0++W / aK v::b_ (m - j - 1) Q':=by
   rw [Xvx _ _ (by simp),show q - 1=W / aK v by rw [p,Xki]];simp
  have:=ags M _ _ _ _ _ v B m v.length j q rfl (by omega) y C (by omega) c (by rw [p];exact Nat.succ_pos _) (by simp [aV];omega) f I (by rw [T,R,S,N,O,K,D,J,v1,v0];exact g) htake hgive;exact this
 ·have p:q=W / aK v:=by omega
  have b:¬ W<q*aK v:=by rw [p,Xqa];omega
  rw [if_neg b,Yq1 b] at htake;have d:W - q*aK v=W % aK v:=by rw [p,Xqa];omega
  rw [d] at htake;have f:=QG (l:=κ j 0++0::b_ (m - j - 1) Q') (j:=j) (by simp);have I:(κ j 0++0::b_ (m - j - 1) Q').set j q=κ j 0++W / aK v::b_ (m - j - 1) Q':=by
   rw [Xvx _ _ (by simp),p];simp
  have:=agq M _ _ _ _ v B m v.length j q rfl (by omega) y C (by omega) c (by simp [aV];omega) f I (by rw [T,R,S,N,O,K,D,J,v1,v0];exact g) htake;exact this
theorem Yx {nt:Nat} (g:130≤nt) (a v:List Nat) (d m k:Nat) (f:v.length=k+2) (h:a.length=m+v.length) (i:bZ v) (e:bZ a) (c:a.length<2^40) (b:2147483648*4294967296^(k+1)≤aK v):
  ∀ j,j≤m→aF prog ap [] nt (ae 1 (af f184)) (fun _=> .exit 1) (NF a v d m) (NF a v d m) j 0:=by
 intro j
 induction j with
 |zero=>exact fun _=> .done (agn g (XE a v m 0) (XF a v m 0) [] [] v m d (m+v.length) v.length 0 0)
 |succ j ih=>exact fun l=> .next (Yy g a v d m j k f (by omega) h i e c b) (ih (by omega))
theorem agh (x y s r X1 b:Nat) (A Y Q U v:List Nat) (h0:lit true (decide ((lU x y)<((0:Nat):Int)))=true) (a:CO 183 [.sl (ak (digs x)) (digs x).length false,.sl (ak (digs y)) (digs y).length false] (.ret (ω (lU x y)))):CO 184 [.sl (ak (digs x)) (digs x).length false,.sl (ak (digs y)) (digs y).length false] (.ret (.tup [.nilS,.sl (ak (digs x)) (digs x).length false])):=pK [1] 1 1 (.c h0 .nil) (.c a .nil)
theorem agi (x y s r X1 g:Nat) (A Y Q U v:List Nat) (h0:(chk (.int .u32) (η (ak (digs y)) .dead))=true) (e:(decide (((0:Nat):Int)<(((digs y).length:Nat):Int)))=true) (d:lit true ((((digs y).length:Nat):Int)==((1:Nat):Int))=true) (f:lit false (decide ((lU x y)<((0:Nat):Int)))=true) (c:CO 183 [.sl (ak (digs x)) (digs x).length false,.sl (ak (digs y)) (digs y).length false] (.ret (ω (lU x y)))) (a:CO 193 [.sl (ak (digs x)) (digs x).length false,.int .u32 (τ (η (ak (digs y)) .dead))] (.ret (.tup [.sl (ak (digs X1)) (digs X1).length false,.int .u32 (r:Int)]))) (b:CO 161 [.sl [.int .u32 (r:Int)] 1 true] (.ret (.sl (ak (digs r)) (digs r).length false))):CO 184 [.sl (ak (digs x)) (digs x).length false,.sl (ak (digs y)) (digs y).length false] (.ret (.tup [.sl (ak (digs X1)) (digs X1).length false,.sl (ak (digs r)) (digs r).length false])):=pK [1] 2 2 (.c h0 (.k 1 e (.c d (.c f .nil)))) (.c b (.c a (.c c .nil)))
theorem agj (x y s r X1 a:Nat) (A Y Q U v:List Nat) (h0:(decide (((0:Nat):Int)≤(v.length:Int)))=true) (j:(decide ((v.length:Int)≤(A.length:Int)))=true) (i:(decide (((0:Nat):Int)≤(γ .i64 ((A.length:Int) - (v.length:Int)))))=true) (k:(decide ((γ .i64 ((A.length:Int) - (v.length:Int)))=(γ .i64 ((A.length:Int) - (v.length:Int)))))=true) (l:(decide ((γ .i64 ((A.length:Int) - (v.length:Int)))≤((1099511627776:Nat):Int)))=true) (p:(chk (.int .u32) (η (ε ((δ (γ .i64 ((((digs y).length:Nat):Int) - ((1:Nat):Int))))*1) (ak (digs y))) .dead))=true) (g:(decide (((0:Nat):Int)≤(γ .i64 ((((digs y).length:Nat):Int) - ((1:Nat):Int)))))=true) (o:(decide ((γ .i64 ((((digs y).length:Nat):Int) - ((1:Nat):Int)))<(((digs y).length:Nat):Int)))=true) (c:lit false ((((digs y).length:Nat):Int)==((1:Nat):Int))=true) (h:lit false (decide ((lU x y)<((0:Nat):Int)))=true) (n:CO 183 [.sl (ak (digs x)) (digs x).length false,.sl (ak (digs y)) (digs y).length false] (.ret (ω (lU x y)))) (b:CO 194 [.int .u32 (τ (η (ε ((δ (γ .i64 ((((digs y).length:Nat):Int) - ((1:Nat):Int))))*1) (ak (digs y))) .dead))] (.ret (ω (s:Int)))) (e:CO 195 [.sl (ak (digs x)) (digs x).length false,ω (s:Int)] (.ret (.own (ak A) A.length 1))) (d:CO 195 [.sl (ak (digs y)) (digs y).length false,ω (s:Int)] (.ret (.own (ak Y) Y.length 1))) (t:CO 161 [.sl (μ (Y.length*1) (ak Y)) Y.length true] (.ret (.sl (ak v) v.length true))) (m:aI prog ap [] 130 (.block 1 (.loop (ae 1 (af f184)))) ⟨[(0,.sl (ak (digs x)) (digs x).length false),(1,.sl (ak (digs y)) (digs y).length false),(4,.ref 0 0 0 (δ (γ .i64 ((A.length:Int) - (v.length:Int))))),(5,.nilS),(6,.dead),(7,.dead),(8,ω (s:Int)),(9,.ref 1 0 0 A.length),(10,.sl (ak v) v.length true),(11,ω (v.length:Int)),(12,ω (γ .i64 ((((δ (γ .i64 ((A.length:Int) - (v.length:Int)))):Nat):Int) - ((1:Nat):Int)))),(13,.dead),(14,.bool (decide ((lU x y)<((0:Nat):Int)))),(20,.bool ((((digs y).length:Nat):Int)==((1:Nat):Int))),(61,.dead),(106,.dead)],[(0,⟨(gp (δ (γ .i64 ((A.length:Int) - (v.length:Int)))) [.int .u32 0]),0,false,0,1,true⟩),(1,⟨(ak A),0,false,0,1,true⟩)],.dead,[]⟩ (.normal) ⟨[(4,.ref 0 0 0 a),(8,ω (s:Int)),(9,.ref 1 0 0 A.length),(11,ω (v.length:Int))],[(0,⟨(ak Q),0,false,0,1,true⟩),(1,⟨(ak U),0,false,0,1,true⟩)],.dead,[]⟩) (q:CO 161 [.sl (μ (a*1) (ak Q)) a true] (.ret (.sl (ak (digs X1)) (digs X1).length false))) (f:CO 199 [.sl (μ (((δ (v.length:Int)) - 0)*1) (ak U)) ((δ (v.length:Int)) - 0) true,ω (s:Int)] (.ret (.sl (ak (digs r)) (digs r).length false))):CO 184 [.sl (ak (digs x)) (digs x).length false,.sl (ak (digs y)) (digs y).length false] (.ret (.tup [.sl (ak (digs X1)) (digs X1).length false,.sl (ak (digs r)) (digs r).length false])):=pK [1] 2 0 (.k 1 h0 (.c j (.c i (.c k (.c l (.c p (.c g (.c o (.c c (.c h .nil)))))))))) (.c f (.c q (.l m (.c t (.c d (.c e (.c b (.c n .nil))))))))
abbrev dvB (x y s m:Nat) (A v:List Nat):St:=⟨[(0,.sl (ak (digs x)) (digs x).length false),(1,.sl (ak (digs y)) (digs y).length false),(4,.ref 0 0 0 m),(5,.nilS),(6,.dead),(7,.dead),(8,ω (s:Int)),(9,.ref 1 0 0 A.length),(10,.sl (ak v) v.length true),(11,ω (v.length:Int)),(12,ω ((m:Int) - 1)),(13,.dead),(14,.bool (decide (lU x y<((0:Nat):Int)))),(20,.bool (decide ((digs y).length=1))),(61,.dead),(106,.dead)],[(0,⟨ak (κ m 0),0,false,0,1,true⟩),(1,⟨ak A,0,false,0,1,true⟩)],.dead,[]⟩
abbrev dvC (s m:Nat) (A v Q U:List Nat):St:=⟨[(4,.ref 0 0 0 m),(8,ω (s:Int)),(9,.ref 1 0 0 A.length),(11,ω (v.length:Int))],[(0,⟨ak Q,0,false,0,1,true⟩),(1,⟨ak U,0,false,0,1,true⟩)],.dead,[]⟩
theorem agk (x y s r z m:Nat) (A Y Q U v:List Nat) (k:A.length=m+v.length) (c:A.length<2^40) (f:2≤(digs y).length) (e:(digs y).length<2^40) (g:0<m) (i:v.length≤U.length) (d:¬ lU x y<((0:Nat):Int)) (j:CO 183 [.sl (ak (digs x)) (digs x).length false,.sl (ak (digs y)) (digs y).length false] (.ret (ω (lU x y))))
  (c1:CO 194 [.int .u32 (((digs y).getD ((digs y).length - 1) 0:Nat):Int)] (.ret (ω (s:Int))))
  (c2:CO 195 [.sl (ak (digs x)) (digs x).length false,ω (s:Int)] (.ret (.own (ak A) A.length 1)))
  (c3:CO 195 [.sl (ak (digs y)) (digs y).length false,ω (s:Int)] (.ret (.own (ak Y) Y.length 1)))
  (c4:CO 161 [.sl (ak (μ Y.length Y)) Y.length true] (.ret (.sl (ak v) v.length true)))
  (l0:aI prog ap [] 130 (.block 1 (.loop (ae 1 (af f184)))) (dvB x y s m A v) .normal (dvC s m A v Q U))
  (c5:CO 161 [.sl (ak (μ m Q)) m true] (.ret (.sl (ak (digs z)) (digs z).length false)))
  (c6:CO 199 [.sl (ak (μ v.length U)) v.length true,ω (s:Int)] (.ret (.sl (ak (digs r)) (digs r).length false))):CO 184 [.sl (ak (digs x)) (digs x).length false,.sl (ak (digs y)) (digs y).length false] (.ret (.tup [.sl (ak (digs z)) (digs z).length false,.sl (ak (digs r)) (digs r).length false])):=by
 have h:=agj x y s r z m A Y Q U v;have b:γ .i64 ((m:Int) - ((1:Nat):Int))=(m:Int) - 1:=Ed (by omega);have a:A.length - v.length=m:=by omega
 simp (disch:=first|omega|(simp [au,az]<;>omega)) only [dI,bu,jV,a,decide_true,aA,υ,zf,jT,aY,jJ,dP,dY,eY,bf,oh,b,pz,Xjq] at h;apply h<;>first|exact True.intro|omega|assumption
abbrev dS (x:Nat):AV:= .sl (ak (digs x)) (digs x).length false
theorem jC.sl1 (a:List AV) (n:Nat) (b:Bool):jC (.ret (.sl a n b)) (.ret (.sl a n false)):=jC.ret rfl rfl (aZ.sl a n b)
theorem ui {x:Nat} (h:0<x):0<(digs x).length:=by
 rcases Xqb (digs x).length with h0|h0
 ·have:=jY (n:=x) (m:=0) (by omega);simp at this;omega
 ·exact h0
theorem UK {x:Nat} (h:(digs x).length=1):digs x= [x]∧x<4294967296:=by
 have b:=jY (n:=x) (m:=1) (by omega);rw [υ,ni] at b;have a:=fO x
 match hd:digs x,h with
 | [d],_=>rw [hd] at a;simp [aK] at a;subst a;exact ⟨rfl,b⟩
theorem m_ (x:Nat):x<4294967296^(digs x).length:=by
 have:=jY (n:=x) (Θ _);rwa [l_] at this
theorem PE {x k:Nat} (h:(digs x).length=k+1):4294967296^k≤x:=by
 rcases Xq9 x (4294967296^k) with h1|h1
 ·have:=jL (n:=x) (m:=k) (by rw [l_];exact h1);omega
 ·exact h1
theorem IE {x k:Nat} (h:x<4294967296^k):(digs x).length≤k:=jL (by rw [l_];exact h)
theorem Yo {x k:Nat} (h:4294967296^k≤x) (a:x<4294967296^(k+1)):(digs x).length=k+1:=by
 have c:=IE a;have b:=m_ x;rcases Xq9 (digs x).length (k+1) with h3|h3
 ·have:=Xqj (show 0<4294967296 by omega) (show (digs x).length≤k by omega);omega
 ·omega
theorem qw {x y:Nat} (h:x≤y):(digs x).length≤(digs y).length:=IE (Xq7 h (m_ y))
theorem Aa {y k:Nat} (h:(digs y).length=k+1):(digs y).getD k 0=y / 4294967296^k∧0<y / 4294967296^k∧y / 4294967296^k<4294967296:=by
 have b:=yz y k;have d:=PE h;have c:=m_ y;rw [h] at c;have a:y / 4294967296^k<4294967296:=by
  rw [Xqt (iJ k),Xqa,← Xq3];exact c
 rw [l_,ni,φ a] at b;exact ⟨b,Xvl d (iJ k),a⟩
theorem VU {y k:Nat} (h:(digs y).length=k+1):let s:=32 - fE (y / 4294967296^k)
  s≤31∧2147483648*4294967296^k≤2^s*y∧2^s*y<4294967296^(k+1):=by
 obtain ⟨_,j,i⟩:=Aa h;obtain ⟨e,a,d,f⟩:=zI j;have l:e+1≤32:=by rw [← a];exact pg i
 intro s;have hs:s=31 - e:=by show 32 - fE (y / 4294967296^k)=_;rw [a];omega
 rw [hs];refine ⟨by omega, ?_, ?_⟩
 ·have b:2147483648=2^(31 - e)*2^e:=by rw [← Xxn,show 31 - e+e=31 by omega]
  rw [b,Xqp];refine Xq6 _ ?_;exact (Xzb (iJ k)).1 d
 ·have g:y<2^(e+1)*4294967296^k:=(Xqt (iJ k)).1 f;have c:4294967296^(k+1)=2^(31 - e)*(2^(e+1)*4294967296^k):=by
   rw [← Xqp,← Xxn,show 31 - e+(e+1)=32 by omega,ni,Xq3,Xqa]
  rw [c];exact Xj7 g (Xqu _)
theorem TL {a:List Nat} {m:Nat} (d:bZ a) (h:m≤a.length):aK (a.drop m)=aK a / 4294967296^m:=by
 have c:=Fv a m h;have b:=pG (d.take m);rw [Xqq,Xjc h] at b;rw [c,Xz6 _ _ (iJ m),Xx4 b,χ]
theorem Rq (a v:List Nat) (m:Nat):XE a v m m=κ m 0:=by unfold XE;rw [Xws];simp [b_]
theorem Rt {a v:List Nat} {m:Nat} (c:a.length=m+v.length) (b:bZ a) (h:aK (a.drop m)<aK v):XF a v m m=a:=by
 unfold XF;rw [Xws,φ h,← Oo (b.drop m) (by rw [Xx5];omega)];simp
theorem GN (x y:Nat) (r:0<y) (hx:(digs x).length<2^39) (D:(digs y).length<2^39):CO 184 [dS x,dS y] (.ret (.tup [dS (x / y),dS (x % y)])):=by
 have a:=xh (digs x) (digs y) false false (by omega);rw [zx] at a;rcases Xq9 x y with hlt|hge
 ·have hs:lU x y= -1:=by unfold lU;rw [if_pos hlt]
  have h:=agh x y 0 0 0 0 [] [] [] [] [] (by rw [hs];rfl) a;rw [Xx4 hlt,φ hlt];exact h.out (jC.tup (.fit rfl rfl (aZ.nilS false rfl) (.same .nil)))
 ·have hs:lit false (decide (lU x y<((0:Nat):Int)))=true:=by
   unfold lU;rw [if_neg (by omega)];split<;>rfl
  rcases Xq9 (digs y).length 2 with h1|h1
  ·have G:(digs y).length=1:=by have:=ui r;omega
   obtain ⟨M,W⟩:=UK G;have g:=Xb (digs x) false y r W (by omega) (bZ.digs x);rw [fO] at g;have hr:x % y<y:=Xqw _ r;have ht:=abE [x % y] true (x % y) (by
    have X:=jR (l:= [x % y]) (bZ.cons (by omega) bZ.nil);simpa [aK] using X) (by simp)
   have h:=agi x y 0 (x % y) (x / y) 0 [] [] [] [] [];have I:dS y= .sl (ak [y]) [y].length false:=by unfold dS;rw [M]
   rw [M] at h a;rw [I];refine h ?_ ?_ ?_ hs a (g.out (jC.tup (.fit rfl rfl (aZ.sl _ _ _) (.same .nil)))) (ht.out (jC.sl1 _ _ _))
   all_goals rfl
  ·obtain ⟨k,N⟩:∃ k,(digs y).length=k+2:=⟨(digs y).length - 2,by omega⟩
   obtain ⟨e,z,L⟩:=VU N;generalize J:32 - fE (y / 4294967296^(k+1))=s at*
   obtain ⟨T,t2,U⟩:=Aa N;have d:=Y6 _ U;rw [J,← T] at d;have c:=abH (digs x) false s e hx (bZ.digs x);have b:=abH (digs y) false s e D (bZ.digs y);have p:(digs (2^s*y)).length=k+2:=Yo (Xxm (by have:=iJ (k+1);omega) z) L;have V:bZ (MI s 0 (digs y)):=QH e _ _ (Xqu _) (bZ.digs y);have u:bZ (MI s 0 (digs x)):=QH e _ _ (Xqu _) (bZ.digs x);have S:aK (MI s 0 (digs y))=2^s*y:=by rw [QI,fO,χ]
   have w:aK (MI s 0 (digs x))=2^s*x:=by rw [QI,fO,χ]
   have P:=A_ (MI s 0 (digs y)) _ (2^s*y) rfl (by rw [jR V,S]) (by rw [sG];omega);have hmono:=qw hge;have Vw:=sG s (digs x) 0;have o:=sG s (digs y) 0;rw [← Vw] at c;rw [← o] at b;generalize MI s 0 (digs x)=A at*
   generalize MI s 0 (digs y)=Y at*
   have q:aK (digs (2^s*y))=2^s*y:=fO _;have lv:bZ (digs (2^s*y)):=bZ.digs _;have Z:0<2^s*y:=Xz0 (Xqu _) r;generalize R:digs (2^s*y)=v at*
   obtain ⟨m,f⟩:∃ m,A.length=m+v.length:=⟨A.length - v.length,by omega⟩
   have O:aK (A.drop m)<aK v:=by
    rw [TL u (by omega),w,q];refine Xqg ?_ z;rw [Xqt (iJ m),Xqp,← Xxn];have H:2^s*x<2^s*4294967296^(digs x).length:=Xj7 (m_ x) (Xqu _);have B:2^s≤2^31:=Xqj (by omega) e;have e3:2^s*4294967296^(digs x).length≤2147483648*4294967296^(digs x).length:=Xqv _ (Xxm B (by decide));have e4:(digs x).length=k+1+m:=by omega
    rw [e4] at H e3;omega
   have hloop:=fun nt Q=>Yx (nt:=nt) Q A v s m k p f lv u (by omega) (by rw [q];exact z) m (Θ _)
   have C:XE A v m 0=b_ m (x / y):=by
    unfold XE;rw [Xx7,Xjq,w,q,Xv6 _ _ (Xqu s),List.replicate_zero,Xqc]
   have E:XF A v m 0=b_ v.length (2^s*(x % y))++κ m 0:=by
    unfold XF;rw [Xx7,Xjq,w,q,Xw0,List.take_zero,Xqc]
   have i:x / y<4294967296^m:=by
    have I:=Fv A m (by omega);have H:=pG (u.take m);rw [Xqq,Xjc (by omega)] at H;rw [← Xv6 x y (Xqu s),← w,Xqt Z,I,← q];have B:4294967296^m*(aK (A.drop m)+1)≤4294967296^m*aK v:=Xq6 _ O;rw [Xxa,υ] at B;omega
   have K:=A_ (b_ m (x / y)) m (x / y) (aV ..) (BN (by rw [l_];exact i)) (by omega);have n:2^s*(x % y)<4294967296^v.length:=by
    rw [p];refine Xxo ?_ L;exact Xj7 (Xqw _ r) (Xqu _)
   have j:=Yr (b_ v.length (2^s*(x % y))) true s e (by rw [aV];omega) (bZ.pad _ _);rw [wo,l_,φ n,Nat.mul_div_cancel_left _ (Xqu s),aV] at j;have F:μ v.length (ak (b_ v.length (2^s*(x % y))++κ m 0))=ak (b_ v.length (2^s*(x % y))):=by
    rw [oh,Xx3 (by rw [aV];exact Θ _),Xqd (by rw [aV];exact Θ _)]
   have t:(digs y).length - 1=k+1:=by omega
   rw [← t] at d;refine agk x y s (x % y) (x / y) m A Y (b_ m (x / y)) (b_ v.length (2^s*(x % y))++κ m 0) v f (by omega) (by omega) (by omega) (by omega) (by rw [θ,aV];omega) (by simpa [lit] using hs) a d c b ?_ ?_ ?_ ?_
   ·rw [Xqy];rw [υ,oh,Xqy] at P;exact P
   ·refine aF.blk hloop (by simp) rfl ?_ ?_
    ·unfold NF;rw [Rq,Rt f u O,← f];exact aJ.of ⟨rfl,rfl,rfl,rfl,rfl,rfl,trivial⟩
    ·unfold NF;rw [C,E,← f];exact aJ.of ⟨rfl,rfl,rfl,rfl,trivial⟩
   ·rw [υ,oh] at K;exact K.out (jC.sl1 _ _ _)
   ·rw [← oh,F];exact j.out (jC.sl1 _ _ _)
theorem aiu (s t:List UInt8) (h0:lit false ((((digs (ag t)).length:Nat):Int)==((0:Nat):Int))=true) (d:CO 136 [.str t] (.ret (.sl (ak (digs (ag t))) (digs (ag t)).length false))) (a:CO 136 [.str s] (.ret (.sl (ak (digs (ag s))) (digs (ag s)).length false))) (c:CO 184 [.sl (ak (digs (ag s))) (digs (ag s)).length false,.sl (ak (digs (ag t))) (digs (ag t)).length false] (.ret (.tup [.sl (ak (digs ((ag s) / (ag t)))) (digs ((ag s) / (ag t))).length false,.sl (ak (digs ((ag s) % (ag t)))) (digs ((ag s) % (ag t))).length false]))) (b:CO 134 [.sl (ak (digs ((ag s) / (ag t)))) (digs ((ag s) / (ag t))).length false] (.ret (.str (ai ((ag s) / (ag t)))))) (e:CO 134 [.sl (ak (digs ((ag s) % (ag t)))) (digs ((ag s) % (ag t))).length false] (.ret (.str (ai ((ag s) % (ag t)))))):CO 165 [.str s,.str t] (.ret (.tup [.str (ai ((ag s) / (ag t))),.str (ai ((ag s) % (ag t))),.bool true])):=pK [] 1 0 (.c h0 .nil) (.c e (.c b (.c c (.c a (.c d .nil)))))
theorem agz (s t:List UInt8) (g:Nat) (d:CO 136 [.str s] (.ret (.sl (ak (digs (ag s))) (digs (ag s)).length false))) (b:CO 136 [.str t] (.ret (.sl (ak (digs (ag t))) (digs (ag t)).length false))) (a:aI prog ap [] 26 (.block 0 (.loop (ae 0 (af f164)))) ⟨[(0,.str s),(1,.str t),(4,.str []),(5,.sl (ak (digs (ag s))) (digs (ag s)).length false),(6,.sl (ak (digs (ag t))) (digs (ag t)).length false),(8,.dead),(15,.dead)],[],.dead,[]⟩ (.normal) ⟨[(5,.sl (ak (digs g)) (digs g).length false)],[],.dead,[]⟩) (c:CO 134 [.sl (ak (digs g)) (digs g).length false] (.ret (.str (ai g)))):CO 164 [.str s,.str t] (.ret (.str (ai g))):=pK [0] 0 0 .nil (.c c (.l a (.c b (.c d .nil))))
theorem agx {nt:Nat} (a:26≤nt) (x y:Nat) (h0:lit true (decide (((0:Nat):Int)<(((digs y).length:Nat):Int)))=true) (b:CO 184 [.sl (ak (digs x)) (digs x).length false,.sl (ak (digs y)) (digs y).length false] (.ret (.tup [.sl (ak (digs (x / y))) (digs (x / y)).length false,.sl (ak (digs (x % y))) (digs (x % y)).length false]))):ψ nt f164 ⟨[(5,.sl (ak (digs x)) (digs x).length false),(6,.sl (ak (digs y)) (digs y).length false)],[],.dead,[]⟩ (.normal) ⟨[(5,.sl (ak (digs y)) (digs y).length false),(6,.sl (ak (digs (x % y))) (digs (x % y)).length false)],[],.dead,[]⟩:=pJ 164 [] 1 1 (.c h0 .nil) (.c b .nil) a
theorem agy {nt:Nat} (a:26≤nt) (x y:Nat) (h0:lit false (decide (((0:Nat):Int)<(((digs y).length:Nat):Int)))=true):ψ nt f164 ⟨[(5,.sl (ak (digs x)) (digs x).length false),(6,.sl (ak (digs y)) (digs y).length false)],[],.dead,[]⟩ (.exit 0) ⟨[(5,.sl (ak (digs x)) (digs x).length false)],[],.dead,[]⟩:=pJ 164 [] 1 0 (.c h0 .nil) (.nil) a
theorem ab_ (s:List UInt8) (k:Nat) (h0:lit true ((((digs (ag s)).length:Nat):Int)==((0:Nat):Int))=true) (a:CO 136 [.str s] (.ret (.sl (ak (digs (ag s))) (digs (ag s)).length false))):CO 116 [.str s] (.ret (ω 0)):=pK [] 1 1 (.c h0 .nil) (.c a .nil)
theorem aca (s:List UInt8) (k:Nat) (h0:(chk (.int .u32) (η (ε ((δ (γ .i64 ((((digs (ag s)).length:Nat):Int) - ((1:Nat):Int))))*1) (ak (digs (ag s)))) .dead))=true) (d:(decide (((0:Nat):Int)≤(γ .i64 ((((digs (ag s)).length:Nat):Int) - ((1:Nat):Int)))))=true) (c:(decide ((γ .i64 ((((digs (ag s)).length:Nat):Int) - ((1:Nat):Int)))<(((digs (ag s)).length:Nat):Int)))=true) (e:lit false ((((digs (ag s)).length:Nat):Int)==((0:Nat):Int))=true) (b:CO 136 [.str s] (.ret (.sl (ak (digs (ag s))) (digs (ag s)).length false))) (a:CO 140 [.int .u32 (τ (η (ε ((δ (γ .i64 ((((digs (ag s)).length:Nat):Int) - ((1:Nat):Int))))*1) (ak (digs (ag s)))) .dead))] (.ret (ω (k:Int)))):CO 116 [.str s] (.ret (ω (γ .i64 ((γ .i64 (((32:Nat):Int)*(γ .i64 ((((digs (ag s)).length:Nat):Int) - ((1:Nat):Int)))))+(k:Int))))):=pK [] 1 0 (.c h0 (.c d (.c c (.c e .nil)))) (.c a (.c b .nil))
theorem qx {s:List UInt8} {n:Nat} (h:s.length≤4*n):(digs (ag s)).length≤n:=by
 have:=jL (Ad s);omega
theorem Sj (s:List UInt8) (hs:s.length<2^38):CO 136 [.str s] (.ret (dS (ag s))):=(uJ s (by omega)).out (jC.sl1 _ _ _)
theorem v_ (x:Nat):fC (digs x)=digs x:=by
 have:=jR (bZ.digs x);rwa [fO] at this
theorem VY (x:Nat) (h:(digs x).length<2^36):CO 134 [dS x] (.ret (.str (ai x))):=qK (digs x) x false (v_ x) (by omega) h
theorem Yp {x:Nat}:(digs x).length=0↔x=0:=by
 constructor
 ·intro h;rcases Xqb x with h0|h0
  ·exact h0
  ·have:=ui h0;omega
 ·intro h;subst h;rfl
theorem Wn (s t:List UInt8) (hs:s.length<2^37) (d:t.length<2^37) (h0:0<ag t):CO 165 [.str s,.str t] (.ret (.tup [.str (ai (ag s / ag t)),.str (ai (ag s % ag t)),.bool true])):=by
 have a:=qx (s:=s) (n:=2^35) (by omega);have b:=qx (s:=t) (n:=2^35) (by omega);have hp:=ui h0;have e:=qw (Xzz (ag s) (ag t));have c:=qw (Xwt (Xqw (ag s) h0));have h:=aiu s t;simp (disch:=first|omega|(simp [au,az]<;>omega)) only [jJ,dP,dY,eY] at h;exact h (by omega) (Sj t (by omega)) (Sj s (by omega)) (GN _ _ h0 (by omega) (by omega)) (VY _ (by omega)) (VY _ (by omega))
def ak7 (p:Nat × Nat):St:=⟨[(5,dS p.1),(6,dS p.2)],[],.dead,[]⟩
def agw (x:Nat):St:=⟨[(5,dS x)],[],.dead,[]⟩
theorem UZ {nt:Nat} (a:26≤nt):∀ (n y x:Nat),y<n→(digs x).length<2^36→(digs y).length<2^36→aF prog ap [] nt (ae 0 (af f164)) (fun _=> .exit 0) ak7 agw (x,y) (Xxu x y):=by
 intro n
 induction n with
 |zero=>intro y x h;omega
 | succ n ih=>
  intro y x h e c;rcases Xqb y with rfl|h0
  ·rw [Nat.gcd_zero_right];exact .done (agy a x 0 rfl)
  ·have b:=Xqw x h0;have d:=qw (Xwt b);have hnext:=ih (x % y) y (by omega) c (by omega);rw [show Xxu y (x % y)=Xxu x y by rw [Xvy y,← Nat.gcd_rec,Xvy]] at hnext;refine .next ?_ hnext
   have hp:=ui h0;exact agx a x y (by rw [aY,bF];exact Yq0 hp) (GN _ _ h0 (by omega) (by omega))
theorem acx (s t:List UInt8) (hs:s.length<2^37) (e:t.length<2^37):CO 164 [.str s,.str t] (.ret (.str (ai (Xxu (ag s) (ag t))))):=by
 have c:=qx (s:=s) (n:=2^35) (by omega);have d:=qx (s:=t) (n:=2^35) (by omega);have a:(digs (Xxu (ag s) (ag t))).length<2^36:=by
  rcases Xqb (ag s) with h|h
  ·rw [h,Xwm];omega
  ·have:=qw (Xvz (ag t) h);omega
 exact agz s t _ (Sj s (by omega)) (Sj t (by omega)) (aF.blk (fun nt b=>UZ b (ag t+1) (ag t) (ag s) (by omega) (by omega) (by omega)) (by simp) rfl (aJ.of ⟨rfl,rfl,trivial⟩) (aJ.of ⟨rfl,trivial⟩)) (VY _ a)
theorem Vx {y k:Nat} (h:(digs y).length=k+1):fE y=32*k+fE ((digs y).getD k 0):=by
 obtain ⟨b,_,_⟩:=Aa h;have a:=PE h;rw [← l_] at a;rw [b,uz a,l_]
theorem Pi (s:List UInt8) (hs:s.length<2^37):CO 116 [.str s] (.ret (ω ((fE (ag s):Nat):Int))):=by
 have f:=qx (s:=s) (n:=2^35) (by omega);rcases Xqb (ag s) with h0|h0
 ·have hp:=Yp.2 h0;have h:=ab_ s 0 (by rw [hp];rfl) (Sj s (by omega));rw [h0];exact h
 ·have hp:=ui h0;obtain ⟨k,e⟩:∃ k,(digs (ag s)).length=k+1:=⟨(digs (ag s)).length - 1,by omega⟩
  have c:(digs (ag s)).getD k 0<4294967296:=bZ.getD (bZ.digs _) k;have i:=KN _ c;have j:fE ((digs (ag s)).getD k 0)≤32:=pg c;rw [Vx e];have h:=aca s (fE ((digs (ag s)).getD k 0));rw [e] at h;have d:k+1 - 1=k:=rfl;have g:k<(digs (ag s)).length:=by omega
  generalize fE ((digs (ag s)).getD k 0)=b at*
  simp (disch:=first|omega|(simp [au,az]<;>omega)) only [jV,d,aA,υ,zf,jT,dI,bu,aY,jJ,dP,dY,eY,bf,yl,aX,bW] at h;have a:=Sj s (by omega);unfold dS at a;rw [e] at a;apply h<;>first|exact True.intro|omega|assumption|exact rfl
def nR (s:List UInt8):Bool:=match s with| []=>true|c::_=> !(c==0)
def EK (s:List UInt8):Bool:=nR s && decide (0<ag s)
def iR (neg:Bool) (n d:List UInt8):Bool:=nR n && nR d && decide (0<ag d) && decide (Xxu (ag n) (ag d)=1) && (!neg||decide (0<ag n))
theorem ah1 (s:List UInt8) (h0:lit true (nR s)=true) (a:CO 138 [.str s] (.ret (.bool (nR s)))) (b:CO 163 [.str s,.str []] (.ret (ω (lU (ag s) (ag []))))):CO 137 [.agg [.str []],.str s] (.ret (.bool (decide (((0:Nat):Int)<(lU (ag s) (ag [])))))):=pK [] 1 1 (.k 1 h0 .nil) (.c b (.c a .nil))
theorem ah2 (s:List UInt8) (h0:lit false (nR s)=true) (a:CO 138 [.str s] (.ret (.bool (nR s)))):CO 137 [.agg [.str []],.str s] (.ret (.bool false)):=pK [] 1 0 (.c h0 .nil) (.c a .nil)
theorem aht (a:Bool) (n d:List UInt8) (g:Nat) (h0:lit true a=true) (e:CO 164 [.str n,.str d] (.ret (.str (ai g)))) (b:CO 165 [.str n,.str (ai g)] (.ret (.tup [.str (ai (ag n / g)),.str (ai (ag n % g)),.bool true]))) (c:CO 165 [.str d,.str (ai g)] (.ret (.tup [.str (ai (ag d / g)),.str (ai (ag d % g)),.bool true]))):CO 139 [.bool a,.str n,.str d] (.ret (.agg [.bool (!((ai (ag n / g))== [])),.str (ai (ag n / g)),.str (ai (ag d / g))])):=pK [] 1 1 (.k 4 h0 .nil) (.c c (.c b (.c e .nil)))
theorem ahu (a:Bool) (n d:List UInt8) (g:Nat) (h0:lit false a=true) (e:CO 164 [.str n,.str d] (.ret (.str (ai g)))) (b:CO 165 [.str n,.str (ai g)] (.ret (.tup [.str (ai (ag n / g)),.str (ai (ag n % g)),.bool true]))) (c:CO 165 [.str d,.str (ai g)] (.ret (.tup [.str (ai (ag d / g)),.str (ai (ag d % g)),.bool true]))):CO 139 [.bool a,.str n,.str d] (.ret (Ω false (ai (ag n / g)) (ai (ag d / g)))):=pK [] 1 0 (.k 4 h0 .nil) (.c c (.c b (.c e .nil)))
theorem WM (b a:Bool) (n d c e:List UInt8) (h0:lit true (nR n)=true) (g:lit true (EK d)=true) (i:CO 137 [.agg [.str []],.str d] (.ret (.bool (EK d)))) (f:CO 138 [.str n] (.ret (.bool (nR n)))) (h:CO 139 [.bool b,.str n,.str d] (.ret (Ω a c e))):CO 115 [Ω b n d] (.ret (.bool ((a==b) && ((c==n) && ((e==d) && true))))):=pK [] 2 3 (.k 6 h0 (.k 1 g (.n 1 .nil))) (.c h (.c f (.c i .nil)))
theorem WN (a b:Bool) (n d g h:List UInt8) (h0:lit false (nR n)=true) (e:lit true (EK d)=true) (f:CO 137 [.agg [.str []],.str d] (.ret (.bool (EK d)))) (c:CO 138 [.str n] (.ret (.bool (nR n)))):CO 115 [Ω a n d] (.ret (.bool false)):=pK [] 2 1 (.c h0 (.k 1 e (.n 1 .nil))) (.c c (.c f .nil))
theorem WO (a b:Bool) (n d e f:List UInt8) (h0:lit false (EK d)=true) (c:CO 137 [.agg [.str []],.str d] (.ret (.bool (EK d)))):CO 115 [Ω a n d] (.ret (.bool false)):=pK [] 2 0 (.k 1 h0 (.n 1 .nil)) (.c c .nil)
theorem acu (a:Bool) (n d:List UInt8) (h0:lit true (decide ((((fE (ag n)):Nat):Int)≤((400:Nat):Int)))=true) (c:lit true (iR a n d)=true) (f:CO 115 [Ω a n d] (.ret (.bool (iR a n d)))) (b:CO 116 [.str n] (.ret (ω (((fE (ag n)):Nat):Int)))) (e:CO 116 [.str d] (.ret (ω (((fE (ag d)):Nat):Int)))):CO 84 [Ω a n d] (.ret (.bool (decide ((((fE (ag d)):Nat):Int)≤((400:Nat):Int))))):=pK [] 2 3 (.k 1 h0 (.k 1 c (.n 3 .nil))) (.c e (.c b (.c f .nil)))
theorem acv (a:Bool) (n d:List UInt8) (h0:lit false (decide ((((fE (ag n)):Nat):Int)≤((400:Nat):Int)))=true) (c:lit true (iR a n d)=true) (e:CO 115 [Ω a n d] (.ret (.bool (iR a n d)))) (b:CO 116 [.str n] (.ret (ω (((fE (ag n)):Nat):Int)))):CO 84 [Ω a n d] (.ret (.bool false)):=pK [] 2 1 (.c h0 (.k 1 c (.n 3 .nil))) (.c b (.c e .nil))
theorem acw (a:Bool) (n d:List UInt8) (h0:lit false (iR a n d)=true) (b:CO 115 [Ω a n d] (.ret (.bool (iR a n d)))):CO 84 [Ω a n d] (.ret (.bool false)):=pK [] 2 0 (.k 1 h0 (.n 3 .nil)) (.c b .nil)
theorem fK:ai 0= []:=Ez []
theorem jM {x k:Nat} (h:x<2^(8*k)):(ai x).length≤k:=by
 rw [← P_ h];have b:=(Xzs (· ==0) (l:=kF k x)).length_le;have a:(kF k x).length=k:=by
  have:∀ m,(kF m x).length=m:=by
   intro m
   induction m with
   |zero=>rfl
   |succ m ih=>rw [qW,ν,ih]
  exact this k
 omega
theorem jS (s:List UInt8):ag s<2^(8*s.length):=by
 have h:=wu s;rwa [show (256:Nat)=2^8 from rfl,← Xja] at h
theorem lN {x:Nat} {s:List UInt8} (h:x≤ag s):(ai x).length≤s.length:=jM (Xq7 h (jS s))
theorem jm {x:Nat}:ai x= []↔x=0:=by
 constructor
 ·intro h;have:=aN x;rw [h] at this;exact this.symm
 ·intro h;subst h;exact fK
theorem VP {x y:Nat} (h:ai x=ai y):x=y:=by rw [← aN x,h,aN]
theorem rG (s:List UInt8):nR s=true↔ai (ag s)=s:=by
 rw [Ez];cases s with
 |nil=>simp [nR]
 | cons c r=>
  simp only [nR,Xx0];by_cases h:c=0
  ·subst h;simp only [beq_self_eq_true,Xwg,Xj8,if_true,false_iff];intro a;have:=(Xzs (· ==(0:UInt8)) (l:=r)).length_le;rw [a] at this;simp at this;omega
  ·simp [h]
theorem BV (x:Nat):nR (ai x)=true:=(rG _).2 (by rw [aN])
theorem Ho (s:List UInt8):CO 138 [.str s] (.ret (.bool (nR s))):=by
 cases s with
 |nil=>exact VN [] rfl
 | cons c r=>
  have h:=VO (c::r) (by simp) rfl;have e:(!((((c::r).getD 0 0).toNat:Int)==(0:Int)))=nR (c::r):=by
   simp only [List.getD_cons_zero,nR];by_cases hc:c=0
   ·subst hc;rfl
   ·have:c.toNat ≠ 0:=fun h=>hc (by apply UInt8.toNat_inj.1;simpa using h)
    have a:((c.toNat:Int)==(0:Int))=false:=by simp;omega
    rw [a];simp [hc]
  rw [e] at h;exact h
theorem W_ (x:Nat):decide (((0:Nat):Int)<lU x (ag []))=decide (0<x):=by
 have:ag []=0:=rfl;rw [this];unfold lU;rcases Xqb x with rfl|h
 ·rfl
 ·rw [if_neg (by omega),if_pos h,Yq0 h];rfl
theorem ade (s:List UInt8) (hs:s.length<2^37):CO 137 [.agg [.str []],.str s] (.ret (.bool (EK s))):=by
 have b:=Ho s;unfold EK;cases a:nR s with
 |true=>
  have h:=ah1 s (by rw [a];rfl) b (afs s [] (by omega) (by simp));rw [W_] at h;exact h
 |false=>
  exact ah2 s (by rw [a];rfl) b
abbrev Ov (neg:Bool) (n d:Nat):AV:= .agg [.bool neg,.str (ai n),.str (ai d)]
abbrev apb (neg:Bool) (n d:Nat):AV:=Ov (neg && decide (0<n)) (n / Xxu n d) (d / Xxu n d)
theorem Ky {n d:Nat} (h:0<n):0<n / Xxu n d:=Xvl (Xvz d h) (Nat.gcd_pos_of_pos_left d h)
theorem VE (a:Bool) (n d:List UInt8) (k:n.length<2^36) (hd:d.length<2^36) (h0:0<ag d):CO 139 [.bool a,.str n,.str d] (.ret (apb a (ag n) (ag d))):=by
 have g:=acx n d (by omega) (by omega);have b:0<Xxu (ag n) (ag d):=Xzj _ h0;have i:(ai (Xxu (ag n) (ag d))).length≤d.length:=lN (Nat.gcd_le_right _ h0);have f:=Wn n (ai (Xxu (ag n) (ag d))) (by omega) (by omega) (by rw [aN];exact b);have c:=Wn d (ai (Xxu (ag n) (ag d))) (by omega) (by omega) (by rw [aN];exact b);rw [aN] at f c;cases a with
 | true=>
  have h:=aht true n d (Xxu (ag n) (ag d)) rfl g f c;have e:(!(ai (ag n / Xxu (ag n) (ag d))== []))=(true && decide (0<ag n)):=by
   rcases Xqb (ag n) with h1|h1
   ·rw [h1,Nat.zero_div,fK];rfl
   ·have l:=Ky (d:=ag d) h1;have j:ai (ag n / Xxu (ag n) (ag d)) ≠ []:=fun h=>by have:=jm.1 h;omega
    simp [j,h1]
  rw [e] at h;exact h
 |false=>exact ahu false n d (Xxu (ag n) (ag d)) rfl g f c
theorem lJ {a:Bool} {n d:List UInt8}:iR a n d=true↔nR n=true∧nR d=true∧0<ag d∧Xxu (ag n) (ag d)=1∧(a=true→0<ag n):=by
 unfold iR;cases a<;>simp [and_assoc]
theorem SQ {f:Bool} {n d:List UInt8} (j:nR n=true) (k:nR d=true) (h:0<ag d):(((f && decide (0<ag n))==f) && ((ai (ag n / Xxu (ag n) (ag d))==n) && ((ai (ag d / Xxu (ag n) (ag d))==d) && true)))=iR f n d:=by
 rw [Xx6,lJ];simp only [σ,beq_iff_eq,and_true];have l:0<Xxu (ag n) (ag d):=Xzj _ h;constructor
 ·rintro ⟨a,b,c⟩
  refine ⟨j,k,h, ?_, ?_⟩
  ·have e:=congrArg ag c;rw [aN] at e;have i:=Nat.div_mul_cancel (Nat.gcd_dvd_right (ag n) (ag d));rw [e] at i;exact Nat.eq_of_mul_eq_mul_left h (by rw [i,υ])
  ·intro g;subst g;simpa using a
 ·rintro ⟨_,_,_,hg,g⟩
  rw [hg,Xvk,Xvk];refine ⟨?_,(rG n).1 j,(rG d).1 k⟩;cases f with
  |false=>rfl
  |true=>simp [g rfl]
theorem uO (a:Bool) (n d:List UInt8) (j:n.length<2^36) (hd:d.length<2^36):CO 115 [Ω a n d] (.ret (.bool (iR a n d))):=by
 have hp:=ade d (by omega);have i:=Ho n;cases c:EK d with
 | false=>
  have h:=WO a a n d n d (by rw [c];rfl) hp;have e:iR a n d=false:=by
   rw [Xwn];intro g;obtain ⟨_,k,l,_⟩:=lJ.1 g;simp [EK,k,l] at c
  rw [e];exact h
 | true=>
  have b:nR d=true∧0<ag d:=by simpa [EK] using c
  cases f:nR n with
  | false=>
   have h:=WN a a n d n d (by rw [f];rfl) (by rw [c];rfl) hp i;have e:iR a n d=false:=by
    rw [Xwn];intro g;have:=(lJ.1 g).1;rw [f] at this;cases this
   rw [e];exact h
  |true=>
   have h:=WM a (a && decide (0<ag n)) n d (ai (ag n / Xxu (ag n) (ag d))) (ai (ag d / Xxu (ag n) (ag d))) (by rw [f];rfl) (by rw [c];rfl) hp i (VE a n d j hd b.2);rw [SQ f b.1 b.2] at h;exact h
def jf (neg:Bool) (n d:List UInt8):Bool:=iR neg n d && decide (fE (ag n)≤400) && decide (fE (ag d)≤400)
theorem iP (a:Bool) (n d:List UInt8) (f:n.length<2^36) (hd:d.length<2^36):CO 84 [Ω a n d] (.ret (.bool (jf a n d))):=by
 have b:=uO a n d f hd;have e:=Pi n (by omega);have g:=Pi d (by omega);unfold jf;cases c:iR a n d with
 |false=>exact acw a n d (by rw [c];rfl) b
 | true=>
  by_cases h3:fE (ag n)≤400
  ·have h:=acu a n d (by rw [dI,Yq0 h3];rfl) (by rw [c];rfl) b e g;rw [dI] at h;rw [Yq0 h3];exact h
  ·have h:=acv a n d (by rw [dI,Yq1 h3];rfl) (by rw [c];rfl) b e;rw [Yq1 h3];exact h
theorem Zi (x:Nat) (h0:lit true (decide ((x:Int)≤((0:Nat):Int)))=true):CO 114 [ω (x:Int)] (.ret (.str [])):=pK [] 1 1 (.c h0 .nil) (.nil)
theorem Zj (x:Nat) (h0:lit false (decide ((x:Int)≤((0:Nat):Int)))=true) (a:CO 134 [.sl [.int .u32 (γ .u32 (γ .i64 (Xxl (Xqh (Xqe .i64) (x:Int) &&& Xqh (Xqe .i64) ((4294967295:Nat):Int))))),.int .u32 (γ .u32 (Xq0 (x:Int) (2^(min 32 64))))] 2 true] (.ret (.str (ai x)))):CO 114 [ω (x:Int)] (.ret (.str (ai x))):=pK [] 1 0 (.k 1 h0 .nil) (.c a .nil)
theorem ZW (x:Nat) (h0:lit false (decide ((x:Int)<((0:Nat):Int)))=true) (a:CO 114 [ω (x:Int)] (.ret (.str (ai x)))) (b:CO 114 [ω 1] (.ret (.str (ai 1)))):CO 83 [ω (x:Int)] (.ret (Ω false (ai x) (ai 1))):=pK [] 1 0 (.k 4 h0 .nil) (.c b (.c a .nil))
theorem aaj (a:Bool) (n d:List UInt8) (h0:lit true (!(iR a n d))=true) (b:CO 115 [Ω a n d] (.ret (.bool (iR a n d)))):CO 85 [Ω a n d] (.ret (ω 0)):=pK [] 2 3 (.k 1 h0 (.n 3 .nil)) (.c b .nil)
theorem aak (a:Bool) (n d:List UInt8) (h0:lit true ((a==false) && ((n==(ai 0)) && ((d==(ai 1)) && true)))=true) (c:lit false (!(iR a n d))=true) (e:CO 115 [Ω a n d] (.ret (.bool (iR a n d)))) (b:CO 83 [ω 0] (.ret (Ω false (ai 0) (ai 1)))):CO 85 [Ω a n d] (.ret (ω 0)):=pK [] 2 2 (.c h0 (.k 3 c (.n 3 .nil))) (.c b (.c e .nil))
theorem aal (a:Bool) (n d:List UInt8) (h0:lit true a=true) (c:lit false ((a==false) && ((n==(ai 0)) && ((d==(ai 1)) && true)))=true) (f:lit false (!(iR a n d))=true) (e:CO 115 [Ω a n d] (.ret (.bool (iR a n d)))) (b:CO 83 [ω 0] (.ret (Ω false (ai 0) (ai 1)))):CO 85 [Ω a n d] (.ret (ω (-1))):=pK [] 3 4 (.c h0 (.k 1 c (.k 3 f (.n 3 .nil)))) (.c b (.c e .nil))
theorem aam (a:Bool) (n d:List UInt8) (h0:lit false a=true) (c:lit false ((a==false) && ((n==(ai 0)) && ((d==(ai 1)) && true)))=true) (f:lit false (!(iR a n d))=true) (e:CO 115 [Ω a n d] (.ret (.bool (iR a n d)))) (b:CO 83 [ω 0] (.ret (Ω false (ai 0) (ai 1)))):CO 85 [Ω a n d] (.ret (ω 1)):=pK [] 3 0 (.c h0 (.k 1 c (.k 3 f (.n 3 .nil)))) (.c b (.c e .nil))
theorem Xu {x:Nat} (a:x<9223372036854775808):fC [x % 4294967296,x / 4294967296]=digs x:=by
 have h:=jR (l:= [x % 4294967296,x / 4294967296]) (bZ.cons (Xqw _ (by omega)) (bZ.cons (by omega) bZ.nil));rw [h];congr 1;simp only [aK,Xjd,Xq5];omega
theorem NE {x:Nat} (a:x<9223372036854775808):(digs x).length≤2:=IE (Xqg a (by decide))
theorem K_ (x:Nat) (c:x<9223372036854775808):CO 114 [ω (x:Int)] (.ret (.str (ai x))):=by
 rcases Xqb x with rfl|h0
 ·rw [fK];exact Zi 0 rfl
 ·have hd:=NE c;have a:=qK [x % 4294967296,x / 4294967296] x true (Xu c) (by simp) (by omega);have h:=Zj x;have d:(4294967295:Nat)<18446744073709551616:=by omega
  simp (disch:=first|omega|(simp [au,az]<;>omega)) only [dI,dP,dY,eY,akV,CW,aX,qP,φ,qH,lm,ni] at h;have b:¬ x≤0:=by omega
  apply h
  ·exact b
  ·exact a
theorem Lu (x:Nat) (a:x<9223372036854775808):CO 83 [ω (x:Int)] (.ret (Ov false x 1)):=
 ZW x (by rw [aY];exact (by simp [lit])) (K_ x a) (K_ 1 (by omega))
theorem mF:CO 83 [ω 0] (.ret (Ov false 0 1)):=Lu 0 (by omega)
theorem EQ:CO 83 [ω 1] (.ret (Ov false 1 1)):=Lu 1 (by omega)
def gz (neg:Bool) (n d:List UInt8):Int:=if iR neg n d=true∧0<ag n then (if neg then -1 else 1) else 0
theorem DX {a:Bool} {n d:List UInt8} (h:iR a n d=true):((a==false) && ((n==ai 0) && ((d==ai 1) && true)))=decide (ag n=0):=by
 obtain ⟨g,i,j,b,f⟩:=lJ.1 h;have e:=(rG n).1 g;have c:=(rG d).1 i;rw [Xx6];simp only [σ,beq_iff_eq,and_true,decide_eq_true_eq];constructor
 ·rintro ⟨_,hn,_⟩
  rw [hn,aN]
 ·intro h0;rw [h0] at e b;rw [Xwm] at b;rw [b] at c;refine ⟨?_,e.symm,c.symm⟩;cases a with
  |false=>rfl
  |true=>have:=f rfl;omega
theorem jO (a:Bool) (n d:List UInt8) (e:n.length<2^36) (hd:d.length<2^36):CO 85 [Ω a n d] (.ret (ω (gz a n d))):=by
 have c:=uO a n d e hd;unfold gz;cases b:iR a n d with
 |false=>
  have h:=aaj a n d (by rw [b];rfl) c;rw [if_neg (by simp)];exact h
 | true=>
  by_cases h0:ag n=0
  ·have h:=aak a n d (by rw [DX b,Yq0 h0];rfl) (by rw [b];rfl) c mF;rw [if_neg (by omega)];exact h
  ·rw [if_pos ⟨rfl,by omega⟩];cases a with
   |true=>exact aal true n d rfl (by rw [DX b,Yq1 h0];rfl) (by rw [b];rfl) c mF
   |false=>exact aam false n d rfl (by rw [DX b,Yq1 h0];rfl) (by rw [b];rfl) c mF
def ah (l:List Nat):List AV:=l.map fun (d:Nat)=>ω (d:Int)
theorem bQ (l:List Nat):(ah l).length=l.length:=by simp [ah]
theorem KG (a b:List Nat):ah (a++b)=ah a++ah b:=by simp [ah]
theorem fJ {l:List Nat} {k:Nat} (h:k<l.length):η (ε k (ah l)) .dead= ω ((l.getD k 0:Nat):Int):=by
 unfold ah;rw [← Xjx,Xxb h,Xqf,Xje,ξ,π h];rfl
theorem dC (l:List Nat) (k:Nat):μ k (ah l)=ah (l.take k):=by unfold ah;rw [Xwe]
theorem KA (l:List Nat) (k:Nat):ε k (ah l)=ah (l.drop k):=by unfold ah;rw [Xjx]
theorem eF (x:Int):chk (.int .i64) (ω x)=true:=rfl
theorem PV {l:List Nat} {j:Nat} (h:j<l.length) (y:Nat):μ j (ah l)++ [ω (y:Int)]++ε (j+1) (ah l)=ah (l.set j y):=by
 rw [dC,KA,Xxs,if_pos h];simp [ah]
theorem yO (m:Nat):gp m [ω 0]=ah (κ m 0):=by
 unfold gp ah
 induction m with
 |zero=>rfl
 |succ m ih=>rw [Xxe,List.flatten_cons,ih,Xxe];rfl
theorem iT (l:List Nat) (x:Nat):ah l++ [ω (x:Int)]=ah (l++ [x]):=by rw [KG];rfl
theorem KH (l:List Nat) (x:Nat):[ω (x:Int)]++ah l=ah (x::l):=rfl
theorem OZ (x:Nat) (l:List Nat):fC (x::l)=if fC l= []∧x=0 then [] else x::fC l:=by
 unfold fC;rw [Xj3,List.dropWhile_append];by_cases h:(Yqm (· ==0) l.reverse)= []
 ·simp only [h,List.isEmpty_nil,if_true,Xwu];by_cases hx:x=0
  ·subst hx;simp
  ·simp [hx]
 ·have:(Yqm (· ==0) l.reverse).isEmpty=false:=by simpa using h
  simp only [this,Xj8,if_false];rw [if_neg (by simp only [List.reverse_eq_nil_iff];exact fun ⟨h1,_⟩=>h h1)];simp
def dA:List Nat→Nat
 | []=>0
 |d::l=>d+16777216*dA l
def bz (l:List Nat):Prop:=∀ d ∈ l,d<16777216
theorem bz.nil:bz []:=fun _ h=>(by cases h)
theorem bz.cons {d:Nat} {l:List Nat} (h:d<16777216) (b:bz l):bz (d::l):=by
 intro x a;rcases List.mem_cons.1 a with rfl|a
 ·exact h
 ·exact b x a
theorem bz.head {d:Nat} {l:List Nat} (h:bz (d::l)):d<16777216:=h d (Xji ..)
theorem bz.tail {d:Nat} {l:List Nat} (h:bz (d::l)):bz l:=fun x a=>h x (Xxx _ a)
theorem bz.app {a b:List Nat} (h:bz a) (d:bz b):bz (a++b):=fun x c=>(List.mem_append.1 c).elim (h x) (d x)
theorem bz.take {a:List Nat} (h:bz a) (n:Nat):bz (a.take n):=fun x b=>h x (Xjg b)
theorem bz.getD {a:List Nat} (h:bz a) (n:Nat):a.getD n 0<16777216:=by
 rw [ξ];rcases Xq9 n a.length with hn|hn
 ·rw [π hn];exact h _ (List.getElem_mem hn)
 ·rw [Xqx hn];show 0<16777216;omega
theorem bz.zeros (n:Nat):bz (κ n 0):=fun x a=>by rw [(List.mem_replicate.1 a).2];omega
theorem zh (a b:List Nat):dA (a++b)=dA a+16777216^a.length*dA b:=by
 induction a with
 |nil=>simp [dA]
 |cons x a ih=>
  simp only [Xq1,dA,ih,ν,Xq3,Xxa];rw [Xqa (16777216^a.length) 16777216,Xqp];omega
theorem Wj (k:Nat):0<16777216^k:=Yqc (by omega)
theorem zi {l:List Nat} (h:bz l):dA l<16777216^l.length:=by
 induction l with
 |nil=>simp [dA]
 |cons d l ih=>
  have a:=ih h.tail;have b:=h.head;simp only [dA,ν,Xq3];omega
theorem O1 (n:Nat):dA (κ n 0)=0:=by
 induction n with
 |zero=>rfl
 |succ n ih=>rw [Xxe];simp only [dA,ih]
def ay (n:Nat):List Nat:=if n=0 then [] else n % 16777216::ay (n / 16777216)
termination_by n
decreasing_by omega
theorem gm:ay 0= []:=by rw [ay,if_pos rfl]
theorem nN {n:Nat} (h:0<n):ay n=n % 16777216::ay (n / 16777216):=by rw [ay,if_neg (by omega)]
theorem fF (n:Nat):dA (ay n)=n:=by
 induction n using Xv0 with
 | _ n ih=>
  rcases Xqb n with rfl|h
  ·rw [gm];rfl
  ·rw [nN h];simp only [dA];rw [ih (n / 16777216) (by omega)];omega
theorem bz.dig (n:Nat):bz (ay n):=by
 induction n using Xv0 with
 | _ n ih=>
  rcases Xqb n with rfl|h
  ·rw [gm];exact bz.nil
  ·rw [nN h];exact bz.cons (Xqw _ (by omega)) (ih (n / 16777216) (by omega))
theorem Kw {n:Nat}:ay n= []↔n=0:=by
 constructor
 ·intro h;have:=fF n;rw [h] at this;exact this.symm
 ·intro h;subst h;exact gm
theorem QE {l:List Nat} (h:bz l):fC l=ay (dA l):=by
 induction l with
 |nil=>rw [show dA []=0 from rfl,gm];rfl
 | cons d l ih=>
  have hd:=h.head;rw [OZ,ih h.tail];simp only [dA];by_cases hz:dA l=0∧d=0
  ·rw [if_pos ⟨Kw.2 hz.1,hz.2⟩,hz.1,hz.2,gm]
  ·rw [if_neg (fun h=>hz ⟨Kw.1 h.1,h.2⟩),nN (n:=d+16777216*dA l) (by omega)];rw [show (d+16777216*dA l) % 16777216=d by omega,show (d+16777216*dA l) / 16777216=dA l by omega]
theorem vI (n:Nat):n<16777216^(ay n).length:=by
 have:=zi (bz.dig n);rwa [fF] at this
theorem Ym {n k:Nat} (h:(ay n).length=k+1):16777216^k≤n:=by
 induction k generalizing n with
 |zero=>
  rcases Xqb n with rfl|h0
  ·rw [gm] at h;simp at h
  ·rw [Xva];exact h0
 | succ k ih=>
  rcases Xqb n with rfl|h0
  ·rw [gm] at h;simp at h
  ·rw [nN h0,ν] at h;have:=ih (n:=n / 16777216) (by omega);rw [Xq3];omega
theorem qY {n k:Nat} (h:n<16777216^k):(ay n).length≤k:=by
 rcases Xq9 k (ay n).length with h1|h1
 ·obtain ⟨j,a⟩:∃ j,(ay n).length=j+1:=⟨(ay n).length - 1,by omega⟩
  have b:=Ym a;have c:=Xqj (show 0<16777216 by omega) (show k≤j by omega);omega
 ·exact h1
theorem qo {x y:Nat} (h:x≤y):(ay x).length≤(ay y).length:=qY (Xq7 h (vI y))
theorem afQ {nt:Nat} (a:19≤nt) (s:List UInt8) (k:Nat) (h0:lit true (((Φ (Xql s (δ (k:Int)) 0):Nat):Int)==((0:Nat):Int))=true) (c:(decide (((0:Nat):Int)≤(k:Int)))=true) (b:(decide ((k:Int)<(((ζ s):Nat):Int)))=true) (d:lit true (decide ((k:Int)<(((ζ s):Nat):Int)))=true):ψ nt f76 ⟨[(0,.str s),(3,ω (k:Int))],[],.dead,[]⟩ (.normal) ⟨[(0,.str s),(3,ω (γ .i64 ((k:Int)+((1:Nat):Int))))],[],.dead,[]⟩:=pJ 76 [] 2 3 (.c h0 (.c c (.c b (.c d .nil)))) (.nil) a
theorem afR {nt:Nat} (a:19≤nt) (s:List UInt8) (k:Nat) (h0:lit false (((Φ (Xql s (δ (k:Int)) 0):Nat):Int)==((0:Nat):Int))=true) (c:(decide (((0:Nat):Int)≤(k:Int)))=true) (b:(decide ((k:Int)<(((ζ s):Nat):Int)))=true) (d:lit true (decide ((k:Int)<(((ζ s):Nat):Int)))=true):ψ nt f76 ⟨[(0,.str s),(3,ω (k:Int))],[],.dead,[]⟩ (.exit 0) ⟨[(0,.str s),(3,ω (k:Int))],[],.dead,[]⟩:=pJ 76 [] 2 1 (.c h0 (.c c (.c b (.c d .nil)))) (.nil) a
theorem afS {nt:Nat} (a:19≤nt) (s:List UInt8) (k:Nat) (h0:lit false (decide ((k:Int)<(((ζ s):Nat):Int)))=true):ψ nt f76 ⟨[(0,.str s),(3,ω (k:Int))],[],.dead,[]⟩ (.exit 0) ⟨[(0,.str s),(3,ω (k:Int))],[],.dead,[]⟩:=pJ 76 [] 2 0 (.k 1 h0 .nil) (.nil) a
theorem acd (s:List UInt8) (k:Nat) (h0:(decide (((0:Nat):Int)≤(k:Int)))=true) (c:(decide ((k:Int)≤(((ζ s):Nat):Int)))=true) (b:(decide ((((ζ s):Nat):Int)≤(((ζ s):Nat):Int)))=true) (a:aI prog ap [] 19 (.block 0 (.loop (ae 0 (af f76)))) ⟨[(0,.str s),(2,.str []),(3,ω 0),(13,.dead)],[],.dead,[]⟩ (.normal) ⟨[(0,.str s),(3,ω (k:Int))],[],.dead,[]⟩):CO 76 [.str s] (.ret (.str (ε (δ (k:Int)) (μ (δ (((ζ s):Nat):Int)) s)))):=pK [0] 0 0 (.c h0 (.c c (.c b .nil))) (.l a .nil)
theorem ajD {nt:Nat} (b:21≤nt) (l:List Nat) (a:Bool) (h0:(decide (((0:Nat):Int)≤(γ .i64 ((l.length:Int) - ((1:Nat):Int)))))=true) (f:(decide ((γ .i64 ((l.length:Int) - ((1:Nat):Int)))≤(l.length:Int)))=true) (e:lit true ((τ (η (ε ((δ (γ .i64 ((l.length:Int) - ((1:Nat):Int))))*1) (ah l)) .dead))==((0:Nat):Int))=true) (g:(chk (.int .i64) (η (ε ((δ (γ .i64 ((l.length:Int) - ((1:Nat):Int))))*1) (ah l)) .dead))=true) (c:(decide ((γ .i64 ((l.length:Int) - ((1:Nat):Int)))<(l.length:Int)))=true) (d:lit true (decide (((0:Nat):Int)<(l.length:Int)))=true):ψ nt f108 ⟨[(0,.sl (ah l) l.length a)],[],.dead,[]⟩ (.normal) ⟨[(0,.sl (μ ((δ (γ .i64 ((l.length:Int) - ((1:Nat):Int))))*1) (ah l)) ((δ (γ .i64 ((l.length:Int) - ((1:Nat):Int)))) - 0) a)],[],.dead,[]⟩:=pJ 108 [] 2 3 (.k 1 h0 (.c f (.c e (.c g (.c h0 (.c c (.c d .nil))))))) (.nil) b
theorem ajE {nt:Nat} (b:21≤nt) (l:List Nat) (a:Bool) (h0:lit false ((τ (η (ε ((δ (γ .i64 ((l.length:Int) - ((1:Nat):Int))))*1) (ah l)) .dead))==((0:Nat):Int))=true) (e:(chk (.int .i64) (η (ε ((δ (γ .i64 ((l.length:Int) - ((1:Nat):Int))))*1) (ah l)) .dead))=true) (d:(decide (((0:Nat):Int)≤(γ .i64 ((l.length:Int) - ((1:Nat):Int)))))=true) (f:(decide ((γ .i64 ((l.length:Int) - ((1:Nat):Int)))<(l.length:Int)))=true) (c:lit true (decide (((0:Nat):Int)<(l.length:Int)))=true):ψ nt f108 ⟨[(0,.sl (ah l) l.length a)],[],.dead,[]⟩ (.exit 0) ⟨[(0,.sl (ah l) l.length a)],[],.dead,[]⟩:=pJ 108 [] 2 1 (.c h0 (.c e (.c d (.c f (.c c .nil))))) (.nil) b
theorem ajF {nt:Nat} (b:21≤nt) (l:List Nat) (a:Bool) (h0:lit false (decide (((0:Nat):Int)<(l.length:Int)))=true):ψ nt f108 ⟨[(0,.sl (ah l) l.length a)],[],.dead,[]⟩ (.exit 0) ⟨[(0,.sl (ah l) l.length a)],[],.dead,[]⟩:=pJ 108 [] 2 0 (.k 1 h0 .nil) (.nil) b
theorem aeu (l r:List Nat) (a:Bool) (b:aI prog ap [] 21 (.block 0 (.loop (ae 0 (af f108)))) ⟨[(0,.sl (ah l) l.length a),(2,.nilS),(14,.dead)],[],.dead,[]⟩ (.normal) ⟨[(0,.sl (ah r) r.length a)],[],.dead,[]⟩):CO 108 [.sl (ah l) l.length a] (.ret (.sl (ah r) r.length a)):=pK [0] 0 0 .nil (.l b .nil)
theorem aiX {nt:Nat} (g:41≤nt) (a b:List Nat) (i l:Bool) (k:Nat) (h0:(chk (.int .i64) (η (ε ((δ (k:Int))*1) (ah b)) .dead))=true) (c:(decide (((0:Nat):Int)≤(k:Int)))=true) (e:(decide ((k:Int)<(b.length:Int)))=true) (f:(chk (.int .i64) (η (ε ((δ (k:Int))*1) (ah a)) .dead))=true) (d:(decide ((k:Int)<(a.length:Int)))=true) (h:lit true (!((τ (η (ε ((δ (k:Int))*1) (ah a)) .dead))==(τ (η (ε ((δ (k:Int))*1) (ah b)) .dead))))=true) (j:lit true (decide (((0:Nat):Int)≤(k:Int)))=true):ψ nt f109 ⟨[(0,.sl (ah a) a.length i),(1,.sl (ah b) b.length l),(5,ω (k:Int))],[],.dead,[]⟩ (.ret) ⟨[(4,ω (γ .i64 ((τ (η (ε ((δ (k:Int))*1) (ah a)) .dead)) - (τ (η (ε ((δ (k:Int))*1) (ah b)) .dead)))))],[],.dead,[]⟩:=pJ 109 [] 2 3 (.c h0 (.c c (.c e (.c f (.c c (.c d (.c h (.c h0 (.c c (.c e (.c f (.c c (.c d (.c j .nil)))))))))))))) (.nil) g
theorem aiY {nt:Nat} (f:41≤nt) (a b:List Nat) (c d:Bool) (k:Nat) (h0:lit false (!((τ (η (ε ((δ (k:Int))*1) (ah a)) .dead))==(τ (η (ε ((δ (k:Int))*1) (ah b)) .dead))))=true) (j:(chk (.int .i64) (η (ε ((δ (k:Int))*1) (ah b)) .dead))=true) (e:(decide (((0:Nat):Int)≤(k:Int)))=true) (l:(decide ((k:Int)<(b.length:Int)))=true) (g:(chk (.int .i64) (η (ε ((δ (k:Int))*1) (ah a)) .dead))=true) (h:(decide ((k:Int)<(a.length:Int)))=true) (i:lit true (decide (((0:Nat):Int)≤(k:Int)))=true):ψ nt f109 ⟨[(0,.sl (ah a) a.length c),(1,.sl (ah b) b.length d),(5,ω (k:Int))],[],.dead,[]⟩ (.normal) ⟨[(0,.sl (ah a) a.length c),(1,.sl (ah b) b.length d),(5,ω (γ .i64 ((k:Int) - ((1:Nat):Int))))],[],.dead,[]⟩:=pJ 109 [] 2 1 (.c h0 (.c j (.c e (.c l (.c g (.c e (.c h (.c i .nil)))))))) (.nil) f
theorem adM {nt:Nat} (c:41≤nt) (a b:List Nat) (d e:Bool):ψ nt f109 ⟨[(0,.sl (ah a) a.length d),(1,.sl (ah b) b.length e),(5,ω (-1))],[],.dead,[]⟩ (.exit 0) ⟨[],[],.dead,[]⟩:=pJ 109 [] 1 0 (.n 1 .nil) (.nil) c
theorem adN (a b:List Nat) (c d:Bool) (h0:lit true (!((a.length:Int)==(b.length:Int)))=true):CO 109 [.sl (ah a) a.length c,.sl (ah b) b.length d] (.ret (ω (γ .i64 ((a.length:Int) - (b.length:Int))))):=pK [0] 1 1 (.c h0 .nil) (.nil)
theorem adO (a b:List Nat) (c d:Bool) (h0:lit false (!((a.length:Int)==(b.length:Int)))=true) (e:aI prog ap [] 41 (.block 0 (.loop (ae 0 (af f109)))) ⟨[(0,.sl (ah a) a.length c),(1,.sl (ah b) b.length d),(4,ω 0),(5,ω (γ .i64 ((a.length:Int) - ((1:Nat):Int)))),(10,.bool (!((a.length:Int)==(b.length:Int)))),(20,.dead),(31,.dead)],[],.dead,[]⟩ (.normal) ⟨[],[],.dead,[]⟩):CO 109 [.sl (ah a) a.length c,.sl (ah b) b.length d] (.ret (ω 0)):=pK [0] 1 0 (.c h0 .nil) (.l e .nil)
theorem adP (a b:List Nat) (d e:Bool) (c:Int) (h0:lit false (!((a.length:Int)==(b.length:Int)))=true) (f:aI prog ap [] 41 (.block 0 (.loop (ae 0 (af f109)))) ⟨[(0,.sl (ah a) a.length d),(1,.sl (ah b) b.length e),(4,ω 0),(5,ω (γ .i64 ((a.length:Int) - ((1:Nat):Int)))),(10,.bool (!((a.length:Int)==(b.length:Int)))),(20,.dead),(31,.dead)],[],.dead,[]⟩ (.ret) ⟨[(4,ω c)],[],.dead,[]⟩):CO 109 [.sl (ah a) a.length d,.sl (ah b) b.length e] (.ret (ω c)):=pK [0] 1 0 (.c h0 .nil) (.l f .nil)
theorem aes {nt:Nat} (e:35≤nt) (a o:List Nat) (b:Bool) (d c k:Nat) (h0:(chk (.int .i64) (η (ε ((δ (k:Int))*1) (ah a)) .dead))=true) (f:(decide (((0:Nat):Int)≤(k:Int)))=true) (g:(decide ((k:Int)<(a.length:Int)))=true) (h:lit true (decide ((k:Int)<(a.length:Int)))=true):ψ nt f112 ⟨[(0,.sl (ah a) a.length b),(1,ω (d:Int)),(6,ω (c:Int)),(7,ω (k:Int)),(5,.nilS)],[],.dead,[]⟩ (.normal) ⟨[(0,.sl (ah a) a.length b),(1,ω (d:Int)),(6,ω (γ .i64 (Xxi (γ .i64 ((γ .i64 ((τ (η (ε ((δ (k:Int))*1) (ah a)) .dead))*(d:Int)))+(c:Int))) ((16777216:Nat):Int)))),(7,ω (γ .i64 ((k:Int)+((1:Nat):Int)))),(5,.ref 0 0 0 1)],[(0,⟨[ω (Xjt (γ .i64 ((γ .i64 ((τ (η (ε ((δ (k:Int))*1) (ah a)) .dead))*(d:Int)))+(c:Int))) ((16777216:Nat):Int))],0,false,0,1,true⟩)],.dead,[]⟩:=pJ 112 [] 2 1 (.k 5 h0 (.c f (.c g (.c h .nil)))) (.nil) e
theorem aet {nt:Nat} (b:35≤nt) (a o:List Nat) (e:Bool) (d c k:Nat) (h0:lit false (decide ((k:Int)<(a.length:Int)))=true):ψ nt f112 ⟨[(0,.sl (ah a) a.length e),(1,ω (d:Int)),(6,ω (c:Int)),(7,ω (k:Int)),(5,.nilS)],[],.dead,[]⟩ (.exit 0) ⟨[(5,.nilS),(6,ω (c:Int))],[],.dead,[]⟩:=pJ 112 [] 1 0 (.c h0 .nil) (.nil) b
theorem aao (a o r:List Nat) (b:Bool) (d c:Nat) (e:aI prog ap [] 35 (.block 0 (.loop (ae 0 (af f112)))) ⟨[(0,.sl (ah a) a.length b),(1,ω (d:Int)),(4,.nilS),(5,.nilS),(6,ω 0),(7,ω 0),(8,.dead),(12,.dead)],[],.dead,[]⟩ (.normal) ⟨[(5,.nilS),(6,ω (c:Int))],[],.dead,[]⟩) (f:CO 108 [.sl [ω (c:Int)] 1 true] (.ret (.sl (ah r) r.length true))):CO 112 [.sl (ah a) a.length b,ω (d:Int)] (.ret (.sl (ah r) r.length true)):=pK [0] 1 0 (.n 3 .nil) (.c f (.l e .nil))
theorem aeq {nt:Nat} (e:35≤nt) (a o:List Nat) (b:Bool) (d c k:Nat) (h0:(Ξ (o.length+1) 1099511627776)=true) (h:(Ξ (o.length*1) (ζ (ah o)))=true) (i:(chk (.int .i64) (η (ε ((δ (k:Int))*1) (ah a)) .dead))=true) (j:(decide (((0:Nat):Int)≤(k:Int)))=true) (f:(decide ((k:Int)<(a.length:Int)))=true) (g:lit true (decide ((k:Int)<(a.length:Int)))=true):ψ nt f112 ⟨[(0,.sl (ah a) a.length b),(1,ω (d:Int)),(6,ω (c:Int)),(7,ω (k:Int)),(5,.ref 0 0 0 o.length)],[(0,⟨(ah o),0,false,0,1,true⟩)],.dead,[]⟩ (.normal) ⟨[(0,.sl (ah a) a.length b),(1,ω (d:Int)),(6,ω (γ .i64 (Xxi (γ .i64 ((γ .i64 ((τ (η (ε ((δ (k:Int))*1) (ah a)) .dead))*(d:Int)))+(c:Int))) ((16777216:Nat):Int)))),(7,ω (γ .i64 ((k:Int)+((1:Nat):Int)))),(5,.ref 0 0 0 (o.length+1))],[(0,⟨((μ (o.length*1) (ah o))++ [ω (Xjt (γ .i64 ((γ .i64 ((τ (η (ε ((δ (k:Int))*1) (ah a)) .dead))*(d:Int)))+(c:Int))) ((16777216:Nat):Int))]),0,false,0,1,true⟩)],.dead,[]⟩:=pJ 112 [] 1 1 (.k 2 h0 (.c h (.k 2 i (.c j (.c f (.c g .nil)))))) (.nil) e
theorem aer {nt:Nat} (b:35≤nt) (a o:List Nat) (e:Bool) (d c k:Nat) (h0:lit false (decide ((k:Int)<(a.length:Int)))=true):ψ nt f112 ⟨[(0,.sl (ah a) a.length e),(1,ω (d:Int)),(6,ω (c:Int)),(7,ω (k:Int)),(5,.ref 0 0 0 o.length)],[(0,⟨(ah o),0,false,0,1,true⟩)],.dead,[]⟩ (.exit 0) ⟨[(5,.ref 0 0 0 o.length),(6,ω (c:Int))],[(0,⟨(ah o),0,false,0,1,true⟩)],.dead,[]⟩:=pJ 112 [] 1 0 (.c h0 .nil) (.nil) b
theorem aan (a o r:List Nat) (b:Bool) (d c:Nat) (h0:(Ξ (o.length+1) 1099511627776)=true) (f:(Ξ (o.length*1) (ζ (ah o)))=true) (e:aI prog ap [] 35 (.block 0 (.loop (ae 0 (af f112)))) ⟨[(0,.sl (ah a) a.length b),(1,ω (d:Int)),(4,.nilS),(5,.nilS),(6,ω 0),(7,ω 0),(8,.dead),(12,.dead)],[],.dead,[]⟩ (.normal) ⟨[(5,.ref 0 0 0 o.length),(6,ω (c:Int))],[(0,⟨(ah o),0,false,0,1,true⟩)],.dead,[]⟩) (g:CO 108 [.sl (μ ((o.length+1)*1) ((μ (o.length*1) (ah o))++ [ω (c:Int)])) (o.length+1) true] (.ret (.sl (ah r) r.length true))):CO 112 [.sl (ah a) a.length b,ω (d:Int)] (.ret (.sl (ah r) r.length true)):=pK [0] 0 0 (.k 1 h0 (.c f (.n 1 .nil))) (.c g (.l e .nil))
theorem adZ {nt:Nat} (h:41≤nt) (a b o:List Nat) (d e:Bool) (c k:Nat) (h0:lit true (decide ((γ .i64 ((γ .i64 ((τ (η (ε ((δ (k:Int))*1) (ah a)) .dead)) - (c:Int))) - (τ (η (ε ((δ (k:Int))*1) (ah b)) .dead))))<((0:Nat):Int)))=true) (m:(chk (.int .i64) (η (ε ((δ (k:Int))*1) (ah b)) .dead))=true) (f:(decide (((0:Nat):Int)≤(k:Int)))=true) (n:(decide ((k:Int)<(b.length:Int)))=true) (i:lit true (decide ((k:Int)<(b.length:Int)))=true) (j:(chk (.int .i64) (η (ε ((δ (k:Int))*1) (ah a)) .dead))=true) (l:(decide ((k:Int)<(a.length:Int)))=true) (g:lit true (decide ((k:Int)<(a.length:Int)))=true):ψ nt f111 ⟨[(0,.sl (ah a) a.length d),(1,.sl (ah b) b.length e),(6,ω (c:Int)),(7,ω (k:Int)),(5,.nilS)],[],.dead,[]⟩ (.normal) ⟨[(0,.sl (ah a) a.length d),(1,.sl (ah b) b.length e),(6,ω 1),(7,ω (γ .i64 ((k:Int)+((1:Nat):Int)))),(5,.ref 0 0 0 1)],[(0,⟨[ω (γ .i64 ((γ .i64 ((γ .i64 ((τ (η (ε ((δ (k:Int))*1) (ah a)) .dead)) - (c:Int))) - (τ (η (ε ((δ (k:Int))*1) (ah b)) .dead))))+((16777216:Nat):Int)))],0,false,0,1,true⟩)],.dead,[]⟩:=pJ 111 [] 4 7 (.k 3 h0 (.c m (.c f (.c n (.c i (.c j (.c f (.c l (.c g .nil))))))))) (.nil) h
theorem ad1 {nt:Nat} (h:41≤nt) (a b o:List Nat) (d e:Bool) (c k:Nat) (h0:lit false (decide ((γ .i64 ((γ .i64 ((τ (η (ε ((δ (k:Int))*1) (ah a)) .dead)) - (c:Int))) - (τ (η (ε ((δ (k:Int))*1) (ah b)) .dead))))<((0:Nat):Int)))=true) (m:(chk (.int .i64) (η (ε ((δ (k:Int))*1) (ah b)) .dead))=true) (f:(decide (((0:Nat):Int)≤(k:Int)))=true) (n:(decide ((k:Int)<(b.length:Int)))=true) (i:lit true (decide ((k:Int)<(b.length:Int)))=true) (j:(chk (.int .i64) (η (ε ((δ (k:Int))*1) (ah a)) .dead))=true) (l:(decide ((k:Int)<(a.length:Int)))=true) (g:lit true (decide ((k:Int)<(a.length:Int)))=true):ψ nt f111 ⟨[(0,.sl (ah a) a.length d),(1,.sl (ah b) b.length e),(6,ω (c:Int)),(7,ω (k:Int)),(5,.nilS)],[],.dead,[]⟩ (.normal) ⟨[(0,.sl (ah a) a.length d),(1,.sl (ah b) b.length e),(6,ω 0),(7,ω (γ .i64 ((k:Int)+((1:Nat):Int)))),(5,.ref 0 0 0 1)],[(0,⟨[ω (γ .i64 ((γ .i64 ((τ (η (ε ((δ (k:Int))*1) (ah a)) .dead)) - (c:Int))) - (τ (η (ε ((δ (k:Int))*1) (ah b)) .dead))))],0,false,0,1,true⟩)],.dead,[]⟩:=pJ 111 [] 4 3 (.k 3 h0 (.c m (.c f (.c n (.c i (.c j (.c f (.c l (.c g .nil))))))))) (.nil) h
theorem ad2 {nt:Nat} (f:41≤nt) (a b o:List Nat) (d e:Bool) (c k:Nat) (h0:lit true (decide ((γ .i64 ((τ (η (ε ((δ (k:Int))*1) (ah a)) .dead)) - (c:Int)))<((0:Nat):Int)))=true) (j:lit false (decide ((k:Int)<(b.length:Int)))=true) (i:(chk (.int .i64) (η (ε ((δ (k:Int))*1) (ah a)) .dead))=true) (l:(decide (((0:Nat):Int)≤(k:Int)))=true) (g:(decide ((k:Int)<(a.length:Int)))=true) (h:lit true (decide ((k:Int)<(a.length:Int)))=true):ψ nt f111 ⟨[(0,.sl (ah a) a.length d),(1,.sl (ah b) b.length e),(6,ω (c:Int)),(7,ω (k:Int)),(5,.nilS)],[],.dead,[]⟩ (.normal) ⟨[(0,.sl (ah a) a.length d),(1,.sl (ah b) b.length e),(6,ω 1),(7,ω (γ .i64 ((k:Int)+((1:Nat):Int)))),(5,.ref 0 0 0 1)],[(0,⟨[ω (γ .i64 ((γ .i64 ((τ (η (ε ((δ (k:Int))*1) (ah a)) .dead)) - (c:Int)))+((16777216:Nat):Int)))],0,false,0,1,true⟩)],.dead,[]⟩:=pJ 111 [] 4 5 (.k 3 h0 (.c j (.c i (.c l (.c g (.c h .nil)))))) (.nil) f
theorem ad3 {nt:Nat} (f:41≤nt) (a b o:List Nat) (d e:Bool) (c k:Nat) (h0:lit false (decide ((γ .i64 ((τ (η (ε ((δ (k:Int))*1) (ah a)) .dead)) - (c:Int)))<((0:Nat):Int)))=true) (j:lit false (decide ((k:Int)<(b.length:Int)))=true) (i:(chk (.int .i64) (η (ε ((δ (k:Int))*1) (ah a)) .dead))=true) (l:(decide (((0:Nat):Int)≤(k:Int)))=true) (g:(decide ((k:Int)<(a.length:Int)))=true) (h:lit true (decide ((k:Int)<(a.length:Int)))=true):ψ nt f111 ⟨[(0,.sl (ah a) a.length d),(1,.sl (ah b) b.length e),(6,ω (c:Int)),(7,ω (k:Int)),(5,.nilS)],[],.dead,[]⟩ (.normal) ⟨[(0,.sl (ah a) a.length d),(1,.sl (ah b) b.length e),(6,ω 0),(7,ω (γ .i64 ((k:Int)+((1:Nat):Int)))),(5,.ref 0 0 0 1)],[(0,⟨[ω (γ .i64 ((τ (η (ε ((δ (k:Int))*1) (ah a)) .dead)) - (c:Int)))],0,false,0,1,true⟩)],.dead,[]⟩:=pJ 111 [] 4 1 (.k 3 h0 (.c j (.c i (.c l (.c g (.c h .nil)))))) (.nil) f
theorem ad4 {nt:Nat} (d:41≤nt) (a b o:List Nat) (e f:Bool) (c k:Nat) (h0:lit false (decide ((k:Int)<(a.length:Int)))=true):ψ nt f111 ⟨[(0,.sl (ah a) a.length e),(1,.sl (ah b) b.length f),(6,ω (c:Int)),(7,ω (k:Int)),(5,.nilS)],[],.dead,[]⟩ (.exit 0) ⟨[(5,.nilS)],[],.dead,[]⟩:=pJ 111 [] 1 0 (.c h0 .nil) (.nil) d
theorem aad (a b o r:List Nat) (c d:Bool) (e:aI prog ap [] 41 (.block 0 (.loop (ae 0 (af f111)))) ⟨[(0,.sl (ah a) a.length c),(1,.sl (ah b) b.length d),(4,.nilS),(5,.nilS),(6,ω 0),(7,ω 0),(8,.dead),(12,.dead),(24,.dead),(32,.dead)],[],.dead,[]⟩ (.normal) ⟨[(5,.nilS)],[],.dead,[]⟩) (f:CO 108 [.nilS] (.ret (.sl (ah r) r.length false))):CO 111 [.sl (ah a) a.length c,.sl (ah b) b.length d] (.ret (.sl (ah r) r.length false)):=pK [0] 0 0 .nil (.c f (.l e .nil))
theorem adU {nt:Nat} (g:41≤nt) (a b o:List Nat) (d f:Bool) (c k:Nat) (h0:(Ξ (o.length+1) 1099511627776)=true) (m:(Ξ (o.length*1) (ζ (ah o)))=true) (l:lit true (decide ((γ .i64 ((γ .i64 ((τ (η (ε ((δ (k:Int))*1) (ah a)) .dead)) - (c:Int))) - (τ (η (ε ((δ (k:Int))*1) (ah b)) .dead))))<((0:Nat):Int)))=true) (n:(chk (.int .i64) (η (ε ((δ (k:Int))*1) (ah b)) .dead))=true) (e:(decide (((0:Nat):Int)≤(k:Int)))=true) (q:(decide ((k:Int)<(b.length:Int)))=true) (i:lit true (decide ((k:Int)<(b.length:Int)))=true) (p:(chk (.int .i64) (η (ε ((δ (k:Int))*1) (ah a)) .dead))=true) (h:(decide ((k:Int)<(a.length:Int)))=true) (j:lit true (decide ((k:Int)<(a.length:Int)))=true):ψ nt f111 ⟨[(0,.sl (ah a) a.length d),(1,.sl (ah b) b.length f),(6,ω (c:Int)),(7,ω (k:Int)),(5,.ref 0 0 0 o.length)],[(0,⟨(ah o),0,false,0,1,true⟩)],.dead,[]⟩ (.normal) ⟨[(0,.sl (ah a) a.length d),(1,.sl (ah b) b.length f),(6,ω 1),(7,ω (γ .i64 ((k:Int)+((1:Nat):Int)))),(5,.ref 0 0 0 (o.length+1))],[(0,⟨((μ (o.length*1) (ah o))++ [ω (γ .i64 ((γ .i64 ((γ .i64 ((τ (η (ε ((δ (k:Int))*1) (ah a)) .dead)) - (c:Int))) - (τ (η (ε ((δ (k:Int))*1) (ah b)) .dead))))+((16777216:Nat):Int)))]),0,false,0,1,true⟩)],.dead,[]⟩:=pJ 111 [] 3 7 (.k 1 h0 (.c m (.k 1 l (.c n (.c e (.c q (.c i (.c p (.c e (.c h (.c j .nil))))))))))) (.nil) g
theorem adV {nt:Nat} (g:41≤nt) (a b o:List Nat) (d f:Bool) (c k:Nat) (h0:(Ξ (o.length+1) 1099511627776)=true) (m:(Ξ (o.length*1) (ζ (ah o)))=true) (l:lit false (decide ((γ .i64 ((γ .i64 ((τ (η (ε ((δ (k:Int))*1) (ah a)) .dead)) - (c:Int))) - (τ (η (ε ((δ (k:Int))*1) (ah b)) .dead))))<((0:Nat):Int)))=true) (n:(chk (.int .i64) (η (ε ((δ (k:Int))*1) (ah b)) .dead))=true) (e:(decide (((0:Nat):Int)≤(k:Int)))=true) (q:(decide ((k:Int)<(b.length:Int)))=true) (i:lit true (decide ((k:Int)<(b.length:Int)))=true) (p:(chk (.int .i64) (η (ε ((δ (k:Int))*1) (ah a)) .dead))=true) (h:(decide ((k:Int)<(a.length:Int)))=true) (j:lit true (decide ((k:Int)<(a.length:Int)))=true):ψ nt f111 ⟨[(0,.sl (ah a) a.length d),(1,.sl (ah b) b.length f),(6,ω (c:Int)),(7,ω (k:Int)),(5,.ref 0 0 0 o.length)],[(0,⟨(ah o),0,false,0,1,true⟩)],.dead,[]⟩ (.normal) ⟨[(0,.sl (ah a) a.length d),(1,.sl (ah b) b.length f),(6,ω 0),(7,ω (γ .i64 ((k:Int)+((1:Nat):Int)))),(5,.ref 0 0 0 (o.length+1))],[(0,⟨((μ (o.length*1) (ah o))++ [ω (γ .i64 ((γ .i64 ((τ (η (ε ((δ (k:Int))*1) (ah a)) .dead)) - (c:Int))) - (τ (η (ε ((δ (k:Int))*1) (ah b)) .dead))))]),0,false,0,1,true⟩)],.dead,[]⟩:=pJ 111 [] 3 3 (.k 1 h0 (.c m (.k 1 l (.c n (.c e (.c q (.c i (.c p (.c e (.c h (.c j .nil))))))))))) (.nil) g
theorem adW {nt:Nat} (g:41≤nt) (a b o:List Nat) (d e:Bool) (c k:Nat) (h0:(Ξ (o.length+1) 1099511627776)=true) (m:(Ξ (o.length*1) (ζ (ah o)))=true) (l:lit true (decide ((γ .i64 ((τ (η (ε ((δ (k:Int))*1) (ah a)) .dead)) - (c:Int)))<((0:Nat):Int)))=true) (n:lit false (decide ((k:Int)<(b.length:Int)))=true) (h:(chk (.int .i64) (η (ε ((δ (k:Int))*1) (ah a)) .dead))=true) (i:(decide (((0:Nat):Int)≤(k:Int)))=true) (j:(decide ((k:Int)<(a.length:Int)))=true) (f:lit true (decide ((k:Int)<(a.length:Int)))=true):ψ nt f111 ⟨[(0,.sl (ah a) a.length d),(1,.sl (ah b) b.length e),(6,ω (c:Int)),(7,ω (k:Int)),(5,.ref 0 0 0 o.length)],[(0,⟨(ah o),0,false,0,1,true⟩)],.dead,[]⟩ (.normal) ⟨[(0,.sl (ah a) a.length d),(1,.sl (ah b) b.length e),(6,ω 1),(7,ω (γ .i64 ((k:Int)+((1:Nat):Int)))),(5,.ref 0 0 0 (o.length+1))],[(0,⟨((μ (o.length*1) (ah o))++ [ω (γ .i64 ((γ .i64 ((τ (η (ε ((δ (k:Int))*1) (ah a)) .dead)) - (c:Int)))+((16777216:Nat):Int)))]),0,false,0,1,true⟩)],.dead,[]⟩:=pJ 111 [] 3 5 (.k 1 h0 (.c m (.k 1 l (.c n (.c h (.c i (.c j (.c f .nil)))))))) (.nil) g
theorem adX {nt:Nat} (g:41≤nt) (a b o:List Nat) (d e:Bool) (c k:Nat) (h0:(Ξ (o.length+1) 1099511627776)=true) (m:(Ξ (o.length*1) (ζ (ah o)))=true) (l:lit false (decide ((γ .i64 ((τ (η (ε ((δ (k:Int))*1) (ah a)) .dead)) - (c:Int)))<((0:Nat):Int)))=true) (n:lit false (decide ((k:Int)<(b.length:Int)))=true) (h:(chk (.int .i64) (η (ε ((δ (k:Int))*1) (ah a)) .dead))=true) (i:(decide (((0:Nat):Int)≤(k:Int)))=true) (j:(decide ((k:Int)<(a.length:Int)))=true) (f:lit true (decide ((k:Int)<(a.length:Int)))=true):ψ nt f111 ⟨[(0,.sl (ah a) a.length d),(1,.sl (ah b) b.length e),(6,ω (c:Int)),(7,ω (k:Int)),(5,.ref 0 0 0 o.length)],[(0,⟨(ah o),0,false,0,1,true⟩)],.dead,[]⟩ (.normal) ⟨[(0,.sl (ah a) a.length d),(1,.sl (ah b) b.length e),(6,ω 0),(7,ω (γ .i64 ((k:Int)+((1:Nat):Int)))),(5,.ref 0 0 0 (o.length+1))],[(0,⟨((μ (o.length*1) (ah o))++ [ω (γ .i64 ((τ (η (ε ((δ (k:Int))*1) (ah a)) .dead)) - (c:Int)))]),0,false,0,1,true⟩)],.dead,[]⟩:=pJ 111 [] 3 1 (.k 1 h0 (.c m (.k 1 l (.c n (.c h (.c i (.c j (.c f .nil)))))))) (.nil) g
theorem adY {nt:Nat} (d:41≤nt) (a b o:List Nat) (e f:Bool) (c k:Nat) (h0:lit false (decide ((k:Int)<(a.length:Int)))=true):ψ nt f111 ⟨[(0,.sl (ah a) a.length e),(1,.sl (ah b) b.length f),(6,ω (c:Int)),(7,ω (k:Int)),(5,.ref 0 0 0 o.length)],[(0,⟨(ah o),0,false,0,1,true⟩)],.dead,[]⟩ (.exit 0) ⟨[(5,.ref 0 0 0 o.length)],[(0,⟨(ah o),0,false,0,1,true⟩)],.dead,[]⟩:=pJ 111 [] 1 0 (.c h0 .nil) (.nil) d
theorem aac (a b o r:List Nat) (c d:Bool) (e:aI prog ap [] 41 (.block 0 (.loop (ae 0 (af f111)))) ⟨[(0,.sl (ah a) a.length c),(1,.sl (ah b) b.length d),(4,.nilS),(5,.nilS),(6,ω 0),(7,ω 0),(8,.dead),(12,.dead),(24,.dead),(32,.dead)],[],.dead,[]⟩ (.normal) ⟨[(5,.ref 0 0 0 o.length)],[(0,⟨(ah o),0,false,0,1,true⟩)],.dead,[]⟩) (f:CO 108 [.sl (μ (o.length*1) (ah o)) o.length true] (.ret (.sl (ah r) r.length false))):CO 111 [.sl (ah a) a.length c,.sl (ah b) b.length d] (.ret (.sl (ah r) r.length false)):=pK [0] 0 0 .nil (.c f (.l e .nil))
def nz:List UInt8→Nat
 | []=>0
 |c::r=>if c=0 then nz r+1 else 0
theorem Yt (s:List UInt8):s.drop (nz s)=s.dropWhile (· ==0):=by
 induction s with
 |nil=>rfl
 |cons c r ih=>
  simp only [nz,Xx0];by_cases h:c=0
  ·subst h;simpa using ih
  ·simp [h]
theorem ahG (s:List UInt8):nz s≤s.length:=by
 induction s with
 |nil=>exact Θ _
 |cons c r ih=>simp only [nz,ν];split<;>omega
def aa8 (s:List UInt8) (k:Nat):St:=⟨[(0,.str s),(3,ω (k:Int))],[],.dead,[]⟩
theorem QA {p r:List UInt8} {c:UInt8} {k:Nat} (h:k=p.length):(p++c::r).getD k 0=c:=by subst h;simp
theorem aaN (c:UInt8):(c.toNat=0)=(c=0):=by
 apply propext;constructor
 ·intro h;apply UInt8.toNat_inj.1;simpa using h
 ·intro h;subst h;rfl
theorem Ut {nt:Nat} (b:19≤nt) (s:List UInt8) (hs:s.length<2^40):∀ (r p:List UInt8),p++r=s→aF prog ap [] nt (ae 0 (af f76)) (fun _=> .exit 0) (aa8 s) (aa8 s) p.length (p.length+nz r):=by
 intro r
 induction r with
 |nil=>
  intro p h;have hp:p.length=s.length:=by rw [← h];simp
  refine .done (afS b s p.length ?_);rw [hp,aY];simp [lit]
 | cons c r ih=>
  intro p h;have f:p.length+(r.length+1)=s.length:=by rw [← h];simp
  have d:s.getD p.length 0=c:=by rw [← h];exact QA rfl
  by_cases hc:c=0
  ·have hnext:=ih (p++ [c]) (by simp [h]);rw [θ,ο] at hnext;simp only [nz,if_pos hc];rw [show p.length+(nz r+1)=p.length+1+nz r by omega];refine .next ?_ hnext
   have a:=afQ b s p.length;have e:c.toNat=0:=by subst hc;rfl
   simp (disch:=first|omega|(simp [au,az]<;>omega)) only [aA,d,e,jJ,decide_true,bF,dI,bu,aY,bW,aX] at a;apply a<;>first|exact True.intro|omega|assumption|exact rfl
  ·simp only [nz,if_neg hc,Xq5];refine .done ?_;have a:=afR b s p.length;have e:¬ c.toNat=0:=by rw [aaN];exact hc
   simp (disch:=first|omega|(simp [au,az]<;>omega)) only [aA,d,jJ,dP,dY,eY,dI,bu,aY,bF] at a;apply a<;>first|exact True.intro|omega|assumption|exact rfl
theorem gY (s:List UInt8) (hs:s.length<2^40):CO 76 [.str s] (.ret (.str (ai (ag s)))):=by
 have b:=ahG s;have h:=acd s (nz s);simp (disch:=first|omega|(simp [au,az]<;>omega)) only [dI,bu,aA,Xqy,Yt] at h;rw [Ez];apply h<;>first|exact True.intro|omega|assumption|exact rfl|skip
 ·refine aF.blk (fun nt a=>Ut a s hs s [] rfl) (by simp) rfl (aJ.of ⟨rfl,rfl,trivial⟩) ?_;rw [Δ,χ];exact aJ.refl _
theorem OV (l:List Nat) (d:Nat):μ l.length (ah (l++ [d]))=ah l:=by
 rw [dC];simp
theorem Dx (l:List Nat) (d:Nat):η (ε l.length (ah (l++ [d]))) .dead= ω (d:Int):=by
 rw [fJ (by simp)];simp
def Qv (nn:Bool) (l:List Nat):St:=⟨[(0,.sl (ah l) l.length nn)],[],.dead,[]⟩
theorem WS {nt:Nat} (f:21≤nt) (c:Bool):∀ (k:Nat) (l:List Nat),l.length=k→k<2^40→aF prog ap [] nt (ae 0 (af f108)) (fun _=> .exit 0) (Qv c) (Qv c) l (fC l):=by
 intro k
 induction k with
 |zero=>
  intro l b _;have:l= []:=Xxk b;subst this;exact .done (ajF f [] c rfl)
 | succ k ih=>
  intro l b i;rcases Xzu l with rfl|⟨a,d,rfl⟩
  ·simp at b
  ·rw [Xzv] at b ⊢;have g:a.length=k:=by simpa using b
   have h:a.length+1 - 1=a.length:=by omega
   rw [oq];by_cases hd:d=0
   ·rw [if_pos hd];refine .next ?_ (ih a g (by omega))
    have e:=ajD f (a++ [d]) c;simp (disch:=first|omega|(simp [au,az]<;>omega)) only [θ,ν,Δ,χ,jV,h,dI,bu,aA,υ,Dx,bf,jJ,bF,eF,aY,OV,Xjq] at e;simp only [Qv,θ,ο];apply e<;>first|exact True.intro|omega|assumption|exact rfl
   ·rw [if_neg hd];refine .done ?_;have e:=ajE f (a++ [d]) c;simp (disch:=first|omega|(simp [au,az]<;>omega)) only [θ,ν,Δ,χ,jV,h,aA,υ,Dx,bf,jJ,dP,dY,eY,eF,dI,bu,aY,bF] at e;simp only [Qv,θ,ο];apply e<;>first|exact True.intro|omega|assumption|exact rfl
theorem yS (l:List Nat) (a:Bool) (b:l.length<2^40):CO 108 [.sl (ah l) l.length a] (.ret (.sl (ah (fC l)) (fC l).length a)):=
 aeu l (fC l) a (aF.blk (fun nt c=>WS c a _ l rfl b) (by simp) rfl (aJ.of ⟨rfl,trivial⟩) (aJ.of ⟨rfl,trivial⟩))
def Na (l:List Nat):AV:=match l with| []=> .nilS|x::l=> .ref 0 0 0 (x::l).length
def Nb (l:List Nat):Hp:=match l with| []=> []|x::l=> [(0,⟨ah (x::l),0,false,0,1,true⟩)]
theorem gK {l:List Nat} (h:l ≠ []):Na l= .ref 0 0 0 l.length:=by cases l with|nil=>exact absurd rfl h|cons _ _=>rfl
theorem gQ {l:List Nat} (h:l ≠ []):Nb l= [(0,⟨ah l,0,false,0,1,true⟩)]:=by cases l with|nil=>exact absurd rfl h|cons _ _=>rfl
theorem iG (l:List Nat) (y:Nat):l++ [y] ≠ []:=by simp
theorem PU {p s:List Nat} {x k:Nat} (h:k=p.length):η (ε k (ah (p++x::s))) .dead= ω (x:Int):=by
 rw [fJ (by subst h;simp)];subst h;simp
def Tt (d:Nat):List Nat→Nat→List Nat × Nat
 | [],c=>([],c)
 |x::l,c=>((x*d+c) % 16777216::(Tt d l ((x*d+c) / 16777216)).1,(Tt d l ((x*d+c) / 16777216)).2)
theorem MC {d x c:Nat} (hd:d<16777216) (e:x<16777216) (b:c<16777216):x*d+c<281474976710656∧(x*d+c) / 16777216<16777216∧x*d<281474976710656:=by
 have a:x*d≤16777215*16777215:=Nat.mul_le_mul (by omega) (by omega);omega
theorem aaD {d:Nat} (hd:d<16777216) (l:List Nat):∀ c,c<16777216→bz l→(Tt d l c).2<16777216∧bz (Tt d l c).1∧(Tt d l c).1.length=l.length∧dA (Tt d l c).1+16777216^l.length*(Tt d l c).2=dA l*d+c:=by
 induction l with
 |nil=>intro c a _;exact ⟨a,bz.nil,rfl,by simp [Tt,dA]⟩
 |cons x l ih=>
  intro c a b;obtain ⟨_,g,_⟩:=MC hd b.head a;obtain ⟨h,f,e,i⟩:=ih _ g b.tail;simp only [Tt];refine ⟨h,bz.cons (Xqw _ (by omega)) f,by simp [e], ?_⟩;simp only [dA,ν,Xq3];rw [Xqa (16777216^l.length),Xqp,Xxp,Xqp 16777216 (dA l)];omega
def Tu (a:List Nat) (na:Bool) (d:Nat) (p:Nat × Nat × List Nat):St:=⟨[(0,.sl (ah a) a.length na),(1,ω (d:Int)),(6,ω (p.2.1:Int)),(7,ω (p.1:Int)),(5,Na p.2.2)],Nb p.2.2,.dead,[]⟩
def QD (p:Nat × List Nat):St:=⟨[(5,Na p.2),(6,ω (p.1:Int))],Nb p.2,.dead,[]⟩
theorem aaG {nt:Nat} (g:35≤nt) (a o:List Nat) (f:Bool) (d c k x:Nat) (p:a.length<2^40) (n:k<a.length) (q:o.length=k) (h:a.getD k 0=x) (l:x*d+c<281474976710656) (j:x*d<281474976710656):
  ψ nt f112 (Tu a f d (k,c,o)) .normal (Tu a f d (k+1,(x*d+c) / 16777216,o++ [(x*d+c) % 16777216])):=by
 unfold Tu;have m:(x*d+c) / 16777216<9223372036854775808:=by omega
 have i:(x*d+c) % 16777216<9223372036854775808:=by omega
 have e:(((x*d:Nat):Int))+(c:Int)=((x*d+c:Nat):Int):=by omega
 rcases Xxh (o= []) with rfl|hne
 ·have b:=aes g a [] f d c k;simp (disch:=first|omega|(simp [au,az]<;>omega)) only [aA,υ,fJ,h,eF,dI,bu,aY,bF,bf,yl,aX,e,pO,bW,xg] at b;simp only [Xqc,Na,Nb,ah,Xqf,Xxz,ν,Δ] at b ⊢;apply b<;>first|exact True.intro|omega|assumption|exact rfl
 ·have b:=aeq g a o f d c k;rw [gK hne,gQ hne,gK (iG _ _),gQ (iG _ _)];simp (disch:=first|omega|(simp [au,az]<;>omega)) only [fH,bu,υ,bQ,aA,fJ,h,eF,dI,aY,bF,bf,yl,aX,e,pO,bW,dC,Xqy,xg,iT] at b;simp only [θ,ο];apply b<;>first|exact True.intro|omega|assumption|exact rfl
theorem aaE {nt:Nat} (f:35≤nt) (a o:List Nat) (b:Bool) (d c:Nat):ψ nt f112 (Tu a b d (a.length,c,o)) (.exit 0) (QD (c,o)):=by
 unfold Tu QD;rcases Xxh (o= []) with rfl|hne
 ·have e:=aet f a [] b d c a.length (by rw [aY];simp [lit]);exact e
 ·have e:=aer f a o b d c a.length (by rw [aY];simp [lit]);rw [gK hne,gQ hne];exact e
theorem aaF {nt:Nat} (g:35≤nt) (a:List Nat) (e:Bool) (d:Nat) (hd:d<16777216) (q:a.length<2^40) (b:bz a):∀ (l p o:List Nat) (c:Nat),p++l=a→o.length=p.length→c<16777216→
  aF prog ap [] nt (ae 0 (af f112)) (fun _=> .exit 0) (Tu a e d) QD (p.length,c,o) ((Tt d l c).2,o++(Tt d l c).1):=by
 intro l
 induction l with
 |nil=>
  intro p o c h f i;have hp:p=a:=by simpa using h
  rw [hp];simp only [Tt,Γ];exact .done (aaE g a o e d c)
 |cons x l ih=>
  intro p o c h f i;have s:p.length+(l.length+1)=a.length:=by rw [← h];simp
  have r:x<16777216:=b x (by rw [← h];simp);have n:a.getD p.length 0=x:=by rw [← h];simp
  obtain ⟨k,m,j⟩:=MC hd r i;have hnext:=ih (p++ [x]) (o++ [(x*d+c) % 16777216]) ((x*d+c) / 16777216) (by simp [h]) (by simp [f]) m;rw [θ,ο,Ψ] at hnext;exact .next (aaG g a o e d c p.length x q (by omega) f n k j) hnext
theorem Me (x d:Nat) (a:Bool) (hd:d<16777216) (n:(ay x).length<2^36):CO 112 [.sl (ah (ay x)) (ay x).length a,ω (d:Int)] (.ret (.sl (ah (ay (x*d))) (ay (x*d)).length true)):=by
 obtain ⟨i,j,f,g⟩:=aaD hd (ay x) 0 (by omega) (bz.dig x);have hloop:=fun nt (hn:35≤nt)=>aaF hn (ay x) a d hd (by omega) (bz.dig x) (ay x) [] [] 0 rfl rfl (by omega)
 generalize m:Tt d (ay x) 0=r at*
 obtain ⟨o,c⟩:=r;simp only [Xqc,Δ] at hloop i j f g;rw [fF,Xq5] at g;have k:dA (o++ [c])=x*d:=by rw [zh,f];simp only [dA];omega
 have e:=yS (o++ [c]) true (by simp;omega);rw [QE (bz.app j (bz.cons i bz.nil)),k] at e;rcases Xxh (o= []) with rfl|hne
 ·have h:=aao (ay x) [] (ay (x*d)) a d c;apply h
  ·exact aF.blk hloop (by simp) rfl (aJ.of ⟨rfl,rfl,rfl,rfl,rfl,trivial⟩) (aJ.of ⟨rfl,rfl,trivial⟩)
  ·exact e
 ·have h:=aan (ay x) o (ay (x*d)) a d c;have l:o.length<2^37:=by omega
  have b:μ (o.length+1) (ah (o++ [c]))=ah (o++ [c]):=by
   rw [dC,Xqd (by simp)]
  simp (disch:=first|omega|(simp [au,az]<;>omega)) only [fH,bu,υ,bQ,dC,Xqy,iT] at h;rw [θ,ο] at e;rw [← dC] at h;rw [b] at h;apply h<;>first|exact True.intro|omega|assumption|exact rfl|skip
  ·exact aF.blk hloop (by simp) rfl (aJ.of ⟨rfl,rfl,rfl,rfl,rfl,trivial⟩) (by unfold QD;rw [gK hne,gQ hne];exact aJ.of ⟨rfl,rfl,trivial⟩)
def Og:List Nat→List Nat→Nat→List Nat × Nat
 | [],_,c=>([],c)
 |x::u,v,c=>((if x<v.headD 0+c then x+16777216 - (v.headD 0+c) else x - (v.headD 0+c))::(Og u v.tail (if x<v.headD 0+c then 1 else 0)).1,(Og u v.tail (if x<v.headD 0+c then 1 else 0)).2)
theorem agC {v:List Nat} (h:bz v):v.headD 0<16777216:=by cases v with|nil=>show 0<16777216;omega|cons d l=>exact h.head
theorem akd {v:List Nat} (h:bz v):bz v.tail:=by cases v with|nil=>exact h|cons d l=>exact h.tail
theorem TM (v:List Nat):dA v=v.headD 0+16777216*dA v.tail:=by cases v with|nil=>rfl|cons d l=>rfl
theorem Y7 (u:List Nat):∀ (v:List Nat) (c:Nat),c≤1→bz u→bz v→v.length≤u.length→(Og u v c).2≤1∧bz (Og u v c).1∧(Og u v c).1.length=u.length∧dA (Og u v c).1+dA v+c=dA u+16777216^u.length*(Og u v c).2:=by
 induction u with
 |nil=>
  intro v c f _ _ a;have:v= []:=Xxk (by simpa using a);subst this;exact ⟨f,bz.nil,rfl,by simp [Og,dA]⟩
 |cons x u ih=>
  intro v c f d e a;have m:=d.head;have l:=agC e;have b:v.tail.length≤u.length:=by simp at a ⊢;omega
  obtain ⟨k,j,i,h⟩:=ih v.tail (if x<v.headD 0+c then 1 else 0) (by split<;>omega) d.tail (akd e) b;simp only [Og];refine ⟨k,bz.cons (by split<;>omega) j,by rw [ν,i,ν], ?_⟩;rw [TM v];simp only [dA,ν,Xq3];rw [Xqa (16777216^u.length),Xqp];generalize Og u v.tail (if x<v.headD 0+c then 1 else 0)=r at*
  split at h<;>rename_i g
  ·rw [if_pos g];omega
  ·rw [if_neg g];omega
def RP (a b:List Nat) (na nb:Bool) (p:Nat × Nat × List Nat):St:=⟨[(0,.sl (ah a) a.length na),(1,.sl (ah b) b.length nb),(6,ω (p.2.1:Int)),(7,ω (p.1:Int)),(5,Na p.2.2)],Nb p.2.2,.dead,[]⟩
def P6 (p:Nat × List Nat):St:=⟨[(5,Na p.2)],Nb p.2,.dead,[]⟩
theorem Y_ {nt:Nat} (h:41≤nt) (a b o:List Nat) (f g:Bool) (c k x y:Nat) (q:a.length<2^40) (p:b.length<2^40) (t:k<a.length) (s:o.length=k) (i:a.getD k 0=x) (j:b.getD k 0=y) (n:x<16777216) (m:y<16777216) (r:c≤1):
  ψ nt f111 (RP a b f g (k,c,o)) .normal (RP a b f g (k+1,if x<y+c then 1 else 0,o++ [if x<y+c then x+16777216 - (y+c) else x - (y+c)])):=by
 unfold RP;by_cases hkb:k<b.length<;>by_cases hlt:x<y+c<;>simp only [hlt,if_true,if_false]
 ·have e:((x:Int) - (c:Int) - (y:Int)+((16777216:Nat):Int))=((x+16777216 - (y+c):Nat):Int):=by omega
  rcases Xxh (o= []) with rfl|hne
  ·have d:=adZ h a b [] f g c k;simp (disch:=first|omega|(simp [au,az]<;>omega)) only [aA,υ,fJ,i,bf,dL,j,bF,bu,eF,dI,aY,bW] at d;rw [e] at d;simp only [Xqc,Na,Nb,ah,Xqf,Xxz,ν,Δ] at d ⊢;apply d<;>first|exact True.intro|omega|assumption|exact rfl
  ·have d:=adU h a b o f g c k;rw [gK hne,gQ hne,gK (iG _ _),gQ (iG _ _)];simp (disch:=first|omega|(simp [au,az]<;>omega)) only [fH,bu,υ,aA,fJ,i,bf,dL,j,bF,eF,dI,aY,bW] at d;rw [e] at d;simp (disch:=first|omega|(simp [au,az]<;>omega)) only [bQ,dC,Xqy,iT] at d;simp only [θ,ο];apply d<;>first|exact True.intro|omega|assumption|exact rfl
 ·have e:((x:Int) - (c:Int) - (y:Int))=((x - (y+c):Nat):Int):=by omega
  rcases Xxh (o= []) with rfl|hne
  ·have d:=ad1 h a b [] f g c k;simp (disch:=first|omega|(simp [au,az]<;>omega)) only [aA,υ,fJ,i,bf,dL,j,dP,dY,eY,eF,dI,bu,aY,bF,bW] at d;rw [e] at d;simp only [Xqc,Na,Nb,ah,Xqf,Xxz,ν,Δ] at d ⊢;apply d<;>first|exact True.intro|omega|assumption|exact rfl
  ·have d:=adV h a b o f g c k;rw [gK hne,gQ hne,gK (iG _ _),gQ (iG _ _)];simp (disch:=first|omega|(simp [au,az]<;>omega)) only [fH,bu,υ,aA,fJ,i,bf,dL,j,dP,dY,eY,eF,dI,aY,bF,bW] at d;rw [e] at d;simp (disch:=first|omega|(simp [au,az]<;>omega)) only [bQ,dC,Xqy,iT] at d;simp only [θ,ο];apply d<;>first|exact True.intro|omega|assumption|exact rfl
 ·have l:y=0:=by rw [← j,ξ,Xqx (by omega)];rfl
  have e:((x:Int) - (c:Int)+((16777216:Nat):Int))=((x+16777216 - (y+c):Nat):Int):=by omega
  rcases Xxh (o= []) with rfl|hne
  ·have d:=ad2 h a b [] f g c k;simp (disch:=first|omega|(simp [au,az]<;>omega)) only [aA,υ,fJ,i,bf,dL,bF,bu,aY,dP,dY,eY,Xko,eF,dI,bW] at d;rw [e] at d;simp only [Xqc,Na,Nb,ah,Xqf,Xxz,ν,Δ] at d ⊢;apply d<;>first|exact True.intro|omega|assumption|exact rfl
  ·have d:=adW h a b o f g c k;rw [gK hne,gQ hne,gK (iG _ _),gQ (iG _ _)];simp (disch:=first|omega|(simp [au,az]<;>omega)) only [fH,bu,υ,aA,fJ,i,bf,dL,bF,aY,dP,dY,eY,Xko,eF,dI,bW] at d;rw [e] at d;simp (disch:=first|omega|(simp [au,az]<;>omega)) only [bQ,dC,Xqy,iT] at d;simp only [θ,ο];apply d<;>first|exact True.intro|omega|assumption|exact rfl
 ·have l:y=0:=by rw [← j,ξ,Xqx (by omega)];rfl
  have e:((x:Int) - (c:Int))=((x - (y+c):Nat):Int):=by omega
  rcases Xxh (o= []) with rfl|hne
  ·have d:=ad3 h a b [] f g c k;simp (disch:=first|omega|(simp [au,az]<;>omega)) only [aA,υ,fJ,i,bf,dL,dP,dY,eY,aY,Xko,eF,dI,bu,bF,bW] at d;rw [e] at d;simp only [Xqc,Na,Nb,ah,Xqf,Xxz,ν,Δ] at d ⊢;apply d<;>first|exact True.intro|omega|assumption|exact rfl
  ·have d:=adX h a b o f g c k;rw [gK hne,gQ hne,gK (iG _ _),gQ (iG _ _)];simp (disch:=first|omega|(simp [au,az]<;>omega)) only [fH,bu,υ,aA,fJ,i,bf,dL,dP,dY,eY,aY,Xko,eF,dI,bF,bW] at d;rw [e] at d;simp (disch:=first|omega|(simp [au,az]<;>omega)) only [bQ,dC,Xqy,iT] at d;simp only [θ,ο];apply d<;>first|exact True.intro|omega|assumption|exact rfl
theorem Y8 {nt:Nat} (f:41≤nt) (a b o:List Nat) (d e:Bool) (c:Nat):ψ nt f111 (RP a b d e (a.length,c,o)) (.exit 0) (P6 (c,o)):=by
 unfold RP P6;rcases Xxh (o= []) with rfl|hne
 ·exact ad4 f a b [] d e c a.length (by rw [aY];simp [lit])
 ·have g:=adY f a b o d e c a.length (by rw [aY];simp [lit]);rw [gK hne,gQ hne];exact g
theorem Y9 {nt:Nat} (m:41≤nt) (a b:List Nat) (i j:Bool) (s:a.length<2^40) (g:b.length<2^40) (d:bz a) (e:bz b):∀ (l p o:List Nat) (c:Nat),p++l=a→o.length=p.length→c≤1→
  aF prog ap [] nt (ae 0 (af f111)) (fun _=> .exit 0) (RP a b i j) P6 (p.length,c,o) ((Og l (b.drop p.length) c).2,o++(Og l (b.drop p.length) c).1):=by
 intro l
 induction l with
 |nil=>
  intro p o c h k n;have hp:p=a:=by simpa using h
  rw [hp];simp only [Og,Γ];exact .done (Y8 m a b o i j c)
 | cons x l ih=>
  intro p o c h k n;have u:p.length+(l.length+1)=a.length:=by rw [← h];simp
  have t:x<16777216:=d x (by rw [← h];simp);have q:a.getD p.length 0=x:=by rw [← h];simp
  have r:(b.drop p.length).headD 0=b.getD p.length 0:=by
   rw [List.headD_eq_head?_getD,List.head?_drop,ξ]
  have f:(b.drop p.length).tail=b.drop (p.length+1):=by rw [List.tail_drop]
  have hnext:=ih (p++ [x]) (o++ [if x<b.getD p.length 0+c then x+16777216 - (b.getD p.length 0+c) else x - (b.getD p.length 0+c)]) (if x<b.getD p.length 0+c then 1 else 0) (by simp [h]) (by simp [k]) (by split<;>omega);rw [θ,ο,Ψ] at hnext;simp only [Og];rw [r,f];exact .next (Y_ m a b o i j c p.length x _ s g (by omega) k q rfl t (e.getD _) n) hnext
theorem KY (x y:Nat) (d e:Bool) (h:y≤x) (u:(ay x).length<2^36):CO 111 [.sl (ah (ay x)) (ay x).length d,.sl (ah (ay y)) (ay y).length e] (.ret (.sl (ah (ay (x - y))) (ay (x - y)).length false)):=by
 have i:=qo h;obtain ⟨m,f,k,b⟩:=Y7 (ay x) (ay y) 0 (by omega) (bz.dig x) (bz.dig y) i;have hloop:=fun nt (hn:41≤nt)=>Y9 hn (ay x) (ay y) d e (by omega) (by omega) (bz.dig x) (bz.dig y) (ay x) [] [] 0 rfl rfl (by omega)
 rw [Δ,Xx7] at hloop;generalize q:Og (ay x) (ay y) 0=r at*
 obtain ⟨o,c⟩:=r;simp only [Xqc] at hloop m f k b;rw [fF,fF,Xq5] at b;have g:=zi f;have n:c=0:=by
  rcases Xqb c with h0|h0
  ·exact h0
  ·have p:c=1:=by omega
   have s:=vI y;have t:=Xqj (show 0<16777216 by omega) i;rw [p,υ] at b;rw [k] at g;omega
 subst n;have l:dA o=x - y:=by rw [Xjd] at b;omega
 have j:=yS o true (by omega);rw [QE f,l] at j;rcases Xxh (o= []) with rfl|hne
 ·have h:=aad (ay x) (ay y) [] (ay (x - y)) d e;have a:=yS [] false (by simp);rw [QE bz.nil,l] at a;apply h
  ·exact aF.blk hloop (by simp) rfl (aJ.of ⟨rfl,rfl,rfl,rfl,rfl,trivial⟩) (aJ.of ⟨rfl,trivial⟩)
  ·exact a.args (tN.cons (aZ.nilS false rfl) tN.nil)
 ·have h:=aac (ay x) (ay y) o (ay (x - y)) d e;rw [υ,dC,Xqy] at h;apply h
  ·exact aF.blk hloop (by simp) rfl (aJ.of ⟨rfl,rfl,rfl,rfl,rfl,trivial⟩) (by unfold P6;rw [gK hne,gQ hne];exact aJ.of ⟨rfl,trivial⟩)
  ·exact j.out (jC.sl1 _ _ _)
def Yf (a b:List Nat):Nat→Option Int
 |0=>none
 |k+1=>if a.getD k 0=b.getD k 0 then Yf a b k else some ((a.getD k 0:Int) - (b.getD k 0:Int))
def Kt (a b:List Nat):Int:=if a.length=b.length then (Yf a b a.length).getD 0 else (a.length:Int) - (b.length:Int)
theorem ou {l:List Nat} {k:Nat} (h:k<l.length):dA (l.take (k+1))=dA (l.take k)+16777216^k*l.getD k 0:=by
 rw [Xwk,zh,π h,Xqq,Xjc (by omega),ξ,π h];simp [dA]
theorem Kv {a b:List Nat} (f:a.length=b.length) (d:bz a) (e:bz b):∀ k,k≤a.length→(0≤(Yf a b k).getD 0↔dA (b.take k)≤dA (a.take k))∧((Yf a b k).getD 0≤0↔dA (a.take k)≤dA (b.take k))
 |0,_=>by simp [Yf]
 | k+1,h=>by
  obtain ⟨j,i⟩:=Kv f d e k (by omega);rw [ou (l:=a) (by omega),ou (l:=b) (by omega)];have g:=zi (d.take k);have tb:=zi (e.take k);rw [Xqq,Xjc (by omega)] at g tb;simp only [Yf];by_cases he:a.getD k 0=b.getD k 0
  ·rw [if_pos he,he];exact ⟨j.trans (by omega),i.trans (by omega)⟩
  ·rw [if_neg he];simp only [Option.getD_some];generalize a.getD k 0=x at*
   generalize b.getD k 0=y at*
   generalize dA (μ k a)=u at*
   generalize dA (μ k b)=v at*
   generalize 16777216^k=M at*
   rcases Xq9 x y with hlt|hge
   ·have c:M*(x+1)≤M*y:=Xq6 _ hlt;rw [Xxa,υ] at c;constructor<;>constructor<;>intro<;>omega
   ·have c:M*(y+1)≤M*x:=Xq6 _ (by omega);rw [Xxa,υ] at c;constructor<;>constructor<;>intro<;>omega
theorem GL (x y:Nat):(0≤Kt (ay x) (ay y)↔y≤x)∧(Kt (ay x) (ay y)≤0↔x≤y):=by
 unfold Kt;by_cases h:(ay x).length=(ay y).length
 ·rw [if_pos h];have:=Kv h (bz.dig x) (bz.dig y) _ (Θ _);rw [Xqy,h,Xqy,fF,fF] at this;rw [h];exact this
 ·rw [if_neg h];rcases Xq9 (ay x).length (ay y).length with h1|h1
  ·have b:¬ y≤x:=fun a=>by have:=qo a;omega
   constructor<;>constructor<;>intro<;>omega
  ·have b:¬ x≤y:=fun a=>by have:=qo a;omega
   constructor<;>constructor<;>intro<;>omega
def acl (a b:List Nat) (na nb:Bool) (k:Nat):St:=⟨[(0,.sl (ah a) a.length na),(1,.sl (ah b) b.length nb),(5,ω ((k:Int) - 1))],[],.dead,[]⟩
def af4:Option Int→St
 |none=> ⟨[],[],.dead,[]⟩
 |some c=> ⟨[(4,.int .i64 c)],[],.dead,[]⟩
def cqE:Option Int→bK
 |none=> .exit 0
 |some _=> .ret
theorem Yg {nt:Nat} (f:41≤nt) (a b:List Nat) (d e:Bool) (p:a.length=b.length) (g:bz a) (h:bz b) (q:a.length<2^40):∀ k,k≤a.length→aF prog ap [] nt (ae 0 (af f109)) cqE (acl a b d e) af4 k (Yf a b k):=by
  intro k
  induction k with
  |zero=>exact fun _=> .done (adM f a b d e)
  | succ k ih=>
    intro o;have n:=g.getD k;have l:=h.getD k;have i:(((k+1:Nat):Int) - 1)=(k:Int):=by omega
    have j:γ .i64 ((k:Int) - ((1:Nat):Int))=(k:Int) - 1:=dL (by omega) (by omega);have m:γ .i64 (((a.getD k 0:Nat):Int) - ((b.getD k 0:Nat):Int))=((a.getD k 0:Nat):Int) - ((b.getD k 0:Nat):Int):=dL (by omega) (by omega);simp only [Yf];by_cases he:a.getD k 0=b.getD k 0
    · rw [if_pos he];refine .next ?_ (ih (by omega))
      unfold acl;rw [i]
      first
        | (have c:=aiY f a b d e k
           simp (disch:=first|omega|(simp [au,az]<;>omega)) only [aA,υ,fJ,he,bf,jJ,decide_true,Xwg,dP,Xjj,eF,dI,bu,aY,bF,j] at c;apply c<;>first|exact True.intro|omega|assumption|exact rfl)
    · rw [if_neg he];refine .done ?_;unfold acl;rw [i];have c:=aiX f a b d e k;simp (disch:=first|omega|(simp [au,az]<;>omega)) only [aA,υ,fJ,eF,dI,bu,aY,bf,jJ,he,decide_false,Xjj,bF,m] at c;apply c<;>first|exact True.intro|omega|assumption|exact rfl
theorem Qo (a b:List Nat) (d e:Bool) (f:bz a) (g:bz b) (i:a.length<2^40) (m:b.length<2^40):CO 109 [.sl (ah a) a.length d,.sl (ah b) b.length e] (.ret (ω (Kt a b))):=by
 unfold Kt;by_cases hl:a.length=b.length
 ·rw [if_pos hl];have hloop:=fun nt (hn:41≤nt)=>Yg hn a b d e hl f g i a.length (Θ _)
  have j:γ .i64 ((a.length:Int) - ((1:Nat):Int))=(a.length:Int) - 1:=Ed i;cases k:Yf a b a.length with
  |none=>
   rw [k] at hloop;exact adO a b d e (by rw [hl];simp [lit]) (aF.blk hloop (by simp [cqE]) rfl (aJ.of ⟨rfl,rfl,congrArg _ j,trivial⟩) (aJ.of trivial))
  |some c=>
   rw [k] at hloop;exact adP a b d e c (by rw [hl];simp [lit]) (aF.blk hloop (by simp [cqE]) rfl (aJ.of ⟨rfl,rfl,congrArg _ j,trivial⟩) (aJ.of ⟨rfl,trivial⟩))
 ·rw [if_neg hl];have h:=adN a b d e;have l:γ .i64 ((a.length:Int) - (b.length:Int))=(a.length:Int) - (b.length:Int):=dL (by omega) (by omega);simp (disch:=first|omega|(simp [au,az]<;>omega)) only [jJ,bF,dY,eY,l] at h;apply h<;>first|exact True.intro|omega|assumption|exact rfl
theorem agd {nt:Nat} (f:26≤nt) (x y w b a:Nat) (c:Int) (d e:Bool) (h0:lit true (decide (c≤((0:Nat):Int)))=true) (i:lit true (decide ((b:Int)<(a:Int)))=true) (h:CO 112 [.sl (ah (ay y)) (ay y).length e,ω (γ .i64 (Xxi (γ .i64 ((γ .i64 ((b:Int)+(a:Int)))+((1:Nat):Int))) ((2:Nat):Int)))] (.ret (.sl (ah (ay w)) (ay w).length true))) (g:CO 109 [.sl (ah (ay w)) (ay w).length true,.sl (ah (ay x)) (ay x).length d] (.ret (ω c))):ψ nt f110 ⟨[(0,.sl (ah (ay x)) (ay x).length d),(1,.sl (ah (ay y)) (ay y).length e),(5,ω (b:Int)),(6,ω (a:Int))],[],.dead,[]⟩ (.normal) ⟨[(0,.sl (ah (ay x)) (ay x).length d),(1,.sl (ah (ay y)) (ay y).length e),(5,ω (γ .i64 (Xxi (γ .i64 ((γ .i64 ((b:Int)+(a:Int)))+((1:Nat):Int))) ((2:Nat):Int)))),(6,ω (a:Int))],[],.dead,[]⟩:=pJ 110 [] 2 3 (.c h0 (.k 1 i .nil)) (.c g (.c h .nil)) f
theorem age {nt:Nat} (f:26≤nt) (x y w a b:Nat) (c:Int) (d e:Bool) (h0:lit false (decide (c≤((0:Nat):Int)))=true) (i:lit true (decide ((a:Int)<(b:Int)))=true) (h:CO 112 [.sl (ah (ay y)) (ay y).length e,ω (γ .i64 (Xxi (γ .i64 ((γ .i64 ((a:Int)+(b:Int)))+((1:Nat):Int))) ((2:Nat):Int)))] (.ret (.sl (ah (ay w)) (ay w).length true))) (g:CO 109 [.sl (ah (ay w)) (ay w).length true,.sl (ah (ay x)) (ay x).length d] (.ret (ω c))):ψ nt f110 ⟨[(0,.sl (ah (ay x)) (ay x).length d),(1,.sl (ah (ay y)) (ay y).length e),(5,ω (a:Int)),(6,ω (b:Int))],[],.dead,[]⟩ (.normal) ⟨[(0,.sl (ah (ay x)) (ay x).length d),(1,.sl (ah (ay y)) (ay y).length e),(5,ω (a:Int)),(6,ω (γ .i64 ((γ .i64 (Xxi (γ .i64 ((γ .i64 ((a:Int)+(b:Int)))+((1:Nat):Int))) ((2:Nat):Int))) - ((1:Nat):Int))))],[],.dead,[]⟩:=pJ 110 [] 2 1 (.c h0 (.k 1 i .nil)) (.c g (.c h .nil)) f
theorem agf {nt:Nat} (d:26≤nt) (x y w a b:Nat) (c:Int) (e f:Bool) (h0:lit false (decide ((a:Int)<(b:Int)))=true):ψ nt f110 ⟨[(0,.sl (ah (ay x)) (ay x).length e),(1,.sl (ah (ay y)) (ay y).length f),(5,ω (a:Int)),(6,ω (b:Int))],[],.dead,[]⟩ (.exit 0) ⟨[(5,ω (a:Int))],[],.dead,[]⟩:=pJ 110 [] 1 0 (.c h0 .nil) (.nil) d
theorem acn (x y q:Nat) (a b:Bool) (c:aI prog ap [] 26 (.block 0 (.loop (ae 0 (af f110)))) ⟨[(0,.sl (ah (ay x)) (ay x).length a),(1,.sl (ah (ay y)) (ay y).length b),(4,ω 0),(5,ω 0),(6,ω 16777215),(7,.dead),(10,.dead),(21,.dead)],[],.dead,[]⟩ (.normal) ⟨[(5,ω (q:Int))],[],.dead,[]⟩):CO 110 [.sl (ah (ay x)) (ay x).length a,.sl (ah (ay y)) (ay y).length b] (.ret (ω (q:Int))):=pK [0] 0 0 .nil (.l c .nil)
theorem ac7 {nt:Nat} (d:35≤nt) (l o:List Nat) (k:Nat) (c:Bool) (h0:(chk (.int .i64) (η (ε ((δ (k:Int))*1) (ah l)) .dead))=true) (b:(decide (((0:Nat):Int)≤(k:Int)))=true) (a:(decide ((k:Int)<(l.length:Int)))=true) (e:lit true (decide (((0:Nat):Int)≤(k:Int)))=true):ψ nt f79 ⟨[(0,.sl (ah l) l.length c),(3,.nilS),(4,ω (k:Int))],[],.dead,[]⟩ (.normal) ⟨[(0,.sl (ah l) l.length c),(3,.ref 0 0 0 3),(4,ω (γ .i64 ((k:Int) - ((1:Nat):Int))))],[(0,⟨[.int .u8 (γ .u8 (Xq0 (τ (η (ε ((δ (k:Int))*1) (ah l)) .dead)) (2^(min 16 64)))),.int .u8 (γ .u8 (Xq0 (τ (η (ε ((δ (k:Int))*1) (ah l)) .dead)) (2^(min 8 64)))),.int .u8 (γ .u8 (τ (η (ε ((δ (k:Int))*1) (ah l)) .dead)))],0,false,0,1,true⟩)],.dead,[]⟩:=pJ 79 [] 2 1 (.k 3 h0 (.c b (.c a (.k 1 h0 (.c b (.c a (.k 1 h0 (.c b (.c a (.c e .nil)))))))))) (.nil) d
theorem Zq {nt:Nat} (a:35≤nt) (l o:List Nat) (b:Bool):ψ nt f79 ⟨[(0,.sl (ah l) l.length b),(3,.nilS),(4,ω (-1))],[],.dead,[]⟩ (.exit 0) ⟨[(3,.nilS)],[],.dead,[]⟩:=pJ 79 [] 1 0 (.n 1 .nil) (.nil) a
theorem Zr (l o:List Nat) (a:Bool) (b:aI prog ap [] 35 (.block 0 (.loop (ae 0 (af f79)))) ⟨[(0,.sl (ah l) l.length a),(2,.str []),(3,.nilS),(4,ω (γ .i64 ((l.length:Int) - ((1:Nat):Int)))),(9,.dead)],[],.dead,[]⟩ (.normal) ⟨[(3,.nilS)],[],.dead,[]⟩) (c:CO 76 [.str []] (.ret (.str (ai (ag []))))):CO 79 [.sl (ah l) l.length a] (.ret (.str (ai (ag [])))):=pK [0] 0 0 (.n 2 .nil) (.c c (.l b .nil))
theorem ac6 {nt:Nat} (e:35≤nt) (l o:List Nat) (k:Nat) (d:Bool) (h0:(Ξ (o.length+3) 1099511627776)=true) (g:(Ξ (o.length*1) (ζ (oD o)))=true) (b:(chk (.int .i64) (η (ε ((δ (k:Int))*1) (ah l)) .dead))=true) (c:(decide (((0:Nat):Int)≤(k:Int)))=true) (a:(decide ((k:Int)<(l.length:Int)))=true) (f:lit true (decide (((0:Nat):Int)≤(k:Int)))=true):ψ nt f79 ⟨[(0,.sl (ah l) l.length d),(3,.ref 0 0 0 o.length),(4,ω (k:Int))],[(0,⟨(oD o),0,false,0,1,true⟩)],.dead,[]⟩ (.normal) ⟨[(0,.sl (ah l) l.length d),(3,.ref 0 0 0 (o.length+3)),(4,ω (γ .i64 ((k:Int) - ((1:Nat):Int))))],[(0,⟨((μ (o.length*1) (oD o))++ [.int .u8 (γ .u8 (Xq0 (τ (η (ε ((δ (k:Int))*1) (ah l)) .dead)) (2^(min 16 64)))),.int .u8 (γ .u8 (Xq0 (τ (η (ε ((δ (k:Int))*1) (ah l)) .dead)) (2^(min 8 64)))),.int .u8 (γ .u8 (τ (η (ε ((δ (k:Int))*1) (ah l)) .dead)))]),0,false,0,1,true⟩)],.dead,[]⟩:=pJ 79 [] 1 1 (.k 1 h0 (.c g (.k 1 b (.c c (.c a (.k 1 b (.c c (.c a (.k 1 b (.c c (.c a (.c f .nil)))))))))))) (.nil) e
theorem Zo {nt:Nat} (a:35≤nt) (l o:List Nat) (b:Bool):ψ nt f79 ⟨[(0,.sl (ah l) l.length b),(3,.ref 0 0 0 o.length),(4,ω (-1))],[(0,⟨(oD o),0,false,0,1,true⟩)],.dead,[]⟩ (.exit 0) ⟨[(3,.ref 0 0 0 o.length)],[(0,⟨(oD o),0,false,0,1,true⟩)],.dead,[]⟩:=pJ 79 [] 1 0 (.n 1 .nil) (.nil) a
theorem Zp (l o:List Nat) (a:Bool) (h0:(Xqo (ζ (μ (o.length*1) (oD o))) o.length)=true) (e:(Yqx (μ (o.length*1) (oD o)) (chk (.int .u8)))=true) (b:aI prog ap [] 35 (.block 0 (.loop (ae 0 (af f79)))) ⟨[(0,.sl (ah l) l.length a),(2,.str []),(3,.nilS),(4,ω (γ .i64 ((l.length:Int) - ((1:Nat):Int)))),(9,.dead)],[],.dead,[]⟩ (.normal) ⟨[(3,.ref 0 0 0 o.length)],[(0,⟨(oD o),0,false,0,1,true⟩)],.dead,[]⟩) (d:CO 76 [.str (Xjh (fun c=>Xqi (δ (τ c))) (μ (o.length*1) (oD o)))] (.ret (.str (ai (ag (Xjh (fun c=>Xqi (δ (τ c))) (μ (o.length*1) (oD o)))))))):CO 79 [.sl (ah l) l.length a] (.ret (.str (ai (ag (Xjh (fun c=>Xqi (δ (τ c))) (μ (o.length*1) (oD o))))))):=pK [0] 0 0 (.c h0 (.c e .nil)) (.c d (.l b .nil))
theorem aeg (x:Nat) (h0:lit true (decide (((0:Nat):Int)<(x:Int)))=true) (a:CO 76 [.str [Xqi (δ (γ .u8 (Xq0 (x:Int) (2^(min 56 64))))),Xqi (δ (γ .u8 (Xq0 (x:Int) (2^(min 48 64))))),Xqi (δ (γ .u8 (Xq0 (x:Int) (2^(min 40 64))))),Xqi (δ (γ .u8 (Xq0 (x:Int) (2^(min 32 64))))),Xqi (δ (γ .u8 (Xq0 (x:Int) (2^(min 24 64))))),Xqi (δ (γ .u8 (Xq0 (x:Int) (2^(min 16 64))))),Xqi (δ (γ .u8 (Xq0 (x:Int) (2^(min 8 64))))),Xqi (δ (γ .u8 (Xq0 (x:Int) (2^(min 0 64)))))]] (.ret (.str (ai (ag [Xqi (δ (γ .u8 (Xq0 (x:Int) (2^(min 56 64))))),Xqi (δ (γ .u8 (Xq0 (x:Int) (2^(min 48 64))))),Xqi (δ (γ .u8 (Xq0 (x:Int) (2^(min 40 64))))),Xqi (δ (γ .u8 (Xq0 (x:Int) (2^(min 32 64))))),Xqi (δ (γ .u8 (Xq0 (x:Int) (2^(min 24 64))))),Xqi (δ (γ .u8 (Xq0 (x:Int) (2^(min 16 64))))),Xqi (δ (γ .u8 (Xq0 (x:Int) (2^(min 8 64))))),Xqi (δ (γ .u8 (Xq0 (x:Int) (2^(min 0 64)))))]))))):CO 49 [ω (x:Int)] (.ret (.str (ai (ag [Xqi (δ (γ .u8 (Xq0 (x:Int) (2^(min 56 64))))),Xqi (δ (γ .u8 (Xq0 (x:Int) (2^(min 48 64))))),Xqi (δ (γ .u8 (Xq0 (x:Int) (2^(min 40 64))))),Xqi (δ (γ .u8 (Xq0 (x:Int) (2^(min 32 64))))),Xqi (δ (γ .u8 (Xq0 (x:Int) (2^(min 24 64))))),Xqi (δ (γ .u8 (Xq0 (x:Int) (2^(min 16 64))))),Xqi (δ (γ .u8 (Xq0 (x:Int) (2^(min 8 64))))),Xqi (δ (γ .u8 (Xq0 (x:Int) (2^(min 0 64)))))])))):=pK [] 19 131067 (.k 9 h0 (.k 6 h0 (.k 6 h0 (.k 6 h0 (.k 6 h0 (.k 6 h0 (.k 6 h0 (.k 5 h0 (.n 1 .nil))))))))) (.c a .nil)
theorem aeh (x:Nat) (h0:lit false (decide (((0:Nat):Int)<(x:Int)))=true) (a:CO 76 [.str []] (.ret (.str (ai (ag []))))):CO 49 [ω (x:Int)] (.ret (.str (ai (ag [])))):=pK [] 2 1 (.k 2 h0 (.n 1 .nil)) (.c a .nil)
theorem adS {nt:Nat} (a:35≤nt) (s:List UInt8) (n k:Nat) (h0:(decide (((0:Nat):Int)≤(k:Int)))=true) (c:(decide ((k:Int)<(((ζ s):Nat):Int)))=true) (b:lit true (decide ((k:Int)<(((ζ s):Nat):Int)))=true):ψ nt f107 ⟨[(0,.str s),(4,ω (n:Int)),(5,ω (k:Int))],[],.dead,[]⟩ (.normal) ⟨[(0,.str s),(4,ω (γ .i64 ((γ .i64 ((n:Int)*2^(min 8 64)))+(γ .i64 ((Φ (Xql s (δ (k:Int)) 0):Nat):Int))))),(5,ω (γ .i64 ((k:Int)+((1:Nat):Int))))],[],.dead,[]⟩:=pJ 107 [] 1 1 (.c h0 (.c c (.k 1 b .nil))) (.nil) a
theorem adT {nt:Nat} (a:35≤nt) (s:List UInt8) (n k:Nat) (h0:lit false (decide ((k:Int)<(((ζ s):Nat):Int)))=true):ψ nt f107 ⟨[(0,.str s),(4,ω (n:Int)),(5,ω (k:Int))],[],.dead,[]⟩ (.exit 0) ⟨[(4,ω (n:Int))],[],.dead,[]⟩:=pJ 107 [] 1 0 (.c h0 .nil) (.nil) a
theorem Z8 (s:List UInt8) (n:Nat) (h0:lit false (decide (((127:Nat):Int)<((Φ (Xql (ai (ag s)) 0 0):Nat):Int)))=true) (d:(decide (((0:Nat):Int)<(((ζ (ai (ag s))):Nat):Int)))=true) (c:lit true ((((ζ (ai (ag s))):Nat):Int)==((8:Nat):Int))=true) (e:lit false (decide (((8:Nat):Int)<(((ζ (ai (ag s))):Nat):Int)))=true) (b:CO 76 [.str s] (.ret (.str (ai (ag s))))) (a:aI prog ap [] 35 (.block 0 (.loop (ae 0 (af f107)))) ⟨[(0,.str (ai (ag s))),(2,ω 0),(3,.bool false),(4,ω 0),(5,ω 0),(20,.bool (decide (((127:Nat):Int)<((Φ (Xql (ai (ag s)) 0 0):Nat):Int)))),(24,.dead)],[],.dead,[]⟩ (.normal) ⟨[(4,ω (n:Int))],[],.dead,[]⟩):CO 107 [.str s] (.ret (.tup [ω (n:Int),.bool true])):=pK [0] 3 2 (.c h0 (.k 1 d (.c c (.c e .nil)))) (.l a (.c b .nil))
theorem Z9 (s:List UInt8) (n:Nat) (h0:lit false ((((ζ (ai (ag s))):Nat):Int)==((8:Nat):Int))=true) (c:lit false (decide (((8:Nat):Int)<(((ζ (ai (ag s))):Nat):Int)))=true) (b:CO 76 [.str s] (.ret (.str (ai (ag s))))) (a:aI prog ap [] 35 (.block 0 (.loop (ae 0 (af f107)))) ⟨[(0,.str (ai (ag s))),(2,ω 0),(3,.bool false),(4,ω 0),(5,ω 0),(20,.bool false),(24,.dead)],[],.dead,[]⟩ (.normal) ⟨[(4,ω (n:Int))],[],.dead,[]⟩):CO 107 [.str s] (.ret (.tup [ω (n:Int),.bool true])):=pK [0] 3 0 (.k 1 h0 (.c c .nil)) (.l a (.c b .nil))
theorem ajU (s:List UInt8) (n b:Nat) (h0:lit true (decide ((b:Int)<(((ζ (ai (ag s))):Nat):Int)))=true) (a:CO 76 [.str s] (.ret (.str (ai (ag s))))):CO 77 [.str s,ω (b:Int)] (.ret (.tup [ω 0,.bool false])):=pK [] 1 1 (.c h0 .nil) (.c a .nil)
theorem ajV (s:List UInt8) (n b:Nat) (h0:lit false (decide ((b:Int)<(((ζ (ai (ag s))):Nat):Int)))=true) (c:CO 76 [.str s] (.ret (.str (ai (ag s))))) (a:CO 107 [.str s] (.ret (.tup [ω (n:Int),.bool true]))):CO 77 [.str s,ω (b:Int)] (.ret (.tup [ω (n:Int),.bool true])):=pK [] 1 0 (.c h0 .nil) (.c a (.c c .nil))
theorem aiM {nt:Nat} (a:24≤nt) (n d:Nat) (h0:lit true (decide (((0:Nat):Int)<(d:Int)))=true):ψ nt f133 ⟨[(3,ω (n:Int)),(4,ω (d:Int))],[],.dead,[]⟩ (.normal) ⟨[(3,ω (γ .i64 ((n:Int)+((1:Nat):Int)))),(4,ω (γ .i64 (Xxi (d:Int) ((2:Nat):Int))))],[],.dead,[]⟩:=pJ 133 [] 1 1 (.k 1 h0 .nil) (.nil) a
theorem aiN {nt:Nat} (a:24≤nt) (n d:Nat) (h0:lit false (decide (((0:Nat):Int)<(d:Int)))=true):ψ nt f133 ⟨[(3,ω (n:Int)),(4,ω (d:Int))],[],.dead,[]⟩ (.exit 0) ⟨[(3,ω (n:Int))],[],.dead,[]⟩:=pJ 133 [] 1 0 (.c h0 .nil) (.nil) a
theorem adz (s:List UInt8) (n:Nat) (h0:lit true ((((ζ (ai (ag s))):Nat):Int)==((0:Nat):Int))=true) (a:CO 76 [.str s] (.ret (.str (ai (ag s))))):CO 133 [.str s] (.ret (ω 0)):=pK [0] 1 1 (.c h0 .nil) (.c a .nil)
theorem adA (s:List UInt8) (n:Nat) (h0:(decide (((0:Nat):Int)<(((ζ (ai (ag s))):Nat):Int)))=true) (c:lit false ((((ζ (ai (ag s))):Nat):Int)==((0:Nat):Int))=true) (b:CO 76 [.str s] (.ret (.str (ai (ag s))))) (a:aI prog ap [] 24 (.block 0 (.loop (ae 0 (af f133)))) ⟨[(0,.str (ai (ag s))),(2,ω 0),(3,ω (γ .i64 (((8:Nat):Int)*(γ .i64 ((((ζ (ai (ag s))):Nat):Int) - ((1:Nat):Int)))))),(4,ω (γ .i64 ((Φ (Xql (ai (ag s)) 0 0):Nat):Int))),(9,.bool ((((ζ (ai (ag s))):Nat):Int)==((0:Nat):Int))),(18,.dead)],[],.dead,[]⟩ (.normal) ⟨[(3,ω (n:Int))],[],.dead,[]⟩):CO 133 [.str s] (.ret (ω (n:Int))):=pK [0] 1 0 (.k 1 h0 (.c c .nil)) (.l a (.c b .nil))
theorem ajx (s:List UInt8) (h0:lit true ((((ζ s):Nat):Int)==((0:Nat):Int))=true):CO 128 [.str s] (.ret (.bool true)):=pK [] 1 1 (.c h0 .nil) (.nil)
theorem ajy (s:List UInt8) (h0:(decide (((0:Nat):Int)<(((ζ s):Nat):Int)))=true) (a:lit false ((((ζ s):Nat):Int)==((0:Nat):Int))=true):CO 128 [.str s] (.ret (.bool (!(((Φ (Xql s 0 0):Nat):Int)==((0:Nat):Int))))):=pK [] 1 0 (.k 1 h0 (.c a .nil)) (.nil)
theorem ZX (s t:List UInt8) (h0:lit true (decide ((((ζ (ai (ag s))):Nat):Int)<(((ζ (ai (ag t))):Nat):Int)))=true) (c:lit true (!((((ζ (ai (ag s))):Nat):Int)==(((ζ (ai (ag t))):Nat):Int)))=true) (b:CO 76 [.str s] (.ret (.str (ai (ag s))))) (a:CO 76 [.str t] (.ret (.str (ai (ag t))))):CO 118 [.str s,.str t] (.ret (ω (-1))):=pK [] 2 3 (.c h0 (.c c .nil)) (.c a (.c b .nil))
theorem ZY (s t:List UInt8) (h0:lit false (decide ((((ζ (ai (ag s))):Nat):Int)<(((ζ (ai (ag t))):Nat):Int)))=true) (c:lit true (!((((ζ (ai (ag s))):Nat):Int)==(((ζ (ai (ag t))):Nat):Int)))=true) (b:CO 76 [.str s] (.ret (.str (ai (ag s))))) (a:CO 76 [.str t] (.ret (.str (ai (ag t))))):CO 118 [.str s,.str t] (.ret (ω 1)):=pK [] 2 1 (.c h0 (.c c .nil)) (.c a (.c b .nil))
theorem ZZ (s t:List UInt8) (h0:lit true (iF (ai (ag s)) (ai (ag t)))=true) (c:lit false (!((((ζ (ai (ag s))):Nat):Int)==(((ζ (ai (ag t))):Nat):Int)))=true) (b:CO 76 [.str s] (.ret (.str (ai (ag s))))) (a:CO 76 [.str t] (.ret (.str (ai (ag t))))):CO 118 [.str s,.str t] (.ret (ω (-1))):=pK [] 2 2 (.c h0 (.c c .nil)) (.c a (.c b .nil))
theorem Z4 (s t:List UInt8) (h0:lit true (!(iF (ai (ag s)) (ai (ag t))||(ai (ag s))==(ai (ag t))))=true) (d:lit false (iF (ai (ag s)) (ai (ag t)))=true) (c:lit false (!((((ζ (ai (ag s))):Nat):Int)==(((ζ (ai (ag t))):Nat):Int)))=true) (b:CO 76 [.str s] (.ret (.str (ai (ag s))))) (a:CO 76 [.str t] (.ret (.str (ai (ag t))))):CO 118 [.str s,.str t] (.ret (ω 1)):=pK [] 3 4 (.c h0 (.c d (.c c .nil))) (.c a (.c b .nil))
theorem Z5 (s t:List UInt8) (h0:lit false (!(iF (ai (ag s)) (ai (ag t))||(ai (ag s))==(ai (ag t))))=true) (d:lit false (iF (ai (ag s)) (ai (ag t)))=true) (c:lit false (!((((ζ (ai (ag s))):Nat):Int)==(((ζ (ai (ag t))):Nat):Int)))=true) (b:CO 76 [.str s] (.ret (.str (ai (ag s))))) (a:CO 76 [.str t] (.ret (.str (ai (ag t))))):CO 118 [.str s,.str t] (.ret (ω 0)):=pK [] 3 0 (.c h0 (.c d (.c c .nil))) (.c a (.c b .nil))
end Go.Proofs.Tryz
