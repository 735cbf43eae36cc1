/- Contracts of functions that the law reaches, each by its own hypotheses; joined by a program of mine. -/
import Derived.Test.YtcjindbblhcopaaGreatDoorAp
import Derived.Test.YtcjindbblhcopaaGreatDoorChecked
import Derived.Eval
import Derived.Test.YtcjindbblhcopaaGreatDoorM5
set_option linter.unusedSimpArgs false
set_option linter.unusedVariables false
open Go AM
open List renaming range→Xq1,headD→ζ,drop→ε,take→ο,reverse_cons→Xj8,reverse_nil→Xw9,nil_append→Xqd,singleton_append→Xxl,dropWhile_cons→Xxv,take_append_of_le_length→Xx4,take_of_length_le→Xqi,getD_eq_getElem?_getD→ν,getElem?_append_right→Xjw,eq_nil_of_length_eq_zero→Xx5,eq_nil_or_concat→Xzw,concat_eq_append→Xzx,length→η,getD→Xx6,foldl_cons→Xxg,length_cons→μ,ext_getElem?→Xjx,getElem?_set→Xj9,getElem?_eq_none→Xqz,length_set→Xxc,drop_eq_getElem_cons→Xxh,length_drop→Xx8,getElem?_eq_getElem→ξ,map_take→Xwo,map_drop→Xjz,set_eq_take_append_cons_drop→Xxs,getElem?_map→Xqy,range_succ→Xzz,map_append→Xxt,replicate_succ'→Xzn,flatten_append→Xwg,getElem?_append_left→Xxb,length_append→κ,length_reverse→Xzb,dropWhile_sublist→Xzt,take_length→Xqw,map_congr_left→Xje,map→Xwe,map_map→Xwl,all→Xzv,range_succ_eq_map→Xwy,map_cons→Xqc,mem_cons_self→Xjn,mem_cons_of_mem→Xx0,mem_of_mem_take→Xjm,replicate→θ,cons_append→Xqx,length_take→Xq5,length_nil→χ,append_assoc→Ψ,length_replicate→Xxi,append_nil→Xqa,headD_cons→Xjh,headD_nil→Xw7,take_succ_cons→Xx3,drop_zero→Xjq,drop_succ_cons→Xwi,replicate_succ→Xxd,set_append_right→Xke,length_tail→Xv7,length_singleton→τ,tail_cons→Xzm,tail_nil→Xv1,length_map→Xxp,dropWhile→Yq8
open IntKind renaming wrap→γ,bits→Xqe
open AV renaming toInt→Γ,int→Xxm
open Int renaming toNat→δ,tdiv→Xqs,tmod→Xq4,tdiv_eq_ediv_of_nonneg→Xz7,tmod_eq_emod_of_nonneg→Xvo,fdiv→Xqv,fdiv_eq_ediv_of_nonneg→Xz8,natCast_nonneg→Xkx,natCast_ediv→Yqd,natCast_mul→Xkd
open Nat renaming mul_one→Φ,le_refl→φ,sub_self→Xwk,sub_zero→Xjv,ble→Xqk,pow_succ→Xq2,mul_comm→Xqb,mul_assoc→Xqo,add_mul→Xxn,zero_mul→Xvq,zero_add→Θ,mul_le_mul_right→Xqu,pow_add→Xxo,add_comm→Xxr,add_mul_div_right→Xzy,two_pow_pos→Xqt,div_lt_iff_lt_mul→Xqr,pow_le_pow_right→Xqf,mod_eq_of_lt→Δ,div_eq_of_lt→Xx7,add_mul_mod_self_right→Xvn,shiftLeft_add_eq_or_of_lt→Xva,shiftLeft_eq→Yqc,or_comm→Yqq,pow_mul→Xja,lt_of_le_of_lt→υ,ble_eq_true_of_le→Xqg,lt_of_lt_of_le→σ,le_total→Yxx,mod_one→Yqr,mod_lt→Xqh,one_mul→Xwh,div_div_eq_div_mul→Xxx,zero_le→Xxf,beq→Xqn,beq_refl→Xz0,div_add_mod→Xq7,min_eq_left→Xjs,mul_add→Xq9,pow_pos→Yqs,mul_zero→Xjg,pow_zero→Xvr,div_one→Xwz,succ_eq_add_one→Xku,add_zero→Xq3,mul_le_mul_left→Xq0,le_trans→Xxa,mul_mod_mul_left→Xvf,mul_lt_mul_of_pos_left→Xzf,add_mul_mod_self_left→Xzl,add_mul_div_left→Xwb,div_le_self→Xji,log2→Yjs,log2_eq_iff→Yqu,add_assoc→Xzi,div_pos→Xv0,eq_zero_or_pos→Ξ,le_div_iff_mul_le→Xzj,add_sub_cancel→Xwp,lt_or_ge→Xq8,mul_pos→Xjb,lt_of_mul_lt_mul_right→Xvp,lt_trans→Xq6,le_of_lt→Xjp,mul_div_mul_left→Xkp,gcd→Xxq,gcd_comm→Xkf,gcd_zero_left→Xw2,gcd_le_left→Xkg,gcd_pos_of_pos_right→Xj0,ble_eq→Xxw,strongRecOn→Xkh
open BitVec renaming toNat→Xxk,ofInt→Xql,ofInt_natCast→Xko,toNat_ofNat→Xkw,toNat_or→Yqp
open UInt8 renaming toNat→Xxj,ofNat→Xqj
open Bool renaming false_and→Xw6,false_eq_true→Xjr,not_eq_true'→Xqq,eq_iff_iff→Xjk,and_eq_true→π,eq_false_iff→Xw3
open Function renaming comp→Xvz
open Decidable renaming em→Xxu
namespace Go.Proofs.Tryz
abbrev ψ (n:Nat) (f:Func):=ai prog ap [] n (ac 0 (af f))
theorem Zd:(Xq1 ap.nty).map ap.ty.get=(Xq1 ap.nty).map (Pi prog):=by kernel_rfl
noncomputable def Zb (i:Nat):Bool:=match ap.fn.get i with|some _=>true|_=>false
theorem Zc:(Xq1 ap.nfn).map (fun i=>(ap.fn.get i).map AF.fn)=(Xq1 ap.nfn).map fun i=>match Zb i with|true=>prog.funcs[i]? |false=>none:=by kernel_rfl
theorem PY:(Xq1 ap.nfn).all (fun i=>yn (ap.fn.get i))=true:=by kernel_rfl
theorem aeO:fe prog ap:=P3 Zd
theorem ae8:DZ prog ap:=Q7 Zc PY
theorem mixed:prog.follows .mixedOrders=true:=Tryz.checked.mixed
end Go.Proofs.Tryz
namespace Go.Proofs.Tryz
open Go AM
theorem CZ:xC prog ap:=⟨aeO,mixed,ae8⟩
abbrev CO (f:Nat) (args:List AV) (out:iy):Prop:=aj prog ap f args [] out []
theorem cK {ans:List (iy × List aR)} {ps:List Prop} {f:Nat} {args:List AV} {h a:List aR} {out:iy} (hp:PS prog ap ps ans [] [])
  (he:oN ap (sJ prog ap 3000 4) 3000 .dead f args h ⟨true,[],[],[],ans,[]⟩= .ok (out,a,.dead) ⟨true,[],[],ps,[],[]⟩:=by kernel_rfl):aj prog ap f args h out a:=ck CZ hp he
theorem pK (c:List Nat) (n k:Nat) {ans:List (iy × List aR)} {a:sQ} {hs:List qP} {bs:List Bool} {ps:List Prop} {f:Nat} {args:List AV} {h b:List aR} {out:iy} (d:jk bs) (hp:PS prog ap ps ans a hs)
  (he:H7 prog ap (sJ prog ap 3000 4) 3000 c f args h a ⟨false,tj n k,[],[],ans,hs⟩= .ok (out,b,.dead) ⟨false,[],bs,ps,[],[]⟩:=by kernel_rfl):aj prog ap f args h out b:=pk CZ c n k d hp he
theorem pJ (f:Nat) (c:List Nat) (n k:Nat) {nt nt0:Nat} {ans:List (iy × List aR)} {b:sQ} {hs:List qP} {bs:List Bool} {ps:List Prop} {a:Code} {s s':St} {h0:List aR} {e:br} (g:jk bs) (hp:PS prog ap ps ans b hs) (d:nt0≤nt)
  (he:Hk prog ap h0 f nt0 c a s b (tj n k) ans hs s'.env= .ok ((e,s'),[]) ⟨false,[],bs,ps,[],[]⟩:=by kernel_rfl):ai prog ap h0 nt a s e s':=pj CZ f c n k g hp d he
theorem pN (f:Nat) (c:List Nat) (n k:Nat) {nt nt0:Nat} {ans:List (iy × List aR)} {b:sQ} {hs:List qP} {bs:List Bool} {ps:List Prop} {a:Code} {s s':St} {h0:List aR} {e:br} (g:jk bs) (hp:PS prog ap ps ans b hs) (d:nt0≤nt)
  (he:Hj prog ap h0 f nt0 c a s b (tj n k) ans hs s'.env= .ok ((e,s'),[]) ⟨false,[],bs,ps,[],[]⟩:=by kernel_rfl):ai prog ap h0 nt a s e s':=pn CZ f c n k g hp d he
end Go.Proofs.Tryz
set_option maxRecDepth 100000
open Go AM
namespace Go.Proofs.Tryz
theorem FQ {nt:Nat} (e:21≤nt) (a:List AV) (n:Nat) (b:Bool) (h0:(decide ((0:Int)≤(γ .i64 ((n:Int) - (1:Int)))))=true) (c:(decide ((γ .i64 ((n:Int) - (1:Int)))≤(n:Int)))=true) (h:lit true ((Γ (ζ (ε ((δ (γ .i64 ((n:Int) - (1:Int))))*1) a) .dead))==(0:Int))=true) (d:(chk (.int .u32) (ζ (ε ((δ (γ .i64 ((n:Int) - (1:Int))))*1) a) .dead))=true) (f:(decide ((γ .i64 ((n:Int) - (1:Int)))<(n:Int)))=true) (g:lit true (decide ((0:Int)<(n:Int)))=true):ψ nt f161 ⟨[(0,.sl a n b)],[],.dead,[]⟩ (.normal) ⟨[(0,.sl (ο ((δ (γ .i64 ((n:Int) - (1:Int))))*1) a) ((δ (γ .i64 ((n:Int) - (1:Int)))) - 0) b)],[],.dead,[]⟩:=pJ 161 [] 2 3 (.k 1 h0 (.c c (.c h (.c d (.c h0 (.c f (.c g .nil))))))) (.nil) e
theorem FT {nt:Nat} (e:21≤nt) (a:List AV) (n:Nat) (b:Bool) (h0:lit false ((Γ (ζ (ε ((δ (γ .i64 ((n:Int) - (1:Int))))*1) a) .dead))==(0:Int))=true) (c:(chk (.int .u32) (ζ (ε ((δ (γ .i64 ((n:Int) - (1:Int))))*1) a) .dead))=true) (g:(decide ((0:Int)≤(γ .i64 ((n:Int) - (1:Int)))))=true) (d:(decide ((γ .i64 ((n:Int) - (1:Int)))<(n:Int)))=true) (f:lit true (decide ((0:Int)<(n:Int)))=true):ψ nt f161 ⟨[(0,.sl a n b)],[],.dead,[]⟩ (.exit 0) ⟨[(0,.sl a n b)],[],.dead,[]⟩:=pJ 161 [] 2 1 (.c h0 (.c c (.c g (.c d (.c f .nil))))) (.nil) e
theorem FU {nt:Nat} (c:21≤nt) (a:List AV) (n:Nat) (b:Bool) (h0:lit false (decide ((0:Int)<(n:Int)))=true):ψ nt f161 ⟨[(0,.sl a n b)],[],.dead,[]⟩ (.exit 0) ⟨[(0,.sl a n b)],[],.dead,[]⟩:=pJ 161 [] 2 0 (.k 1 h0 .nil) (.nil) c
theorem eP {x:Int} (h: -2^63≤x) (a:x<2^63):γ .i64 x=x:=by
 show (if (true && decide (x % 2^64≥2^63))=true then x % 2^64 - 2^64 else x % 2^64)=x;rw [Bool.true_and];by_cases hx:x % 2^64≥2^63
 ·rw [if_pos (by simpa using hx)];omega
 ·rw [if_neg (by simpa using hx)];omega
abbrev ci (n:Int):AV:= ω n
def ah (l:List Nat):List AV:=l.map fun (d:Nat)=>Xxm .u32 (d:Int)
theorem aq (l:List Nat):(ah l).length=l.length:=by simp [ah]
theorem wy (l r:List Nat):ah (l++r)=ah l++ah r:=by simp [ah]
def dh (l:List Nat):List Nat:=(l.reverse.dropWhile (· ==0)).reverse
theorem kJ (l:List Nat) (d:Nat):dh (l++ [d])=if d=0 then dh l else l++ [d]:=by
 unfold dh;rw [List.reverse_append];simp only [Xj8,Xw9,Xqd,Xxl,Xxv];by_cases h:d=0
 ·subst h;simp
 ·simp [h]
theorem K8 (l:List Nat) (d:Nat):ο (l.length*1) (ah (l++ [d]))=ah l:=by
 rw [wy,Φ,Xx4 (by rw [aq];exact φ _),Xqi (by rw [aq];exact φ _)]
theorem uQ (l:List Nat) (d:Nat):ζ (ε (l.length*1) (ah (l++ [d]))) .dead= .int .u32 (d:Int):=by
 rw [km,wy,Φ,ν,Xjw (by rw [aq];exact φ _),aq,Xwk];rfl
def Po (nn:Bool) (l:List Nat):St:=⟨[(0,.sl (ah l) l.length nn)],[],.dead,[]⟩
theorem Lg {nt:Nat} (i:21≤nt) (g:Bool):∀ (k:Nat) (l:List Nat),l.length=k→k<2^40→az prog ap [] nt (ac 0 (af f161)) (fun _=> .exit 0) (Po g) (Po g) l (dh l):=by
 intro k
 induction k with
 |zero=>
  intro l f _;have:l= []:=Xx5 f;subst this;exact .done (FU i (ah []) 0 g (by rfl))
 | succ k ih=>
  intro l f p;rcases Xzw l with rfl|⟨a,d,rfl⟩
  ·simp at f
  ·rw [Xzx] at f ⊢;have e:a.length=k:=by simpa using f
   have b:(a++ [d]).length=k+1:=by simp [e]
   have h:γ .i64 ((((a++ [d]).length:Nat):Int) - 1)=(k:Int):=by
    rw [b,eP (by omega) (by omega)];omega
   have c:(δ (γ .i64 ((((a++ [d]).length:Nat):Int) - 1)))=a.length:=by rw [h];omega
   have h0:decide ((0:Int)≤γ .i64 ((((a++ [d]).length:Nat):Int) - 1))=true:=by rw [h];simp
   have o:decide (γ .i64 ((((a++ [d]).length:Nat):Int) - 1)≤(((a++ [d]).length:Nat):Int))=true:=by rw [h,b];simp;omega
   have n:decide (γ .i64 ((((a++ [d]).length:Nat):Int) - 1)<(((a++ [d]).length:Nat):Int))=true:=by rw [h,b];simp;omega
   have j:lit true (decide ((0:Int)<(((a++ [d]).length:Nat):Int)))=true:=by rw [b];simp [lit]
   have m:chk (.int .u32) (ζ (ε (δ (γ .i64 ((((a++ [d]).length:Nat):Int) - 1))*1) (ah (a++ [d]))) .dead)=true:=by rw [c,uQ];rfl
   rw [kJ];by_cases hd:d=0
   ·rw [if_pos hd];refine .next ?_ (ih a e (by omega))
    have:=FQ i (ah (a++ [d])) (a++ [d]).length g h0 o (by rw [c,uQ];subst hd;rfl) m n j;rw [c,K8,Xjv] at this;exact this
   ·rw [if_neg hd];refine .done (FT i (ah (a++ [d])) (a++ [d]).length g (by rw [c,uQ];simp [lit,Γ,hd]) m h0 n j)
theorem HQ (l:List Nat) (a:Bool) (c:l.length<2^40):CO 161 [.sl (ah l) l.length a] (.ret (.sl (ah (dh l)) (dh l).length a)):=pK [0] 0 0 .nil (.l (az.blk (fun nt b=>Lg b a _ l rfl c) (by simp) rfl (aJ.of ⟨rfl,trivial⟩) (aJ.of ⟨rfl,trivial⟩):aG prog ap [] 21 (.block 0 (.loop (ac 0 (af f161)))) ⟨[(0,.sl (ah l) l.length a),(2,.nilS),(14,.dead)],[],.dead,[]⟩ (.normal) ⟨[(0,.sl (ah (dh l)) (dh l).length a)],[],.dead,[]⟩) .nil)
theorem KJ {nt:Nat} (f:38≤nt) (s:List UInt8) (a:List AV) (L:Nat) (n k:Int) (h0:(Xqk (((0+(δ (γ .i64 (Xqs k (4:Int)))))*1)+1) (η a))=true) (b:(decide ((0:Int)≤(γ .i64 (Xqs k (4:Int)))))=true) (c:(decide ((γ .i64 (Xqs k (4:Int)))<(L:Int)))=true) (e:(decide ((0:Int)≤(γ .i64 ((8:Int)*(Xq4 k (4:Int))))))=true) (g:(decide ((0:Int)≤(γ .i64 ((γ .i64 ((((η s):Nat):Int) - (1:Int))) - k))))=true) (h:(decide ((γ .i64 ((γ .i64 ((((η s):Nat):Int) - (1:Int))) - k))<(((η s):Nat):Int)))=true) (d:(chk (.int .u32) (ζ (ε ((0+(δ (γ .i64 (Xqs k (4:Int)))))*1) a) .dead))=true) (i:lit true (decide (k<n))=true):ψ nt f136 ⟨[(0,.str s),(3,.ref 0 0 0 L),(12,ω n),(13,ω k)],[(0,⟨a,0,false,0,1,true⟩)],.dead,[]⟩ (.normal) ⟨[(0,.str s),(3,.ref 0 0 0 L),(12,ω n),(13,ω (γ .i64 (k+(1:Int))))],[(0,⟨(ο ((0+(δ (γ .i64 (Xqs k (4:Int)))))*1) a++ [.int .u32 (γ .u32 (Xxk (Xql (Xqe .u32) (Γ (ζ (ε ((0+(δ (γ .i64 (Xqs k (4:Int)))))*1) a) .dead))|||Xql (Xqe .u32) (γ .u32 ((γ .u32 ((Xxj (Xx6 s (δ (γ .i64 ((γ .i64 ((((η s):Nat):Int) - (1:Int))) - k))) 0):Nat):Int))*2^(min (δ (γ .i64 ((8:Int)*(Xq4 k (4:Int))))) (Xqe .u32)))))))]++ε (((0+(δ (γ .i64 (Xqs k (4:Int)))))*1)+1) a),0,false,0,1,true⟩)],.dead,[]⟩:=pJ 136 [] 1 1 (.c h0 (.c b (.c c (.c e (.k 1 g (.c h (.c d (.c b (.c c (.k 1 i .nil)))))))))) (.nil) f
theorem KK {nt:Nat} (b:38≤nt) (s:List UInt8) (a:List AV) (L:Nat) (n k:Int) (h0:lit false (decide (k<n))=true):ψ nt f136 ⟨[(0,.str s),(3,.ref 0 0 0 L),(12,ω n),(13,ω k)],[(0,⟨a,0,false,0,1,true⟩)],.dead,[]⟩ (.exit 0) ⟨[(0,.str s),(3,.ref 0 0 0 L),(12,ω n),(13,ω k)],[(0,⟨a,0,false,0,1,true⟩)],.dead,[]⟩:=pJ 136 [] 1 0 (.c h0 .nil) (.nil) b
def ae (s:List UInt8):Nat:=s.foldl (fun a b=>a*256+b.toNat) 0
theorem BH (s:List UInt8):∀ a,s.foldl (fun a b=>a*256+b.toNat) a=a*256^s.length+ae s:=by
 induction s with
 |nil=>intro a;simp [ae]
 | cons b r ih=>
  intro a;simp only [Xxg,ae,μ,Xq2];rw [ih,ih (0*256+b.toNat)];have:a*(256^r.length*256)=a*256*256^r.length:=by
   rw [Xqb (256^r.length) 256,Xqo]
  rw [this];simp only [Xxn,Xvq,Θ];omega
theorem fF (b:UInt8) (r:List UInt8):ae (b::r)=b.toNat*256^r.length+ae r:=by
 show (b::r).foldl _ 0=_;rw [Xxg,BH];simp
theorem qO (s:List UInt8):ae s<256^s.length:=by
 induction s with
 |nil=>simp [ae]
 |cons b r ih=>
  rw [fF,μ,Xq2];have:=b.toNat_lt;have h:b.toNat*256^r.length≤255*256^r.length:=Xqu _ (by omega);omega
def bD (m n:Nat):List Nat:=(Xq1 m).map fun i=>n / 2^(32*i) % 2^32
theorem aM (m n:Nat):(bD m n).length=m:=by simp [bD]
theorem mT {m n i:Nat} (h:i<m):(bD m n)[i]? =some (n / 2^(32*i) % 2^32):=by simp [bD,h]
theorem Og {m j n b:Nat} (g:n<2^(8*j)) (o:b<256):
  bD m (b*2^(8*j)+n)=(bD m n).set (j / 4) (n / 2^(32*(j / 4)) % 2^32+b*2^(8*(j % 4))):=by
 apply Xjx;intro i;by_cases hi:i<m
 ·rw [mT hi,Xj9];have l:j=4*(j / 4)+j % 4:=by omega
  generalize d:j / 4=q at*
  generalize f:j % 4=r at*
  have p:r<4:=by omega
  by_cases h1:q=i
  ·subst h1;rw [if_pos rfl,if_pos (by rw [aM];exact hi)];congr 1;have e:8*j=8*r+32*q:=by omega
   rw [e,Xxo,← Xqo,Xxr,Xzy _ _ (Xqt _)];have c:n / 2^(32*q)<2^(8*r):=by
    rw [Xqr (Xqt _),← Xxo,← e];exact g
   have a:2^(8*r)≤2^24:=Xqf (by omega) (by omega);have k:b*2^(8*r)≤255*2^(8*r):=Xqu _ (by omega);rw [Δ (by omega),Δ (by omega)]
  ·rw [if_neg h1,mT hi];congr 1;rcases Nat.lt_or_gt_of_ne h1 with h|h
   ·
    have e:8*j+8≤32*i:=by omega
    have c:b*2^(8*j)+n<2^(32*i):=by
     have a:2^(8*j+8)≤2^(32*i):=Xqf (by omega) e;have k:b*2^(8*j)≤255*2^(8*j):=Xqu _ (by omega);rw [Xxo] at a;omega
    rw [Xx7 c,Xx7 (by omega)]
   ·
    have e:8*j=(8*j - 32*i - 32)+32+32*i:=by omega
    rw [e,Xxo,Xxo,← Xqo,← Xqo,Xxr,Xzy _ _ (Xqt _),Xvn]
 ·rw [Xqz (by rw [aM];omega),Xqz (by rw [Xxc,aM];omega)]
theorem Am {x:Int} (h:0≤x) (a:x<2^32):γ .u32 x=x:=by
 show (if (false && decide (x % 2^32≥2^31))=true then x % 2^32 - 2^32 else x % 2^32)=x;simp only [Xw6,Xjr,if_false];omega
theorem Xm {a b r:Nat} (d:a<2^(8*r)) (j:b<256) (k:r<4):
  γ .u32 (Xxk (Xql (Xqe .u32) (a:Int)|||Xql (Xqe .u32) (γ .u32 ((b:Int)*2^(8*r)))))=((a+b*2^(8*r):Nat):Int):=by
 have i:2^(8*r)≤2^24:=Xqf (by omega) (by omega);have l:b*2^(8*r)≤255*2^(8*r):=Xqu _ (by omega);have e:((b:Int)*2^(8*r))=((b*2^(8*r):Nat):Int):=by simp
 have g:γ .u32 ((b*2^(8*r):Nat):Int)=((b*2^(8*r):Nat):Int):=Am (by omega) (by omega);rw [e,g];have c:∀ x:Nat,x<2^32→(Xql (Xqe .u32) (x:Int)).toNat=x:=by
  intro x h;show (Xql 32 (x:Int)).toNat=x;rw [Xko,Xkw,Δ h]
 rw [Yqp,c a (by omega),c _ (by omega)];have f:a|||b*2^(8*r)=a+b*2^(8*r):=by
  have:=Xva d b;rw [Yqc] at this;rw [Yqq,← this,Xxr]
 rw [f,Am (by omega) (by omega)]
theorem Qh {s:List UInt8} {j:Nat} (d:j<s.length):ae (s.drop (s.length - (j+1)))=(s.getD (s.length - 1 - j) 0).toNat*2^(8*j)+ae (s.drop (s.length - j)):=by
 have a:s.length - (j+1)<s.length:=by omega
 rw [Xxh a,fF];have c:s.length - (j+1)+1=s.length - j:=by omega
 rw [c,Xx8];have b:s.length - (s.length - j)=j:=by omega
 rw [b,ν,show s.length - 1 - j=s.length - (j+1) by omega,ξ a];have:(256:Nat)^j=2^(8*j):=by rw [Xja]
 rw [this];rfl
def abQ (s:List UInt8) (L:Nat) (j:Nat):St:=⟨[(0,.str s),(3,.ref 0 0 0 L),(12,ω (s.length:Int)),(13,ω (j:Int))],[(0,⟨ah (bD L (ae (s.drop (s.length - j)))),0,false,0,1,true⟩)],.dead,[]⟩
theorem Jn (l:List Nat) (i:Nat) (x:Nat) (a:i<l.length):ο i (ah l)++ [Xxm .u32 (x:Int)]++ε (i+1) (ah l)=ah (l.set i x):=by
 unfold ah;rw [← Xwo,← Xjz,Xxs,if_pos a];simp
theorem Sf {nt:Nat} (g:38≤nt) (s:List UInt8) (hs:s.length<2^40):∀ (d j:Nat),j+d=s.length→az prog ap [] nt (ac 0 (af f136)) (fun _=> .exit 0) (abQ s ((s.length+3) / 4)) (abQ s ((s.length+3) / 4)) j s.length:=by
 intro d
 induction d with
 |zero=>
  intro j k;have:j=s.length:=by omega
  subst this;exact .done (KK g s _ _ (s.length:Int) (s.length:Int) (by simp [lit]))
 | succ d ih=>
  intro j k;refine .next ?_ (ih (j+1) (by omega))
  have b:j<s.length:=by omega
  have f:j / 4<(s.length+3) / 4:=by omega
  have p:γ .i64 (Xqs (j:Int) 4)=((j / 4:Nat):Int):=by
   rw [Xz7 (by omega),eP (by omega) (by omega)];omega
  have l:Xq4 (j:Int) 4=((j % 4:Nat):Int):=by
   rw [Xvo (by omega)];omega
  have m:γ .i64 ((8:Int)*((j % 4:Nat):Int))=((8*(j % 4):Nat):Int):=by
   rw [eP (by omega) (by omega)];omega
  have i:γ .i64 (γ .i64 ((s.length:Int) - 1) - (j:Int))=((s.length - 1 - j:Nat):Int):=by
   have q:γ .i64 ((s.length:Int) - 1)=((s.length - 1:Nat):Int):=by
    rw [eP (by omega) (by omega)];omega
   rw [q,eP (by omega) (by omega)];omega
  have o:(0+δ ((j / 4:Nat):Int))*1=j / 4:=by omega
  have t:γ .i64 ((j:Int)+1)=((j+1:Nat):Int):=by
   rw [eP (by omega) (by omega)];omega
  have e:ae (s.drop (s.length - j))<2^(8*j):=by
   have:=qO (s.drop (s.length - j));rw [Xx8,show s.length - (s.length - j)=j by omega] at this;rw [Xja];exact this
  have h:(s.getD (s.length - 1 - j) 0).toNat<256:=(s.getD (s.length - 1 - j) 0).toNat_lt;have hcell:ζ (ε (j / 4) (ah (bD ((s.length+3) / 4) (ae (s.drop (s.length - j)))))) .dead= .int .u32 ((ae (s.drop (s.length - j)) / 2^(32*(j / 4)) % 2^32:Nat):Int):=by
   rw [km,ν];unfold ah;rw [Xqy,mT f];rfl
  have a:ae (s.drop (s.length - j)) / 2^(32*(j / 4)) % 2^32<2^(8*(j % 4)):=by
   have n:ae (s.drop (s.length - j)) / 2^(32*(j / 4))<2^(8*(j % 4)):=by
    rw [Xqr (Xqt _),← Xxo,show 8*(j % 4)+32*(j / 4)=8*j by omega];exact e
   exact υ (Nat.mod_le _ _) n
  have hbody:=KJ g s (ah (bD ((s.length+3) / 4) (ae (s.drop (s.length - j))))) ((s.length+3) / 4) (s.length:Int) (j:Int);rw [p,l,m,i,o,t] at hbody;rw [hcell] at hbody;have u:min (δ ((8*(j % 4):Nat):Int)) (Xqe .u32)=8*(j % 4):=by
   show min (δ ((8*(j % 4):Nat):Int)) 32=_;omega
  have r:δ ((s.length - 1 - j:Nat):Int)=s.length - 1 - j:=by omega
  have c:γ .u32 (((s.getD (s.length - 1 - j) 0).toNat:Nat):Int)=(((s.getD (s.length - 1 - j) 0).toNat:Nat):Int):=Am (by omega) (by omega);rw [u,r,c] at hbody;simp only [Γ] at hbody;rw [Xm a h (by omega)] at hbody;rw [Jn _ _ _ (by rw [aM];exact f),← Og e h,← Qh b] at hbody;exact hbody (by rw [aq,aM];exact Xqg (by omega)) (Yq0 (by omega)) (Yq0 (by omega)) (Yq0 (by omega)) (Yq0 (by omega)) (Yq0 (by omega)) rfl (Yq0 (by omega))
def digs (n:Nat):List Nat:=dh (bD n n)
theorem Pd (m n:Nat):ο (m*1) (ah (bD m n))=ah (bD m n):=by
 rw [Φ,Xqi (by rw [aq,aM];exact φ _)]
theorem qb {n:Nat}:∀ (d m:Nat),n<2^(32*m)→dh (bD (m+d) n)=dh (bD m n)
 |0,m,_=>rfl
 | d+1,m,h=>by
  have a:n / 2^(32*(m+d)) % 2^32=0:=by
   have:n<2^(32*(m+d)):=σ h (Xqf (by omega) (by omega));rw [Xx7 this]
  have e:bD (m+(d+1)) n=bD (m+d) n++ [n / 2^(32*(m+d)) % 2^32]:=by
   unfold bD;rw [show m+(d+1)=(m+d)+1 by omega,Xzz,Xxt];rfl
  rw [e,kJ,if_pos a];exact qb d m h
theorem ja (n:Nat):n<2^(32*n):=by
 have a:n<2^n:=Nat.lt_two_pow_self;exact σ a (Xqf (by omega) (by omega))
theorem wW {m n:Nat} (h:n<2^(32*m)):dh (bD m n)=digs n:=by
 unfold digs;rcases Yxx m n with hm|hm
 ·have:=qb (n - m) m h;rw [show m+(n - m)=n by omega] at this;exact this.symm
 ·have:=qb (m - n) n (ja n);rw [show n+(m - n)=m by omega] at this;exact this
theorem vH (s:List UInt8):ae s<2^(32*((s.length+3) / 4)):=by
 have h:=qO s;have e:(256:Nat)^s.length=2^(8*s.length):=by rw [Xja]
 rw [e] at h;exact σ h (Xqf (by omega) (by omega))
theorem Pq (s:List UInt8) (hs:s.length<2^40):CO 161 [.sl (ah (bD ((s.length+3) / 4) (ae s))) ((s.length+3) / 4) true] (.ret (.sl (ah (digs (ae s))) (digs (ae s)).length true)):=by
 have h:=HQ (bD ((s.length+3) / 4) (ae s)) true (by rw [aM];omega);rw [aM,wW (vH s)] at h;exact h
theorem Dp (s:List UInt8) (hs:s.length<2^40):γ .i64 (Xqs (γ .i64 ((γ .i64 ((s.length:Int)+(4:Int))) - (1:Int))) (4:Int))=(((s.length+3) / 4:Nat):Int):=by
 rw [eP (x:=(s.length:Int)+4) (by omega) (by omega),eP (x:=(s.length:Int)+4 - 1) (by omega) (by omega),Xz7 (by omega),eP (by omega) (by omega)];omega
theorem Je (m:Nat):dX m [Xxm .u32 0]=ah (bD m 0):=by
 unfold dX ah bD
 induction m with
 |zero=>rfl
 |succ m ih=>
  rw [Xzn,Xwg,ih,Xzz,Xxt,Xxt];simp
theorem sN (n:Nat):δ (n:Int)=n:=by omega
theorem Mq (s:List UInt8):ae (s.drop (s.length - 0))=0:=by simp [ae]
theorem NZ (s:List UInt8) (hs:s.length<2^40):dX (δ (γ .i64 (Xqs (γ .i64 ((γ .i64 ((s.length:Int)+(4:Int))) - (1:Int))) (4:Int)))) [Xxm .u32 0]=ah (bD ((s.length+3) / 4) (ae (s.drop (s.length - 0)))):=by
 rw [Dp s hs,sN,Je,Mq]
theorem Kb (s:List UInt8):ae (s.drop (s.length - s.length))=ae s:=by simp
theorem ajn (s:List UInt8) (hs:s.length<2^40) (h0:(decide ((0:Int)≤(γ .i64 (Xqs (γ .i64 ((γ .i64 ((((η s):Nat):Int)+(4:Int))) - (1:Int))) (4:Int)))))=true) (a:(decide ((γ .i64 (Xqs (γ .i64 ((γ .i64 ((((η s):Nat):Int)+(4:Int))) - (1:Int))) (4:Int)))=(γ .i64 (Xqs (γ .i64 ((γ .i64 ((((η s):Nat):Int)+(4:Int))) - (1:Int))) (4:Int)))))=true) (c:(decide ((γ .i64 (Xqs (γ .i64 ((γ .i64 ((((η s):Nat):Int)+(4:Int))) - (1:Int))) (4:Int)))≤(1099511627776:Int)))=true):CO 136 [.str s] (.ret (.sl (ah (digs (ae s))) (digs (ae s)).length true)):=pK [0] 0 0 (.c h0 (.c a (.c c (.n 1 .nil)))) (.c (by rw [Pd];exact Pq s hs:CO 161 [.sl (ο (((s.length+3) / 4)*1) (ah (bD ((s.length+3) / 4) (ae s)))) ((s.length+3) / 4) true] (.ret (.sl (ah (digs (ae s))) (digs (ae s)).length true))) (.l (by rw [NZ s hs,Dp s hs,sN,← Kb s];exact az.blk (fun nt b=>Sf b s hs s.length 0 (by omega)) (by simp) rfl (aJ.of ⟨rfl,rfl,rfl,rfl,trivial⟩) (aJ.of ⟨rfl,trivial⟩):aG prog ap [] 38 (.block 0 (.loop (ac 0 (af f136)))) ⟨[(0,.str s),(2,.nilS),(3,.ref 0 0 0 (δ (γ .i64 (Xqs (γ .i64 ((γ .i64 ((((η s):Nat):Int)+(4:Int))) - (1:Int))) (4:Int))))),(4,.dead),(12,ω (((η s):Nat):Int)),(13,ω 0),(14,.dead)],[(0,⟨(dX (δ (γ .i64 (Xqs (γ .i64 ((γ .i64 ((((η s):Nat):Int)+(4:Int))) - (1:Int))) (4:Int)))) [.int .u32 0]),0,false,0,1,true⟩)],.dead,[]⟩ (.normal) ⟨[(3,.ref 0 0 0 ((s.length+3) / 4))],[(0,⟨(ah (bD ((s.length+3) / 4) (ae s))),0,false,0,1,true⟩)],.dead,[]⟩) .nil))
theorem pI (s:List UInt8) (hs:s.length<2^40):CO 136 [.str s] (.ret (.sl (ah (digs (ae s))) (digs (ae s)).length true)):=
 ajn s hs (by rw [Dp s hs];exact Yq0 (by omega)) (Yq0 rfl) (by rw [Dp s hs];exact Yq0 (by omega))
theorem Gu {nt:Nat} (j:43≤nt) (a b:List AV) (n c:Nat) (i h:Bool) (k:Int) (h0:lit true (decide ((Γ (ζ (ε ((δ k)*1) a) .dead))<(Γ (ζ (ε ((δ k)*1) b) .dead))))=true) (e:(chk (.int .u32) (ζ (ε ((δ k)*1) b) .dead))=true) (d:(decide ((0:Int)≤k))=true) (g:(decide (k<(c:Int)))=true) (l:(chk (.int .u32) (ζ (ε ((δ k)*1) a) .dead))=true) (m:(decide (k<(n:Int)))=true) (f:lit true (decide ((0:Int)≤k))=true):ψ nt f183 ⟨[(0,.sl a n i),(1,.sl b c h),(5,ω k)],[],.dead,[]⟩ (.ret) ⟨[(4,ω (-1))],[],.dead,[]⟩:=pJ 183 [] 2 3 (.c h0 (.c e (.c d (.c g (.c l (.c d (.c m (.c f .nil)))))))) (.nil) j
theorem Gv {nt:Nat} (m:43≤nt) (a c:List AV) (n f:Nat) (l j:Bool) (k:Int) (h0:lit true (decide ((Γ (ζ (ε ((δ k)*1) c) .dead))<(Γ (ζ (ε ((δ k)*1) a) .dead))))=true) (d:(chk (.int .u32) (ζ (ε ((δ k)*1) c) .dead))=true) (b:(decide ((0:Int)≤k))=true) (e:(decide (k<(f:Int)))=true) (g:(chk (.int .u32) (ζ (ε ((δ k)*1) a) .dead))=true) (h:(decide (k<(n:Int)))=true) (i:lit false (decide ((Γ (ζ (ε ((δ k)*1) a) .dead))<(Γ (ζ (ε ((δ k)*1) c) .dead))))=true) (o:lit true (decide ((0:Int)≤k))=true):ψ nt f183 ⟨[(0,.sl a n l),(1,.sl c f j),(5,ω k)],[],.dead,[]⟩ (.ret) ⟨[(4,ω 1)],[],.dead,[]⟩:=pJ 183 [] 3 5 (.c h0 (.c d (.c b (.c e (.c g (.c b (.c h (.c i (.c d (.c b (.c e (.c g (.c b (.c h (.c o .nil))))))))))))))) (.nil) m
theorem Gw {nt:Nat} (m:43≤nt) (a b:List AV) (n d:Nat) (h g:Bool) (k:Int) (h0:lit false (decide ((Γ (ζ (ε ((δ k)*1) b) .dead))<(Γ (ζ (ε ((δ k)*1) a) .dead))))=true) (e:(chk (.int .u32) (ζ (ε ((δ k)*1) b) .dead))=true) (c:(decide ((0:Int)≤k))=true) (f:(decide (k<(d:Int)))=true) (i:(chk (.int .u32) (ζ (ε ((δ k)*1) a) .dead))=true) (j:(decide (k<(n:Int)))=true) (l:lit false (decide ((Γ (ζ (ε ((δ k)*1) a) .dead))<(Γ (ζ (ε ((δ k)*1) b) .dead))))=true) (o:lit true (decide ((0:Int)≤k))=true):ψ nt f183 ⟨[(0,.sl a n h),(1,.sl b d g),(5,ω k)],[],.dead,[]⟩ (.normal) ⟨[(0,.sl a n h),(1,.sl b d g),(5,ω (γ .i64 (k - (1:Int))))],[],.dead,[]⟩:=pJ 183 [] 3 1 (.c h0 (.c e (.c c (.c f (.c i (.c c (.c j (.c l (.c e (.c c (.c f (.c i (.c c (.c j (.c o .nil))))))))))))))) (.nil) m
theorem Gx {nt:Nat} (e:43≤nt) (b f:List AV) (n a:Nat) (d c:Bool) (k:Int) (h0:lit false (decide ((0:Int)≤k))=true):ψ nt f183 ⟨[(0,.sl b n d),(1,.sl f a c),(5,ω k)],[],.dead,[]⟩ (.exit 0) ⟨[],[],.dead,[]⟩:=pJ 183 [] 1 0 (.c h0 .nil) (.nil) e
def oq (a b:List Nat):Nat→Int
 |0=>0
 |k+1=>if a.getD k 0<b.getD k 0 then -1 else if b.getD k 0<a.getD k 0 then 1 else oq a b k
def Zy (a b:List Nat) (na nb:Bool) (k:Nat):St:=⟨[(0,.sl (ah a) a.length na),(1,.sl (ah b) b.length nb),(5,ω ((k:Int) - 1))],[],.dead,[]⟩
def VJ (r:Int):St:=⟨if r=0 then [] else [(4,ω r)],[],.dead,[]⟩
def Mf (r:Int):br:=if r=0 then .exit 0 else .ret
theorem DK {l:List Nat} {k:Nat} (h:k<l.length):ζ (ε (k*1) (ah l)) .dead= .int .u32 ((l.getD k 0:Nat):Int):=by
 rw [km,Φ,ν];unfold ah;rw [Xqy,ν,ξ h];rfl
theorem xT {nt:Nat} (f:43≤nt) (a b:List Nat) (e d:Bool) (j:a.length=b.length) (q:a.length<2^40):∀ (k:Nat),k≤a.length→az prog ap [] nt (ac 0 (af f183)) Mf (Zy a b e d) VJ k (oq a b k)
 |0,_=>by
  refine .done ?_;exact Gx f (ah a) (ah b) a.length b.length e d (((0:Nat):Int) - 1) (by decide)
 | k +1,hk=>by
  have m:(((k+1:Nat):Int) - 1)=(k:Int):=by omega
  have s:δ (k:Int)=k:=by omega
  have r:=DK (l:=a) (k:=k) (by omega);have u:=DK (l:=b) (k:=k) (by omega);have c:decide ((0:Int)≤(k:Int))=true:=Yq0 (by omega);have o:decide ((k:Int)<(a.length:Int))=true:=Yq0 (by omega);have n:decide ((k:Int)<(b.length:Int))=true:=Yq0 (by omega);have h:=Gu f (ah a) (ah b) a.length b.length e d (k:Int);have i:=Gv f (ah a) (ah b) a.length b.length e d (k:Int);have g:=Gw f (ah a) (ah b) a.length b.length e d (k:Int);rw [s,r,u] at h i g;simp only [Γ] at h i g;simp only [oq];by_cases h1:a.getD k 0<b.getD k 0
  ·rw [if_pos h1];refine .done ?_;have:=h (by simp only [lit];exact Yq0 (by omega)) rfl c n rfl o (by simp only [lit];exact c);show ai _ _ _ _ _ ⟨[_,_,(5,ω (((k+1:Nat):Int) - 1))],[],.dead,[]⟩ _ _;rw [m];exact this
  ·rw [if_neg h1];have p:lit false (decide (((a.getD k 0:Nat):Int)<((b.getD k 0:Nat):Int)))=true:=by
    simp only [lit,Xqq];exact Yq1 (by omega)
   by_cases h2:b.getD k 0<a.getD k 0
   ·rw [if_pos h2];refine .done ?_;have:=i (by simp only [lit];exact Yq0 (by omega)) rfl c n rfl o p (by simp only [lit];exact c);show ai _ _ _ _ _ ⟨[_,_,(5,ω (((k+1:Nat):Int) - 1))],[],.dead,[]⟩ _ _;rw [m];exact this
   ·rw [if_neg h2];refine .next ?_ (xT f a b e d j q k (by omega))
    have t:lit false (decide (((b.getD k 0:Nat):Int)<((a.getD k 0:Nat):Int)))=true:=by
     simp only [lit,Xqq];exact Yq1 (by omega)
    have:=g t rfl c n rfl o p (by simp only [lit];exact c);rw [eP (by omega) (by omega)] at this;show ai _ _ _ _ _ ⟨[_,_,(5,ω (((k+1:Nat):Int) - 1))],[],.dead,[]⟩ _ _;rw [m];exact this
theorem EO {n:Nat} (h:n<2^40):γ .i64 ((n:Int) - (1:Int))=(n:Int) - 1:=eP (by omega) (by omega)
theorem VG (a b:List Nat) (e d:Bool) (h0:lit true (decide ((a.length:Int)<(b.length:Int)))=true) (c:lit true (!((a.length:Int)==(b.length:Int)))=true):CO 183 [.sl (ah a) a.length e,.sl (ah b) b.length d] (.ret (ω (-1))):=pK [0] 2 3 (.c h0 (.c c .nil)) (.nil)
theorem VH (a b:List Nat) (e d:Bool) (h0:lit false (decide ((a.length:Int)<(b.length:Int)))=true) (c:lit true (!((a.length:Int)==(b.length:Int)))=true):CO 183 [.sl (ah a) a.length e,.sl (ah b) b.length d] (.ret (ω 1)):=pK [0] 2 1 (.c h0 (.c c .nil)) (.nil)
theorem VI (a b:List Nat) (e c:Bool) (g:a.length<2^40) (d:a.length=b.length) (f:oq a b a.length=0) (h0:lit false (!((a.length:Int)==(b.length:Int)))=true):CO 183 [.sl (ah a) a.length e,.sl (ah b) b.length c] (.ret (ω 0)):=pK [0] 1 0 (.c h0 .nil) (.l (by exact az.blk (fun nt h=>xT h a b e c d g _ (φ _)) (by simp [Mf,f]) (by simp [Mf,f,ld]) (aJ.of ⟨rfl,rfl,congrArg _ (EO g),trivial⟩) (aJ.of trivial):aG prog ap [] 43 (.block 0 (.loop (ac 0 (af f183)))) ⟨[(0,.sl (ah a) a.length e),(1,.sl (ah b) b.length c),(4,ω 0),(5,ω (γ .i64 ((a.length:Int) - (1:Int)))),(10,.bool (!((a.length:Int)==(b.length:Int)))),(15,.dead),(20,.dead),(23,.dead),(33,.dead)],[],.dead,[]⟩ (.normal) ⟨[],[],.dead,[]⟩) .nil)
theorem VK (a b:List Nat) (f d:Bool) (g:a.length<2^40) (e:a.length=b.length) (c:¬ oq a b a.length=0) (h0:lit false (!((a.length:Int)==(b.length:Int)))=true):CO 183 [.sl (ah a) a.length f,.sl (ah b) b.length d] (.ret (ω (oq a b a.length))):=pK [0] 1 0 (.c h0 .nil) (.l (by exact az.blk (fun nt h=>xT h a b f d e g _ (φ _)) (by simp [Mf,c]) (by simp [Mf,c,ld]) (aJ.of ⟨rfl,rfl,congrArg _ (EO g),trivial⟩) (aJ.of ⟨by rw [if_neg c];rfl,trivial⟩):aG prog ap [] 43 (.block 0 (.loop (ac 0 (af f183)))) ⟨[(0,.sl (ah a) a.length f),(1,.sl (ah b) b.length d),(4,ω 0),(5,ω (γ .i64 ((a.length:Int) - (1:Int)))),(10,.bool (!((a.length:Int)==(b.length:Int)))),(15,.dead),(20,.dead),(23,.dead),(33,.dead)],[],.dead,[]⟩ (.ret) ⟨[(4,ω (oq a b a.length))],[],.dead,[]⟩) .nil)
def Qm (a b:List Nat):Int:=if a.length<b.length then -1 else if b.length<a.length then 1 else oq a b a.length
theorem rT (a b:List Nat) (e d:Bool) (f:a.length<2^40):CO 183 [.sl (ah a) a.length e,.sl (ah b) b.length d] (.ret (ω (Qm a b))):=by
 unfold Qm;by_cases h1:a.length<b.length
 ·rw [if_pos h1];exact VG a b e d (by simp only [lit];exact Yq0 (by omega)) (by simp [lit];omega)
 ·rw [if_neg h1];by_cases h2:b.length<a.length
  ·rw [if_pos h2];exact VH a b e d (by simp only [lit,Xqq];exact Yq1 (by omega)) (by simp [lit];omega)
  ·rw [if_neg h2];have c:a.length=b.length:=by omega
   have g:lit false (!((a.length:Int)==(b.length:Int)))=true:=by simp [lit,c]
   by_cases hz:oq a b a.length=0
   ·rw [hz];exact VI a b e d f c hz g
   ·exact VK a b e d f c hz g
theorem pM (m n:Nat):bD (m+1) n=bD m n++ [n / 2^(32*m) % 2^32]:=by
 unfold bD;rw [Xzz,Xxt];rfl
theorem tJ (n:Nat):∀ (k:Nat),(digs n).getD k 0=n / 2^(32*k) % 2^32:=by
 have key:∀ (m k:Nat),(dh (bD m n)).getD k 0=if k<m then n / 2^(32*k) % 2^32 else 0:=by
  intro m
  induction m with
  |zero=>intro k;simp [bD,dh]
  | succ m ih=>
   intro k;rw [pM,kJ];by_cases hd:n / 2^(32*m) % 2^32=0
   ·rw [if_pos hd,ih];by_cases hk:k<m
    ·rw [if_pos hk,if_pos (by omega)]
    ·rw [if_neg hk];by_cases hkm:k=m
     ·subst hkm;rw [if_pos (by omega),hd]
     ·rw [if_neg (by omega)]
   ·rw [if_neg hd,ν];by_cases hk:k<m
    ·rw [Xxb (by rw [aM];exact hk),mT hk,if_pos (by omega)];rfl
    ·by_cases hkm:k=m
     ·subst hkm;rw [Xjw (by rw [aM];exact φ _),aM,Xwk,if_pos (by omega)];rfl
     ·rw [Xqz (by rw [κ,aM];simp;omega),if_neg (by omega)];rfl
 intro k;unfold digs;rw [key];by_cases hk:k<n
 ·rw [if_pos hk]
 ·rw [if_neg hk];have:n<2^(32*k):=σ (ja n) (Xqf (by omega) (by omega));rw [Xx7 this]
theorem Pn (l:List Nat):(dh l).length≤l.length:=by
 unfold dh;rw [Xzb];have:=(Xzt (· ==0) (l:=l.reverse)).length_le;simpa using this
theorem gC {n m:Nat} (h:n<2^(32*m)):(digs n).length≤m:=by
 rw [← wW h];have:=Pn (bD m n);rwa [aM] at this
theorem gV {n m:Nat} (h:(digs n).length≤m):n<2^(32*m):=by
 have key:∀ d,n<2^(32*(m+d))→n<2^(32*m):=by
  intro d
  induction d with
  |zero=>exact fun h=>h
  | succ d ih=>
   intro b;refine ih ?_;have c:=tJ n (m+d);rw [ν,Xqz (by omega)] at c;have e:n / 2^(32*(m+d))<2^32:=by
    rw [Xqr (Xqt _),← Xxo,show 32+32*(m+d)=32*(m+(d+1)) by omega];exact b
   have a:n / 2^(32*(m+d)) % 2^32=0:=c.symm;rw [Δ e] at a;rcases Nat.div_eq_zero_iff.1 a with h2|h2
   ·have:=Xqt (32*(m+d));omega
   ·exact h2
 refine key n ?_;exact σ (ja n) (Xqf (by omega) (by omega))
def ji (x y:Nat):Int:=if x<y then -1 else if y<x then 1 else 0
theorem vg (x k:Nat):x % 2^(32*(k+1))=x / 2^(32*k) % 2^32*2^(32*k)+x % 2^(32*k):=by
 rw [show 32*(k+1)=32*k+32 by omega,Xxo,Nat.mod_mul];rw [Xxr,Xqb (2^(32*k))]
theorem xR (x y:Nat):∀ k,oq (digs x) (digs y) k=ji (x % 2^(32*k)) (y % 2^(32*k))
 |0=>by simp [oq,ji,Yqr]
 | k +1=>by
  simp only [oq,tJ];rw [xR x y k,vg x k,vg y k];have f:=Xqh x (Xqt (32*k));have g:=Xqh y (Xqt (32*k));generalize x / 2^(32*k) % 2^32=a;generalize y / 2^(32*k) % 2^32=b;generalize x % 2^(32*k)=c at f ⊢;generalize y % 2^(32*k)=d at g ⊢;generalize 2^(32*k)=M at f g ⊢;unfold ji;by_cases h1:a<b
  ·rw [if_pos h1];have e:a*M+M≤b*M:=by
    have:=Xqu M (show a+1≤b from h1);rw [Xxn,Xwh] at this;exact this
   rw [if_pos (by omega)]
  ·rw [if_neg h1];by_cases e:b<a
   ·rw [if_pos e];have h:b*M+M≤a*M:=by
     have:=Xqu M (show b+1≤a from e);rw [Xxn,Xwh] at this;exact this
    rw [if_neg (by omega),if_pos (by omega)]
   ·rw [if_neg e];have:a=b:=by omega
    subst this;simp only [Nat.add_lt_add_iff_left]
theorem uO (x y:Nat):Qm (digs x) (digs y)=ji x y:=by
 have d:=gV (n:=x) (φ _);have c:=gV (n:=y) (φ _);unfold Qm;by_cases h1:(digs x).length<(digs y).length
 ·rw [if_pos h1];have a:¬ y<2^(32*(digs x).length):=fun h=>by have:=gC h;omega
  unfold ji;rw [if_pos (by omega)]
 ·rw [if_neg h1];by_cases a:(digs y).length<(digs x).length
  ·rw [if_pos a];have e:¬ x<2^(32*(digs y).length):=fun h=>by have:=gC h;omega
   unfold ji;rw [if_neg (by omega),if_pos (by omega)]
  ·rw [if_neg a,xR];have b:(digs x).length=(digs y).length:=by omega
   rw [Δ d,Δ (by rw [b];exact c)]
theorem xW {s:List UInt8} (hs:s.length<2^40):(digs (ae s)).length<2^40:=by
 have:=gC (vH s);omega
theorem Y3 (s t:List UInt8) (hs:s.length<2^40) (a:t.length<2^40):CO 163 [.str s,.str t] (.ret (ω (ji (ae s) (ae t)))):=pK [] 0 0 .nil (.c (by rw [← uO];exact rT _ _ _ _ (xW hs):CO 183 [.sl (ah (digs (ae s))) (digs (ae s)).length true,.sl (ah (digs (ae t))) (digs (ae t)).length true] (.ret (ω (ji (ae s) (ae t))))) (.c (pI t a) (.c (pI s hs) .nil)))
theorem NN (s:List UInt8) (h0:lit true (s== [])=true):CO 138 [.str s] (.ret (.bool true)):=pK [] 1 1 (.c h0 .nil) (.nil)
theorem NP (s:List UInt8) (h0:(decide ((0:Int)<(((η s):Nat):Int)))=true) (a:lit false (s== [])=true):CO 138 [.str s] (.ret (.bool (!(((Xxj (Xx6 s 0 0):Nat):Int)==(0:Int))))):=pK [] 1 0 (.k 1 h0 (.c a .nil)) (.nil)
theorem Hf {nt:Nat} (g:37≤nt) (a b:List AV) (L M:Nat) (c:Bool) (n k:Int) (h0:(Xqk (((0+(δ (γ .i64 ((γ .i64 ((M:Int) - (1:Int))) - k))))*1)+1) (η b))=true) (d:(decide ((0:Int)≤(γ .i64 ((γ .i64 ((M:Int) - (1:Int))) - k))))=true) (j:(decide ((γ .i64 ((γ .i64 ((M:Int) - (1:Int))) - k))<(M:Int)))=true) (f:(decide ((0:Int)≤(γ .i64 ((8:Int)*(Xq4 k (4:Int))))))=true) (h:(chk (.int .u32) (ζ (ε ((δ (γ .i64 (Xqs k (4:Int))))*1) a) .dead))=true) (i:(decide ((0:Int)≤(γ .i64 (Xqs k (4:Int)))))=true) (e:(decide ((γ .i64 (Xqs k (4:Int)))<(L:Int)))=true) (l:lit true (decide (k<n))=true):ψ nt f134 ⟨[(0,.sl a L c),(3,.ref 0 0 0 M),(12,ω n),(13,ω k)],[(0,⟨b,0,false,0,1,true⟩)],.dead,[]⟩ (.normal) ⟨[(0,.sl a L c),(3,.ref 0 0 0 M),(12,ω n),(13,ω (γ .i64 (k+(1:Int))))],[(0,⟨(ο ((0+(δ (γ .i64 ((γ .i64 ((M:Int) - (1:Int))) - k))))*1) b++ [.int .u8 (γ .u8 (Xqv (Γ (ζ (ε ((δ (γ .i64 (Xqs k (4:Int))))*1) a) .dead)) (2^(min (δ (γ .i64 ((8:Int)*(Xq4 k (4:Int))))) (Xqe .u32)))))]++ε (((0+(δ (γ .i64 ((γ .i64 ((M:Int) - (1:Int))) - k))))*1)+1) b),0,false,0,1,true⟩)],.dead,[]⟩:=pJ 134 [] 1 1 (.c h0 (.c d (.c j (.c f (.k 1 h (.c i (.c e (.k 1 l .nil)))))))) (.nil) g
theorem Hg {nt:Nat} (d:37≤nt) (b a:List AV) (L M:Nat) (c:Bool) (n k:Int) (h0:lit false (decide (k<n))=true):ψ nt f134 ⟨[(0,.sl b L c),(3,.ref 0 0 0 M),(12,ω n),(13,ω k)],[(0,⟨a,0,false,0,1,true⟩)],.dead,[]⟩ (.exit 0) ⟨[(3,.ref 0 0 0 M)],[(0,⟨a,0,false,0,1,true⟩)],.dead,[]⟩:=pJ 134 [] 1 0 (.c h0 .nil) (.nil) d
theorem HM {nt:Nat} (d:17≤nt) (s:List UInt8) (c:Int) (h0:(decide ((1:Int)≤(((η s):Nat):Int)))=true) (a:(decide ((((η s):Nat):Int)≤(((η s):Nat):Int)))=true) (f:lit true (((Xxj (Xx6 s 0 0):Nat):Int)==c)=true) (b:(decide ((0:Int)<(((η s):Nat):Int)))=true) (e:lit true (decide ((0:Int)<(((η s):Nat):Int)))=true):ψ nt f141 ⟨[(0,.str s),(1,.int .u8 c)],[],.dead,[]⟩ (.normal) ⟨[(0,.str (ε 1 (ο (δ (((η s):Nat):Int)) s))),(1,.int .u8 c)],[],.dead,[]⟩:=pJ 141 [] 2 3 (.k 1 h0 (.c a (.c f (.k 1 b (.c e .nil))))) (.nil) d
theorem HN {nt:Nat} (b:17≤nt) (s:List UInt8) (c:Int) (h0:lit false (((Xxj (Xx6 s 0 0):Nat):Int)==c)=true) (a:(decide ((0:Int)<(((η s):Nat):Int)))=true) (d:lit true (decide ((0:Int)<(((η s):Nat):Int)))=true):ψ nt f141 ⟨[(0,.str s),(1,.int .u8 c)],[],.dead,[]⟩ (.exit 0) ⟨[(0,.str s)],[],.dead,[]⟩:=pJ 141 [] 2 1 (.c h0 (.k 1 a (.c d .nil))) (.nil) b
theorem HO {nt:Nat} (a:17≤nt) (s:List UInt8) (c:Int) (h0:lit false (decide ((0:Int)<(((η s):Nat):Int)))=true):ψ nt f141 ⟨[(0,.str s),(1,.int .u8 c)],[],.dead,[]⟩ (.exit 0) ⟨[(0,.str s)],[],.dead,[]⟩:=pJ 141 [] 2 0 (.k 1 h0 .nil) (.nil) a
def ajL (c:UInt8) (s:List UInt8):St:=⟨[(0,.str s),(1,.int .u8 (c.toNat:Int))],[],.dead,[]⟩
def adW (s:List UInt8):St:=⟨[(0,.str s)],[],.dead,[]⟩
theorem FO {nt:Nat} (d:17≤nt) (c:UInt8):∀ (s:List UInt8),az prog ap [] nt (ac 0 (af f141)) (fun _=> .exit 0) (ajL c) adW s (s.dropWhile (· ==c))
 | []=> .done (HO d [] (c.toNat:Int) (by simp [lit]))
 | b::r=>by
  have a:decide ((0:Int)<(((b::r).length:Nat):Int))=true:=Yq0 (by simp only [μ];omega);have e:decide ((1:Int)≤(((b::r).length:Nat):Int))=true:=Yq0 (by simp only [μ];omega);have g:decide ((((b::r).length:Nat):Int)≤(((b::r).length:Nat):Int))=true:=Yq0 (Int.le_refl _);rw [Xxv];by_cases hb:b=c
  ·subst hb;rw [if_pos (by simp)];refine .next ?_ (FO d b r)
   have:=HM d (b::r) (b.toNat:Int) e g (by simp [lit]) a (by simp only [lit];exact a);rw [show δ (((b::r).length:Nat):Int)=(b::r).length by omega,Xqw] at this;exact this
  ·rw [if_neg (by simpa using hb)];refine .done ?_;have f:¬ (b.toNat:Int)=(c.toNat:Int):=fun h=>hb (UInt8.toNat_inj.1 (by omega))
   exact HN d (b::r) (c.toNat:Int) (by simp [lit];omega) a (by simp only [lit];exact a)
def kN (l:List Nat):List AV:=l.map fun (d:Nat)=>Xxm .u8 (d:Int)
def kT (m k x:Nat):List Nat:=(Xq1 m).map fun i=>if m - k≤i then x / 2^(8*(m - 1 - i)) % 256 else 0
theorem fV (m k x:Nat):(kT m k x).length=m:=by simp [kT]
theorem Fb {m k x i:Nat} (h:i<m):(kT m k x)[i]? =some (if m - k≤i then x / 2^(8*(m - 1 - i)) % 256 else 0):=by simp [kT,h]
theorem NU {m k x:Nat} (a:k<m):kT m (k+1) x=(kT m k x).set (m - 1 - k) (x / 2^(8*k) % 256):=by
 apply Xjx;intro i;by_cases hi:i<m
 ·rw [Fb hi,Xj9];by_cases h:m - 1 - k=i
  ·rw [if_pos (show m - (k+1)≤i by omega),if_pos h,if_pos (by rw [fV];omega),show m - 1 - i=k by omega]
  ·rw [if_neg h,Fb hi];by_cases h2:m - k≤i
   ·rw [if_pos h2,if_pos (by omega)]
   ·rw [if_neg h2,if_neg (by omega)]
 ·rw [Xqz (by rw [fV];omega),Xqz (by rw [Xxc,fV];omega)]
theorem au (l:List Nat):(kN l).length=l.length:=by simp [kN]
theorem X9 (l:List Nat) (i:Nat) (x:Nat) (a:i<l.length):ο i (kN l)++ [Xxm .u8 (x:Int)]++ε (i+1) (kN l)=kN (l.set i x):=by
 unfold kN;rw [← Xwo,← Xjz,Xxs,if_pos a];simp
theorem TQ (x:Nat):γ .u8 (x:Int)=((x % 256:Nat):Int):=by
 show (if (false && decide ((x:Int) % 2^8≥2^7))=true then (x:Int) % 2^8 - 2^8 else (x:Int) % 2^8)=_;simp only [Xw6,Xjr,if_false];omega
theorem Qi (x k:Nat):x / 2^(32*(k / 4)) % 2^32 / 2^(8*(k % 4)) % 256=x / 2^(8*k) % 256:=by
 have b:8*k=32*(k / 4)+8*(k % 4):=by omega
 rw [b,Xxo,← Xxx];generalize x / 2^(32*(k / 4))=y;have a:k % 4<4:=by omega
 generalize k % 4=r at a
 match r,a with
 |0,_=>omega
 |1,_=>omega
 |2,_=>omega
 |3,_=>omega
def abH (xs:List AV) (L:Nat) (nn:Bool) (x M k:Nat):St:=⟨[(0,.sl xs L nn),(3,.ref 0 0 0 M),(12,ω (M:Int)),(13,ω (k:Int))],[(0,⟨kN (kT M k x),0,false,0,1,true⟩)],.dead,[]⟩
def Xi (x M k:Nat):St:=⟨[(3,.ref 0 0 0 M)],[(0,⟨kN (kT M k x),0,false,0,1,true⟩)],.dead,[]⟩
theorem NT {nt:Nat} (e:37≤nt) (x:Nat) (b:Bool) (s:(digs x).length<2^40):∀ (d k:Nat),k+d=4*(digs x).length→az prog ap [] nt (ac 0 (af f134)) (fun _=> .exit 0) (abH (ah (digs x)) (digs x).length b x (4*(digs x).length)) (Xi x (4*(digs x).length)) k (4*(digs x).length):=by
 intro d
 induction d with
 |zero=>
  intro k f;have:k=4*(digs x).length:=by omega
  subst this;exact .done (Hg e _ _ _ _ b _ _ (by simp [lit]))
 | succ d ih=>
  intro k f;refine .next ?_ (ih (k+1) (by omega))
  generalize t:4*(digs x).length=M at*
  have a:k<M:=by omega
  have i:k / 4<(digs x).length:=by omega
  have n:γ .i64 (Xqs (k:Int) 4)=((k / 4:Nat):Int):=by
   rw [Xz7 (by omega),eP (by omega) (by omega)];omega
  have h:Xq4 (k:Int) 4=((k % 4:Nat):Int):=by
   rw [Xvo (by omega)];omega
  have j:γ .i64 ((8:Int)*((k % 4:Nat):Int))=((8*(k % 4):Nat):Int):=by
   rw [eP (by omega) (by omega)];omega
  have g:γ .i64 (γ .i64 ((M:Int) - 1) - (k:Int))=((M - 1 - k:Nat):Int):=by
   have o:γ .i64 ((M:Int) - 1)=((M - 1:Nat):Int):=by
    rw [eP (by omega) (by omega)];omega
   rw [o,eP (by omega) (by omega)];omega
  have m:(0+δ ((M - 1 - k:Nat):Int))*1=M - 1 - k:=by omega
  have q:γ .i64 ((k:Int)+1)=((k+1:Nat):Int):=by
   rw [eP (by omega) (by omega)];omega
  have r:min (δ ((8*(k % 4):Nat):Int)) (Xqe .u32)=8*(k % 4):=by
   show min (δ ((8*(k % 4):Nat):Int)) 32=_;omega
  have p:δ ((k / 4:Nat):Int)=k / 4:=by omega
  have hcell:=DK (l:=digs x) i;rw [tJ] at hcell;have hbody:=Hf e (ah (digs x)) (kN (kT M k x)) (digs x).length M b (M:Int) (k:Int);rw [n,h,j,g,m,q,r,p,hcell] at hbody;simp only [Γ] at hbody;have c:Xqv ((x / 2^(32*(k / 4)) % 2^32:Nat):Int) (2^(8*(k % 4)))=((x / 2^(32*(k / 4)) % 2^32 / 2^(8*(k % 4)):Nat):Int):=by
   have:((2:Int)^(8*(k % 4)))=((2^(8*(k % 4)):Nat):Int):=by simp
   rw [this,Xz8 _ (Xkx _)];exact (Yqd _ _).symm
  rw [c,TQ,Qi,X9 _ _ _ (by rw [fV];omega),← NU a] at hbody;exact hbody (by rw [au,fV];exact Xqg (by omega)) (Yq0 (by omega)) (Yq0 (by omega)) (Yq0 (by omega)) rfl (Yq0 (by omega)) (Yq0 (by omega)) (Yq0 (by omega))
theorem adX (s:List UInt8) (c:UInt8):CO 141 [.str s,.int .u8 (c.toNat:Int)] (.ret (.str (s.dropWhile (· ==c)))):=pK [0] 0 0 .nil (.l (az.blk (fun nt a=>FO a c s) (by simp) rfl (aJ.of ⟨rfl,rfl,trivial⟩) (aJ.of ⟨rfl,trivial⟩):aG prog ap [] 17 (.block 0 (.loop (ac 0 (af f141)))) ⟨[(0,.str s),(1,.int .u8 (c.toNat:Int)),(4,.str []),(13,.dead)],[],.dead,[]⟩ (.normal) ⟨[(0,.str (s.dropWhile (· ==c)))],[],.dead,[]⟩) .nil)
theorem Gd (s:List UInt8) (h0:lit true (s== [])=true):CO 162 [.str s,.str [0]] (.ret (.str s)):=pK [] 2 3 (.k 1 h0 .nil) (.nil)
theorem Gf (s:List UInt8) (h0:lit false (s== [])=true):CO 162 [.str s,.str [0]] (.ret (.str (s.dropWhile (· ==0)))):=pK [] 4 12 (.k 7 h0 .nil) (.c (adX s 0) .nil)
theorem D8 (s:List UInt8):CO 162 [.str s,.str [0]] (.ret (.str (s.dropWhile (· ==0)))):=by
 by_cases h:s= []
 ·subst h;exact Gd [] rfl
 ·exact Gf s (by simp [lit,h])
def h_ (m x:Nat):List UInt8:=(Xq1 m).map fun i=>Xqj (x / 2^(8*(m - 1 - i)) % 256)
def aa (x:Nat):List UInt8:=(h_ (4*(digs x).length) x).dropWhile (· ==0)
theorem Dl (x:Nat) (h:(digs x).length<2^40):γ .i64 ((4:Int)*(((digs x).length:Nat):Int))=((4*(digs x).length:Nat):Int):=by
 rw [eP (by omega) (by omega)];omega
theorem XC (m x:Nat):dX m [Xxm .u8 0]=kN (kT m 0 x):=by
 have e:kT m 0 x=(Xq1 m).map fun _=>0:=by
  unfold kT;apply Xje;intro i a;rw [if_neg (by have:=List.mem_range.1 a;omega)]
 rw [e];unfold dX kN
 induction m with
 |zero=>rfl
 | succ m ih=>
  rw [Xzn,Xwg,Xzz,Xxt,Xxt];have b:kT m 0 x=(Xq1 m).map fun _=>0:=by
   unfold kT;apply Xje;intro i a;rw [if_neg (by have:=List.mem_range.1 a;omega)]
  rw [ih b];simp
theorem KI (m x:Nat):Xwe (fun c=>Xqj (δ (Γ c))) (kN (kT m m x))=h_ m x:=by
 unfold kN kT h_;rw [Xwl,Xwl];apply Xje;intro i _;simp only [Xvz,Xwk,Xxf,if_true,Γ];congr 1
theorem Vf (l:List Nat):Xzv (kN l) (chk (.int .u8))=true:=by
 unfold kN;rw [List.all_map];exact List.all_eq_true.2 fun x _=>rfl
theorem Ae (m k x:Nat):ο (m*1) (kN (kT m k x))=kN (kT m k x):=by
 rw [Φ,Xqi (by rw [au,fV];exact φ _)]
theorem NW (l:List Nat) (x:Nat) (a:Bool) (e:dh l=digs x) (h:l.length<2^40) (hd:(digs x).length<2^40) (h0:(Xqn (η (ο ((4*(digs x).length)*1) (kN (kT (4*(digs x).length) (4*(digs x).length) x)))) (4*(digs x).length))=true) (b:(Xzv (ο ((4*(digs x).length)*1) (kN (kT (4*(digs x).length) (4*(digs x).length) x))) (chk (.int .u8)))=true) (i:(decide ((0:Int)≤(γ .i64 ((4:Int)*(((digs x).length:Nat):Int)))))=true) (d:(decide ((γ .i64 ((4:Int)*(((digs x).length:Nat):Int)))=(γ .i64 ((4:Int)*(((digs x).length:Nat):Int)))))=true) (g:(decide ((γ .i64 ((4:Int)*(((digs x).length:Nat):Int)))≤(1099511627776:Int)))=true):CO 134 [.sl (ah l) l.length a] (.ret (.str (aa x))):=pK [0] 0 0 (.c h0 (.c b (.c i (.c d (.c g .nil))))) (.c (by rw [Ae,KI];exact D8 _:CO 162 [.str (Xwe (fun c=>Xqj (δ (Γ c))) (ο ((4*(digs x).length)*1) (kN (kT (4*(digs x).length) (4*(digs x).length) x)))),.str [0]] (.ret (.str (aa x)))) (.l (by rw [Dl x hd,sN,XC _ x];exact az.blk (fun nt f=>NT f x a hd (4*(digs x).length) 0 (by omega)) (by simp) rfl (aJ.of ⟨rfl,rfl,rfl,rfl,trivial⟩) (aJ.of ⟨rfl,trivial⟩):aG prog ap [] 37 (.block 0 (.loop (ac 0 (af f134)))) ⟨[(0,.sl (ah (digs x)) (digs x).length a),(2,.str []),(3,.ref 0 0 0 (δ (γ .i64 ((4:Int)*(((digs x).length:Nat):Int))))),(4,.dead),(12,ω (((δ (γ .i64 ((4:Int)*(((digs x).length:Nat):Int)))):Nat):Int)),(13,ω 0),(14,.dead)],[(0,⟨(dX (δ (γ .i64 ((4:Int)*(((digs x).length:Nat):Int)))) [.int .u8 0]),0,false,0,1,true⟩)],.dead,[]⟩ (.normal) ⟨[(3,.ref 0 0 0 (4*(digs x).length))],[(0,⟨(kN (kT (4*(digs x).length) (4*(digs x).length) x)),0,false,0,1,true⟩)],.dead,[]⟩) (.c (by rw [← e];exact HQ l a h:CO 161 [.sl (ah l) l.length a] (.ret (.sl (ah (digs x)) (digs x).length a))) .nil)))
theorem mS (l:List Nat) (x:Nat) (a:Bool) (b:dh l=digs x) (c:l.length<2^40) (hd:(digs x).length<2^36):CO 134 [.sl (ah l) l.length a] (.ret (.str (aa x))):=
 NW l x a b c (by omega)
  (by rw [Ae,au,fV];exact Xz0 _) (by rw [Ae];exact Vf _)
  (by rw [Dl x (by omega)];exact Yq0 (by omega)) (Yq0 rfl) (by rw [Dl x (by omega)];exact Yq0 (by omega))
theorem nk (m x:Nat):h_ (m+1) x=Xqj (x / 2^(8*m) % 256)::h_ m x:=by
 unfold h_;rw [Xwy,Xqc,Xwl];congr 1;apply Xje;intro i a;simp only [Xvz];have:=List.mem_range.1 a;rw [show m+1 - 1 - (i+1)=m - 1 - i by omega]
theorem Bs:∀ (m:Nat) (b x:Nat),h_ m (b*2^(8*m)+x)=h_ m x:=by
 intro m b x;unfold h_;apply Xje;intro i a;have a:=List.mem_range.1 a;have e:8*m=(8*m - 8*(m - 1 - i) - 8)+8+8*(m - 1 - i):=by omega
 congr 1
 conv=>lhs;rw [e]
 rw [Xxo,Xxo,← Xqo,← Xqo,Xxr,Xzy _ _ (Xqt _)];exact Xvn _ _ 256
theorem Bt:∀ (s:List UInt8),h_ s.length (ae s)=s
 | []=>rfl
 |b::r=>by
  rw [μ,nk,fF,show (256:Nat)^r.length=2^(8*r.length) by rw [Xja],Bs,Bt r];have h:=qO r;rw [show (256:Nat)^r.length=2^(8*r.length) by rw [Xja]] at h;have a:=b.toNat_lt;rw [Xxr,Xzy _ _ (Xqt _),Xx7 h,Θ,Δ (by omega)];congr 1;exact UInt8.ofNat_toNat
theorem rQ (x:Nat):∀ (d m:Nat),x<2^(8*m)→(h_ (m+d) x).dropWhile (· ==0)=(h_ m x).dropWhile (· ==0)
 |0,_,_=>rfl
 |d+1,m,h=>by
  rw [show m+(d+1)=(m+d)+1 by omega,nk];have a:x<2^(8*(m+d)):=σ h (Xqf (by omega) (by omega));rw [Xx7 a,Xxv,if_pos (by rfl)];exact rQ x d m h
theorem IX {m x:Nat} (h:x<2^(8*m)):(h_ m x).dropWhile (· ==0)=aa x:=by
 unfold aa;have a:x<2^(8*(4*(digs x).length)):=by
  have:=gV (n:=x) (φ _);rwa [show 8*(4*(digs x).length)=32*(digs x).length by omega]
 rcases Yxx m (4*(digs x).length) with hm|hm
 ·have:=rQ x (4*(digs x).length - m) m h;rw [show m+(4*(digs x).length - m)=4*(digs x).length by omega] at this;exact this.symm
 ·have:=rQ x (m - 4*(digs x).length) (4*(digs x).length) a;rw [show 4*(digs x).length+(m - 4*(digs x).length)=m by omega] at this;exact this
theorem ui (s:List UInt8):aa (ae s)=s.dropWhile (· ==0):=by
 have h:=qO s;rw [show (256:Nat)^s.length=2^(8*s.length) by rw [Xja]] at h;rw [← IX h,Bt]
theorem FX:∀ (s:List UInt8),ae (s.dropWhile (· ==0))=ae s
 | []=>rfl
 | b::r=>by
  rw [Xxv];by_cases hb:b=0
  ·subst hb;rw [if_pos (by rfl),FX r,fF];simp
  ·rw [if_neg (by simpa using hb)]
theorem Ck:∀ (m x:Nat),x<2^(8*m)→ae (h_ m x)=x
 |0,x,h=>by simp at h;subst h;rfl
 | m+1,x,h=>by
  rw [nk,fF];have b:(h_ m x).length=m:=by simp [h_]
  have a:x / 2^(8*m)<256:=by
   rw [Xqr (Xqt _)];have e:(2:Nat)^(8*(m+1))=256*2^(8*m):=by rw [show 8*(m+1)=8+8*m by omega,Xxo]
   rw [← e];exact h
  have d:ae (h_ m x)=x % 2^(8*m):=by
   have e:x=x / 2^(8*m)*2^(8*m)+x % 2^(8*m):=by
    have:=Xq7 x (2^(8*m));rw [Xqb] at this;omega
   conv=>lhs;rw [e]
   rw [Bs];exact Ck m _ (Xqh _ (Xqt _))
  rw [b,d,Δ a];have c:(Xqj (x / 2^(8*m))).toNat=x / 2^(8*m):=by
   rw [UInt8.toNat_ofNat'];exact Δ a
  rw [c,show (256:Nat)^m=2^(8*m) by rw [Xja]];have:=Xq7 x (2^(8*m));rw [Xqb] at this;exact this
theorem aC (x:Nat):ae (aa x)=x:=by
 unfold aa;rw [FX];refine Ck _ _ ?_;have:=gV (n:=x) (φ _);rwa [show 8*(4*(digs x).length)=32*(digs x).length by omega]
end Go.Proofs.Tryz
set_option maxRecDepth 100000
open Go
namespace AM
theorem bU {x:Int} (h: -9223372036854775808≤x) (a:x<9223372036854775808):γ .i64 x=x:=by
 show (if (true && decide (x % 2^64≥2^63))=true then x % 2^64 - 2^64 else x % 2^64)=x;by_cases hx:x % 2^64≥2^63
 ·rw [if_pos (by simpa using hx)];omega
 ·rw [if_neg (by simpa using hx)];omega
theorem aS {a:Nat} (h:a<9223372036854775808):γ .i64 (a:Int)=(a:Int):=bU (by omega) (by omega)
theorem gP {a b:Nat} (h:b≤a) (c:a<9223372036854775808):γ .i64 ((a:Int) - (b:Int))=((a - b:Nat):Int):=by
 rw [bU (by omega) (by omega)];omega
theorem JF {a b:Nat} (h:a*b<9223372036854775808):γ .i64 ((a:Int)*(b:Int))=((a*b:Nat):Int):=by
 rw [← Xkd,aS h]
theorem Pt (k:IntKind) (a:k.signed=false) (x:Int):γ k x=x % 2^k.bits:=by
 show (if (k.signed && _)=true then _ else _)=_;rw [a];rfl
theorem HT {w:Nat} {k:IntKind} (b:k.signed=false) (c:k.bits=w) (a:Nat):γ k (a:Int)=((a % 2^w:Nat):Int):=by
 rw [Pt k b,c];simp
theorem Yx (a:Nat):γ .u8 (a:Int)=((a % 256:Nat):Int):=HT (w:=8) rfl rfl a
theorem mW (a:Nat):γ .u32 (a:Int)=((a % 4294967296:Nat):Int):=HT (w:=32) rfl rfl a
theorem kL (a:Nat):γ .u64 (a:Int)=((a % 18446744073709551616:Nat):Int):=HT (w:=64) rfl rfl a
theorem iN (a b:Nat):γ .u64 ((a:Int) - (b:Int))=(((a+(18446744073709551616 - b % 18446744073709551616)) % 18446744073709551616:Nat):Int):=by
 rw [Pt .u64 rfl,show Xqe .u64=64 from rfl];omega
theorem bQ (a b:Nat):((a:Int)+(b:Int))=((a+b:Nat):Int):=(Int.natCast_add a b).symm
theorem tC (a b:Nat):((a:Int)*(b:Int))=((a*b:Nat):Int):=(Xkd a b).symm
theorem lL (a b:Nat):Xqs (a:Int) (b:Int)=((a / b:Nat):Int):=(Int.ofNat_tdiv a b).symm
theorem rR (a b:Nat):Xq4 (a:Int) (b:Int)=((a % b:Nat):Int):=(Int.ofNat_tmod a b).symm
theorem xO (a n:Nat):((a:Int)*2^n)=((2^n*a:Nat):Int):=by rw [Xqb];simp
theorem mP {a b:Nat} (h:a≤b):min a b=a:=Xjs h
theorem IU {a:Nat} (h:a≤64):min a (Xqe .u64)=a:=Xjs h
theorem IR {a:Nat} (h:a≤32):min a (Xqe .u32)=a:=Xjs h
theorem jI:(2:Nat)^32=4294967296:=by decide
theorem ab0:(2:Nat)^63=9223372036854775808:=by decide
theorem iQ (a n:Nat):Xqv (a:Int) (2^n)=((a / 2^n:Nat):Int):=by
 have:((2:Int)^n)=((2^n:Nat):Int):=by simp
 rw [this,Xz8 _ (Xkx _)];exact (Yqd _ _).symm
theorem av (a:Nat):δ (a:Int)=a:=rfl
theorem qD {w x:Nat} (h:x<2^w):(Xql w (x:Int)).toNat=x:=by
 rw [Xko,Xkw,Δ h]
theorem H5 {w a b:Nat} (c:a<2^w) (d:b<2^w):Xxk (Xql w (a:Int)|||Xql w (b:Int))=a|||b:=by
 rw [Yqp,qD c,qD d]
theorem Ec {w a b:Nat} (c:a<2^w) (d:b<2^w):Xxk (Xql w (a:Int) &&& Xql w (b:Int))=a &&& b:=by
 rw [BitVec.toNat_and,qD c,qD d]
theorem Oc {a b:Nat} (d:a<18446744073709551616) (c:b<18446744073709551616):Xxk (Xql (Xqe .u64) (a:Int)|||Xql (Xqe .u64) (b:Int))=a|||b:=H5 (w:=64) d c
theorem abZ {a b:Nat} (d:a<4294967296) (c:b<4294967296):Xxk (Xql (Xqe .u32) (a:Int)|||Xql (Xqe .u32) (b:Int))=a|||b:=H5 (w:=32) d c
theorem Ze {a b:Nat} (d:a<18446744073709551616) (c:b<18446744073709551616):Xxk (Xql (Xqe .u64) (a:Int) &&& Xql (Xqe .u64) (b:Int))=a &&& b:=Ec (w:=64) d c
theorem aeN {a b:Nat} (d:a<18446744073709551616) (c:b<18446744073709551616):Xxk (Xql (Xqe .i64) (a:Int) &&& Xql (Xqe .i64) (b:Int))=a &&& b:=Ec (w:=64) d c
theorem vk {a b k:Nat} (h:b<2^k):a*2^k|||b=a*2^k+b:=by
 have:=Xva h a;rw [Yqc] at this;exact this.symm
theorem LY (a k:Nat):a &&& (2^k - 1)=a % 2^k:=Nat.and_two_pow_sub_one_eq_mod a k
theorem xK (a:Nat):a &&& 4294967295=a % 4294967296:=LY a 32
theorem cV (a b:Nat):decide ((a:Int)≤(b:Int))=decide (a≤b):=by
 by_cases h:a≤b<;>simp [h]
theorem bq (a b:Nat):decide ((a:Int)<(b:Int))=decide (a<b):=by
 by_cases h:a<b<;>simp [h]
theorem d_eq (a b:Nat):decide ((a:Int)=(b:Int))=decide (a=b):=by
 by_cases h:a=b
 ·simp [h]
 ·rw [Yq1 h,Yq1 (by omega)]
theorem kO (a b:Nat):((a:Int)==(b:Int))=decide (a=b):=d_eq a b
theorem dW (a b:Nat):Xqk a b=decide (a≤b):=by
 by_cases h:a≤b
 ·rw [Yq0 h];exact Xqg h
 ·rw [Yq1 h];cases c:Xqk a b with
  |false=>rfl
  |true=>exact absurd (Nat.le_of_ble_eq_true c) h
theorem Dj (a b:Nat):Xqn a b=decide (a=b):=by
 by_cases h:a=b
 ·rw [Yq0 h,h];exact Xz0 _
 ·rw [Yq1 h];cases c:Xqn a b with
  |false=>rfl
  |true=>exact absurd (Nat.eq_of_beq_eq_true c) h
theorem bB (b:Bool):lit true b=b:=rfl
theorem dw (b:Bool):lit false b= !b:=rfl
theorem eC (b:Bool):((!b)=true)=(b=false):=by cases b<;>simp
theorem NR (b:Bool):((!b)=false)=(b=true):=by cases b<;>simp
theorem bf (p:Prop) [Decidable p]:(decide p=true)=p:=by simp
theorem eU (p:Prop) [Decidable p]:(decide p=false)=¬ p:=by simp
end AM
set_option maxRecDepth 100000
open Go AM
namespace Go.Proofs.Tryz
def aB:List Nat→Nat
 | []=>0
 |d::r=>d+4294967296*aB r
def bA (l:List Nat):Prop:=∀ d ∈ l,d<4294967296
theorem bA.nil:bA []:=fun _ h=>(by cases h)
theorem bA.cons {d:Nat} {l:List Nat} (h:d<4294967296) (b:bA l):bA (d::l):=by
 intro x a;rcases List.mem_cons.1 a with rfl|h1
 ·exact h
 ·exact b x h1
theorem bA.head {d:Nat} {l:List Nat} (h:bA (d::l)):d<4294967296:=h d (Xjn ..)
theorem bA.tail {d:Nat} {l:List Nat} (h:bA (d::l)):bA l:=fun x a=>h x (Xx0 _ a)
theorem bA.app {a b:List Nat} (h:bA a) (d:bA b):bA (a++b):=fun x c=>(List.mem_append.1 c).elim (h x) (d x)
theorem bA.take {a:List Nat} (h:bA a) (n:Nat):bA (a.take n):=fun x b=>h x (Xjm b)
theorem bA.drop {a:List Nat} (h:bA a) (n:Nat):bA (a.drop n):=fun x b=>h x (List.mem_of_mem_drop b)
theorem bA.getD {a:List Nat} (h:bA a) (n:Nat):a.getD n 0<4294967296:=by
 rw [ν];cases b:a[n]? with
 |none=>simp
 |some x=>simpa using h x (List.mem_of_getElem? b)
theorem bA.zeros (n:Nat):bA (θ n 0):=fun x a=>by rw [(List.mem_replicate.1 a).2];omega
theorem jr (a b:List Nat):aB (a++b)=aB a+4294967296^a.length*aB b:=by
 induction a with
 |nil=>simp [aB]
 |cons d a ih=>
  simp only [Xqx,aB,ih,μ,Xq2,Xq9,← Xqo];rw [Xqb (4294967296^a.length) 4294967296];omega
theorem lG {l:List Nat} (h:bA l):aB l<4294967296^l.length:=by
 induction l with
 |nil=>simp [aB]
 |cons d l ih=>
  have a:=ih h.tail;have b:=h.head;simp only [aB,μ,Xq2];omega
theorem jo (k:Nat):(2:Nat)^(32*k)=4294967296^k:=by rw [Xja]
theorem eX (k:Nat):0<4294967296^k:=Yqs (by omega)
theorem zw {l:List Nat} (h:bA l):bD l.length (aB l)=l:=by
 unfold bD
 induction l with
 |nil=>rfl
 | cons d l ih=>
  rw [μ,Xwy,Xqc,Xwl];congr 1
  ·have:=h.head;simp only [aB,Xjg,Xvr,Xwz];omega
  ·refine Eq.trans ?_ (ih h.tail);apply Xje;intro i _;simp only [Xvz];have e:(2:Nat)^(32*(i+1))=4294967296*2^(32*i):=by rw [Xq9,Xxo,Xqb]
   rw [Xku,e,← Xxx];have:aB (d::l) / 4294967296=aB l:=by have:=h.head;simp only [aB];omega
   rw [this]
theorem gH {l:List Nat} (h:bA l):dh l=digs (aB l):=by
 have a:=wW (m:=l.length) (n:=aB l) (by rw [jo];exact lG h);rw [zw h] at a;exact a
theorem qN (m n:Nat):aB (bD m n)=n % 2^(32*m):=by
 induction m with
 |zero=>simp [bD,aB,Yqr]
 |succ m ih=>
  rw [pM,jr,ih,aM,vg];simp only [aB,jo,Xjg,Xq3];rw [Xqb,Xxr]
theorem bA.pad (m n:Nat):bA (bD m n):=by
 intro x a;obtain ⟨i,_,rfl⟩:=List.mem_map.1 a;exact Xqh _ (by omega)
theorem Lf:∀ (l:List Nat),aB (dh l)=aB l:=by
 intro l
 induction h:l.length generalizing l with
 |zero=>rw [List.length_eq_zero_iff.1 h];rfl
 | succ n ih=>
  rcases Xzw l with rfl|⟨r,d,rfl⟩
  ·rfl
  ·rw [Xzx,kJ];split
   ·next hd=>subst hd;rw [ih r (by simpa using h),jr];simp [aB]
   ·rfl
theorem Le {x:Nat}:∀ (l:List Nat),x ∈ dh l→x ∈ l:=by
 intro l a;unfold dh at a;have:=List.dropWhile_suffix (fun x:Nat=>x==0) (l:=l.reverse)|>.subset (List.mem_reverse.1 a)
 exact List.mem_reverse.1 this
theorem dz (n:Nat):aB (digs n)=n:=by
 unfold digs;rw [Lf,qN,Δ (ja n)]
theorem bA.digs (n:Nat):bA (digs n):=fun x a=>bA.pad n n x (Le _ a)
theorem Lr {l:List Nat} {k:Nat} (h:k<l.length):aB (l.drop k)=l.getD k 0+4294967296*aB (l.drop (k+1)):=by
 rw [Xxh h,ν,ξ h];rfl
theorem Ai (l:List Nat) (k:Nat) (h:k≤l.length):aB l=aB (l.take k)+4294967296^k*aB (l.drop k):=by
 have:=jr (l.take k) (l.drop k);rwa [List.take_append_drop,Xq5,Xjs h] at this
theorem uC {l:List Nat} {k:Nat} (h:k<l.length):ζ (ε k (ah l)) .dead= .int .u32 ((l.getD k 0:Nat):Int):=by
 have:=DK h;rwa [Φ] at this
theorem gO {p s:List Nat} {x k:Nat} (h:k=p.length):ζ (ε k (ah (p++x::s))) .dead= .int .u32 (x:Int):=by
 subst h;rw [uC (by simp)];simp
theorem jh {p s:List Nat} {x y k:Nat} (h:k=p.length):ο k (ah (p++x::s))++ [Xxm .u32 (y:Int)]++ε (k+1) (ah (p++x::s))=ah (p++y::s):=by
 subst h;rw [Jn _ _ _ (by simp)];simp
theorem gL (x:Int):chk (.int .u32) (.int .u32 x)=true:=rfl
theorem aU (k:IntKind) (x:Int):Γ (.int k x)=x:=rfl
theorem lC (m:Nat):dX m [Xxm .u32 0]=ah (θ m 0):=by
 rw [Je];congr 1;unfold bD;apply List.ext_getElem
 ·simp
 ·intro i a b;simp
theorem kI (l:List Nat) (k:Nat):ο k (ah l)=ah (l.take k):=by unfold ah;rw [Xwo]
theorem Mr (l:List Nat) (k:Nat):ε k (ah l)=ah (l.drop k):=by unfold ah;rw [Xjz]
theorem K3 {nt:Nat} (h:44≤nt) (a:List Nat) (f:Bool) (b r M:Nat) (k:Int) (c:List AV) (h0:(Xqk (((0+(δ k))*1)+1) (η c))=true) (d:(decide (((0:Nat):Int)≤k))=true) (l:(decide (k<(M:Int)))=true) (e:(!((γ .u64 (b:Int))==((0:Nat):Int)))=true) (i:(chk (.int .u32) (ζ (ε ((δ k)*1) (ah a)) .dead))=true) (j:(decide (k<(a.length:Int)))=true) (g:lit true (decide (((0:Nat):Int)≤k))=true):ψ nt f193 ⟨[(0,.sl (ah a) a.length f),(1,.int .u32 (b:Int)),(6,.ref 0 0 0 M),(7,.int .u64 (r:Int)),(8,ω k)],[(0,⟨c,0,false,0,1,true⟩)],.dead,[]⟩ (.normal) ⟨[(0,.sl (ah a) a.length f),(1,.int .u32 (b:Int)),(6,.ref 0 0 0 M),(7,.int .u64 (Xq4 (γ .u64 (Xxk (Xql (Xqe .u64) (γ .u64 ((r:Int)*2^(min 32 64)))|||Xql (Xqe .u64) (γ .u64 (Γ (ζ (ε ((δ k)*1) (ah a)) .dead)))))) (γ .u64 (b:Int)))),(8,ω (γ .i64 (k - ((1:Nat):Int))))],[(0,⟨(ο ((0+(δ k))*1) c++ [.int .u32 (γ .u32 (γ .u64 (Xqs (γ .u64 (Xxk (Xql (Xqe .u64) (γ .u64 ((r:Int)*2^(min 32 64)))|||Xql (Xqe .u64) (γ .u64 (Γ (ζ (ε ((δ k)*1) (ah a)) .dead)))))) (γ .u64 (b:Int)))))]++ε (((0+(δ k))*1)+1) c),0,false,0,1,true⟩)],.dead,[]⟩:=pJ 193 [] 1 1 (.c h0 (.c d (.c l (.c e (.c e (.c i (.c d (.c j (.k 1 g .nil))))))))) (.nil) h
theorem K4 {nt:Nat} (e:44≤nt) (a:List Nat) (c:Bool) (b r M:Nat) (k:Int) (d:List AV) (h0:lit false (decide (((0:Nat):Int)≤k))=true):ψ nt f193 ⟨[(0,.sl (ah a) a.length c),(1,.int .u32 (b:Int)),(6,.ref 0 0 0 M),(7,.int .u64 (r:Int)),(8,ω k)],[(0,⟨d,0,false,0,1,true⟩)],.dead,[]⟩ (.exit 0) ⟨[(0,.sl (ah a) a.length c),(1,.int .u32 (b:Int)),(6,.ref 0 0 0 M),(7,.int .u64 (r:Int)),(8,ω k)],[(0,⟨d,0,false,0,1,true⟩)],.dead,[]⟩:=pJ 193 [] 1 0 (.c h0 .nil) (.nil) e
theorem Lj {nt:Nat} (i:41≤nt) (a:List Nat) (f:Bool) (n M k:Nat) (b:List AV) (h0:(Xqk (((0+(δ (γ .i64 ((k:Int)+((1:Nat):Int)))))*1)+1) (η (ο ((0+(δ (k:Int)))*1) b++ [.int .u32 (γ .u32 (Xxk (Xql (Xqe .u32) (Γ (ζ (ε ((0+(δ (k:Int)))*1) b) .dead))|||Xql (Xqe .u32) (γ .u32 (γ .u64 ((γ .u64 (Γ (ζ (ε ((δ (k:Int))*1) (ah a)) .dead)))*2^(min (δ (n:Int)) (Xqe .u64))))))))]++ε (((0+(δ (k:Int)))*1)+1) b)))=true) (l:(decide (((0:Nat):Int)≤(γ .i64 ((k:Int)+((1:Nat):Int)))))=true) (g:(decide ((γ .i64 ((k:Int)+((1:Nat):Int)))<(M:Int)))=true) (p:(Xqk (((0+(δ (k:Int)))*1)+1) (η b))=true) (d:(decide (((0:Nat):Int)≤(k:Int)))=true) (e:(decide ((k:Int)<(M:Int)))=true) (h:(chk (.int .u32) (ζ (ε ((0+(δ (k:Int)))*1) b) .dead))=true) (j:(decide (((0:Nat):Int)≤(n:Int)))=true) (o:(chk (.int .u32) (ζ (ε ((δ (k:Int))*1) (ah a)) .dead))=true) (m:(decide ((k:Int)<(a.length:Int)))=true) (c:lit true (decide ((k:Int)<(a.length:Int)))=true):ψ nt f195 ⟨[(5,.ref 0 0 0 M),(1,ω (n:Int)),(13,.sl (ah a) a.length f),(14,ω (a.length:Int)),(15,ω (k:Int))],[(0,⟨b,0,false,0,1,true⟩)],.dead,[]⟩ (.normal) ⟨[(5,.ref 0 0 0 M),(1,ω (n:Int)),(13,.sl (ah a) a.length f),(14,ω (a.length:Int)),(15,ω (γ .i64 ((k:Int)+((1:Nat):Int))))],[(0,⟨(ο ((0+(δ (γ .i64 ((k:Int)+((1:Nat):Int)))))*1) (ο ((0+(δ (k:Int)))*1) b++ [.int .u32 (γ .u32 (Xxk (Xql (Xqe .u32) (Γ (ζ (ε ((0+(δ (k:Int)))*1) b) .dead))|||Xql (Xqe .u32) (γ .u32 (γ .u64 ((γ .u64 (Γ (ζ (ε ((δ (k:Int))*1) (ah a)) .dead)))*2^(min (δ (n:Int)) (Xqe .u64))))))))]++ε (((0+(δ (k:Int)))*1)+1) b)++ [.int .u32 (γ .u32 (Xqv (γ .u64 ((γ .u64 (Γ (ζ (ε ((δ (k:Int))*1) (ah a)) .dead)))*2^(min (δ (n:Int)) (Xqe .u64)))) (2^(min 32 64))))]++ε (((0+(δ (γ .i64 ((k:Int)+((1:Nat):Int)))))*1)+1) (ο ((0+(δ (k:Int)))*1) b++ [.int .u32 (γ .u32 (Xxk (Xql (Xqe .u32) (Γ (ζ (ε ((0+(δ (k:Int)))*1) b) .dead))|||Xql (Xqe .u32) (γ .u32 (γ .u64 ((γ .u64 (Γ (ζ (ε ((δ (k:Int))*1) (ah a)) .dead)))*2^(min (δ (n:Int)) (Xqe .u64))))))))]++ε (((0+(δ (k:Int)))*1)+1) b)),0,false,0,1,true⟩)],.dead,[]⟩:=pJ 195 [] 1 1 (.c h0 (.c l (.c g (.k 1 p (.c d (.c e (.c h (.c d (.c e (.c j (.c o (.c d (.c m (.c c .nil)))))))))))))) (.nil) i
theorem Ll {nt:Nat} (d:41≤nt) (a:List Nat) (c:Bool) (n M k:Nat) (b:List AV) (h0:lit false (decide ((k:Int)<(a.length:Int)))=true):ψ nt f195 ⟨[(5,.ref 0 0 0 M),(1,ω (n:Int)),(13,.sl (ah a) a.length c),(14,ω (a.length:Int)),(15,ω (k:Int))],[(0,⟨b,0,false,0,1,true⟩)],.dead,[]⟩ (.exit 0) ⟨[(5,.ref 0 0 0 M)],[(0,⟨b,0,false,0,1,true⟩)],.dead,[]⟩:=pJ 195 [] 1 0 (.c h0 .nil) (.nil) d
theorem J6 {nt:Nat} (m:48≤nt) (a:List Nat) (d:Bool) (n M k:Nat) (b:List AV) (h0:(Xqk (((0+(δ (k:Int)))*1)+1) (η (ο ((0+(δ (k:Int)))*1) b++ [.int .u32 (Xqv (Γ (ζ (ε ((δ (k:Int))*1) (ah a)) .dead)) (2^(min (δ (n:Int)) (Xqe .u32))))]++ε (((0+(δ (k:Int)))*1)+1) b)))=true) (c:(decide (((0:Nat):Int)≤(k:Int)))=true) (e:(decide ((k:Int)<(M:Int)))=true) (r:(decide (((0:Nat):Int)≤(γ .i64 (((32:Nat):Int) - (n:Int)))))=true) (s:(chk (.int .u32) (ζ (ε ((δ (γ .i64 ((k:Int)+((1:Nat):Int))))*1) (ah a)) .dead))=true) (j:(decide (((0:Nat):Int)≤(γ .i64 ((k:Int)+((1:Nat):Int)))))=true) (l:(decide ((γ .i64 ((k:Int)+((1:Nat):Int)))<(a.length:Int)))=true) (o:(chk (.int .u32) (ζ (ε ((0+(δ (k:Int)))*1) (ο ((0+(δ (k:Int)))*1) b++ [.int .u32 (Xqv (Γ (ζ (ε ((δ (k:Int))*1) (ah a)) .dead)) (2^(min (δ (n:Int)) (Xqe .u32))))]++ε (((0+(δ (k:Int)))*1)+1) b)) .dead))=true) (q:lit true (decide ((γ .i64 ((k:Int)+((1:Nat):Int)))<(a.length:Int)))=true) (p:(Xqk (((0+(δ (k:Int)))*1)+1) (η b))=true) (g:(decide (((0:Nat):Int)≤(n:Int)))=true) (i:(chk (.int .u32) (ζ (ε ((δ (k:Int))*1) (ah a)) .dead))=true) (f:(decide ((k:Int)<(a.length:Int)))=true) (h:lit true (decide ((k:Int)<(a.length:Int)))=true):ψ nt f199 ⟨[(0,.sl (ah a) a.length d),(1,ω (n:Int)),(5,.ref 0 0 0 M),(11,.sl (ah a) a.length d),(12,ω (a.length:Int)),(13,ω (k:Int))],[(0,⟨b,0,false,0,1,true⟩)],.dead,[]⟩ (.normal) ⟨[(0,.sl (ah a) a.length d),(1,ω (n:Int)),(5,.ref 0 0 0 M),(11,.sl (ah a) a.length d),(12,ω (a.length:Int)),(13,ω (γ .i64 ((k:Int)+((1:Nat):Int))))],[(0,⟨(ο ((0+(δ (k:Int)))*1) (ο ((0+(δ (k:Int)))*1) b++ [.int .u32 (Xqv (Γ (ζ (ε ((δ (k:Int))*1) (ah a)) .dead)) (2^(min (δ (n:Int)) (Xqe .u32))))]++ε (((0+(δ (k:Int)))*1)+1) b)++ [.int .u32 (γ .u32 (Xxk (Xql (Xqe .u32) (Γ (ζ (ε ((0+(δ (k:Int)))*1) (ο ((0+(δ (k:Int)))*1) b++ [.int .u32 (Xqv (Γ (ζ (ε ((δ (k:Int))*1) (ah a)) .dead)) (2^(min (δ (n:Int)) (Xqe .u32))))]++ε (((0+(δ (k:Int)))*1)+1) b)) .dead))|||Xql (Xqe .u32) (γ .u32 (γ .u64 ((γ .u64 (Γ (ζ (ε ((δ (γ .i64 ((k:Int)+((1:Nat):Int))))*1) (ah a)) .dead)))*2^(min (δ (γ .i64 (((32:Nat):Int) - (n:Int)))) (Xqe .u64))))))))]++ε (((0+(δ (k:Int)))*1)+1) (ο ((0+(δ (k:Int)))*1) b++ [.int .u32 (Xqv (Γ (ζ (ε ((δ (k:Int))*1) (ah a)) .dead)) (2^(min (δ (n:Int)) (Xqe .u32))))]++ε (((0+(δ (k:Int)))*1)+1) b)),0,false,0,1,true⟩)],.dead,[]⟩:=pJ 199 [] 2 3 (.c h0 (.c c (.c e (.c r (.c s (.c j (.c l (.c o (.c c (.c e (.c q (.c p (.c c (.c e (.c g (.c i (.c c (.c f (.c h .nil))))))))))))))))))) (.nil) m
theorem J7 {nt:Nat} (h:48≤nt) (a:List Nat) (b:Bool) (n M k:Nat) (c:List AV) (h0:lit false (decide ((γ .i64 ((k:Int)+((1:Nat):Int)))<(a.length:Int)))=true) (e:(Xqk (((0+(δ (k:Int)))*1)+1) (η c))=true) (d:(decide (((0:Nat):Int)≤(k:Int)))=true) (g:(decide ((k:Int)<(M:Int)))=true) (i:(decide (((0:Nat):Int)≤(n:Int)))=true) (j:(chk (.int .u32) (ζ (ε ((δ (k:Int))*1) (ah a)) .dead))=true) (f:(decide ((k:Int)<(a.length:Int)))=true) (l:lit true (decide ((k:Int)<(a.length:Int)))=true):ψ nt f199 ⟨[(0,.sl (ah a) a.length b),(1,ω (n:Int)),(5,.ref 0 0 0 M),(11,.sl (ah a) a.length b),(12,ω (a.length:Int)),(13,ω (k:Int))],[(0,⟨c,0,false,0,1,true⟩)],.dead,[]⟩ (.normal) ⟨[(0,.sl (ah a) a.length b),(1,ω (n:Int)),(5,.ref 0 0 0 M),(11,.sl (ah a) a.length b),(12,ω (a.length:Int)),(13,ω (γ .i64 ((k:Int)+((1:Nat):Int))))],[(0,⟨(ο ((0+(δ (k:Int)))*1) c++ [.int .u32 (Xqv (Γ (ζ (ε ((δ (k:Int))*1) (ah a)) .dead)) (2^(min (δ (n:Int)) (Xqe .u32))))]++ε (((0+(δ (k:Int)))*1)+1) c),0,false,0,1,true⟩)],.dead,[]⟩:=pJ 199 [] 2 1 (.c h0 (.c e (.c d (.c g (.c i (.c j (.c d (.c f (.c l .nil))))))))) (.nil) h
theorem J8 {nt:Nat} (d:48≤nt) (a:List Nat) (b:Bool) (n M k:Nat) (c:List AV) (h0:lit false (decide ((k:Int)<(a.length:Int)))=true):ψ nt f199 ⟨[(0,.sl (ah a) a.length b),(1,ω (n:Int)),(5,.ref 0 0 0 M),(11,.sl (ah a) a.length b),(12,ω (a.length:Int)),(13,ω (k:Int))],[(0,⟨c,0,false,0,1,true⟩)],.dead,[]⟩ (.exit 0) ⟨[(5,.ref 0 0 0 M)],[(0,⟨c,0,false,0,1,true⟩)],.dead,[]⟩:=pJ 199 [] 1 0 (.c h0 .nil) (.nil) d
def jv (b:Nat):List Nat→List Nat→Nat→List Nat × Nat
 | [],q,r=>(q,r)
 |x::l,q,r=>jv b l ((4294967296*r+x) / b::q) ((4294967296*r+x) % b)
theorem zY {b r x:Nat} (a:0<b) (c:r<b) (d:x<4294967296):(4294967296*r+x) / b<4294967296:=by
 rw [Xqr a];have e:4294967296*(r+1)≤4294967296*b:=Xq0 _ c;omega
theorem O1 {b r x v:Nat}:((4294967296*r+x) / b+4294967296*v)*b+(4294967296*r+x) % b=4294967296*(v*b+r)+x:=by
 have a:=Xq7 (4294967296*r+x) b;generalize (4294967296*r+x) / b=y at*
 generalize (4294967296*r+x) % b=z at*
 rw [Xxn,Xqo,Xqb y b];omega
theorem Hw {b:Nat} (d:0<b) (l:List Nat):∀ (q:List Nat) (r:Nat),r<b→bA l→bA q→
  (jv b l q r).2<b∧bA (jv b l q r).1∧(jv b l q r).1.length=q.length+l.length∧aB (jv b l q r).1*b+(jv b l q r).2=4294967296^l.length*(aB q*b+r)+aB l.reverse:=by
 induction l with
 |nil=>
  intro q r c _ a;refine ⟨c,a,rfl, ?_⟩;simp only [jv,χ,Xvr,Xwh,Xw9,aB,Xq3]
 |cons x l ih=>
  intro q r c e a;obtain ⟨g,i,h,f⟩:=ih ((4294967296*r+x) / b::q) ((4294967296*r+x) % b) (Xqh _ d) e.tail (a.cons (zY d c e.head));refine ⟨g,i, ?_, ?_⟩
  ·simp only [jv];rw [h,μ,μ];omega
  simp only [jv];rw [f,Xj8,jr,Xzb,μ,Xq2];simp only [aB,Xjg,Xq3];rw [O1,Xq9,Xqo];omega
def K2 (a:List Nat) (nn:Bool) (b:Nat) (k:Nat) (q:List Nat) (r:Nat):St:=⟨[(0,.sl (ah a) a.length nn),(1,.int .u32 (b:Int)),(6,.ref 0 0 0 a.length),(7,.int .u64 (r:Int)),(8,ω ((k:Int) - 1))],[(0,⟨ah (θ k 0++q),0,false,0,1,true⟩)],.dead,[]⟩
theorem Hy {nt:Nat} (n:44≤nt) (a:List Nat) (e:Bool) (b:Nat) (g:0<b) (s:b<4294967296) (w:a.length<2^40) (h:bA a):
  ∀ (l q d:List Nat) (r:Nat),r<b→l.reverse++d=a→q.length=d.length→az prog ap [] nt (ac 0 (af f193)) (fun _=> .exit 0) (fun (x:Nat × List Nat × Nat)=>K2 a e b x.1 x.2.1 x.2.2) (fun (x:List Nat × Nat)=>K2 a e b 0 x.1 x.2) (l.length,q,r) (jv b l q r):=by
 intro l
 induction l with
 |nil=>
  intro q d r m hd i;have hbody:=K4 n a e b r a.length (-1) (ah q) rfl;exact .done (by simpa [K2,jv] using hbody)
 | cons x l ih=>
  intro q d r m hd i;have o:x<4294967296:=h x (by rw [← hd];simp);have j:l.length+1+d.length=a.length:=by rw [← hd];simp;omega
  refine .next ?_ (ih ((4294967296*r+x) / b::q) (x::d) ((4294967296*r+x) % b) (Xqh _ g) (by rw [← hd];simp) (by simp [i]))
  have hbody:=K3 n a e b r a.length (l.length:Int) (ah (θ l.length 0++0::q));have c:ζ (ε l.length (ah a)) .dead= .int .u32 (x:Int):=by
   rw [← hd,Xj8,Ψ];exact gO (by simp)
  have u:(((x::l).length:Nat):Int) - 1=(l.length:Int):=by simp
  have p:θ (x::l).length 0++q=θ l.length 0++0::q:=by rw [μ,Xzn,Ψ];rfl
  have f:4294967296*r|||x=4294967296*r+x:=by
   have:=vk (a:=r) (b:=x) (k:=32) o;rwa [jI,Xqb] at this
  have t:=zY g m o;have v:=Xqh (4294967296*r+x) g;simp (disch:=first|omega|(simp [aq,au]<;>omega)) only [av,Θ,Φ,aq,κ,Xxi,μ,dW,bf,cV,bq,kL,Δ,kO,eC,eU,c,gL,bB,mP,xO,jI,aU,Oc,f,rR,lL,mW,jh] at hbody;rw [bU (by omega) (by omega)] at hbody;simp only [K2,u,p];exact hbody (by omega) (by omega) (by omega) (by omega) trivial (by omega) (by omega)
theorem yL {n:Nat} (h:n<2^40):γ .i64 ((n:Int) - ((1:Nat):Int))=(n:Int) - 1:=bU (by omega) (by omega)
theorem UZ (q:List Nat) (a:Bool) (x:Nat) (b:dh q=digs x) (h:q.length<2^40):CO 161 [.sl (ah q) q.length a] (.ret (.sl (ah (digs x)) (digs x).length a)):=by
 have:=HQ q a h;rwa [b] at this
theorem FL {l:List Nat} {n:Nat} (h:l.length=n):ο (n*1) (ah l)=ah l:=by
 rw [Φ,Xqi (by rw [aq,h];exact φ _)]
theorem ww (q:List Nat) (n x:Nat) (a:q.length=n) (b:dh q=digs x) (h:n<2^40):CO 161 [.sl (ο (n*1) (ah q)) n true] (.ret (.sl (ah (digs x)) (digs x).length true)):=by
 rw [FL a];subst a;exact UZ q true x b h
theorem A8 (n:Nat):θ n 0++([]:List Nat)=θ n 0:=Xqa _
theorem Th (a:List Nat) (c:Bool) (b:Nat) (q:List Nat) (r x:Nat) (e:a.length<2^40) (d:q.length=a.length) (h:dh q=digs x) (hloop:∀ nt,44≤nt→az prog ap [] nt (ac 0 (af f193)) (fun _=> .exit 0) (fun (x:Nat × List Nat × Nat)=>K2 a c b x.1 x.2.1 x.2.2) (fun (x:List Nat × Nat)=>K2 a c b 0 x.1 x.2) (a.length,[],0) (q,r)) (h0:(decide (((0:Nat):Int)≤(a.length:Int)))=true) (f:(decide ((a.length:Int)=(a.length:Int)))=true) (g:(decide ((a.length:Int)≤((1099511627776:Nat):Int)))=true):CO 193 [.sl (ah a) a.length c,.int .u32 (b:Int)] (.ret (.tup [.sl (ah (digs x)) (digs x).length true,.int .u32 (γ .u32 (r:Int))])):=pK [0] 0 0 (.c h0 (.c f (.c g .nil))) (.c (ww q _ x d h e) (.l (by rw [av,lC,← A8];exact az.blk hloop (by simp) rfl (aJ.of ⟨rfl,rfl,rfl,rfl,congrArg (Xxm .i64) (yL e),trivial⟩) (aJ.of ⟨rfl,rfl,trivial⟩):aG prog ap [] 44 (.block 0 (.loop (ac 0 (af f193)))) ⟨[(0,.sl (ah a) a.length c),(1,.int .u32 (b:Int)),(4,.nilS),(5,.int .u32 0),(6,.ref 0 0 0 (δ (a.length:Int))),(7,.int .u64 0),(8,ω (γ .i64 ((a.length:Int) - ((1:Nat):Int)))),(9,.dead),(17,.dead)],[(0,⟨(dX (δ (a.length:Int)) [.int .u32 0]),0,false,0,1,true⟩)],.dead,[]⟩ (.normal) ⟨[(6,.ref 0 0 0 a.length),(7,.int .u64 (r:Int))],[(0,⟨(ah q),0,false,0,1,true⟩)],.dead,[]⟩) .nil))
theorem O2 (a:List Nat) (j:Bool) (b:Nat) (c:0<b) (h:b<4294967296) (m:a.length<2^40) (d:bA a):CO 193 [.sl (ah a) a.length j,.int .u32 (b:Int)] (.ret (.tup [.sl (ah (digs (aB a / b))) (digs (aB a / b)).length true,.int .u32 ((aB a % b:Nat):Int)])):=by
 have g:bA a.reverse:=fun x t=>d x (List.mem_reverse.1 t)
 obtain ⟨f,l,i,e⟩:=Hw c a.reverse [] 0 c g bA.nil;rw [Xzb,χ,Θ] at i;simp only [aB,Xvq,Xjg,Θ,Xq3,List.reverse_reverse] at e;have k:=fun nt (hn:44≤nt)=>Hy hn a j b c h m d a.reverse [] [] 0 c (by simp) rfl
 rw [Xzb] at k;generalize hp:jv b a.reverse [] 0=p at*
 obtain ⟨q,r⟩:=p;simp only at f l i e;have s:aB q=aB a / b:=by rw [← e,Xqb,Nat.mul_add_div c,Xx7 f,Xq3]
 have o:r=aB a % b:=by rw [← e,Xqb,Nat.mul_add_mod,Δ f]
 have n:=Th a j b q r (aB a / b) m i (by rw [gH l,s]) k (Yq0 (by omega)) (Yq0 rfl) (Yq0 (by omega));rw [mW,Δ (by omega),o] at n;exact n
def FW (n c:Nat):List Nat→List Nat
 | []=> [c]
 |x::l=>(c+2^n*x % 4294967296)::FW n (2^n*x / 4294967296) l
theorem nZ (n:Nat) (l:List Nat):∀ c,(FW n c l).length=l.length+1:=by
 induction l with
 |nil=>intro c;rfl
 |cons x l ih=>intro c;simp only [FW,μ,ih]
theorem JD (n:Nat) (l:List Nat):∀ c,aB (FW n c l)=c+2^n*aB l:=by
 induction l with
 |nil=>intro c;simp only [FW,aB,Xjg]
 |cons x l ih=>
  intro c;simp only [FW,aB,ih,Xq9];have h:=Xq7 (2^n*x) 4294967296;rw [← Xqo 4294967296 (2^n),← Xqo (2^n) 4294967296,Xqb (2^n) 4294967296];omega
theorem vD {n x:Nat} (f:n≤31) (e:x<4294967296):2^n*x<18446744073709551616∧2^n*x / 4294967296<2^n∧2^n*x % 4294967296=2^n*(x % 2^(32 - n))∧2^n*x % 4294967296+2^n≤4294967296∧2^n≤2147483648:=by
 have hp:(2:Nat)^n*2^(32 - n)=4294967296:=by rw [← Xxo,show n+(32 - n)=32 by omega,jI]
 have c:2^n≤2147483648:=Xxa (Xqf (by omega) f) (by decide);have h:2^n*x≤2^n*4294967295:=Xq0 _ (by omega);have a:2^n*x % 4294967296=2^n*(x % 2^(32 - n)):=by rw [← hp,Xvf]
 have g:x % 2^(32 - n)+1≤2^(32 - n):=Xqh _ (Xqt _);have b:2^n*(x % 2^(32 - n)+1)≤2^n*2^(32 - n):=Xq0 _ g;rw [hp,Xq9,Φ,← a] at b;have d:2^n*x / 4294967296<2^n:=by
  rw [Xqr (by omega)];exact Xzf e (Xqt _)
 exact ⟨by omega,d,a,b,c⟩
theorem X_ {n x c:Nat} (d:n≤31) (b:x<4294967296) (a:c<2^n):c|||2^n*x % 4294967296=c+2^n*x % 4294967296:=by
 rw [(vD d b).2.2.1,Yqq,Xqb,vk a,Xxr]
theorem JC {n:Nat} (a:n≤31) (l:List Nat):∀ c,c<2^n→bA l→bA (FW n c l):=by
 induction l with
 |nil=>
  intro c d _;have f:2^n≤2147483648:=Xxa (Xqf (by omega) a) (by decide);exact bA.cons (by omega) bA.nil
 |cons x l ih=>
  intro c d b;obtain ⟨_,e,_,g,_⟩:=vD a b.head;exact bA.cons (by omega) (ih _ e b.tail)
theorem OW {p s:List Nat} {v x y k:Nat} (h:k=p.length+1):ο k (ah (p++v::x::s))++ [Xxm .u32 (y:Int)]++ε (k+1) (ah (p++v::x::s))=ah (p++v::y::s):=by
 have:=jh (p:=p++ [v]) (s:=s) (x:=x) (y:=y) (k:=k) (by simpa using h);simpa using this
def adZ (a:List Nat) (nn:Bool) (n:Nat) (k:Nat) (o:List Nat):St:=⟨[(5,.ref 0 0 0 (a.length+1)),(1,ω (n:Int)),(13,.sl (ah a) a.length nn),(14,ω (a.length:Int)),(15,ω (k:Int))],[(0,⟨ah o,0,false,0,1,true⟩)],.dead,[]⟩
def U4 (a o:List Nat):St:=⟨[(5,.ref 0 0 0 (a.length+1))],[(0,⟨ah o,0,false,0,1,true⟩)],.dead,[]⟩
theorem TN {nt:Nat} (p:41≤nt) (a:List Nat) (h:Bool) (n:Nat) (b:n≤31) (u:a.length<2^40) (i:bA a):
  ∀ (l d o:List Nat) (c:Nat),c<2^n→d++l=a→o.length=d.length→az prog ap [] nt (ac 0 (af f195)) (fun _=> .exit 0) (fun (x:Nat × List Nat)=>adZ a h n x.1 x.2) (U4 a) (d.length,o++c::θ l.length 0) (o++FW n c l):=by
 intro l
 induction l with
 |nil=>
  intro d o c j hd q;have f:d=a:=by simpa using hd
  have hbody:=Ll p a h n (a.length+1) a.length (ah (o++ [c])) (by rw [bq];simp [lit]);rw [f];exact .done hbody
 | cons x l ih=>
  intro d o c j hd q;have k:d.length+(l.length+1)=a.length:=by rw [← hd];simp
  have m:x<4294967296:=i x (by rw [← hd];simp);obtain ⟨s,r,v,w,t⟩:=vD b m;have hnext:=ih (d++ [x]) (o++ [c+2^n*x % 4294967296]) (2^n*x / 4294967296) r (by rw [← hd];simp) (by simp [q]);rw [κ,Ψ,Ψ] at hnext;refine .next ?_ hnext
  have g:=X_ b m j;have hbody:=Lj p a h n (a.length+1) d.length (ah (o++c::0::θ l.length 0));have e:ζ (ε d.length (ah a)) .dead= .int .u32 (x:Int):=by
   rw [← hd];exact gO rfl
  simp (disch:=first|omega|(simp [aq,au]<;>omega)) only [bQ,aS,av,Θ,Φ,gO,aU,e,kL,Δ,IU,xO,mW,abZ,g,jh,aq,κ,μ,Xxi,dW,bf,cV,bq,gL,bB,mP,iQ,jI,OW] at hbody;exact hbody (by omega) (by omega) (by omega) (by omega) (by omega) (by omega) trivial (by omega) trivial (by omega) (by omega)
def tK (n:Nat):List Nat→List Nat
 | []=> []
 |x::l=>(x / 2^n+2^(32 - n)*l.headD 0 % 4294967296)::tK n l
theorem CM (n:Nat) (l:List Nat):(tK n l).length=l.length:=by
 induction l with
 |nil=>rfl
 |cons x l ih=>simp only [tK,μ,ih]
theorem KQ {n:Nat} (a:n≤31):(2:Nat)^(32 - n)*2^n=4294967296:=by rw [← Xxo,show 32 - n+n=32 by omega,jI]
theorem RD {n:Nat} (a:n≤31) (l:List Nat):aB l % 2^n=l.headD 0 % 2^n:=by
 cases l with
 |nil=>rfl
 |cons h l=>
  simp only [aB,Xjh];rw [← KQ a,Xqb (2^(32 - n)),Xqo,Xzl]
theorem xY {n h:Nat} (a:n≤31):2^(32 - n)*h % 4294967296=2^(32 - n)*(h % 2^n):=by
 rw [← KQ a,Xvf]
theorem J_ {n:Nat} (a:n≤31) (l:List Nat):aB (tK n l)=aB l / 2^n:=by
 induction l with
 |nil=>simp [tK,aB]
 | cons x l ih=>
  simp only [tK,aB];rw [ih,xY a,← RD a];have b:=Xq7 (aB l) (2^n);have c:x+4294967296*aB l=x+2^n*(2^(32 - n)*aB l):=by rw [← Xqo,Xqb (2^n),KQ a]
  rw [c,Xwb _ _ (Xqt _)];have d:2^(32 - n)*aB l=4294967296*(aB l / 2^n)+2^(32 - n)*(aB l % 2^n):=by
   rw [← KQ a,Xqo,← Xq9,b]
  omega
theorem Uq {n x:Nat} (b:n≤31) (a:x<4294967296):x / 2^n<2^(32 - n):=by
 rw [Xqr (Xqt _),KQ b];exact a
theorem ZL {n x h:Nat} (a:n≤31) (b:x<4294967296):x / 2^n|||2^(32 - n)*h % 4294967296=x / 2^n+2^(32 - n)*h % 4294967296:=by
 rw [xY a,Yqq,Xqb (2^(32 - n)),vk (Uq a b),Xxr]
theorem Mo {n x h:Nat} (a:n≤31) (d:x<4294967296):x / 2^n+2^(32 - n)*h % 4294967296<4294967296:=by
 rw [xY a];have b:h % 2^n+1≤2^n:=Xqh _ (Xqt _);have c:2^(32 - n)*(h % 2^n+1)≤2^(32 - n)*2^n:=Xq0 _ b;rw [KQ a,Xq9,Φ] at c;have:=Uq a d;omega
theorem J9 {n:Nat} (a:n≤31) (l:List Nat):bA l→bA (tK n l):=by
 induction l with
 |nil=>exact fun h=>h
 |cons x l ih=>exact fun h=>bA.cons (Mo a h.head) (ih h.tail)
def ZK (a:List Nat) (nn:Bool) (n:Nat) (k:Nat) (o:List Nat):St:=⟨[(0,.sl (ah a) a.length nn),(1,ω (n:Int)),(5,.ref 0 0 0 a.length),(11,.sl (ah a) a.length nn),(12,ω (a.length:Int)),(13,ω (k:Int))],[(0,⟨ah o,0,false,0,1,true⟩)],.dead,[]⟩
def Uo (a o:List Nat):St:=⟨[(5,.ref 0 0 0 a.length)],[(0,⟨ah o,0,false,0,1,true⟩)],.dead,[]⟩
theorem QA {nt:Nat} (k:48≤nt) (a:List Nat) (g:Bool) (n:Nat) (e:n≤31) (v:a.length<2^40) (f:bA a):
  ∀ (l d o:List Nat),d++l=a→o.length=d.length→az prog ap [] nt (ac 0 (af f199)) (fun _=> .exit 0) (fun (x:Nat × List Nat)=>ZK a g n x.1 x.2) (Uo a) (d.length,o++θ l.length 0) (o++tK n l):=by
 intro l
 induction l with
 |nil=>
  intro d o hd p;have i:d=a:=by simpa using hd
  have hbody:=J8 k a g n a.length a.length (ah (o++ [])) (by rw [bq];simp [lit]);rw [i];exact .done hbody
 | cons x l ih=>
  intro d o hd p;have b:d.length+(l.length+1)=a.length:=by rw [← hd];simp
  have m:x<4294967296:=f x (by rw [← hd];simp);have hnext:=ih (d++ [x]) (o++ [x / 2^n+2^(32 - n)*l.headD 0 % 4294967296]) (by rw [← hd];simp) (by simp [p]);rw [κ,Ψ,Ψ] at hnext;refine .next ?_ hnext
  have c:ζ (ε d.length (ah a)) .dead= .int .u32 (x:Int):=by
   rw [← hd];exact gO rfl
  have s:x / 2^n≤x:=Xji _ _;cases l with
  |nil=>
   have hbody:=J7 k a g n a.length d.length (ah (o++0::θ 0 0));simp only [χ] at b;simp (disch:=first|omega|(simp [aq,au]<;>omega)) only [bQ,aS,bq,dw,eC,eU,av,Θ,Φ,aq,κ,μ,Xxi,dW,bf,cV,c,gL,bB,aU,IR,iQ,jh] at hbody;simp only [Xw7,Xjg,Nat.zero_mod,Xq3];exact hbody (by omega) (by omega) (by omega) (by omega) (by omega) trivial (by omega) (by omega)
  | cons y l=>
   have w:y<4294967296:=f y (by rw [← hd];simp);simp only [μ] at b;have hget1:ζ (ε (d.length+1) (ah a)) .dead= .int .u32 (y:Int):=by
    rw [← hd,show d++x::y::l=(d++ [x])++y::l by simp];exact gO (by simp)
   have j:=ZL (h:=y) e m;have q:=Mo (h:=y) e m;have t:2^(32 - n)*y<18446744073709551616:=by
    have r:2^(32 - n)≤4294967296:=Xxa (Xqf (by omega) (show 32 - n≤32 by omega)) (by decide);have u:2^(32 - n)*y≤4294967296*y:=Xqu _ r;omega
   have hbody:=J6 k a g n a.length d.length (ah (o++0::θ (y::l).length 0));simp (disch:=first|omega|(simp [aq,au]<;>omega)) only [av,Θ,Φ,μ,c,aU,IR,iQ,jh,aq,κ,Xxi,dW,bf,cV,bq,gP,bQ,aS,hget1,gL,gO,bB,kL,Δ,IU,xO,mW,abZ,j] at hbody;exact hbody (by omega) (by omega) (by omega) (by omega) trivial (by omega) (by omega) trivial (by omega) (by omega) (by omega) trivial (by omega) (by omega)
theorem ajT (a:List Nat) (b:Bool) (n:Nat) (q:List Nat) (e:a.length<2^40) (hloop:∀ nt,41≤nt→az prog ap [] nt (ac 0 (af f195)) (fun _=> .exit 0) (fun (x:Nat × List Nat)=>adZ a b n x.1 x.2) (U4 a) (0,θ (a.length+1) 0) (q)) (h0:(decide (((0:Nat):Int)≤(γ .i64 ((a.length:Int)+((1:Nat):Int)))))=true) (c:(decide ((γ .i64 ((a.length:Int)+((1:Nat):Int)))=(γ .i64 ((a.length:Int)+((1:Nat):Int)))))=true) (d:(decide ((γ .i64 ((a.length:Int)+((1:Nat):Int)))≤((1099511627776:Nat):Int)))=true):CO 195 [.sl (ah a) a.length b,ω (n:Int)] (.ret (.own (ο ((a.length+1)*1) (ah q)) (a.length+1) 1)):=pK [0] 0 0 (.c h0 (.c c (.c d .nil))) (.l (by rw [bQ,aS (by omega),av,lC];exact az.blk hloop (by simp) rfl (aJ.of ⟨rfl,rfl,rfl,rfl,rfl,trivial⟩) (aJ.of ⟨rfl,trivial⟩):aG prog ap [] 41 (.block 0 (.loop (ac 0 (af f195)))) ⟨[(0,.sl (ah a) a.length b),(1,ω (n:Int)),(4,.nilS),(5,.ref 0 0 0 (δ (γ .i64 ((a.length:Int)+((1:Nat):Int))))),(6,.dead),(7,.dead),(8,.dead),(13,.sl (ah a) a.length b),(14,ω (a.length:Int)),(15,ω 0),(16,.dead)],[(0,⟨(dX (δ (γ .i64 ((a.length:Int)+((1:Nat):Int)))) [.int .u32 0]),0,false,0,1,true⟩)],.dead,[]⟩ (.normal) ⟨[(5,.ref 0 0 0 (a.length+1))],[(0,⟨(ah q),0,false,0,1,true⟩)],.dead,[]⟩) .nil)
theorem U6 (a:List Nat) (b:Bool) (n:Nat) (e:n≤31) (f:a.length<2^39) (d:bA a):CO 195 [.sl (ah a) a.length b,ω (n:Int)] (.ret (.own (ah (FW n 0 a)) (a.length+1) 1)):=by
 have h:=ajT a b n (FW n 0 a) (by omega) (fun nt c=>TN c a b n e (by omega) d a [] [] 0 (Xqt _) rfl rfl);rw [FL (nZ n a 0),bQ,aS (by omega)] at h;exact h (Yq0 (by omega)) (Yq0 rfl) (Yq0 (by omega))
theorem VO (a:List Nat) (b:Bool) (n x:Nat) (q:List Nat) (e:a.length<2^40) (c:q.length=a.length) (g:dh q=digs x) (hloop:∀ nt,48≤nt→az prog ap [] nt (ac 0 (af f199)) (fun _=> .exit 0) (fun (x:Nat × List Nat)=>ZK a b n x.1 x.2) (Uo a) (0,θ a.length 0) (q)) (h0:(decide (((0:Nat):Int)≤(a.length:Int)))=true) (d:(decide ((a.length:Int)=(a.length:Int)))=true) (f:(decide ((a.length:Int)≤((1099511627776:Nat):Int)))=true):CO 199 [.sl (ah a) a.length b,ω (n:Int)] (.ret (.sl (ah (digs x)) (digs x).length true)):=pK [0] 0 0 (.c h0 (.c d (.c f .nil))) (.c (ww q _ x c g e) (.l (by rw [av,lC];exact az.blk hloop (by simp) rfl (aJ.of ⟨rfl,rfl,rfl,rfl,rfl,rfl,trivial⟩) (aJ.of ⟨rfl,trivial⟩):aG prog ap [] 48 (.block 0 (.loop (ac 0 (af f199)))) ⟨[(0,.sl (ah a) a.length b),(1,ω (n:Int)),(4,.nilS),(5,.ref 0 0 0 (δ (a.length:Int))),(6,.dead),(7,.dead),(11,.sl (ah a) a.length b),(12,ω (a.length:Int)),(13,ω 0),(14,.dead),(28,.dead)],[(0,⟨(dX (δ (a.length:Int)) [.int .u32 0]),0,false,0,1,true⟩)],.dead,[]⟩ (.normal) ⟨[(5,.ref 0 0 0 a.length)],[(0,⟨(ah q),0,false,0,1,true⟩)],.dead,[]⟩) .nil))
theorem QB (a:List Nat) (c:Bool) (n:Nat) (e:n≤31) (f:a.length<2^40) (b:bA a):CO 199 [.sl (ah a) a.length c,ω (n:Int)] (.ret (.sl (ah (digs (aB a / 2^n))) (digs (aB a / 2^n)).length true)):=
 VO a c n _ (tK n a) f (CM n a) (by rw [gH (J9 e a b),J_ e]) (fun nt d=>QA d a c n e f b a [] [] rfl rfl) (Yq0 (by omega)) (Yq0 rfl) (Yq0 (by omega))
def cP (x:Nat):Nat:=if x=0 then 0 else Yjs x+1
theorem Ry {x m:Nat} (h:2^m≤x) (a:x<2^(m+1)):cP x=m+1:=by
 have h0:x ≠ 0:=by have:=Xqt m;omega
 unfold cP;rw [if_neg h0,(Yqu h0).2 ⟨h,a⟩]
theorem qy {x:Nat} (h:0<x):∃ m,cP x=m+1∧2^m≤x∧x<2^(m+1):=by
 have h0:x ≠ 0:=by omega
 have:=(Yqu (k:=Yjs x) h0).1 rfl;exact ⟨Yjs x,by unfold cP;rw [if_neg h0],this.1,this.2⟩
theorem yJ {x y:Nat} (k:Nat) (d:0<x) (e:y<2^k):cP (2^k*x+y)=k+cP x:=by
 obtain ⟨m,a,c,b⟩:=qy d;rw [a,← Xzi];apply Ry
 ·rw [Xxo];exact Xxa (Xq0 _ c) (Nat.le_add_right _ _)
 ·rw [Xzi,Xxo];have:2^k*(x+1)≤2^k*2^(m+1):=Xq0 _ b;rw [Xq9,Φ] at this;omega
theorem pz {x k:Nat} (h:2^k≤x):cP x=k+cP (x / 2^k):=by
 have a:=Xq7 x (2^k);have b:0<x / 2^k:=Xv0 h (Xqt _);have:=yJ (x:=x / 2^k) (y:=x % 2^k) k b (Xqh _ (Xqt _));rwa [a] at this
theorem fk {x k:Nat} (h:x<2^k):cP x≤k:=by
 rcases Ξ x with rfl|hx
 ·exact Xxf _
 ·obtain ⟨m,c,b,_⟩:=qy hx;have:=(Nat.pow_lt_pow_iff_right (a:=2) (by omega)).1 (υ b h);omega
def K6:List UInt8:= [0,1,2,2,3,3,3,3,4,4,4,4,4,4,4,4,5,5,5,5,5,5,5,5,5,5,5,5,5,5,5,5,6,6,6,6,6,6,6,6,6,6,6,6,6,6,6,6,6,6,6,6,6,6,6,6,6,6,6,6,6,6,6,6,7,7,7,7,7,7,7,7,7,7,7,7,7,7,7,7,7,7,7,7,7,7,7,7,7,7,7,7,7,7,7,7,7,7,7,7,7,7,7,7,7,7,7,7,7,7,7,7,7,7,7,7,7,7,7,7,7,7,7,7,7,7,7,7,8,8,8,8,8,8,8,8,8,8,8,8,8,8,8,8,8,8,8,8,8,8,8,8,8,8,8,8,8,8,8,8,8,8,8,8,8,8,8,8,8,8,8,8,8,8,8,8,8,8,8,8,8,8,8,8,8,8,8,8,8,8,8,8,8,8,8,8,8,8,8,8,8,8,8,8,8,8,8,8,8,8,8,8,8,8,8,8,8,8,8,8,8,8,8,8,8,8,8,8,8,8,8,8,8,8,8,8,8,8,8,8,8,8,8,8,8,8,8,8,8,8,8,8,8,8,8,8]
theorem Pb:∀ i:Fin 256,(K6.getD i.val 0).toNat=cP i.val:=by decide
theorem xu {i:Nat} (h:i<256):(K6.getD i 0).toNat=cP i:=Pb ⟨i,h⟩
theorem Ru (x:Nat) (h0:(decide (((0:Nat):Int)≤(γ .u8 (Xqv (Xqv (x:Int) (2^(min 16 32))) (2^(min 8 32))))))=true) (a:(decide ((γ .u8 (Xqv (Xqv (x:Int) (2^(min 16 32))) (2^(min 8 32))))<((256:Nat):Int)))=true) (c:lit true (decide (((256:Nat):Int)≤(Xqv (x:Int) (2^(min 16 32)))))=true) (b:lit true (decide (((65536:Nat):Int)≤(x:Int)))=true):CO 140 [.int .u32 (x:Int)] (.ret (ω (γ .i64 (((24:Nat):Int)+(γ .i64 ((Xxj (Xx6 K6 (δ (γ .u8 (Xqv (Xqv (x:Int) (2^(min 16 32))) (2^(min 8 32))))) 0):Nat):Int)))))):=pK [] 2 3 (.c h0 (.c a (.k 1 c (.k 1 b .nil)))) (.nil)
theorem Rv (x:Nat) (h0:(decide (((0:Nat):Int)≤(γ .u8 (Xqv (x:Int) (2^(min 16 32))))))=true) (a:(decide ((γ .u8 (Xqv (x:Int) (2^(min 16 32))))<((256:Nat):Int)))=true) (c:lit false (decide (((256:Nat):Int)≤(Xqv (x:Int) (2^(min 16 32)))))=true) (b:lit true (decide (((65536:Nat):Int)≤(x:Int)))=true):CO 140 [.int .u32 (x:Int)] (.ret (ω (γ .i64 (((16:Nat):Int)+(γ .i64 ((Xxj (Xx6 K6 (δ (γ .u8 (Xqv (x:Int) (2^(min 16 32))))) 0):Nat):Int)))))):=pK [] 2 1 (.c h0 (.c a (.c c (.k 1 b .nil)))) (.nil)
theorem Rw (x:Nat) (h0:(decide (((0:Nat):Int)≤(γ .u8 (Xqv (x:Int) (2^(min 8 32))))))=true) (a:(decide ((γ .u8 (Xqv (x:Int) (2^(min 8 32))))<((256:Nat):Int)))=true) (c:lit true (decide (((256:Nat):Int)≤(x:Int)))=true) (b:lit false (decide (((65536:Nat):Int)≤(x:Int)))=true):CO 140 [.int .u32 (x:Int)] (.ret (ω (γ .i64 (((8:Nat):Int)+(γ .i64 ((Xxj (Xx6 K6 (δ (γ .u8 (Xqv (x:Int) (2^(min 8 32))))) 0):Nat):Int)))))):=pK [] 2 2 (.c h0 (.c a (.k 1 c (.c b .nil)))) (.nil)
theorem Rx (x:Nat) (h0:(decide (((0:Nat):Int)≤(γ .u8 (x:Int))))=true) (a:(decide ((γ .u8 (x:Int))<((256:Nat):Int)))=true) (c:lit false (decide (((256:Nat):Int)≤(x:Int)))=true) (b:lit false (decide (((65536:Nat):Int)≤(x:Int)))=true):CO 140 [.int .u32 (x:Int)] (.ret (ω (γ .i64 (((0:Nat):Int)+(γ .i64 ((Xxj (Xx6 K6 (δ (γ .u8 (x:Int))) 0):Nat):Int)))))):=pK [] 2 0 (.c h0 (.c a (.c c (.c b .nil)))) (.nil)
theorem Xn:(2:Nat)^16=65536:=by decide
theorem p_8:(2:Nat)^8=256:=by decide
theorem EN (x:Nat) (d:x<4294967296):CO 140 [.int .u32 (x:Int)] (.ret (ω ((cP x:Nat):Int))):=by
 by_cases h1:65536≤x
 ·have c:=pz (k:=16) h1;rw [Xn] at c;by_cases h2:256≤x / 65536
  ·have a:=pz (k:=8) h2;rw [p_8] at a;have h:=Ru x;simp (disch:=first|omega|(simp [aq,au]<;>omega)) only [mP,iQ,Xn,p_8,Yx,Δ,cV,bf,bq,bB,av,xu] at h;have b:cP (x / 65536 / 256)≤8:=fk (by omega);rw [aS (by omega),bQ,aS (by omega)] at h;rw [c,a,← Xzi];exact h (by omega) (by omega) (by omega) (by omega)
  ·have h:=Rv x;simp (disch:=first|omega|(simp [aq,au]<;>omega)) only [mP,iQ,Xn,Yx,Δ,cV,bf,bq,dw,eC,eU,bB,av,xu] at h;have b:cP (x / 65536)≤8:=fk (by omega);rw [aS (by omega),bQ,aS (by omega)] at h;rw [c];exact h (by omega) (by omega) (by omega) (by omega)
 ·by_cases h2:256≤x
  ·have a:=pz (k:=8) h2;rw [p_8] at a;have h:=Rw x;simp (disch:=first|omega|(simp [aq,au]<;>omega)) only [mP,iQ,p_8,Yx,Δ,cV,bf,bq,bB,dw,eC,eU,av,xu] at h;have b:cP (x / 256)≤8:=fk (by omega);rw [aS (by omega),bQ,aS (by omega)] at h;rw [a];exact h (by omega) (by omega) (by omega) (by omega)
  ·have h:=Rx x;simp (disch:=first|omega|(simp [aq,au]<;>omega)) only [Yx,Δ,cV,bf,bq,dw,eC,eU,av,xu] at h;have b:cP x≤8:=fk (by omega);rw [aS (by omega),bQ,aS (by omega),Θ] at h;exact h (by omega) (by omega) (by omega) (by omega)
theorem W7 (x:Nat) (a:x<4294967296):CO 194 [.int .u32 (x:Int)] (.ret (ω (γ .i64 (((32:Nat):Int) - ((cP x:Nat):Int))))):=pK [] 0 0 .nil (.c (EN x a) .nil)
theorem RF (x:Nat) (a:x<4294967296):CO 194 [.int .u32 (x:Int)] (.ret (ω ((32 - cP x:Nat):Int))):=by
 have h:=W7 x a;have b:cP x≤32:=fk a;simp (disch:=first|omega|(simp [aq,au]<;>omega)) only [gP] at h;exact h
theorem GK {nt:Nat} (b:52≤nt) (u2 u1 u0 v1 v0 q r:Nat) (h0:lit true (decide (((4294967295:Nat):Int)<(γ .u64 ((r:Int)+(γ .u64 (v1:Int))))))=true) (a:lit true (decide (((4294967295:Nat):Int)<(q:Int)))=true):ψ nt f196 ⟨[(2,.ptr 0 0 0),(3,.ptr 1 0 0),(6,.int .u64 (q:Int)),(7,.int .u64 (r:Int))],[(0,⟨[.int .u32 (u2:Int),.int .u32 (u1:Int),.int .u32 (u0:Int)],0,false,0,0,true⟩),(1,⟨[.int .u32 (v1:Int),.int .u32 (v0:Int),.int .u32 0],0,false,0,0,true⟩)],.dead,[]⟩ (.exit 0) ⟨[(6,.int .u64 (γ .u64 ((q:Int) - ((1:Nat):Int))))],[(0,⟨[.int .u32 (u2:Int),.int .u32 (u1:Int),.int .u32 (u0:Int)],0,false,0,0,true⟩),(1,⟨[.int .u32 (v1:Int),.int .u32 (v0:Int),.int .u32 0],0,false,0,0,true⟩)],.dead,[]⟩:=pJ 196 [] 3 7 (.c h0 (.k 4 a .nil)) (.nil) b
theorem GL {nt:Nat} (b:52≤nt) (u2 u1 u0 v1 v0 q r:Nat) (h0:lit false (decide (((4294967295:Nat):Int)<(γ .u64 ((r:Int)+(γ .u64 (v1:Int))))))=true) (a:lit true (decide (((4294967295:Nat):Int)<(q:Int)))=true):ψ nt f196 ⟨[(2,.ptr 0 0 0),(3,.ptr 1 0 0),(6,.int .u64 (q:Int)),(7,.int .u64 (r:Int))],[(0,⟨[.int .u32 (u2:Int),.int .u32 (u1:Int),.int .u32 (u0:Int)],0,false,0,0,true⟩),(1,⟨[.int .u32 (v1:Int),.int .u32 (v0:Int),.int .u32 0],0,false,0,0,true⟩)],.dead,[]⟩ (.normal) ⟨[(2,.ptr 0 0 0),(3,.ptr 1 0 0),(6,.int .u64 (γ .u64 ((q:Int) - ((1:Nat):Int)))),(7,.int .u64 (γ .u64 ((r:Int)+(γ .u64 (v1:Int)))))],[(0,⟨[.int .u32 (u2:Int),.int .u32 (u1:Int),.int .u32 (u0:Int)],0,false,0,0,true⟩),(1,⟨[.int .u32 (v1:Int),.int .u32 (v0:Int),.int .u32 0],0,false,0,0,true⟩)],.dead,[]⟩:=pJ 196 [] 3 3 (.c h0 (.k 4 a .nil)) (.nil) b
theorem GM {nt:Nat} (b:52≤nt) (u2 u1 u0 v1 v0 q r:Nat) (h0:lit true (decide (((4294967295:Nat):Int)<(γ .u64 ((r:Int)+(γ .u64 (v1:Int))))))=true) (a:lit true (decide ((γ .u64 (Xxk (Xql (Xqe .u64) (γ .u64 ((r:Int)*2^(min 32 64)))|||Xql (Xqe .u64) (γ .u64 (u0:Int)))))<(γ .u64 ((q:Int)*(γ .u64 (v0:Int))))))=true) (c:lit false (decide (((4294967295:Nat):Int)<(q:Int)))=true):ψ nt f196 ⟨[(2,.ptr 0 0 0),(3,.ptr 1 0 0),(6,.int .u64 (q:Int)),(7,.int .u64 (r:Int))],[(0,⟨[.int .u32 (u2:Int),.int .u32 (u1:Int),.int .u32 (u0:Int)],0,false,0,0,true⟩),(1,⟨[.int .u32 (v1:Int),.int .u32 (v0:Int),.int .u32 0],0,false,0,0,true⟩)],.dead,[]⟩ (.exit 0) ⟨[(6,.int .u64 (γ .u64 ((q:Int) - ((1:Nat):Int))))],[(0,⟨[.int .u32 (u2:Int),.int .u32 (u1:Int),.int .u32 (u0:Int)],0,false,0,0,true⟩),(1,⟨[.int .u32 (v1:Int),.int .u32 (v0:Int),.int .u32 0],0,false,0,0,true⟩)],.dead,[]⟩:=pJ 196 [] 3 6 (.c h0 (.k 3 a (.k 7 c .nil))) (.nil) b
theorem GN {nt:Nat} (b:52≤nt) (u2 u1 u0 v1 v0 q r:Nat) (h0:lit false (decide (((4294967295:Nat):Int)<(γ .u64 ((r:Int)+(γ .u64 (v1:Int))))))=true) (a:lit true (decide ((γ .u64 (Xxk (Xql (Xqe .u64) (γ .u64 ((r:Int)*2^(min 32 64)))|||Xql (Xqe .u64) (γ .u64 (u0:Int)))))<(γ .u64 ((q:Int)*(γ .u64 (v0:Int))))))=true) (c:lit false (decide (((4294967295:Nat):Int)<(q:Int)))=true):ψ nt f196 ⟨[(2,.ptr 0 0 0),(3,.ptr 1 0 0),(6,.int .u64 (q:Int)),(7,.int .u64 (r:Int))],[(0,⟨[.int .u32 (u2:Int),.int .u32 (u1:Int),.int .u32 (u0:Int)],0,false,0,0,true⟩),(1,⟨[.int .u32 (v1:Int),.int .u32 (v0:Int),.int .u32 0],0,false,0,0,true⟩)],.dead,[]⟩ (.normal) ⟨[(2,.ptr 0 0 0),(3,.ptr 1 0 0),(6,.int .u64 (γ .u64 ((q:Int) - ((1:Nat):Int)))),(7,.int .u64 (γ .u64 ((r:Int)+(γ .u64 (v1:Int)))))],[(0,⟨[.int .u32 (u2:Int),.int .u32 (u1:Int),.int .u32 (u0:Int)],0,false,0,0,true⟩),(1,⟨[.int .u32 (v1:Int),.int .u32 (v0:Int),.int .u32 0],0,false,0,0,true⟩)],.dead,[]⟩:=pJ 196 [] 3 2 (.c h0 (.k 3 a (.k 7 c .nil))) (.nil) b
theorem GP {nt:Nat} (b:52≤nt) (u2 u1 u0 v1 v0 q r:Nat) (h0:lit false (decide ((γ .u64 (Xxk (Xql (Xqe .u64) (γ .u64 ((r:Int)*2^(min 32 64)))|||Xql (Xqe .u64) (γ .u64 (u0:Int)))))<(γ .u64 ((q:Int)*(γ .u64 (v0:Int))))))=true) (a:lit false (decide (((4294967295:Nat):Int)<(q:Int)))=true):ψ nt f196 ⟨[(2,.ptr 0 0 0),(3,.ptr 1 0 0),(6,.int .u64 (q:Int)),(7,.int .u64 (r:Int))],[(0,⟨[.int .u32 (u2:Int),.int .u32 (u1:Int),.int .u32 (u0:Int)],0,false,0,0,true⟩),(1,⟨[.int .u32 (v1:Int),.int .u32 (v0:Int),.int .u32 0],0,false,0,0,true⟩)],.dead,[]⟩ (.exit 0) ⟨[(6,.int .u64 (q:Int))],[(0,⟨[.int .u32 (u2:Int),.int .u32 (u1:Int),.int .u32 (u0:Int)],0,false,0,0,true⟩),(1,⟨[.int .u32 (v1:Int),.int .u32 (v0:Int),.int .u32 0],0,false,0,0,true⟩)],.dead,[]⟩:=pJ 196 [] 2 0 (.c h0 (.k 7 a .nil)) (.nil) b
def qR (u2 u1 u0 v1 v0:Nat):Nat:=min 4294967295 ((4294967296*(4294967296*u2+u1)+u0) / (4294967296*v1+v0))
theorem uU {u2 u1 u0 v1 v0 x:Nat} (a:0<v1):x≤qR u2 u1 u0 v1 v0↔x≤4294967295∧x*(4294967296*v1+v0)≤4294967296*(4294967296*u2+u1)+u0:=by
 unfold qR;rw [Nat.le_min,Xzj (by omega)]
theorem CU {a u0 v1 v0 q r:Nat} (h:q*v1+r=a):q*(4294967296*v1+v0)≤4294967296*a+u0↔q*v0≤4294967296*r+u0:=by
 rw [← h,Xq9 q,Xq9 4294967296,← Xqo q,Xqb q 4294967296,Xqo];omega
def Us (u2 u1 u0 v1 v0 q r:Nat):St:=⟨[(2,.ptr 0 0 0),(3,.ptr 1 0 0),(6,.int .u64 (q:Int)),(7,.int .u64 (r:Int))],[(0,⟨[.int .u32 (u2:Int),.int .u32 (u1:Int),.int .u32 (u0:Int)],0,false,0,0,true⟩),(1,⟨[.int .u32 (v1:Int),.int .u32 (v0:Int),.int .u32 0],0,false,0,0,true⟩)],.dead,[]⟩
def MP (u2 u1 u0 v1 v0 q:Nat):St:=⟨[(6,.int .u64 (q:Int))],[(0,⟨[.int .u32 (u2:Int),.int .u32 (u1:Int),.int .u32 (u0:Int)],0,false,0,0,true⟩),(1,⟨[.int .u32 (v1:Int),.int .u32 (v0:Int),.int .u32 0],0,false,0,0,true⟩)],.dead,[]⟩
theorem MQ {nt:Nat} (g:52≤nt) (u2 u1 u0 v1 v0:Nat) (p:u2≤v1) (v:u1<4294967296) (i:u0<4294967296) (w:v1<4294967296) (A:v0<4294967296) (m:0<v1):
  ∀ (d q r:Nat),q=qR u2 u1 u0 v1 v0+d→q<8589934592→r<4294967296→q*v1+r=4294967296*u2+u1→az prog ap [] nt (ac 0 (af f196)) (fun _=> .exit 0) (fun (x:Nat × Nat)=>Us u2 u1 u0 v1 v0 x.1 x.2) (MP u2 u1 u0 v1 v0) (q,r) (qR u2 u1 u0 v1 v0):=by
 intro d
 induction d with
 | zero=>
  intro q r n l z c;obtain ⟨s,t⟩:=(uU (u2:=u2) (u1:=u1) (u0:=u0) (v0:=v0) (x:=q) m).1 (by omega);rw [CU c] at t;have e:4294967296*r|||u0=4294967296*r+u0:=by
   have:=vk (a:=r) (b:=u0) (k:=32) i;rwa [jI,Xqb] at this
  have o:q*v0<18446744073709551616:=υ t (by omega);have hbody:=GP g u2 u1 u0 v1 v0 q r;simp (disch:=first|omega|(simp [aq,au]<;>omega)) only [mP,xO,jI,kL,Δ,Oc,e,tC,bq,dw,eC,eU] at hbody;have:=hbody (by omega) (by omega);rw [n] at this ⊢;exact .done this
 | succ d ih=>
  intro q r n l z c;have s:¬ q≤qR u2 u1 u0 v1 v0:=by omega
  rw [uU m,CU c] at s;have e:4294967296*r|||u0=4294967296*r+u0:=by
   have:=vk (a:=r) (b:=u0) (k:=32) i;rwa [jI,Xqb] at this
  have hinv':(q - 1)*v1+(r+v1)=4294967296*u2+u1:=by
   rw [← c,show q=(q - 1)+1 by omega,Xxn,Xwh];simp only [Xwp];omega
  by_cases h6:4294967295<r+v1
  ·
   have u:q - 1=qR u2 u1 u0 v1 v0:=by
    refine Nat.le_antisymm ((uU m).2 ⟨?_,(CU hinv').2 ?_⟩) (by omega)
    ·rcases Xq8 (q - 1) 4294967296 with h|h
     ·omega
     ·have j:4294967296*v1≤(q - 1)*v1:=Xqu _ h;have y:4294967296*u2≤4294967296*v1:=Xq0 _ p;omega
    ·rcases Xq8 (q - 1) 4294967297 with h|h
     ·have j:(q - 1)*v0≤4294967296*v0:=Xqu _ (by omega);omega
     ·have j:4294967297*v1≤(q - 1)*v1:=Xqu _ h;have y:4294967296*u2≤4294967296*v1:=Xq0 _ p;omega
   by_cases j:4294967295<q
   ·have hbody:=GK g u2 u1 u0 v1 v0 q r;have f:γ .u64 ((q:Int) - ((1:Nat):Int))=((q - 1:Nat):Int):=by rw [iN];omega
    rw [f] at hbody;simp (disch:=first|omega|(simp [aq,au]<;>omega)) only [kL,Δ,bQ,bq,bB,bf,u] at hbody;exact .done (hbody (by omega) (by omega))
   ·have o:q*v0<18446744073709551616:=by
     have:q*v0≤4294967295*v0:=Xqu _ (by omega);omega
    have hbody:=GM g u2 u1 u0 v1 v0 q r;have f:γ .u64 ((q:Int) - ((1:Nat):Int))=((q - 1:Nat):Int):=by rw [iN];omega
    rw [f] at hbody;simp (disch:=first|omega|(simp [aq,au]<;>omega)) only [kL,Δ,bQ,bq,bB,bf,mP,xO,jI,Oc,e,tC,dw,eC,eU,u] at hbody;exact .done (hbody (by omega) (by omega) (by omega))
  ·refine .next ?_ (ih (q - 1) (r+v1) (by omega) (by omega) (by omega) hinv')
   by_cases j:4294967295<q
   ·have hbody:=GL g u2 u1 u0 v1 v0 q r;have f:γ .u64 ((q:Int) - ((1:Nat):Int))=((q - 1:Nat):Int):=by rw [iN];omega
    rw [f] at hbody;simp (disch:=first|omega|(simp [aq,au]<;>omega)) only [kL,Δ,bQ,bq,dw,eC,eU,bB,bf] at hbody;exact hbody (by omega) (by omega)
   ·have o:q*v0<18446744073709551616:=by
     have:q*v0≤4294967295*v0:=Xqu _ (by omega);omega
    have hbody:=GN g u2 u1 u0 v1 v0 q r;have f:γ .u64 ((q:Int) - ((1:Nat):Int))=((q - 1:Nat):Int):=by rw [iN];omega
    rw [f] at hbody;simp (disch:=first|omega|(simp [aq,au]<;>omega)) only [kL,Δ,bQ,bq,dw,eC,eU,mP,xO,jI,Oc,e,tC,bB,bf] at hbody;exact hbody (by omega) (by omega) (by omega)
theorem aae (u2 u1 u0 v1 v0:Nat) (e:u2<4294967296) (c:u1<4294967296) (d:v1<4294967296) (f:0<v1) (a:4294967296*u2|||u1=4294967296*u2+u1) (b:(4294967296*u2+u1) / v1<8589934592) (hloop:∀ nt,52≤nt→az prog ap [] nt (ac 0 (af f196)) (fun _=> .exit 0) (fun (x:Nat × Nat)=>Us u2 u1 u0 v1 v0 x.1 x.2) (MP u2 u1 u0 v1 v0) ((4294967296*u2+u1) / v1,(4294967296*u2+u1) % v1) (qR u2 u1 u0 v1 v0)) (h0:(!((γ .u64 (v1:Int))==((0:Nat):Int)))=true):CO 196 [.agg [.int .u32 (u2:Int),.int .u32 (u1:Int),.int .u32 (u0:Int)],.agg [.int .u32 (v1:Int),.int .u32 (v0:Int),.int .u32 0]] (.ret (.int .u64 ((qR u2 u1 u0 v1 v0:Nat):Int))):=pK [0] 0 0 (.c h0 (.k 3 h0 (.n 10 .nil))) (.l (by simp (disch:=first|omega|(simp [aq,au]<;>omega)) only [kL,Δ,mP,xO,jI,Oc,a,lL,rR];exact az.blk hloop (by simp) rfl (aJ.of ⟨rfl,rfl,rfl,rfl,trivial⟩) (aJ.of ⟨rfl,trivial⟩):aG prog ap [] 52 (.block 0 (.loop (ac 0 (af f196)))) ⟨[(0,.agg [.int .u32 (u2:Int),.int .u32 (u1:Int),.int .u32 (u0:Int)]),(1,.agg [.int .u32 (v1:Int),.int .u32 (v0:Int),.int .u32 0]),(2,.ptr 0 0 0),(3,.ptr 1 0 0),(4,.int .u64 0),(5,.int .u64 (γ .u64 (Xxk (Xql (Xqe .u64) (γ .u64 ((γ .u64 (u2:Int))*2^(min 32 64)))|||Xql (Xqe .u64) (γ .u64 (u1:Int)))))),(6,.int .u64 (γ .u64 (Xqs (γ .u64 (Xxk (Xql (Xqe .u64) (γ .u64 ((γ .u64 (u2:Int))*2^(min 32 64)))|||Xql (Xqe .u64) (γ .u64 (u1:Int))))) (γ .u64 (v1:Int))))),(7,.int .u64 (Xq4 (γ .u64 (Xxk (Xql (Xqe .u64) (γ .u64 ((γ .u64 (u2:Int))*2^(min 32 64)))|||Xql (Xqe .u64) (γ .u64 (u1:Int))))) (γ .u64 (v1:Int)))),(41,.dead),(50,.dead)],[(0,⟨[.int .u32 (u2:Int),.int .u32 (u1:Int),.int .u32 (u0:Int)],0,false,0,0,true⟩),(1,⟨[.int .u32 (v1:Int),.int .u32 (v0:Int),.int .u32 0],0,false,0,0,true⟩)],.dead,[]⟩ (.normal) ⟨[(6,.int .u64 ((qR u2 u1 u0 v1 v0:Nat):Int))],[(0,⟨[.int .u32 (u2:Int),.int .u32 (u1:Int),.int .u32 (u0:Int)],0,false,0,0,true⟩),(1,⟨[.int .u32 (v1:Int),.int .u32 (v0:Int),.int .u32 0],0,false,0,0,true⟩)],.dead,[]⟩) .nil)
theorem Wh (u2 u1 u0 v1 v0:Nat) (j:u2≤v1) (c:u1<4294967296) (f:u0<4294967296) (d:v1<4294967296) (g:v0<4294967296) (o:2147483648≤v1):CO 196 [.agg [.int .u32 (u2:Int),.int .u32 (u1:Int),.int .u32 (u0:Int)],.agg [.int .u32 (v1:Int),.int .u32 (v0:Int),.int .u32 0]] (.ret (.int .u64 ((qR u2 u1 u0 v1 v0:Nat):Int))):=by
 have e:4294967296*u2|||u1=4294967296*u2+u1:=by
  have:=vk (a:=u2) (b:=u1) (k:=32) c;rwa [jI,Xqb] at this
 have i:qR u2 u1 u0 v1 v0≤(4294967296*u2+u1) / v1:=by
  obtain ⟨n,m⟩:=(uU (u2:=u2) (u1:=u1) (u0:=u0) (v0:=v0) (v1:=v1) (by omega)).1 (φ _);rw [Xzj (by omega)];rw [Xq9,← Xqo,Xqb _ 4294967296,Xqo] at m;omega
 have hd:(4294967296*u2+u1) / v1<8589934592:=by
  rw [Xqr (by omega)];omega
 have p:(4294967296*u2+u1) % v1<v1:=Xqh _ (by omega);have h:=aae u2 u1 u0 v1 v0 (by omega) c d (by omega) e hd (fun nt l=>MQ l u2 u1 u0 v1 v0 j c f d g (by omega) _ _ _ (Nat.add_sub_cancel' i).symm hd (by omega) (by rw [Xqb];exact Xq7 _ _));simp (disch:=first|omega|(simp [aq,au]<;>omega)) only [kL,Δ,kO,eC,eU] at h;exact h (by omega)
theorem K9 {nt:Nat} (h:66≤nt) (U0 U v:List Nat) (e:Bool) (j M q c b i:Nat) (h0:(Xqk (((j+(δ (i:Int)))*1)+1) (η (ah U)))=true) (a:(decide (((0:Nat):Int)≤(i:Int)))=true) (d:(decide ((i:Int)<(M:Int)))=true) (k:(chk (.int .u32) (ζ (ε ((j+(δ (i:Int)))*1) (ah U)) .dead))=true) (l:(chk (.int .u32) (ζ (ε ((δ (i:Int))*1) (ah v)) .dead))=true) (f:(decide ((i:Int)<(v.length:Int)))=true) (g:lit true (decide ((i:Int)<(v.length:Int)))=true):ai prog ap [⟨(ah U0),0,false,0,1,true⟩] nt (ac 0 (af f197)) ⟨[(0,.ref 0 0 j M),(1,.sl (ah v) v.length e),(2,.int .u64 (q:Int)),(7,.int .u64 (c:Int)),(8,.int .u64 (b:Int)),(14,ω (v.length:Int)),(15,ω (i:Int))],[(0,⟨(ah U),0,false,0,1,true⟩)],.dead,[]⟩ (.normal) ⟨[(0,.ref 0 0 j M),(1,.sl (ah v) v.length e),(2,.int .u64 (q:Int)),(7,.int .u64 (Xqv (γ .u64 ((γ .u64 ((q:Int)*(γ .u64 (Γ (ζ (ε ((δ (i:Int))*1) (ah v)) .dead)))))+(c:Int))) (2^(min 32 64)))),(8,.int .u64 (Xqv (γ .u64 ((γ .u64 ((γ .u64 (Γ (ζ (ε ((j+(δ (i:Int)))*1) (ah U)) .dead))) - (γ .u64 (Xxk (Xql (Xqe .u64) (γ .u64 ((γ .u64 ((q:Int)*(γ .u64 (Γ (ζ (ε ((δ (i:Int))*1) (ah v)) .dead)))))+(c:Int))) &&& Xql (Xqe .u64) ((4294967295:Nat):Int)))))) - (b:Int))) (2^(min 63 64)))),(14,ω (v.length:Int)),(15,ω (γ .i64 ((i:Int)+((1:Nat):Int))))],[(0,⟨(ο ((j+(δ (i:Int)))*1) (ah U)++ [.int .u32 (γ .u32 (γ .u64 ((γ .u64 ((γ .u64 (Γ (ζ (ε ((j+(δ (i:Int)))*1) (ah U)) .dead))) - (γ .u64 (Xxk (Xql (Xqe .u64) (γ .u64 ((γ .u64 ((q:Int)*(γ .u64 (Γ (ζ (ε ((δ (i:Int))*1) (ah v)) .dead)))))+(c:Int))) &&& Xql (Xqe .u64) ((4294967295:Nat):Int)))))) - (b:Int))))]++ε (((j+(δ (i:Int)))*1)+1) (ah U)),0,false,0,1,true⟩)],.dead,[]⟩:=pJ 197 [] 1 1 (.c h0 (.c a (.c d (.k 1 k (.c a (.c d (.k 1 l (.c a (.c f (.c g .nil)))))))))) (.nil) h
theorem K_ {nt:Nat} (d:66≤nt) (U0 U v:List Nat) (a:Bool) (j M q c b i:Nat) (h0:lit false (decide ((i:Int)<(v.length:Int)))=true):ai prog ap [⟨(ah U0),0,false,0,1,true⟩] nt (ac 0 (af f197)) ⟨[(0,.ref 0 0 j M),(1,.sl (ah v) v.length a),(2,.int .u64 (q:Int)),(7,.int .u64 (c:Int)),(8,.int .u64 (b:Int)),(14,ω (v.length:Int)),(15,ω (i:Int))],[(0,⟨(ah U),0,false,0,1,true⟩)],.dead,[]⟩ (.exit 0) ⟨[(0,.ref 0 0 j M),(1,.sl (ah v) v.length a),(7,.int .u64 (c:Int)),(8,.int .u64 (b:Int))],[(0,⟨(ah U),0,false,0,1,true⟩)],.dead,[]⟩:=pJ 197 [] 1 0 (.c h0 .nil) (.nil) d
theorem Ko {nt:Nat} (g:42≤nt) (U0 U v:List Nat) (d:Bool) (j M c i:Nat) (h0:(Xqk (((j+(δ (i:Int)))*1)+1) (η (ah U)))=true) (a:(decide (((0:Nat):Int)≤(i:Int)))=true) (b:(decide ((i:Int)<(M:Int)))=true) (f:(chk (.int .u32) (ζ (ε ((δ (i:Int))*1) (ah v)) .dead))=true) (h:(decide ((i:Int)<(v.length:Int)))=true) (k:(chk (.int .u32) (ζ (ε ((j+(δ (i:Int)))*1) (ah U)) .dead))=true) (e:lit true (decide ((i:Int)<(v.length:Int)))=true):ai prog ap [⟨(ah U0),0,false,0,1,true⟩] nt (ac 0 (af f198)) ⟨[(0,.ref 0 0 j M),(1,.sl (ah v) v.length d),(4,.int .u64 (c:Int)),(8,ω (v.length:Int)),(9,ω (i:Int))],[(0,⟨(ah U),0,false,0,1,true⟩)],.dead,[]⟩ (.normal) ⟨[(0,.ref 0 0 j M),(1,.sl (ah v) v.length d),(4,.int .u64 (Xqv (γ .u64 ((γ .u64 ((γ .u64 (Γ (ζ (ε ((j+(δ (i:Int)))*1) (ah U)) .dead)))+(γ .u64 (Γ (ζ (ε ((δ (i:Int))*1) (ah v)) .dead)))))+(c:Int))) (2^(min 32 64)))),(8,ω (v.length:Int)),(9,ω (γ .i64 ((i:Int)+((1:Nat):Int))))],[(0,⟨(ο ((j+(δ (i:Int)))*1) (ah U)++ [.int .u32 (γ .u32 (γ .u64 ((γ .u64 ((γ .u64 (Γ (ζ (ε ((j+(δ (i:Int)))*1) (ah U)) .dead)))+(γ .u64 (Γ (ζ (ε ((δ (i:Int))*1) (ah v)) .dead)))))+(c:Int))))]++ε (((j+(δ (i:Int)))*1)+1) (ah U)),0,false,0,1,true⟩)],.dead,[]⟩:=pJ 198 [] 1 1 (.c h0 (.c a (.c b (.k 1 f (.c a (.c h (.c k (.c a (.c b (.c e .nil)))))))))) (.nil) g
theorem Kq {nt:Nat} (b:42≤nt) (U0 U v:List Nat) (a:Bool) (j M c i:Nat) (h0:lit false (decide ((i:Int)<(v.length:Int)))=true):ai prog ap [⟨(ah U0),0,false,0,1,true⟩] nt (ac 0 (af f198)) ⟨[(0,.ref 0 0 j M),(1,.sl (ah v) v.length a),(4,.int .u64 (c:Int)),(8,ω (v.length:Int)),(9,ω (i:Int))],[(0,⟨(ah U),0,false,0,1,true⟩)],.dead,[]⟩ (.exit 0) ⟨[(0,.ref 0 0 j M),(1,.sl (ah v) v.length a),(4,.int .u64 (c:Int))],[(0,⟨(ah U),0,false,0,1,true⟩)],.dead,[]⟩:=pJ 198 [] 1 0 (.c h0 .nil) (.nil) b
def dN (u s b:Nat):Nat:=((u+(18446744073709551616 - s)) % 18446744073709551616+(18446744073709551616 - b)) % 18446744073709551616
theorem CJ {u s b:Nat} (a:u<4294967296) (hs:s<4294967296) (c:b≤1):dN u s b % 4294967296+s+b=u+4294967296*(dN u s b / 9223372036854775808)∧dN u s b / 9223372036854775808≤1∧dN u s b<18446744073709551616:=by
 unfold dN;omega
def jD (q:Nat):List Nat→List Nat→Nat→Nat→List Nat × Nat × Nat
 | [],_,c,b=>([],c,b)
 |_::_,[],c,b=>([],c,b)
 |v::vs,u::us,c,b=>
  let r:=jD q vs us ((q*v+c) / 4294967296) (dN u ((q*v+c) % 4294967296) b / 9223372036854775808)
  (dN u ((q*v+c) % 4294967296) b % 4294967296::r.1,r.2)
theorem NL {q v c:Nat} (b:q<4294967296) (d:v<4294967296) (a:c<4294967296):q*v<18446744073709551616∧q*v+c<18446744073709551616∧(q*v+c) / 4294967296<4294967296:=by
 have h:q*v≤q*4294967295:=Xq0 _ (by omega);omega
theorem K7 {q:Nat} (k:q<4294967296) (vs:List Nat):∀ (a:List Nat) (c b:Nat),c<4294967296→b≤1→bA vs→bA a→vs.length≤a.length→
  (jD q vs a c b).2.1<4294967296∧(jD q vs a c b).2.2≤1∧bA (jD q vs a c b).1∧(jD q vs a c b).1.length=vs.length∧
  aB (jD q vs a c b).1+q*aB vs+c+b=aB (a.take vs.length)+4294967296^vs.length*((jD q vs a c b).2.1+(jD q vs a c b).2.2):=by
 induction vs with
 |nil=>intro a c b f g _ _ _;exact ⟨f,g,bA.nil,rfl,by simp [jD,aB]⟩
 | cons v vs ih=>
  intro a c b f g e d h;cases a with
  |nil=>simp at h
  |cons u a=>
   obtain ⟨y,w,j⟩:=NL k e.head f;obtain ⟨t,m,r⟩:=CJ (u:=u) (s:=(q*v+c) % 4294967296) (b:=b) d.head (Xqh _ (by omega)) g;obtain ⟨o,n,i,l,x⟩:=ih a _ _ j m e.tail d.tail (by simpa using h);simp only [jD];refine ⟨o,n,bA.cons (Xqh _ (by omega)) i,by simp [l], ?_⟩;simp only [aB,μ,Xx3];have p:=Xq7 (q*v+c) 4294967296;rw [Xq9 q,Xqb q (4294967296*aB vs),Xqo,Xqb (aB vs) q,Xq2,Xqb (4294967296^vs.length),Xqo];omega
def adU (v:List Nat) (nv:Bool) (j M q:Nat) (i:Nat) (U:List Nat) (c b:Nat):St:=⟨[(0,.ref 0 0 j M),(1,.sl (ah v) v.length nv),(2,.int .u64 (q:Int)),(7,.int .u64 (c:Int)),(8,.int .u64 (b:Int)),(14,ω (v.length:Int)),(15,ω (i:Int))],[(0,⟨ah U,0,false,0,1,true⟩)],.dead,[]⟩
def UY (v:List Nat) (nv:Bool) (j M:Nat) (U:List Nat) (c b:Nat):St:=⟨[(0,.ref 0 0 j M),(1,.sl (ah v) v.length nv),(7,.int .u64 (c:Int)),(8,.int .u64 (b:Int))],[(0,⟨ah U,0,false,0,1,true⟩)],.dead,[]⟩
def kY (U0:List Nat):List aR:= [⟨ah U0,0,false,0,1,true⟩]
theorem Ty {nt:Nat} (l:66≤nt) (U0 v:List Nat) (g:Bool) (j M q:Nat) (r:q<4294967296) (A:bA v) (F:v.length<M) (t:v.length<2^40):
  ∀ (vs d a pre:List Nat) (c b:Nat),d++vs=v→pre.length=j+d.length→vs.length≤a.length→c<4294967296→b≤1→bA a→
  az prog ap (kY U0) nt (ac 0 (af f197)) (fun _=> .exit 0) (fun (x:Nat × List Nat × Nat × Nat)=>adU v g j M q x.1 x.2.1 x.2.2.1 x.2.2.2) (fun (x:List Nat × Nat × Nat)=>UY v g j M x.1 x.2.1 x.2.2) (d.length,pre++a,c,b) (pre++(jD q vs a c b).1++a.drop vs.length,(jD q vs a c b).2.1,(jD q vs a c b).2.2):=by
 intro vs
 induction vs with
 |nil=>
  intro d a pre c b hd hp i m o e;have h:d=v:=by simpa using hd
  have hbody:=K_ l U0 (pre++a) v g j M q c b v.length (by rw [bq];simp [lit]);refine .done ?_;simp only [jD,Xqa,χ,Xjq,h];exact hbody
 | cons x vs ih=>
  intro d a pre c b hd hp i m o e;cases a with
  |nil=>simp at i
  | cons u a=>
   have z:x<4294967296:=A x (by rw [← hd];simp);have n:d.length+(vs.length+1)=v.length:=by rw [← hd];simp
   have y:=e.head;obtain ⟨D,C,p⟩:=NL r z m;obtain ⟨E,w,B⟩:=CJ (u:=u) (s:=(q*x+c) % 4294967296) (b:=b) y (Xqh _ (by omega)) o;have hnext:=ih (d++ [x]) a (pre++ [dN u ((q*x+c) % 4294967296) b % 4294967296]) ((q*x+c) / 4294967296) (dN u ((q*x+c) % 4294967296) b / 9223372036854775808) (by rw [← hd];simp) (by simp;omega) (by simpa using i) p w e.tail;simp only [jD,μ,Xwi];rw [κ] at hnext;simp only [Ψ,Xqx,Xqd,μ,χ] at hnext ⊢;refine .next ?_ hnext
   have f:ζ (ε d.length (ah v)) .dead= .int .u32 (x:Int):=by
    rw [← hd];exact gO rfl
   have hbody:=K9 l U0 (pre++u::a) v g j M q c b d.length;have k:((u+(18446744073709551616 - (q*x+c) % 4294967296)) % 18446744073709551616+(18446744073709551616 - b)) % 18446744073709551616=dN u ((q*x+c) % 4294967296) b:=rfl;simp (disch:=first|omega|(simp [aq,au]<;>omega)) only [av,Φ,aq,κ,μ,dW,bf,cV,bq,gO,gL,f,bB,aU,kL,Δ,tC,bQ,mP,iQ,jI,Ze,xK,iN,k,ab0,aS,mW,jh] at hbody;exact hbody (by omega) (by omega) (by omega) trivial trivial (by omega) (by omega)
def mJ:List Nat→List Nat→Nat→List Nat × Nat
 | [],_,c=>([],c)
 |_::_,[],c=>([],c)
 |v::vs,u::us,c=>
  let r:=mJ vs us ((u+v+c) / 4294967296)
  ((u+v+c) % 4294967296::r.1,r.2)
theorem Kn (vs:List Nat):∀ (a:List Nat) (c:Nat),c≤1→bA vs→bA a→vs.length≤a.length→
  (mJ vs a c).2≤1∧bA (mJ vs a c).1∧(mJ vs a c).1.length=vs.length∧
  aB (mJ vs a c).1+4294967296^vs.length*(mJ vs a c).2=aB (a.take vs.length)+aB vs+c:=by
 induction vs with
 |nil=>intro a c e _ _ _;exact ⟨e,bA.nil,rfl,by simp [mJ,aB]⟩
 | cons v vs ih=>
  intro a c e d b f;cases a with
  |nil=>simp at f
  |cons u a=>
   have l:=d.head;have j:=b.head;obtain ⟨i,g,h,k⟩:=ih a ((u+v+c) / 4294967296) (by omega) d.tail b.tail (by simpa using f);simp only [mJ];refine ⟨i,bA.cons (Xqh _ (by omega)) g,by simp [h], ?_⟩;simp only [aB,μ,Xx3];rw [Xq2,Xqb (4294967296^vs.length),Xqo];omega
def aaq (v:List Nat) (nv:Bool) (j M:Nat) (i:Nat) (U:List Nat) (c:Nat):St:=⟨[(0,.ref 0 0 j M),(1,.sl (ah v) v.length nv),(4,.int .u64 (c:Int)),(8,ω (v.length:Int)),(9,ω (i:Int))],[(0,⟨ah U,0,false,0,1,true⟩)],.dead,[]⟩
def Uv (v:List Nat) (nv:Bool) (j M:Nat) (U:List Nat) (c:Nat):St:=⟨[(0,.ref 0 0 j M),(1,.sl (ah v) v.length nv),(4,.int .u64 (c:Int))],[(0,⟨ah U,0,false,0,1,true⟩)],.dead,[]⟩
theorem Ra {nt:Nat} (k:42≤nt) (U0 v:List Nat) (f:Bool) (j M:Nat) (n:bA v) (q:v.length<M) (l:v.length<2^40):
  ∀ (vs b a pre:List Nat) (c:Nat),b++vs=v→pre.length=j+b.length→vs.length≤a.length→c≤1→bA a→
  az prog ap (kY U0) nt (ac 0 (af f198)) (fun _=> .exit 0) (fun (x:Nat × List Nat × Nat)=>aaq v f j M x.1 x.2.1 x.2.2) (fun (x:List Nat × Nat)=>Uv v f j M x.1 x.2) (b.length,pre++a,c) (pre++(mJ vs a c).1++a.drop vs.length,(mJ vs a c).2):=by
 intro vs
 induction vs with
 |nil=>
  intro b a pre c hd hp h m d;have g:b=v:=by simpa using hd
  have hbody:=Kq k U0 (pre++a) v f j M c v.length (by rw [bq];simp [lit]);refine .done ?_;simp only [mJ,Xqa,χ,Xjq,g];exact hbody
 | cons x vs ih=>
  intro b a pre c hd hp h m d;cases a with
  |nil=>simp at h
  | cons u a=>
   have p:x<4294967296:=n x (by rw [← hd];simp);have i:b.length+(vs.length+1)=v.length:=by rw [← hd];simp
   have o:=d.head;have hnext:=ih (b++ [x]) a (pre++ [(u+x+c) % 4294967296]) ((u+x+c) / 4294967296) (by rw [← hd];simp) (by simp;omega) (by simpa using h) (by omega) d.tail;simp only [mJ,μ,Xwi];rw [κ] at hnext;simp only [Ψ,Xqx,Xqd,μ,χ] at hnext ⊢;refine .next ?_ hnext
   have e:ζ (ε b.length (ah v)) .dead= .int .u32 (x:Int):=by
    rw [← hd];exact gO rfl
   have hbody:=Ko k U0 (pre++u::a) v f j M c b.length;simp (disch:=first|omega|(simp [aq,au]<;>omega)) only [av,Φ,aq,κ,μ,dW,bf,cV,bq,e,gL,gO,bB,aU,kL,Δ,bQ,mP,iQ,jI,aS,mW,jh] at hbody;exact hbody (by omega) (by omega) (by omega) trivial (by omega) trivial (by omega)
theorem Yr (U W v:List Nat) (a:Bool) (j M q c b:Nat) (hloop:∀ nt,66≤nt→az prog ap (kY U) nt (ac 0 (af f197)) (fun _=> .exit 0) (fun (x:Nat × List Nat × Nat × Nat)=>adU v a j M q x.1 x.2.1 x.2.2.1 x.2.2.2) (fun (x:List Nat × Nat × Nat)=>UY v a j M x.1 x.2.1 x.2.2) (0,U,0,0) (W,c,b)) (h0:(Xqk (((j+(δ (v.length:Int)))*1)+1) (η (ah W)))=true) (d:(decide (((0:Nat):Int)≤(v.length:Int)))=true) (e:(decide ((v.length:Int)<(M:Int)))=true) (f:(chk (.int .u32) (ζ (ε ((j+(δ (v.length:Int)))*1) (ah W)) .dead))=true):aj prog ap 197 [.ref 0 0 j M,.sl (ah v) v.length a,.int .u64 (q:Int)] [⟨(ah U),0,false,0,1,true⟩] (.ret (.bool (!((Xqv (γ .u64 ((γ .u64 ((γ .u64 (Γ (ζ (ε ((j+(δ (v.length:Int)))*1) (ah W)) .dead))) - (c:Int))) - (b:Int))) (2^(min 63 64)))==((0:Nat):Int))))) [⟨(ο ((j+(δ (v.length:Int)))*1) (ah W)++ [.int .u32 (γ .u32 (γ .u64 ((γ .u64 ((γ .u64 (Γ (ζ (ε ((j+(δ (v.length:Int)))*1) (ah W)) .dead))) - (c:Int))) - (b:Int))))]++ε (((j+(δ (v.length:Int)))*1)+1) (ah W)),0,false,0,1,true⟩]:=pK [0] 0 0 (.k 1 h0 (.c d (.c e (.c f (.c d (.c e .nil)))))) (.l (by exact az.blk hloop (by simp) rfl (aJ.of ⟨rfl,rfl,rfl,rfl,rfl,rfl,rfl,trivial⟩) (aJ.of ⟨rfl,rfl,rfl,rfl,trivial⟩):aG prog ap [⟨(ah U),0,false,0,1,true⟩] 66 (.block 0 (.loop (ac 0 (af f197)))) ⟨[(0,.ref 0 0 j M),(1,.sl (ah v) v.length a),(2,.int .u64 (q:Int)),(6,.bool false),(7,.int .u64 0),(8,.int .u64 0),(9,.dead),(10,.dead),(11,.dead),(12,.dead),(14,ω (v.length:Int)),(15,ω 0),(16,.dead)],[(0,⟨(ah U),0,false,0,1,true⟩)],.dead,[]⟩ (.normal) ⟨[(0,.ref 0 0 j M),(1,.sl (ah v) v.length a),(7,.int .u64 (c:Int)),(8,.int .u64 (b:Int))],[(0,⟨(ah W),0,false,0,1,true⟩)],.dead,[]⟩) .nil)
theorem WE (U W v:List Nat) (a:Bool) (j M c:Nat) (hloop:∀ nt,42≤nt→az prog ap (kY U) nt (ac 0 (af f198)) (fun _=> .exit 0) (fun (x:Nat × List Nat × Nat)=>aaq v a j M x.1 x.2.1 x.2.2) (fun (x:List Nat × Nat)=>Uv v a j M x.1 x.2) (0,U,0) (W,c)) (h0:(Xqk (((j+(δ (v.length:Int)))*1)+1) (η (ah W)))=true) (b:(decide (((0:Nat):Int)≤(v.length:Int)))=true) (d:(decide ((v.length:Int)<(M:Int)))=true) (e:(chk (.int .u32) (ζ (ε ((j+(δ (v.length:Int)))*1) (ah W)) .dead))=true):aj prog ap 198 [.ref 0 0 j M,.sl (ah v) v.length a] [⟨(ah U),0,false,0,1,true⟩] (.ret (.tup [])) [⟨(ο ((j+(δ (v.length:Int)))*1) (ah W)++ [.int .u32 (γ .u32 ((Γ (ζ (ε ((j+(δ (v.length:Int)))*1) (ah W)) .dead))+(γ .u32 (c:Int))))]++ε (((j+(δ (v.length:Int)))*1)+1) (ah W)),0,false,0,1,true⟩]:=pK [0] 0 0 (.c h0 (.c b (.c d (.c e (.c b (.c d .nil)))))) (.l (by exact az.blk hloop (by simp) rfl (aJ.of ⟨rfl,rfl,rfl,rfl,rfl,trivial⟩) (aJ.of ⟨rfl,rfl,rfl,trivial⟩):aG prog ap [⟨(ah U),0,false,0,1,true⟩] 42 (.block 0 (.loop (ac 0 (af f198)))) ⟨[(0,.ref 0 0 j M),(1,.sl (ah v) v.length a),(4,.int .u64 0),(5,.dead),(6,.dead),(8,ω (v.length:Int)),(9,ω 0),(10,.dead)],[(0,⟨(ah U),0,false,0,1,true⟩)],.dead,[]⟩ (.normal) ⟨[(0,.ref 0 0 j M),(1,.sl (ah v) v.length a),(4,.int .u64 (c:Int))],[(0,⟨(ah W),0,false,0,1,true⟩)],.dead,[]⟩) .nil)
theorem wA (n W:Nat) (post:List Nat):ο n (bD (n+1) W++post)=bD n W:=by
 rw [pM,Ψ,Xx4 (by rw [aM];exact φ _),Xqi (by rw [aM];exact φ _)]
theorem wz (n W:Nat) (post:List Nat):ε n (bD (n+1) W++post)=W / 2^(32*n) % 2^32::post:=by
 rw [pM,Ψ,List.drop_append_of_le_length (by rw [aM];exact φ _),List.drop_of_length_le (by rw [aM];exact φ _)];rfl
theorem Hh {l:List Nat} {m:Nat} (h:bA l) (a:l.length=m):l=bD m (aB l):=by subst a;exact (zw h).symm
theorem Tu (pre post v:List Nat) (o:Bool) (n W q:Nat) (j:v.length=n) (F:bA v) (A:q<4294967296) (I:W<4294967296^(n+1)) (hpost:bA post) (O:pre.length+n<2^40):
  aj prog ap 197 [.ref 0 0 pre.length (n+1),.sl (ah v) n o,.int .u64 (q:Int)] (kY (pre++bD (n+1) W++post)) (.ret (.bool (decide (W<q*aB v)))) (kY (pre++bD (n+1) (if W<q*aB v then W+4294967296^(n+1) - q*aB v else W - q*aB v)++post)):=by
 have h:bA (bD (n+1) W++post):=bA.app (bA.pad _ _) hpost;obtain ⟨B,E,C,g,l⟩:=K7 A v (bD (n+1) W++post) 0 0 (by omega) (by omega) F h (by simp [aM];omega);have hloop:=fun nt (hnt:66≤nt)=>Ty hnt (pre++bD (n+1) W++post) v o pre.length (n+1) q A F (by omega) (by omega) v [] (bD (n+1) W++post) pre 0 0 rfl rfl (by simp [aM];omega) (by omega) (by omega) h
 rw [j,wA,qN,jo] at l;rw [j,wz,jo,jI] at hloop;generalize P:jD q v (bD (n+1) W++post) 0 0=r at*
 obtain ⟨y,c,b⟩:=r;simp only [Xq3,χ,← Ψ] at B E C g l hloop;have D:W / 4294967296^n<4294967296:=by
  rw [Xqr (eX n),Xqb,← Xq2];exact I
 rw [Δ D] at hloop;have G:=Xq7 W (4294967296^n);generalize L:W / 4294967296^n=x at*
 obtain ⟨K,Q,M⟩:=CJ (u:=x) (s:=c) (b:=b) D B E;have htake:=Yr (pre++bD (n+1) W++post) (pre++y++x::post) v o pre.length (n+1) q c b hloop;have d:pre.length+n=(pre++y).length:=by simp [g,j]
 have w:((x+(18446744073709551616 - c)) % 18446744073709551616+(18446744073709551616 - b)) % 18446744073709551616=dN x c b:=rfl;rw [j] at htake g;have t:ζ (ε (pre.length+n) (ah (pre++y++x::post))) .dead= .int .u32 (x:Int):=gO d;have e:∀ z:Nat,ο (pre.length+n) (ah (pre++y++x::post))++ [Xxm .u32 (z:Int)]++ε (pre.length+n+1) (ah (pre++y++x::post))=ah (pre++y++z::post):=fun z=>jh d
 simp (disch:=first|omega|(simp [aq,au]<;>omega)) only [av,Φ,aq,κ,μ,dW,bf,cV,bq,t,gL,aU,kL,Δ,iN,w,mP,iQ,ab0,kO,mW,e] at htake;have htake:=htake (by omega) (by omega) (by omega) trivial;generalize N:dN x c b / 9223372036854775808=f at*
 generalize R:dN x c b % 4294967296=z at*
 have m:z<4294967296:=by omega
 have i:bA (y++ [z]):=bA.app C (bA.cons m bA.nil);have a:aB (y++ [z])+q*aB v=W+4294967296^(n+1)*f:=by
  rw [jr,g];simp only [aB,Xjg,Xq3];have H:4294967296^n*(z+c+b)=4294967296^n*(x+4294967296*f):=by rw [K]
  rw [Xq2,Xqo];rw [Xq9,Xq9,Xq9] at H;rw [Xq9] at l;omega
 have k:=lG i;have hlen2:(y++ [z]).length=n+1:=by simp [g]
 rw [hlen2] at k;have hlist:pre++y++z::post=pre++(y++ [z])++post:=by simp
 have p:(!decide (f=0))=decide (W<q*aB v):=by
  rcases Ξ f with h0|h0
  ·rw [h0,Xjg,Xq3] at a;rw [h0,Yq0 rfl,Yq1 (by omega)];rfl
  ·rw [show f=1 by omega,Φ] at a;rw [Yq1 (by omega),Yq0 (by omega)];rfl
 have J:aB (y++ [z])=if W<q*aB v then W+4294967296^(n+1) - q*aB v else W - q*aB v:=by
  rcases Ξ f with h0|h0
  ·rw [h0,Xjg,Xq3] at a;rw [if_neg (by omega)];omega
  ·rw [show f=1 by omega,Φ] at a;rw [if_pos (by omega)];omega
 rw [hlist,Hh i hlen2,J,p] at htake;exact htake
theorem Q9 (pre post v:List Nat) (j:Bool) (n W:Nat) (i:v.length=n) (p:bA v) (w:W<4294967296^(n+1)) (hpost:bA post) (C:pre.length+n<2^40):
  aj prog ap 198 [.ref 0 0 pre.length (n+1),.sl (ah v) n j] (kY (pre++bD (n+1) W++post)) (.ret (.tup [])) (kY (pre++bD (n+1) ((W+aB v) % 4294967296^(n+1))++post)):=by
 have b:bA (bD (n+1) W++post):=bA.app (bA.pad _ _) hpost;obtain ⟨t,o,h,l⟩:=Kn v (bD (n+1) W++post) 0 (by omega) p b (by simp [aM];omega);have hloop:=fun nt (hnt:42≤nt)=>Ra hnt (pre++bD (n+1) W++post) v j pre.length (n+1) p (by omega) (by omega) v [] (bD (n+1) W++post) pre 0 rfl rfl (by simp [aM];omega) (by omega) b
 rw [i,wA,qN,jo] at l;rw [i,wz,jo,jI] at hloop;generalize D:mJ v (bD (n+1) W++post) 0=r at*
 obtain ⟨y,c⟩:=r;simp only [Xq3,χ,← Ψ] at t o h l hloop;have A:W / 4294967296^n<4294967296:=by
  rw [Xqr (eX n),Xqb,← Xq2];exact w
 rw [Δ A] at hloop;have q:=Xq7 W (4294967296^n);generalize s:W / 4294967296^n=x at*
 have hgive:=WE (pre++bD (n+1) W++post) (pre++y++x::post) v j pre.length (n+1) c hloop;have a:pre.length+n=(pre++y).length:=by simp [h,i]
 rw [i] at hgive h;have k:ζ (ε (pre.length+n) (ah (pre++y++x::post))) .dead= .int .u32 (x:Int):=gO a;have d:∀ z:Nat,ο (pre.length+n) (ah (pre++y++x::post))++ [Xxm .u32 (z:Int)]++ε (pre.length+n+1) (ah (pre++y++x::post))=ah (pre++y++z::post):=fun z=>jh a
 rw [mW,Δ (show c<4294967296 by omega)] at hgive;have m:γ .u32 ((x:Int)+(c:Int))=(((x+c) % 4294967296:Nat):Int):=by rw [bQ,mW]
 simp (disch:=first|omega|(simp [aq,au]<;>omega)) only [av,Φ,aq,κ,μ,dW,bf,cV,bq,k,gL,aU,bQ,mW,d] at hgive;have hgive:=hgive (by omega) (by omega) (by omega) trivial;have e:bA (y++ [(x+c) % 4294967296]):=bA.app o (bA.cons (Xqh _ (by omega)) bA.nil);have g:aB (y++ [(x+c) % 4294967296])+4294967296^(n+1)*((x+c) / 4294967296)=W+aB v:=by
  rw [jr,h];simp only [aB,Xjg,Xq3];have u:4294967296^n*(x+c)=4294967296^n*(4294967296*((x+c) / 4294967296)+(x+c) % 4294967296):=by rw [Xq7]
  rw [Xq2,Xqo];rw [Xq9,Xq9] at u;omega
 have f:=lG e;have hlen2:(y++ [(x+c) % 4294967296]).length=n+1:=by simp [h]
 rw [hlen2] at f;have hlist:pre++y++(x+c) % 4294967296::post=pre++(y++ [(x+c) % 4294967296])++post:=by simp
 have B:aB (y++ [(x+c) % 4294967296])=(W+aB v) % 4294967296^(n+1):=by
  rw [← g,Xzl,Δ f]
 rw [hlist,Hh e hlen2,B] at hgive;exact hgive
theorem ZP {nt:Nat} (z:130≤nt) (Q U U1 U2 v:List Nat) (a p M n j q:Nat) (h0:(Xqk (((0+(δ (j:Int)))*1)+1) (η (ah Q)))=true) (e:(decide (((0:Nat):Int)≤(j:Int)))=true) (x:(decide ((j:Int)<(a:Int)))=true) (r:(decide ((j:Int)≤(γ .i64 ((γ .i64 ((j:Int)+(n:Int)))+((1:Nat):Int)))))=true) (s:(decide ((γ .i64 ((γ .i64 ((j:Int)+(n:Int)))+((1:Nat):Int)))≤(M:Int)))=true) (w:(chk (.int .u32) (ζ (ε ((δ (γ .i64 ((n:Int) - ((2:Nat):Int))))*1) (ah v)) .dead))=true) (y:(decide (((0:Nat):Int)≤(γ .i64 ((n:Int) - ((2:Nat):Int)))))=true) (A:(decide ((γ .i64 ((n:Int) - ((2:Nat):Int)))<(v.length:Int)))=true) (D:(chk (.int .u32) (ζ (ε ((δ (γ .i64 ((n:Int) - ((1:Nat):Int))))*1) (ah v)) .dead))=true) (C:(decide (((0:Nat):Int)≤(γ .i64 ((n:Int) - ((1:Nat):Int)))))=true) (g:(decide ((γ .i64 ((n:Int) - ((1:Nat):Int)))<(v.length:Int)))=true) (o:(chk (.int .u32) (ζ (ε ((0+(δ (γ .i64 ((γ .i64 ((j:Int)+(n:Int))) - ((2:Nat):Int)))))*1) (ah U)) .dead))=true) (b:(decide (((0:Nat):Int)≤(γ .i64 ((γ .i64 ((j:Int)+(n:Int))) - ((2:Nat):Int)))))=true) (l:(decide ((γ .i64 ((γ .i64 ((j:Int)+(n:Int))) - ((2:Nat):Int)))<(M:Int)))=true) (m:(chk (.int .u32) (ζ (ε ((0+(δ (γ .i64 ((γ .i64 ((j:Int)+(n:Int))) - ((1:Nat):Int)))))*1) (ah U)) .dead))=true) (k:(decide (((0:Nat):Int)≤(γ .i64 ((γ .i64 ((j:Int)+(n:Int))) - ((1:Nat):Int)))))=true) (c:(decide ((γ .i64 ((γ .i64 ((j:Int)+(n:Int))) - ((1:Nat):Int)))<(M:Int)))=true) (i:(chk (.int .u32) (ζ (ε ((0+(δ (γ .i64 ((j:Int)+(n:Int)))))*1) (ah U)) .dead))=true) (d:(decide (((0:Nat):Int)≤(γ .i64 ((j:Int)+(n:Int)))))=true) (h:(decide ((γ .i64 ((j:Int)+(n:Int)))<(M:Int)))=true) (f:lit true (decide (((0:Nat):Int)≤(j:Int)))=true) (u:CO 196 [.agg [.int .u32 (Γ (ζ (ε ((0+(δ (γ .i64 ((j:Int)+(n:Int)))))*1) (ah U)) .dead)),.int .u32 (Γ (ζ (ε ((0+(δ (γ .i64 ((γ .i64 ((j:Int)+(n:Int))) - ((1:Nat):Int)))))*1) (ah U)) .dead)),.int .u32 (Γ (ζ (ε ((0+(δ (γ .i64 ((γ .i64 ((j:Int)+(n:Int))) - ((2:Nat):Int)))))*1) (ah U)) .dead))],.agg [.int .u32 (Γ (ζ (ε ((δ (γ .i64 ((n:Int) - ((1:Nat):Int))))*1) (ah v)) .dead)),.int .u32 (Γ (ζ (ε ((δ (γ .i64 ((n:Int) - ((2:Nat):Int))))*1) (ah v)) .dead)),.int .u32 0]] (.ret (.int .u64 (q:Int)))) (t:aj prog ap 197 [.ref 0 0 (0+(δ (j:Int))) ((δ (γ .i64 ((γ .i64 ((j:Int)+(n:Int)))+((1:Nat):Int)))) - (δ (j:Int))),.sl (ah v) v.length true,.int .u64 (q:Int)] [⟨(ah U),0,false,0,1,true⟩] (.ret (.bool true)) [⟨(ah U1),0,false,0,1,true⟩]) (B:aj prog ap 198 [.ref 0 0 (0+(δ (j:Int))) ((δ (γ .i64 ((γ .i64 ((j:Int)+(n:Int)))+((1:Nat):Int)))) - (δ (j:Int))),.sl (ah v) v.length true] [⟨(ah U1),0,false,0,1,true⟩] (.ret (.tup [])) [⟨(ah U2),0,false,0,1,true⟩]):ai prog ap [] nt (ac 1 (af f184)) ⟨[(4,.ref 0 0 0 a),(8,ω (p:Int)),(9,.ref 1 0 0 M),(10,.sl (ah v) v.length true),(11,ω (n:Int)),(12,ω (j:Int))],[(0,⟨(ah Q),0,false,0,1,true⟩),(1,⟨(ah U),0,false,0,1,true⟩)],.dead,[]⟩ (.normal) ⟨[(4,.ref 0 0 0 a),(8,ω (p:Int)),(9,.ref 1 0 0 M),(10,.sl (ah v) v.length true),(11,ω (n:Int)),(12,ω (γ .i64 ((j:Int) - ((1:Nat):Int))))],[(0,⟨(ο ((0+(δ (j:Int)))*1) (ah Q)++ [.int .u32 (γ .u32 (γ .u64 ((q:Int) - ((1:Nat):Int))))]++ε (((0+(δ (j:Int)))*1)+1) (ah Q)),0,false,0,1,true⟩),(1,⟨(ah U2),0,false,0,1,true⟩)],.dead,[]⟩:=pJ 184 [] 2 3 (.c h0 (.c e (.c x (.c e (.c r (.c s (.k 1 e (.c r (.c s (.c w (.c y (.c A (.c D (.c C (.c g (.c o (.c b (.c l (.c m (.c k (.c c (.c i (.c d (.c h (.c f .nil))))))))))))))))))))))))) (.c B (.c t (.c u .nil))) z
theorem ZN {nt:Nat} (x:130≤nt) (Q U U1 U2 v:List Nat) (a o M n j q:Nat) (h0:(Xqk (((0+(δ (j:Int)))*1)+1) (η (ah Q)))=true) (p:(decide (((0:Nat):Int)≤(j:Int)))=true) (u:(decide ((j:Int)<(a:Int)))=true) (B:(decide ((j:Int)≤(γ .i64 ((γ .i64 ((j:Int)+(n:Int)))+((1:Nat):Int)))))=true) (C:(decide ((γ .i64 ((γ .i64 ((j:Int)+(n:Int)))+((1:Nat):Int)))≤(M:Int)))=true) (t:(chk (.int .u32) (ζ (ε ((δ (γ .i64 ((n:Int) - ((2:Nat):Int))))*1) (ah v)) .dead))=true) (w:(decide (((0:Nat):Int)≤(γ .i64 ((n:Int) - ((2:Nat):Int)))))=true) (y:(decide ((γ .i64 ((n:Int) - ((2:Nat):Int)))<(v.length:Int)))=true) (A:(chk (.int .u32) (ζ (ε ((δ (γ .i64 ((n:Int) - ((1:Nat):Int))))*1) (ah v)) .dead))=true) (z:(decide (((0:Nat):Int)≤(γ .i64 ((n:Int) - ((1:Nat):Int)))))=true) (f:(decide ((γ .i64 ((n:Int) - ((1:Nat):Int)))<(v.length:Int)))=true) (m:(chk (.int .u32) (ζ (ε ((0+(δ (γ .i64 ((γ .i64 ((j:Int)+(n:Int))) - ((2:Nat):Int)))))*1) (ah U)) .dead))=true) (b:(decide (((0:Nat):Int)≤(γ .i64 ((γ .i64 ((j:Int)+(n:Int))) - ((2:Nat):Int)))))=true) (k:(decide ((γ .i64 ((γ .i64 ((j:Int)+(n:Int))) - ((2:Nat):Int)))<(M:Int)))=true) (l:(chk (.int .u32) (ζ (ε ((0+(δ (γ .i64 ((γ .i64 ((j:Int)+(n:Int))) - ((1:Nat):Int)))))*1) (ah U)) .dead))=true) (i:(decide (((0:Nat):Int)≤(γ .i64 ((γ .i64 ((j:Int)+(n:Int))) - ((1:Nat):Int)))))=true) (c:(decide ((γ .i64 ((γ .i64 ((j:Int)+(n:Int))) - ((1:Nat):Int)))<(M:Int)))=true) (h:(chk (.int .u32) (ζ (ε ((0+(δ (γ .i64 ((j:Int)+(n:Int)))))*1) (ah U)) .dead))=true) (d:(decide (((0:Nat):Int)≤(γ .i64 ((j:Int)+(n:Int)))))=true) (g:(decide ((γ .i64 ((j:Int)+(n:Int)))<(M:Int)))=true) (e:lit true (decide (((0:Nat):Int)≤(j:Int)))=true) (s:CO 196 [.agg [.int .u32 (Γ (ζ (ε ((0+(δ (γ .i64 ((j:Int)+(n:Int)))))*1) (ah U)) .dead)),.int .u32 (Γ (ζ (ε ((0+(δ (γ .i64 ((γ .i64 ((j:Int)+(n:Int))) - ((1:Nat):Int)))))*1) (ah U)) .dead)),.int .u32 (Γ (ζ (ε ((0+(δ (γ .i64 ((γ .i64 ((j:Int)+(n:Int))) - ((2:Nat):Int)))))*1) (ah U)) .dead))],.agg [.int .u32 (Γ (ζ (ε ((δ (γ .i64 ((n:Int) - ((1:Nat):Int))))*1) (ah v)) .dead)),.int .u32 (Γ (ζ (ε ((δ (γ .i64 ((n:Int) - ((2:Nat):Int))))*1) (ah v)) .dead)),.int .u32 0]] (.ret (.int .u64 (q:Int)))) (r:aj prog ap 197 [.ref 0 0 (0+(δ (j:Int))) ((δ (γ .i64 ((γ .i64 ((j:Int)+(n:Int)))+((1:Nat):Int)))) - (δ (j:Int))),.sl (ah v) v.length true,.int .u64 (q:Int)] [⟨(ah U),0,false,0,1,true⟩] (.ret (.bool false)) [⟨(ah U1),0,false,0,1,true⟩]):ai prog ap [] nt (ac 1 (af f184)) ⟨[(4,.ref 0 0 0 a),(8,ω (o:Int)),(9,.ref 1 0 0 M),(10,.sl (ah v) v.length true),(11,ω (n:Int)),(12,ω (j:Int))],[(0,⟨(ah Q),0,false,0,1,true⟩),(1,⟨(ah U),0,false,0,1,true⟩)],.dead,[]⟩ (.normal) ⟨[(4,.ref 0 0 0 a),(8,ω (o:Int)),(9,.ref 1 0 0 M),(10,.sl (ah v) v.length true),(11,ω (n:Int)),(12,ω (γ .i64 ((j:Int) - ((1:Nat):Int))))],[(0,⟨(ο ((0+(δ (j:Int)))*1) (ah Q)++ [.int .u32 (γ .u32 (q:Int))]++ε (((0+(δ (j:Int)))*1)+1) (ah Q)),0,false,0,1,true⟩),(1,⟨(ah U1),0,false,0,1,true⟩)],.dead,[]⟩:=pJ 184 [] 2 1 (.c h0 (.c p (.c u (.k 1 p (.c B (.c C (.c t (.c w (.c y (.c A (.c z (.c f (.c m (.c b (.c k (.c l (.c i (.c c (.c h (.c d (.c g (.c e .nil)))))))))))))))))))))) (.c r (.c s .nil)) x
theorem ZM {nt:Nat} (c:130≤nt) (Q U U1 U2 v:List Nat) (b a M n j q:Nat):ai prog ap [] nt (ac 1 (af f184)) ⟨[(4,.ref 0 0 0 b),(8,ω (a:Int)),(9,.ref 1 0 0 M),(10,.sl (ah v) v.length true),(11,ω (n:Int)),(12,ω (-1))],[(0,⟨(ah Q),0,false,0,1,true⟩),(1,⟨(ah U),0,false,0,1,true⟩)],.dead,[]⟩ (.exit 1) ⟨[(4,.ref 0 0 0 b),(8,ω (a:Int)),(9,.ref 1 0 0 M),(10,.sl (ah v) v.length true),(11,ω (n:Int)),(12,ω (-1))],[(0,⟨(ah Q),0,false,0,1,true⟩),(1,⟨(ah U),0,false,0,1,true⟩)],.dead,[]⟩:=pJ 184 [] 1 0 (.n 1 .nil) (.nil) c
theorem Ff {q Q k:Nat} (a:q<4294967296):bD (k+1) (4294967296*Q+q)=q::bD k Q:=by
 unfold bD;rw [Xwy,Xqc,Xwl];congr 1
 ·simp only [Xjg,Xvr,Xwz,jI];omega
 ·apply Xje;intro i _;simp only [Xvz,Xku];rw [show 32*(i+1)=32+32*i by omega,Xxo,← Xxx,jI,show (4294967296*Q+q) / 4294967296=Q by omega]
theorem GQ {k W V:Nat} (p:V<4294967296^(k+2)) (b:2147483648*4294967296^(k+1)≤V) (n:W<V*4294967296):
  W / V≤qR (W / 4294967296^(k+2) % 4294967296) (W / 4294967296^(k+1) % 4294967296) (W / 4294967296^k % 4294967296) (V / 4294967296^(k+1) % 4294967296) (V / 4294967296^k % 4294967296)∧
  qR (W / 4294967296^(k+2) % 4294967296) (W / 4294967296^(k+1) % 4294967296) (W / 4294967296^k % 4294967296) (V / 4294967296^(k+1) % 4294967296) (V / 4294967296^k % 4294967296)≤W / V+1∧
  W / 4294967296^(k+2) % 4294967296≤V / 4294967296^(k+1) % 4294967296∧2147483648≤V / 4294967296^(k+1) % 4294967296:=by
 have a:0<4294967296^k:=eX k;have y:4294967296^(k+1)=4294967296^k*4294967296:=Xq2 ..;have s:4294967296^(k+2)=4294967296^k*4294967296*4294967296:=by rw [Xq2,Xq2]
 rw [s] at p ⊢;rw [y] at b ⊢;generalize 4294967296^k=P at*
 simp only [← Xxx];have N:=Xq7 W P;have F:=Xqh W a;have G:=Xq7 V P;have u:=Xqh V a;have hVpos:0<V:=by
  have:=Xjb (show 0<2147483648 by omega) (Xjb a (show 0<4294967296 by omega));omega
 generalize j:W / P=T at*
 generalize c:V / P=D at*
 generalize L:W % P=w at*
 generalize hd:V % P=d at*
 have m:2147483648*4294967296≤D:=by
  rw [← c,Xzj a]
  calc 2147483648*4294967296*P=2147483648*(P*4294967296):=by rw [Xqo,Xqb 4294967296 P]
   _≤V:=b
 have t:D<4294967296*4294967296:=by
  rw [← c,Xqr a]
  calc V<P*4294967296*4294967296:=p
   _=4294967296*4294967296*P:=by rw [Xqo,Xqb P]
 have B:T<(D+1)*4294967296:=by
  rw [← j,Xqr a]
  calc W<V*4294967296:=n
   _≤(D+1)*P*4294967296:=Xqu _ (by rw [Xxn,Xqb D];omega)
   _=(D+1)*4294967296*P:=by rw [Xqo,Xqo,Xqb P]
 have i:W / V≤4294967295:=by
  have:W / V<4294967296:=by rw [Xqr hVpos,Xqb];exact n
  omega
 have E:=Xq7 W V;have A:=Xqh W hVpos;have z:T / 4294967296 / 4294967296<4294967296:=by omega
 have f:4294967296*(4294967296*(T / 4294967296 / 4294967296 % 4294967296)+T / 4294967296 % 4294967296)+T % 4294967296=T:=by omega
 have g:4294967296*(D / 4294967296 % 4294967296)+D % 4294967296=D:=by omega
 have o:0<D / 4294967296 % 4294967296:=by omega
 refine ⟨?_, ?_,by omega,by omega⟩
 ·rw [uU o,f,g];refine ⟨i, ?_⟩;have h:W / V*D*P<(T+1)*P:=by
   have q:W / V*D*P=W / V*(P*D):=by rw [Xqo,Xqb D]
   have l:W / V*(P*D)≤W / V*V:=Xq0 _ (by omega);rw [Xqb (W / V) V] at l;rw [Xxn,Xqb T P];omega
  have:=Xvp h;omega
 ·generalize r:qR _ _ _ _ _=e;have h:=(uU (x:=e) o).1 (by rw [r];exact φ _);rw [f,g] at h;obtain ⟨q,l⟩:=h;have J:e*V<W+V:=by
   have I:e*V=e*(P*D)+e*d:=by rw [← Xq9,G]
   have O:e*(P*D)=e*D*P:=by rw [Xqb P,Xqo]
   have H:e*D*P≤T*P:=Xqu _ l;have M:e*d≤e*P:=Xq0 _ (by omega);have K:e*P≤4294967295*P:=Xqu _ q;have C:2147483648*4294967296*P≤D*P:=Xqu _ m;rw [Xqb D] at C;rw [Xqb T] at H;omega
  have v:e*V<(W / V+2)*V:=by
   rw [Xxn,Xqb (W / V)];omega
  have:=Xvp v;omega
def PG (a v:List Nat) (m j:Nat):List Nat:=θ j 0++bD (m - j) (aB (a.drop j) / aB v)
def PH (a v:List Nat) (m j:Nat):List Nat:=a.take j++bD v.length (aB (a.drop j) % aB v)++θ (m - j) 0
def GF (a v:List Nat) (sh m j:Nat):St:=⟨[(4,.ref 0 0 0 m),(8,ω (sh:Int)),(9,.ref 1 0 0 (m+v.length)),(10,.sl (ah v) v.length true),(11,ω (v.length:Int)),(12,ω ((j:Int) - 1))],[(0,⟨ah (PG a v m j),0,false,0,1,true⟩),(1,⟨ah (PH a v m j),0,false,0,1,true⟩)],.dead,[]⟩
theorem Sm {n r:Nat} (h:r<4294967296^n):bD (n+1) r=bD n r++ [0]:=by
 rw [pM,jo,Xx7 h]
theorem QF {a v:List Nat} {m j:Nat} (d:j<m) (c:a.length=m+v.length) (e:bA v) (b:bA a) (f:0<aB v):PH a v m (j+1)=a.take j++bD (v.length+1) (4294967296*(aB (a.drop (j+1)) % aB v)+a.getD j 0)++θ (m - j - 1) 0:=by
 unfold PH;rw [Ff (b.getD j),List.take_add_one,show m - (j+1)=m - j - 1 by omega];have:a[j]? =some (a.getD j 0):=by rw [ν,ξ (by omega)];rfl
 rw [this];simp
theorem QE {a v:List Nat} {m j:Nat} (d:j<m) (b:bA v) (c:0<aB v):PH a v m j=a.take j++bD (v.length+1) (aB (a.drop j) % aB v)++θ (m - j - 1) 0:=by
 unfold PH;rw [Sm (Xq6 (Xqh _ c) (lG b)),show m - j=(m - j - 1)+1 by omega,Xxd];simp
theorem QD {a v:List Nat} {m j:Nat}:PG a v m (j+1)=θ j 0++0::bD (m - j - 1) (aB (a.drop (j+1)) / aB v):=by
 unfold PG;rw [Xzn,show m - (j+1)=m - j - 1 by omega];simp
theorem VP {V R' Q' x H:Nat} (a:0<V) (h:H=V*Q'+R'):(x+4294967296*H) / V=4294967296*Q'+(4294967296*R'+x) / V∧(x+4294967296*H) % V=(4294967296*R'+x) % V:=by
 subst h;have e:x+4294967296*(V*Q'+R')=4294967296*R'+x+V*(4294967296*Q'):=by
  rw [Xq9,Nat.mul_left_comm];omega
 rw [e];constructor
 ·rw [Xwb _ _ a,Xxr]
 ·rw [Xzl]
theorem DN {pre post:List Nat} {n W i:Nat} (h:i≤n):(pre++bD (n+1) W++post).getD (pre.length+i) 0=W / 4294967296^i % 4294967296:=by
 rw [ν,Xxb (by simp [aM];omega),Xjw (by omega),Nat.add_sub_cancel_left,mT (by omega),jo,jI];rfl
theorem IJ {v:List Nat} (a:bA v) {i:Nat} (h:i<v.length):v.getD i 0=aB v / 4294967296^i % 4294967296:=by
 have e:=mT (n:=aB v) h;rw [zw a,jo,jI] at e;rw [ν,e];rfl
def YP (sh m M n:Nat) (v Q U:List Nat) (j:Int):St:=⟨[(4,.ref 0 0 0 m),(8,ω (sh:Int)),(9,.ref 1 0 0 M),(10,.sl (ah v) v.length true),(11,ω (n:Int)),(12,ω j)],[(0,⟨ah Q,0,false,0,1,true⟩),(1,⟨ah U,0,false,0,1,true⟩)],.dead,[]⟩
abbrev aad (x2 x1 x0 y1 y0:Nat):List AV:= [.agg [.int .u32 (x2:Int),.int .u32 (x1:Int),.int .u32 (x0:Int)],.agg [.int .u32 (y1:Int),.int .u32 (y0:Int),.int .u32 0]]
theorem ZQ {nt:Nat} (h:130≤nt) (Q R U U1 U2 v:List Nat) (b m n j q:Nat) (s:v.length=n) (l:2≤n) (o:U.length=m+n) (p:j<m) (k:m+n<2^40) (i:q<4294967296) (g:0<q) (r:Q.length=m) (a:∀ y:Nat,ο j (ah Q)++ [Xxm .u32 (y:Int)]++ε (j+1) (ah Q)=ah (Q.set j y)) (e:Q.set j (q - 1)=R)
  (c0:CO 196 (aad (U.getD (j+n) 0) (U.getD (j+n - 1) 0) (U.getD (j+n - 2) 0) (v.getD (n - 1) 0) (v.getD (n - 2) 0)) (.ret (.int .u64 (q:Int))))
  (c1:aj prog ap 197 [.ref 0 0 j (n+1),.sl (ah v) v.length true,.int .u64 (q:Int)] (kY U) (.ret (.bool true)) (kY U1))
  (c2:aj prog ap 198 [.ref 0 0 j (n+1),.sl (ah v) v.length true] (kY U1) (.ret (.tup [])) (kY U2)):
  ai prog ap [] nt (ac 1 (af f184)) (YP b m (m+n) n v Q U (j:Int)) .normal (YP b m (m+n) n v R U2 ((j:Int) - 1)):=by
 have hbody:=ZP h Q U U1 U2 v m b (m+n) n j q;have f:γ .i64 ((j:Int) - ((1:Nat):Int))=(j:Int) - 1:=bU (by omega) (by omega);have c:(q+(18446744073709551616 - 1)) % 18446744073709551616=q - 1:=by omega
 have d:j+n+1 - j=n+1:=by omega
 simp (disch:=first|omega|(simp [aq,au]<;>omega)) only [av,Θ,Φ,aq,dW,bf,cV,bq,bQ,aS,gP,uC,gL,bB,aU,d,f,iN,Δ,c,mW,a] at hbody;rw [e] at hbody;unfold YP;apply hbody<;>first|exact True.intro|omega|assumption
theorem ZO {nt:Nat} (f:130≤nt) (Q R U U1 v:List Nat) (b m n j q:Nat) (p:v.length=n) (i:2≤n) (k:U.length=m+n) (l:j<m) (h:m+n<2^40) (g:q<4294967296) (o:Q.length=m) (a:∀ y:Nat,ο j (ah Q)++ [Xxm .u32 (y:Int)]++ε (j+1) (ah Q)=ah (Q.set j y)) (d:Q.set j q=R)
  (c0:CO 196 (aad (U.getD (j+n) 0) (U.getD (j+n - 1) 0) (U.getD (j+n - 2) 0) (v.getD (n - 1) 0) (v.getD (n - 2) 0)) (.ret (.int .u64 (q:Int))))
  (c1:aj prog ap 197 [.ref 0 0 j (n+1),.sl (ah v) v.length true,.int .u64 (q:Int)] (kY U) (.ret (.bool false)) (kY U1)):
  ai prog ap [] nt (ac 1 (af f184)) (YP b m (m+n) n v Q U (j:Int)) .normal (YP b m (m+n) n v R U1 ((j:Int) - 1)):=by
 have hbody:=ZN f Q U U1 U v m b (m+n) n j q;have e:γ .i64 ((j:Int) - ((1:Nat):Int))=(j:Int) - 1:=bU (by omega) (by omega);have c:j+n+1 - j=n+1:=by omega
 simp (disch:=first|omega|(simp [aq,au]<;>omega)) only [av,Θ,Φ,aq,dW,bf,cV,bq,bQ,aS,gP,uC,gL,bB,aU,c,e,mW,Δ,a] at hbody;rw [d] at hbody;unfold YP;apply hbody<;>first|exact True.intro|omega|assumption
theorem JB {l:List Nat} {j:Nat} (h:j<l.length) (y:Nat):ο j (ah l)++ [Xxm .u32 (y:Int)]++ε (j+1) (ah l)=ah (l.set j y):=by
 rw [kI,Mr,Xxs,if_pos h];simp [ah]
theorem Q0 (a b c d e:Nat):qR a b c d e<4294967296:=υ (Nat.min_le_left _ _) (by omega)
theorem QH {nt:Nat} (P:130≤nt) (a v:List Nat) (B m j k:Nat) (y:v.length=k+2) (C:j<m) (ha:a.length=m+v.length) (r:bA v) (u:bA a) (S:a.length<2^40) (s:2147483648*4294967296^(k+1)≤aB v):
  ai prog ap [] nt (ac 1 (af f184)) (GF a v B m (j+1)) .normal (GF a v B m j):=by
 have p:=lG r;have hVpos:0<aB v:=by have:=Xjb (show 0<2147483648 by omega) (eX (k+1));omega
 have hx:=u.getD j;have R:=Xqh (aB (a.drop (j+1))) hVpos;have D:=Xq7 (aB (a.drop (j+1))) (aB v);have E:aB (a.drop j)=a.getD j 0+4294967296*aB (a.drop (j+1)):=Lr (by omega);obtain ⟨w,t⟩:=VP (x:=a.getD j 0) hVpos D.symm;rw [← E] at w t;unfold GF;rw [show (((j+1:Nat):Int) - 1)=(j:Int) by omega];rw [QF C ha r u hVpos,QE C r hVpos,QD,t];have hQ:PG a v m j=θ j 0++(4294967296*(aB (a.drop (j+1)) % aB v)+a.getD j 0) / aB v::bD (m - j - 1) (aB (a.drop (j+1)) / aB v):=by
  unfold PG;rw [w,show m - j=(m - j - 1)+1 by omega,Ff]
  ·rfl
  ·rw [Xqr hVpos];omega
 rw [hQ];have O:4294967296*(aB (a.drop (j+1)) % aB v)+a.getD j 0<aB v*4294967296:=by omega
 generalize aB (a.drop (j+1)) / aB v=Q' at*
 generalize 4294967296*(aB (a.drop (j+1)) % aB v)+a.getD j 0=W at*
 have h:(a.take j).length=j:=by simp;omega
 generalize a.take j=pre at*
 obtain ⟨V,b2,Y,Z⟩:=GQ (k:=k) (W:=W) (by rw [← y];exact p) s O;have hpost:bA (θ (m - j - 1) 0):=bA.zeros _;have K:W<4294967296^(v.length+1):=by
  rw [Xq2];exact σ O (Xqu _ (Xjp p))
 have H:=DN (pre:=pre) (post:=θ (m - j - 1) 0) (n:=v.length) (W:=W) (i:=k+2) (by omega);have J:=DN (pre:=pre) (post:=θ (m - j - 1) 0) (n:=v.length) (W:=W) (i:=k+1) (by omega);have L:=DN (pre:=pre) (post:=θ (m - j - 1) 0) (n:=v.length) (W:=W) (i:=k) (by omega);have v1:=IJ r (i:=k+1) (by omega);have v0:=IJ r (i:=k) (by omega);rw [h] at H J L;have U:j+v.length=j+(k+2):=by rw [y]
 have N:j+v.length - 1=j+(k+1):=by omega
 have Q:j+v.length - 2=j+k:=by omega
 have M:v.length - 1=k+1:=by omega
 have T:v.length - 2=k:=by omega
 have hm:=Xqh (W / 4294967296^(k+1)) (show 0<4294967296 by omega);have I:=Xqh (W / 4294967296^k) (show 0<4294967296 by omega);have G:=Xqh (aB v / 4294967296^(k+1)) (show 0<4294967296 by omega);have z:=Xqh (aB v / 4294967296^k) (show 0<4294967296 by omega);have f:=Wh _ _ _ _ _ Y hm I G z Z;generalize hE:qR _ _ _ _ _=q at V b2 f;have d:q<4294967296:=by rw [← hE];exact Q0 ..
 have A:(pre++bD (v.length+1) W++θ (m - j - 1) 0).length=m+v.length:=by simp [aM,h];omega
 have htake:=Tu pre (θ (m - j - 1) 0) v true v.length W q rfl r d K hpost (by omega);have hqm:=Xq7 W (aB v);have X:=Xqh W hVpos;rw [h] at htake;rcases Xq8 (W / aB v) q with hlt|hge
 ·have o:q=W / aB v+1:=by omega
  have b:W<q*aB v:=by rw [o,Xxn,Xqb (W / aB v)];omega
  rw [if_pos b,Yq0 b] at htake;have hgive:=Q9 pre (θ (m - j - 1) 0) v true v.length (W+4294967296^(v.length+1) - q*aB v) rfl r (by omega) hpost (by omega);rw [h] at hgive;have g:(W+4294967296^(v.length+1) - q*aB v+aB v) % 4294967296^(v.length+1)=W % aB v:=by
   have e:W+4294967296^(v.length+1) - q*aB v+aB v=W % aB v+4294967296^(v.length+1):=by
    have:q*aB v=aB v*(W / aB v)+aB v:=by rw [o,Xxn,Xqb (W / aB v)];omega
    omega
   rw [e,Nat.add_mod_right,Δ];have:=Xqf (show 0<4294967296 by omega) (show v.length≤v.length+1 by omega);omega
  rw [g] at hgive;have c:=JB (l:=θ j 0++0::bD (m - j - 1) Q') (j:=j) (by simp);have F:(θ j 0++0::bD (m - j - 1) Q').set j (q - 1)=θ j 0++W / aB v::bD (m - j - 1) Q':=by
   rw [Xke _ _ (by simp),show q - 1=W / aB v by rw [o,Xwp]];simp
  have:=ZQ P _ _ _ _ _ v B m v.length j q rfl (by omega) A C (by omega) d (by rw [o];exact Nat.succ_pos _) (by simp [aM];omega) c F (by rw [N,Q,M,T,U,H,J,L,v1,v0];exact f) htake hgive;exact this
 ·have o:q=W / aB v:=by omega
  have b:¬ W<q*aB v:=by rw [o,Xqb];omega
  rw [if_neg b,Yq1 b] at htake;have g:W - q*aB v=W % aB v:=by rw [o,Xqb];omega
  rw [g] at htake;have c:=JB (l:=θ j 0++0::bD (m - j - 1) Q') (j:=j) (by simp);have F:(θ j 0++0::bD (m - j - 1) Q').set j q=θ j 0++W / aB v::bD (m - j - 1) Q':=by
   rw [Xke _ _ (by simp),o];simp
  have:=ZO P _ _ _ _ v B m v.length j q rfl (by omega) A C (by omega) d (by simp [aM];omega) c F (by rw [N,Q,M,T,U,H,J,L,v1,v0];exact f) htake;exact this
theorem QG {nt:Nat} (g:130≤nt) (a v:List Nat) (d m k:Nat) (e:v.length=k+2) (h:a.length=m+v.length) (i:bA v) (f:bA a) (c:a.length<2^40) (b:2147483648*4294967296^(k+1)≤aB v):
  ∀ j,j≤m→az prog ap [] nt (ac 1 (af f184)) (fun _=> .exit 1) (GF a v d m) (GF a v d m) j 0:=by
 intro j
 induction j with
 |zero=>exact fun _=> .done (ZM g (PG a v m 0) (PH a v m 0) [] [] v m d (m+v.length) v.length 0 0)
 |succ j ih=>exact fun l=> .next (QH g a v d m j k e (by omega) h i f c b) (ih (by omega))
theorem ZG (x y s r X1 b:Nat) (A Y Q U v:List Nat) (h0:lit true (decide ((ji x y)<((0:Nat):Int)))=true) (a:CO 183 [.sl (ah (digs x)) (digs x).length false,.sl (ah (digs y)) (digs y).length false] (.ret (ω (ji x y)))):CO 184 [.sl (ah (digs x)) (digs x).length false,.sl (ah (digs y)) (digs y).length false] (.ret (.tup [.nilS,.sl (ah (digs x)) (digs x).length false])):=pK [1] 1 1 (.c h0 .nil) (.c a .nil)
theorem ZH (x y s r X1 g:Nat) (A Y Q U v:List Nat) (h0:(chk (.int .u32) (ζ (ah (digs y)) .dead))=true) (a:(decide (((0:Nat):Int)<(((digs y).length:Nat):Int)))=true) (e:lit true ((((digs y).length:Nat):Int)==((1:Nat):Int))=true) (b:lit false (decide ((ji x y)<((0:Nat):Int)))=true) (c:CO 183 [.sl (ah (digs x)) (digs x).length false,.sl (ah (digs y)) (digs y).length false] (.ret (ω (ji x y)))) (d:CO 193 [.sl (ah (digs x)) (digs x).length false,.int .u32 (Γ (ζ (ah (digs y)) .dead))] (.ret (.tup [.sl (ah (digs X1)) (digs X1).length false,.int .u32 (r:Int)]))) (f:CO 161 [.sl [.int .u32 (r:Int)] 1 true] (.ret (.sl (ah (digs r)) (digs r).length false))):CO 184 [.sl (ah (digs x)) (digs x).length false,.sl (ah (digs y)) (digs y).length false] (.ret (.tup [.sl (ah (digs X1)) (digs X1).length false,.sl (ah (digs r)) (digs r).length false])):=pK [1] 2 2 (.c h0 (.k 1 a (.c e (.c b .nil)))) (.c f (.c d (.c c .nil)))
theorem ZI (x y s r X1 a:Nat) (A Y Q U v:List Nat) (h0:(decide (((0:Nat):Int)≤(v.length:Int)))=true) (j:(decide ((v.length:Int)≤(A.length:Int)))=true) (g:(decide (((0:Nat):Int)≤(γ .i64 ((A.length:Int) - (v.length:Int)))))=true) (o:(decide ((γ .i64 ((A.length:Int) - (v.length:Int)))=(γ .i64 ((A.length:Int) - (v.length:Int)))))=true) (p:(decide ((γ .i64 ((A.length:Int) - (v.length:Int)))≤((1099511627776:Nat):Int)))=true) (f:(chk (.int .u32) (ζ (ε ((δ (γ .i64 ((((digs y).length:Nat):Int) - ((1:Nat):Int))))*1) (ah (digs y))) .dead))=true) (h:(decide (((0:Nat):Int)≤(γ .i64 ((((digs y).length:Nat):Int) - ((1:Nat):Int)))))=true) (i:(decide ((γ .i64 ((((digs y).length:Nat):Int) - ((1:Nat):Int)))<(((digs y).length:Nat):Int)))=true) (n:lit false ((((digs y).length:Nat):Int)==((1:Nat):Int))=true) (m:lit false (decide ((ji x y)<((0:Nat):Int)))=true) (e:CO 183 [.sl (ah (digs x)) (digs x).length false,.sl (ah (digs y)) (digs y).length false] (.ret (ω (ji x y)))) (c:CO 194 [.int .u32 (Γ (ζ (ε ((δ (γ .i64 ((((digs y).length:Nat):Int) - ((1:Nat):Int))))*1) (ah (digs y))) .dead))] (.ret (ω (s:Int)))) (k:CO 195 [.sl (ah (digs x)) (digs x).length false,ω (s:Int)] (.ret (.own (ah A) A.length 1))) (l:CO 195 [.sl (ah (digs y)) (digs y).length false,ω (s:Int)] (.ret (.own (ah Y) Y.length 1))) (t:CO 161 [.sl (ο (Y.length*1) (ah Y)) Y.length true] (.ret (.sl (ah v) v.length true))) (q:aG prog ap [] 130 (.block 1 (.loop (ac 1 (af f184)))) ⟨[(0,.sl (ah (digs x)) (digs x).length false),(1,.sl (ah (digs y)) (digs y).length false),(4,.ref 0 0 0 (δ (γ .i64 ((A.length:Int) - (v.length:Int))))),(5,.nilS),(6,.dead),(7,.dead),(8,ω (s:Int)),(9,.ref 1 0 0 A.length),(10,.sl (ah v) v.length true),(11,ω (v.length:Int)),(12,ω (γ .i64 ((((δ (γ .i64 ((A.length:Int) - (v.length:Int)))):Nat):Int) - ((1:Nat):Int)))),(13,.dead),(14,.bool (decide ((ji x y)<((0:Nat):Int)))),(20,.bool ((((digs y).length:Nat):Int)==((1:Nat):Int))),(61,.dead),(106,.dead)],[(0,⟨(dX (δ (γ .i64 ((A.length:Int) - (v.length:Int)))) [.int .u32 0]),0,false,0,1,true⟩),(1,⟨(ah A),0,false,0,1,true⟩)],.dead,[]⟩ (.normal) ⟨[(4,.ref 0 0 0 a),(8,ω (s:Int)),(9,.ref 1 0 0 A.length),(11,ω (v.length:Int))],[(0,⟨(ah Q),0,false,0,1,true⟩),(1,⟨(ah U),0,false,0,1,true⟩)],.dead,[]⟩) (d:CO 161 [.sl (ο (a*1) (ah Q)) a true] (.ret (.sl (ah (digs X1)) (digs X1).length false))) (b:CO 199 [.sl (ο (((δ (v.length:Int)) - 0)*1) (ah U)) ((δ (v.length:Int)) - 0) true,ω (s:Int)] (.ret (.sl (ah (digs r)) (digs r).length false))):CO 184 [.sl (ah (digs x)) (digs x).length false,.sl (ah (digs y)) (digs y).length false] (.ret (.tup [.sl (ah (digs X1)) (digs X1).length false,.sl (ah (digs r)) (digs r).length false])):=pK [1] 2 0 (.k 1 h0 (.c j (.c g (.c o (.c p (.c f (.c h (.c i (.c n (.c m .nil)))))))))) (.c b (.c d (.l q (.c t (.c l (.c k (.c c (.c e .nil))))))))
abbrev dvB (x y s m:Nat) (A v:List Nat):St:=⟨[(0,.sl (ah (digs x)) (digs x).length false),(1,.sl (ah (digs y)) (digs y).length false),(4,.ref 0 0 0 m),(5,.nilS),(6,.dead),(7,.dead),(8,ω (s:Int)),(9,.ref 1 0 0 A.length),(10,.sl (ah v) v.length true),(11,ω (v.length:Int)),(12,ω ((m:Int) - 1)),(13,.dead),(14,.bool (decide (ji x y<((0:Nat):Int)))),(20,.bool (decide ((digs y).length=1))),(61,.dead),(106,.dead)],[(0,⟨ah (θ m 0),0,false,0,1,true⟩),(1,⟨ah A,0,false,0,1,true⟩)],.dead,[]⟩
abbrev dvC (s m:Nat) (A v Q U:List Nat):St:=⟨[(4,.ref 0 0 0 m),(8,ω (s:Int)),(9,.ref 1 0 0 A.length),(11,ω (v.length:Int))],[(0,⟨ah Q,0,false,0,1,true⟩),(1,⟨ah U,0,false,0,1,true⟩)],.dead,[]⟩
theorem ZJ (x y s r z m:Nat) (A Y Q U v:List Nat) (j:A.length=m+v.length) (e:A.length<2^40) (c:2≤(digs y).length) (f:(digs y).length<2^40) (k:0<m) (i:v.length≤U.length) (d:¬ ji x y<((0:Nat):Int)) (g:CO 183 [.sl (ah (digs x)) (digs x).length false,.sl (ah (digs y)) (digs y).length false] (.ret (ω (ji x y))))
  (c1:CO 194 [.int .u32 (((digs y).getD ((digs y).length - 1) 0:Nat):Int)] (.ret (ω (s:Int))))
  (c2:CO 195 [.sl (ah (digs x)) (digs x).length false,ω (s:Int)] (.ret (.own (ah A) A.length 1)))
  (c3:CO 195 [.sl (ah (digs y)) (digs y).length false,ω (s:Int)] (.ret (.own (ah Y) Y.length 1)))
  (c4:CO 161 [.sl (ah (ο Y.length Y)) Y.length true] (.ret (.sl (ah v) v.length true)))
  (l0:aG prog ap [] 130 (.block 1 (.loop (ac 1 (af f184)))) (dvB x y s m A v) .normal (dvC s m A v Q U))
  (c5:CO 161 [.sl (ah (ο m Q)) m true] (.ret (.sl (ah (digs z)) (digs z).length false)))
  (c6:CO 199 [.sl (ah (ο v.length U)) v.length true,ω (s:Int)] (.ret (.sl (ah (digs r)) (digs r).length false))):CO 184 [.sl (ah (digs x)) (digs x).length false,.sl (ah (digs y)) (digs y).length false] (.ret (.tup [.sl (ah (digs z)) (digs z).length false,.sl (ah (digs r)) (digs r).length false])):=by
 have h:=ZI x y s r z m A Y Q U v;have b:γ .i64 ((m:Int) - ((1:Nat):Int))=(m:Int) - 1:=yL (by omega);have a:A.length - v.length=m:=by omega
 simp (disch:=first|omega|(simp [aq,au]<;>omega)) only [cV,bf,gP,a,decide_true,av,Φ,uC,gL,bq,kO,dw,eC,eU,aU,kI,b,lC,Xjv] at h;apply h<;>first|exact True.intro|omega|assumption
abbrev dS (x:Nat):AV:= .sl (ah (digs x)) (digs x).length false
theorem gm.sl1 (a:List AV) (n:Nat) (b:Bool):gm (.ret (.sl a n b)) (.ret (.sl a n false)):=gm.ret rfl rfl (aN.sl a n b)
theorem oU {x:Nat} (h:0<x):0<(digs x).length:=by
 rcases Ξ (digs x).length with h0|h0
 ·have:=gV (n:=x) (m:=0) (by omega);simp at this;omega
 ·exact h0
theorem Mn {x:Nat} (h:(digs x).length=1):digs x= [x]∧x<4294967296:=by
 have b:=gV (n:=x) (m:=1) (by omega);rw [Φ,jI] at b;have a:=dz x
 match hd:digs x,h with
 | [d],_=>rw [hd] at a;simp [aB] at a;subst a;exact ⟨rfl,b⟩
theorem jG (x:Nat):x<4294967296^(digs x).length:=by
 have:=gV (n:=x) (φ _);rwa [jo] at this
theorem Ie {x k:Nat} (h:(digs x).length=k+1):4294967296^k≤x:=by
 rcases Xq8 x (4294967296^k) with h1|h1
 ·have:=gC (n:=x) (m:=k) (by rw [jo];exact h1);omega
 ·exact h1
theorem CK {x k:Nat} (h:x<4294967296^k):(digs x).length≤k:=gC (by rw [jo];exact h)
theorem Qy {x k:Nat} (h:4294967296^k≤x) (a:x<4294967296^(k+1)):(digs x).length=k+1:=by
 have b:=CK a;have c:=jG x;rcases Xq8 (digs x).length (k+1) with h3|h3
 ·have:=Xqf (show 0<4294967296 by omega) (show (digs x).length≤k by omega);omega
 ·omega
theorem mD {x y:Nat} (h:x≤y):(digs x).length≤(digs y).length:=CK (υ h (jG y))
theorem vF {y k:Nat} (h:(digs y).length=k+1):(digs y).getD k 0=y / 4294967296^k∧0<y / 4294967296^k∧y / 4294967296^k<4294967296:=by
 have a:=tJ y k;have d:=Ie h;have c:=jG y;rw [h] at c;have b:y / 4294967296^k<4294967296:=by
  rw [Xqr (eX k),Xqb,← Xq2];exact c
 rw [jo,jI,Δ b] at a;exact ⟨a,Xv0 d (eX k),b⟩
theorem NQ {y k:Nat} (h:(digs y).length=k+1):let s:=32 - cP (y / 4294967296^k)
  s≤31∧2147483648*4294967296^k≤2^s*y∧2^s*y<4294967296^(k+1):=by
 obtain ⟨_,b,c⟩:=vF h;obtain ⟨e,a,f,d⟩:=qy b;have l:e+1≤32:=by rw [← a];exact fk c
 intro s;have hs:s=31 - e:=by show 32 - cP (y / 4294967296^k)=_;rw [a];omega
 rw [hs];refine ⟨by omega, ?_, ?_⟩
 ·have i:2147483648=2^(31 - e)*2^e:=by rw [← Xxo,show 31 - e+e=31 by omega]
  rw [i,Xqo];refine Xq0 _ ?_;exact (Xzj (eX k)).1 f
 ·have j:y<2^(e+1)*4294967296^k:=(Xqr (eX k)).1 d;have g:4294967296^(k+1)=2^(31 - e)*(2^(e+1)*4294967296^k):=by
   rw [← Xqo,← Xxo,show 31 - e+(e+1)=32 by omega,jI,Xq2,Xqb]
  rw [g];exact Xzf j (Xqt _)
theorem Ls {a:List Nat} {m:Nat} (d:bA a) (h:m≤a.length):aB (a.drop m)=aB a / 4294967296^m:=by
 have c:=Ai a m h;have b:=lG (d.take m);rw [Xq5,Xjs h] at b;rw [c,Xwb _ _ (eX m),Xx7 b,Θ]
theorem Kc (a v:List Nat) (m:Nat):PG a v m m=θ m 0:=by unfold PG;rw [Xwk];simp [bD]
theorem Ke {a v:List Nat} {m:Nat} (c:a.length=m+v.length) (b:bA a) (h:aB (a.drop m)<aB v):PH a v m m=a:=by
 unfold PH;rw [Xwk,Δ h,← Hh (b.drop m) (by rw [Xx8];omega)];simp
theorem Bx (x y:Nat) (r:0<y) (hx:(digs x).length<2^39) (H:(digs y).length<2^39):CO 184 [dS x,dS y] (.ret (.tup [dS (x / y),dS (x % y)])):=by
 have a:=rT (digs x) (digs y) false false (by omega);rw [uO] at a;rcases Xq8 x y with hlt|hge
 ·have hs:ji x y= -1:=by unfold ji;rw [if_pos hlt]
  have h:=ZG x y 0 0 0 0 [] [] [] [] [] (by rw [hs];rfl) a;rw [Xx7 hlt,Δ hlt];exact h.out (gm.tup (.fit rfl rfl (aN.nilS false rfl) (.same .nil)))
 ·have hs:lit false (decide (ji x y<((0:Nat):Int)))=true:=by
   unfold ji;rw [if_neg (by omega)];split<;>rfl
  rcases Xq8 (digs y).length 2 with h1|h1
  ·have z:(digs y).length=1:=by have:=oU r;omega
   obtain ⟨N,h3⟩:=Mn z;have j:=O2 (digs x) false y r h3 (by omega) (bA.digs x);rw [dz] at j;have hr:x % y<y:=Xqh _ r;have V:=UZ [x % y] true (x % y) (by
    have h4:=gH (l:= [x % y]) (bA.cons (by omega) bA.nil);simpa [aB] using h4) (by simp)
   have h:=ZH x y 0 (x % y) (x / y) 0 [] [] [] [] [];have D:dS y= .sl (ah [y]) [y].length false:=by unfold dS;rw [N]
   rw [N] at h a;rw [D];refine h ?_ ?_ ?_ hs a (j.out (gm.tup (.fit rfl rfl (aN.sl _ _ _) (.same .nil)))) (V.out (gm.sl1 _ _ _))
   all_goals rfl
  ·obtain ⟨k,K⟩:∃ k,(digs y).length=k+2:=⟨(digs y).length - 2,by omega⟩
   obtain ⟨e,I,O⟩:=NQ K;generalize C:32 - cP (y / 4294967296^(k+1))=s at*
   obtain ⟨S,t2,T⟩:=vF K;have d:=RF _ T;rw [C,← S] at d;have c:=U6 (digs x) false s e hx (bA.digs x);have b:=U6 (digs y) false s e H (bA.digs y);have f:(digs (2^s*y)).length=k+2:=Qy (Xxa (by have:=eX (k+1);omega) I) O;have R:bA (FW s 0 (digs y)):=JC e _ _ (Xqt _) (bA.digs y);have u:bA (FW s 0 (digs x)):=JC e _ _ (Xqt _) (bA.digs x);have Q:aB (FW s 0 (digs y))=2^s*y:=by rw [JD,dz,Θ]
   have w:aB (FW s 0 (digs x))=2^s*x:=by rw [JD,dz,Θ]
   have P:=ww (FW s 0 (digs y)) _ (2^s*y) rfl (by rw [gH R,Q]) (by rw [nZ];omega);have hmono:=mD hge;have Nq:=nZ s (digs x) 0;have n:=nZ s (digs y) 0;rw [← Nq] at c;rw [← n] at b;generalize FW s 0 (digs x)=A at*
   generalize FW s 0 (digs y)=Y at*
   have o:aB (digs (2^s*y))=2^s*y:=dz _;have Z:bA (digs (2^s*y)):=bA.digs _;have hV:0<2^s*y:=Xjb (Xqt _) r;generalize hve:digs (2^s*y)=v at*
   obtain ⟨m,p⟩:∃ m,A.length=m+v.length:=⟨A.length - v.length,by omega⟩
   have M:aB (A.drop m)<aB v:=by
    rw [Ls u (by omega),w,o];refine σ ?_ I;rw [Xqr (eX m),Xqo,← Xxo];have G:2^s*x<2^s*4294967296^(digs x).length:=Xzf (jG x) (Xqt _);have B:2^s≤2^31:=Xqf (by omega) e;have X:2^s*4294967296^(digs x).length≤2147483648*4294967296^(digs x).length:=Xqu _ (Xxa B (by decide));have W:(digs x).length=k+1+m:=by omega
    rw [W] at G X;omega
   have hloop:=fun nt U=>QG (nt:=nt) U A v s m k f p Z u (by omega) (by rw [o];exact I) m (φ _)
   have E:PG A v m 0=bD m (x / y):=by
    unfold PG;rw [Xjq,Xjv,w,o,Xkp _ _ (Xqt s),List.replicate_zero,Xqd]
   have F:PH A v m 0=bD v.length (2^s*(x % y))++θ m 0:=by
    unfold PH;rw [Xjq,Xjv,w,o,Xvf,List.take_zero,Xqd]
   have i:x / y<4294967296^m:=by
    have D:=Ai A m (by omega);have G:=lG (u.take m);rw [Xq5,Xjs (by omega)] at G;rw [← Xkp x y (Xqt s),← w,Xqr hV,D,← o];have B:4294967296^m*(aB (A.drop m)+1)≤4294967296^m*aB v:=Xq0 _ M;rw [Xq9,Φ] at B;omega
   have L:=ww (bD m (x / y)) m (x / y) (aM ..) (wW (by rw [jo];exact i)) (by omega);have q:2^s*(x % y)<4294967296^v.length:=by
    rw [f];refine Xq6 ?_ O;exact Xzf (Xqh _ r) (Xqt _)
   have t:=QB (bD v.length (2^s*(x % y))) true s e (by rw [aM];omega) (bA.pad _ _);rw [qN,jo,Δ q,Nat.mul_div_cancel_left _ (Xqt s),aM] at t;have J:ο v.length (ah (bD v.length (2^s*(x % y))++θ m 0))=ah (bD v.length (2^s*(x % y))):=by
    rw [kI,Xx4 (by rw [aM];exact φ _),Xqi (by rw [aM];exact φ _)]
   have g:(digs y).length - 1=k+1:=by omega
   rw [← g] at d;refine ZJ x y s (x % y) (x / y) m A Y (bD m (x / y)) (bD v.length (2^s*(x % y))++θ m 0) v p (by omega) (by omega) (by omega) (by omega) (by rw [κ,aM];omega) (by simpa [lit] using hs) a d c b ?_ ?_ ?_ ?_
   ·rw [Xqw];rw [Φ,kI,Xqw] at P;exact P
   ·refine az.blk hloop (by simp) rfl ?_ ?_
    ·unfold GF;rw [Kc,Ke p u M,← p];exact aJ.of ⟨rfl,rfl,rfl,rfl,rfl,rfl,trivial⟩
    ·unfold GF;rw [E,F,← p];exact aJ.of ⟨rfl,rfl,rfl,rfl,trivial⟩
   ·rw [Φ,kI] at L;exact L.out (gm.sl1 _ _ _)
   ·rw [← kI,J];exact t.out (gm.sl1 _ _ _)
theorem acv (s t:List UInt8) (h0:lit false ((((digs (ae t)).length:Nat):Int)==((0:Nat):Int))=true) (b:CO 136 [.str t] (.ret (.sl (ah (digs (ae t))) (digs (ae t)).length false))) (a:CO 136 [.str s] (.ret (.sl (ah (digs (ae s))) (digs (ae s)).length false))) (d:CO 184 [.sl (ah (digs (ae s))) (digs (ae s)).length false,.sl (ah (digs (ae t))) (digs (ae t)).length false] (.ret (.tup [.sl (ah (digs ((ae s) / (ae t)))) (digs ((ae s) / (ae t))).length false,.sl (ah (digs ((ae s) % (ae t)))) (digs ((ae s) % (ae t))).length false]))) (c:CO 134 [.sl (ah (digs ((ae s) / (ae t)))) (digs ((ae s) / (ae t))).length false] (.ret (.str (aa ((ae s) / (ae t)))))) (e:CO 134 [.sl (ah (digs ((ae s) % (ae t)))) (digs ((ae s) % (ae t))).length false] (.ret (.str (aa ((ae s) % (ae t)))))):CO 165 [.str s,.str t] (.ret (.tup [.str (aa ((ae s) / (ae t))),.str (aa ((ae s) % (ae t))),.bool true])):=pK [] 1 0 (.c h0 .nil) (.c e (.c c (.c d (.c a (.c b .nil)))))
theorem aao (s t:List UInt8) (g:Nat) (b:CO 136 [.str s] (.ret (.sl (ah (digs (ae s))) (digs (ae s)).length false))) (a:CO 136 [.str t] (.ret (.sl (ah (digs (ae t))) (digs (ae t)).length false))) (d:aG prog ap [] 26 (.block 0 (.loop (ac 0 (af f164)))) ⟨[(0,.str s),(1,.str t),(4,.str []),(5,.sl (ah (digs (ae s))) (digs (ae s)).length false),(6,.sl (ah (digs (ae t))) (digs (ae t)).length false),(8,.dead),(15,.dead)],[],.dead,[]⟩ (.normal) ⟨[(5,.sl (ah (digs g)) (digs g).length false)],[],.dead,[]⟩) (c:CO 134 [.sl (ah (digs g)) (digs g).length false] (.ret (.str (aa g)))):CO 164 [.str s,.str t] (.ret (.str (aa g))):=pK [0] 0 0 .nil (.c c (.l d (.c a (.c b .nil))))
theorem aam {nt:Nat} (b:26≤nt) (x y:Nat) (h0:lit true (decide (((0:Nat):Int)<(((digs y).length:Nat):Int)))=true) (a:CO 184 [.sl (ah (digs x)) (digs x).length false,.sl (ah (digs y)) (digs y).length false] (.ret (.tup [.sl (ah (digs (x / y))) (digs (x / y)).length false,.sl (ah (digs (x % y))) (digs (x % y)).length false]))):ψ nt f164 ⟨[(5,.sl (ah (digs x)) (digs x).length false),(6,.sl (ah (digs y)) (digs y).length false)],[],.dead,[]⟩ (.normal) ⟨[(5,.sl (ah (digs y)) (digs y).length false),(6,.sl (ah (digs (x % y))) (digs (x % y)).length false)],[],.dead,[]⟩:=pJ 164 [] 1 1 (.c h0 .nil) (.c a .nil) b
theorem aan {nt:Nat} (a:26≤nt) (x y:Nat) (h0:lit false (decide (((0:Nat):Int)<(((digs y).length:Nat):Int)))=true):ψ nt f164 ⟨[(5,.sl (ah (digs x)) (digs x).length false),(6,.sl (ah (digs y)) (digs y).length false)],[],.dead,[]⟩ (.exit 0) ⟨[(5,.sl (ah (digs x)) (digs x).length false)],[],.dead,[]⟩:=pJ 164 [] 1 0 (.c h0 .nil) (.nil) a
theorem Vz (s:List UInt8) (k:Nat) (h0:lit true ((((digs (ae s)).length:Nat):Int)==((0:Nat):Int))=true) (a:CO 136 [.str s] (.ret (.sl (ah (digs (ae s))) (digs (ae s)).length false))):CO 116 [.str s] (.ret (ω 0)):=pK [] 1 1 (.c h0 .nil) (.c a .nil)
theorem VA (s:List UInt8) (k:Nat) (h0:(chk (.int .u32) (ζ (ε ((δ (γ .i64 ((((digs (ae s)).length:Nat):Int) - ((1:Nat):Int))))*1) (ah (digs (ae s)))) .dead))=true) (a:(decide (((0:Nat):Int)≤(γ .i64 ((((digs (ae s)).length:Nat):Int) - ((1:Nat):Int)))))=true) (e:(decide ((γ .i64 ((((digs (ae s)).length:Nat):Int) - ((1:Nat):Int)))<(((digs (ae s)).length:Nat):Int)))=true) (c:lit false ((((digs (ae s)).length:Nat):Int)==((0:Nat):Int))=true) (d:CO 136 [.str s] (.ret (.sl (ah (digs (ae s))) (digs (ae s)).length false))) (b:CO 140 [.int .u32 (Γ (ζ (ε ((δ (γ .i64 ((((digs (ae s)).length:Nat):Int) - ((1:Nat):Int))))*1) (ah (digs (ae s)))) .dead))] (.ret (ω (k:Int)))):CO 116 [.str s] (.ret (ω (γ .i64 ((γ .i64 (((32:Nat):Int)*(γ .i64 ((((digs (ae s)).length:Nat):Int) - ((1:Nat):Int)))))+(k:Int))))):=pK [] 1 0 (.c h0 (.c a (.c e (.c c .nil)))) (.c b (.c d .nil))
theorem mE {s:List UInt8} {n:Nat} (h:s.length≤4*n):(digs (ae s)).length≤n:=by
 have:=gC (vH s);omega
theorem KL (s:List UInt8) (hs:s.length<2^38):CO 136 [.str s] (.ret (dS (ae s))):=(pI s (by omega)).out (gm.sl1 _ _ _)
theorem qM (x:Nat):dh (digs x)=digs x:=by
 have:=gH (bA.digs x);rwa [dz] at this
theorem NV (x:Nat) (h:(digs x).length<2^36):CO 134 [dS x] (.ret (.str (aa x))):=mS (digs x) x false (qM x) (by omega) h
theorem Qz {x:Nat}:(digs x).length=0↔x=0:=by
 constructor
 ·intro h;rcases Ξ x with h0|h0
  ·exact h0
  ·have:=oU h0;omega
 ·intro h;subst h;rfl
theorem Hl (s t:List UInt8) (hs:s.length<2^37) (e:t.length<2^37) (h0:0<ae t):CO 165 [.str s,.str t] (.ret (.tup [.str (aa (ae s / ae t)),.str (aa (ae s % ae t)),.bool true])):=by
 have a:=mE (s:=s) (n:=2^35) (by omega);have b:=mE (s:=t) (n:=2^35) (by omega);have hp:=oU h0;have d:=mD (Xji (ae s) (ae t));have c:=mD (Xjp (Xqh (ae s) h0));have h:=acv s t;simp (disch:=first|omega|(simp [aq,au]<;>omega)) only [kO,dw,eC,eU] at h;exact h (by omega) (KL t (by omega)) (KL s (by omega)) (Bx _ _ h0 (by omega) (by omega)) (NV _ (by omega)) (NV _ (by omega))
def ae9 (p:Nat × Nat):St:=⟨[(5,dS p.1),(6,dS p.2)],[],.dead,[]⟩
def aal (x:Nat):St:=⟨[(5,dS x)],[],.dead,[]⟩
theorem MW {nt:Nat} (a:26≤nt):∀ (n y x:Nat),y<n→(digs x).length<2^36→(digs y).length<2^36→az prog ap [] nt (ac 0 (af f164)) (fun _=> .exit 0) ae9 aal (x,y) (Xxq x y):=by
 intro n
 induction n with
 |zero=>intro y x h;omega
 | succ n ih=>
  intro y x h e b;rcases Ξ y with rfl|h0
  ·rw [Nat.gcd_zero_right];exact .done (aan a x 0 rfl)
  ·have c:=Xqh x h0;have d:=mD (Xjp c);have hnext:=ih (x % y) y (by omega) b (by omega);rw [show Xxq y (x % y)=Xxq x y by rw [Xkf y,← Nat.gcd_rec,Xkf]] at hnext;refine .next ?_ hnext
   have hp:=oU h0;exact aam a x y (by rw [bq,bB];exact Yq0 hp) (Bx _ _ h0 (by omega) (by omega))
theorem WB (s t:List UInt8) (hs:s.length<2^37) (e:t.length<2^37):CO 164 [.str s,.str t] (.ret (.str (aa (Xxq (ae s) (ae t))))):=by
 have a:=mE (s:=s) (n:=2^35) (by omega);have d:=mE (s:=t) (n:=2^35) (by omega);have b:(digs (Xxq (ae s) (ae t))).length<2^36:=by
  rcases Ξ (ae s) with h|h
  ·rw [h,Xw2];omega
  ·have:=mD (Xkg (ae t) h);omega
 exact aao s t _ (KL s (by omega)) (KL t (by omega)) (az.blk (fun nt c=>MW c (ae t+1) (ae t) (ae s) (by omega) (by omega) (by omega)) (by simp) rfl (aJ.of ⟨rfl,rfl,trivial⟩) (aJ.of ⟨rfl,trivial⟩)) (NV _ b)
theorem Nr {y k:Nat} (h:(digs y).length=k+1):cP y=32*k+cP ((digs y).getD k 0):=by
 obtain ⟨b,_,_⟩:=vF h;have a:=Ie h;rw [← jo] at a;rw [b,pz a,jo]
theorem H4 (s:List UInt8) (hs:s.length<2^37):CO 116 [.str s] (.ret (ω ((cP (ae s):Nat):Int))):=by
 have g:=mE (s:=s) (n:=2^35) (by omega);rcases Ξ (ae s) with h0|h0
 ·have hp:=Qz.2 h0;have h:=Vz s 0 (by rw [hp];rfl) (KL s (by omega));rw [h0];exact h
 ·have hp:=oU h0;obtain ⟨k,d⟩:∃ k,(digs (ae s)).length=k+1:=⟨(digs (ae s)).length - 1,by omega⟩
  have c:(digs (ae s)).getD k 0<4294967296:=bA.getD (bA.digs _) k;have j:=EN _ c;have i:cP ((digs (ae s)).getD k 0)≤32:=fk c;rw [Nr d];have h:=VA s (cP ((digs (ae s)).getD k 0));rw [d] at h;have e:k+1 - 1=k:=rfl;have f:k<(digs (ae s)).length:=by omega
  generalize cP ((digs (ae s)).getD k 0)=b at*
  simp (disch:=first|omega|(simp [aq,au]<;>omega)) only [gP,e,av,Φ,uC,gL,cV,bf,bq,kO,dw,eC,eU,aU,tC,aS,bQ] at h;have a:=KL s (by omega);unfold dS at a;rw [d] at a;apply h<;>first|exact True.intro|omega|assumption|exact rfl
def nR (s:List UInt8):Bool:=match s with| []=>true|c::_=> !(c==0)
def vq (s:List UInt8):Bool:=nR s && decide (0<ae s)
def fu (neg:Bool) (n d:List UInt8):Bool:=nR n && nR d && decide (0<ae d) && decide (Xxq (ae n) (ae d)=1) && (!neg||decide (0<ae n))
theorem ab2 (s:List UInt8) (h0:lit true (nR s)=true) (a:CO 138 [.str s] (.ret (.bool (nR s)))) (b:CO 163 [.str s,.str []] (.ret (ω (ji (ae s) (ae []))))):CO 137 [.agg [.str []],.str s] (.ret (.bool (decide (((0:Nat):Int)<(ji (ae s) (ae [])))))):=pK [] 1 1 (.k 1 h0 .nil) (.c b (.c a .nil))
theorem ab3 (s:List UInt8) (h0:lit false (nR s)=true) (a:CO 138 [.str s] (.ret (.bool (nR s)))):CO 137 [.agg [.str []],.str s] (.ret (.bool false)):=pK [] 1 0 (.c h0 .nil) (.c a .nil)
theorem abd (neg:Bool) (n d:List UInt8) (g:Nat) (h0:lit true neg=true) (b:CO 164 [.str n,.str d] (.ret (.str (aa g)))) (a:CO 165 [.str n,.str (aa g)] (.ret (.tup [.str (aa (ae n / g)),.str (aa (ae n % g)),.bool true]))) (c:CO 165 [.str d,.str (aa g)] (.ret (.tup [.str (aa (ae d / g)),.str (aa (ae d % g)),.bool true]))):CO 139 [.bool neg,.str n,.str d] (.ret (.agg [.bool (!((aa (ae n / g))== [])),.str (aa (ae n / g)),.str (aa (ae d / g))])):=pK [] 1 1 (.k 4 h0 .nil) (.c c (.c a (.c b .nil)))
theorem abe (neg:Bool) (n d:List UInt8) (g:Nat) (h0:lit false neg=true) (b:CO 164 [.str n,.str d] (.ret (.str (aa g)))) (a:CO 165 [.str n,.str (aa g)] (.ret (.tup [.str (aa (ae n / g)),.str (aa (ae n % g)),.bool true]))) (c:CO 165 [.str d,.str (aa g)] (.ret (.tup [.str (aa (ae d / g)),.str (aa (ae d % g)),.bool true]))):CO 139 [.bool neg,.str n,.str d] (.ret (Ω false (aa (ae n / g)) (aa (ae d / g)))):=pK [] 1 0 (.k 4 h0 .nil) (.c c (.c a (.c b .nil)))
theorem OC (neg a:Bool) (n d b c:List UInt8) (h0:lit true (nR n)=true) (e:lit true (vq d)=true) (g:CO 137 [.agg [.str []],.str d] (.ret (.bool (vq d)))) (f:CO 138 [.str n] (.ret (.bool (nR n)))) (h:CO 139 [.bool neg,.str n,.str d] (.ret (Ω a b c))):CO 115 [Ω neg n d] (.ret (.bool ((a==neg) && ((b==n) && ((c==d) && true))))):=pK [] 2 3 (.k 6 h0 (.k 1 e (.n 1 .nil))) (.c h (.c f (.c g .nil)))
theorem OD (neg a:Bool) (n d f g:List UInt8) (h0:lit false (nR n)=true) (b:lit true (vq d)=true) (e:CO 137 [.agg [.str []],.str d] (.ret (.bool (vq d)))) (c:CO 138 [.str n] (.ret (.bool (nR n)))):CO 115 [Ω neg n d] (.ret (.bool false)):=pK [] 2 1 (.c h0 (.k 1 b (.n 1 .nil))) (.c c (.c e .nil))
theorem OE (neg a:Bool) (n d c e:List UInt8) (h0:lit false (vq d)=true) (b:CO 137 [.agg [.str []],.str d] (.ret (.bool (vq d)))):CO 115 [Ω neg n d] (.ret (.bool false)):=pK [] 2 0 (.k 1 h0 (.n 1 .nil)) (.c b .nil)
theorem Wy (neg:Bool) (n d:List UInt8) (h0:lit true (decide ((((cP (ae n)):Nat):Int)≤((400:Nat):Int)))=true) (a:lit true (fu neg n d)=true) (c:CO 115 [Ω neg n d] (.ret (.bool (fu neg n d)))) (b:CO 116 [.str n] (.ret (ω (((cP (ae n)):Nat):Int)))) (e:CO 116 [.str d] (.ret (ω (((cP (ae d)):Nat):Int)))):CO 84 [Ω neg n d] (.ret (.bool (decide ((((cP (ae d)):Nat):Int)≤((400:Nat):Int))))):=pK [] 2 3 (.k 1 h0 (.k 1 a (.n 3 .nil))) (.c e (.c b (.c c .nil)))
theorem Wz (neg:Bool) (n d:List UInt8) (h0:lit false (decide ((((cP (ae n)):Nat):Int)≤((400:Nat):Int)))=true) (a:lit true (fu neg n d)=true) (c:CO 115 [Ω neg n d] (.ret (.bool (fu neg n d)))) (b:CO 116 [.str n] (.ret (ω (((cP (ae n)):Nat):Int)))):CO 84 [Ω neg n d] (.ret (.bool false)):=pK [] 2 1 (.c h0 (.k 1 a (.n 3 .nil))) (.c b (.c c .nil))
theorem WA (neg:Bool) (n d:List UInt8) (h0:lit false (fu neg n d)=true) (a:CO 115 [Ω neg n d] (.ret (.bool (fu neg n d)))):CO 84 [Ω neg n d] (.ret (.bool false)):=pK [] 2 0 (.k 1 h0 (.n 3 .nil)) (.c a .nil)
theorem b_:aa 0= []:=ui []
theorem bC {x k:Nat} (h:x<2^(8*k)):(aa x).length≤k:=by
 rw [← IX h];have a:=(Xzt (· ==0) (l:=h_ k x)).length_le;have b:(h_ k x).length=k:=by
  have:∀ m,(h_ m x).length=m:=by
   intro m
   induction m with
   |zero=>rfl
   |succ m ih=>rw [nk,μ,ih]
  exact this k
 omega
theorem gJ (s:List UInt8):ae s<2^(8*s.length):=by
 have h:=qO s;rwa [show (256:Nat)=2^8 from rfl,← Xja] at h
theorem je {x:Nat} {s:List UInt8} (h:x≤ae s):(aa x).length≤s.length:=bC (υ h (gJ s))
theorem dL {x:Nat}:aa x= []↔x=0:=by
 constructor
 ·intro h;have:=aC x;rw [h] at this;exact this.symm
 ·intro h;subst h;exact b_
theorem zg {x y:Nat} (h:aa x=aa y):x=y:=by rw [← aC x,h,aC]
theorem kz (s:List UInt8):nR s=true↔aa (ae s)=s:=by
 rw [ui];cases s with
 |nil=>simp [nR]
 | cons c r=>
  simp only [nR,Xxv];by_cases h:c=0
  ·subst h;simp only [beq_self_eq_true,Bool.not_true,Xjr,if_true,false_iff];intro a;have:=(Xzt (· ==(0:UInt8)) (l:=r)).length_le;rw [a] at this;simp at this;omega
  ·simp [h]
theorem qz (x:Nat):nR (aa x)=true:=(kz _).2 (by rw [aC])
theorem vh (s:List UInt8):CO 138 [.str s] (.ret (.bool (nR s))):=by
 cases s with
 |nil=>exact NN [] rfl
 | cons c r=>
  have h:=NP (c::r) (by simp) rfl;have e:(!((((c::r).getD 0 0).toNat:Int)==(0:Int)))=nR (c::r):=by
   simp only [List.getD_cons_zero,nR];by_cases hc:c=0
   ·subst hc;rfl
   ·have:c.toNat ≠ 0:=fun h=>hc (by apply UInt8.toNat_inj.1;simpa using h)
    have a:((c.toNat:Int)==(0:Int))=false:=by simp;omega
    rw [a];simp [hc]
  rw [e] at h;exact h
theorem O0 (x:Nat):decide (((0:Nat):Int)<ji x (ae []))=decide (0<x):=by
 have:ae []=0:=rfl;rw [this];unfold ji;rcases Ξ x with rfl|h
 ·rfl
 ·rw [if_neg (by omega),if_pos h,Yq0 h];rfl
theorem Oi (s:List UInt8) (hs:s.length<2^37):CO 137 [.agg [.str []],.str s] (.ret (.bool (vq s))):=by
 have b:=vh s;unfold vq;cases a:nR s with
 |true=>
  have h:=ab2 s (by rw [a];rfl) b (Y3 s [] (by omega) (by simp));rw [O0] at h;exact h
 |false=>
  exact ab3 s (by rw [a];rfl) b
abbrev Ot (neg:Bool) (n d:Nat):AV:= .agg [.bool neg,.str (aa n),.str (aa d)]
abbrev ai_ (neg:Bool) (n d:Nat):AV:=Ot (neg && decide (0<n)) (n / Xxq n d) (d / Xxq n d)
theorem En {n d:Nat} (h:0<n):0<n / Xxq n d:=Xv0 (Xkg d h) (Nat.gcd_pos_of_pos_left d h)
theorem NA (neg:Bool) (n d:List UInt8) (k:n.length<2^36) (hd:d.length<2^36) (h0:0<ae d):CO 139 [.bool neg,.str n,.str d] (.ret (ai_ neg (ae n) (ae d))):=by
 have f:=WB n d (by omega) (by omega);have a:0<Xxq (ae n) (ae d):=Xj0 _ h0;have i:(aa (Xxq (ae n) (ae d))).length≤d.length:=je (Nat.gcd_le_right _ h0);have c:=Hl n (aa (Xxq (ae n) (ae d))) (by omega) (by omega) (by rw [aC];exact a);have b:=Hl d (aa (Xxq (ae n) (ae d))) (by omega) (by omega) (by rw [aC];exact a);rw [aC] at c b;cases neg with
 | true=>
  have h:=abd true n d (Xxq (ae n) (ae d)) rfl f c b;have e:(!(aa (ae n / Xxq (ae n) (ae d))== []))=(true && decide (0<ae n)):=by
   rcases Ξ (ae n) with h1|h1
   ·rw [h1,Nat.zero_div,b_];rfl
   ·have j:=En (d:=ae d) h1;have g:aa (ae n / Xxq (ae n) (ae d)) ≠ []:=fun h=>by have:=dL.1 h;omega
    simp [g,h1]
  rw [e] at h;exact h
 |false=>exact abe false n d (Xxq (ae n) (ae d)) rfl f c b
theorem iE {neg:Bool} {n d:List UInt8}:fu neg n d=true↔nR n=true∧nR d=true∧0<ae d∧Xxq (ae n) (ae d)=1∧(neg=true→0<ae n):=by
 unfold fu;cases neg<;>simp [and_assoc]
theorem KX {neg:Bool} {n d:List UInt8} (h:nR n=true) (i:nR d=true) (f:0<ae d):(((neg && decide (0<ae n))==neg) && ((aa (ae n / Xxq (ae n) (ae d))==n) && ((aa (ae d / Xxq (ae n) (ae d))==d) && true)))=fu neg n d:=by
 rw [Xjk,iE];simp only [π,beq_iff_eq,and_true];have k:0<Xxq (ae n) (ae d):=Xj0 _ f;constructor
 ·rintro ⟨a,b,c⟩
  refine ⟨h,i,f, ?_, ?_⟩
  ·have e:=congrArg ae c;rw [aC] at e;have j:=Nat.div_mul_cancel (Nat.gcd_dvd_right (ae n) (ae d));rw [e] at j;exact Nat.eq_of_mul_eq_mul_left f (by rw [j,Φ])
  ·intro g;subst g;simpa using a
 ·rintro ⟨_,_,_,hg,g⟩
  rw [hg,Xwz,Xwz];refine ⟨?_,(kz n).1 h,(kz d).1 i⟩;cases neg with
  |false=>rfl
  |true=>simp [g rfl]
theorem jp (neg:Bool) (n d:List UInt8) (k:n.length<2^36) (hd:d.length<2^36):CO 115 [Ω neg n d] (.ret (.bool (fu neg n d))):=by
 have hp:=Oi d (by omega);have g:=vh n;cases b:vq d with
 | false=>
  have h:=OE neg neg n d n d (by rw [b];rfl) hp;have e:fu neg n d=false:=by
   rw [Xw3];intro f;obtain ⟨_,j,i,_⟩:=iE.1 f;simp [vq,j,i] at b
  rw [e];exact h
 | true=>
  have a:nR d=true∧0<ae d:=by simpa [vq] using b
  cases c:nR n with
  | false=>
   have h:=OD neg neg n d n d (by rw [c];rfl) (by rw [b];rfl) hp g;have e:fu neg n d=false:=by
    rw [Xw3];intro f;have:=(iE.1 f).1;rw [c] at this;cases this
   rw [e];exact h
  |true=>
   have h:=OC neg (neg && decide (0<ae n)) n d (aa (ae n / Xxq (ae n) (ae d))) (aa (ae d / Xxq (ae n) (ae d))) (by rw [c];rfl) (by rw [b];rfl) hp g (NA neg n d k hd a.2);rw [KX c a.1 a.2] at h;exact h
def dK (neg:Bool) (n d:List UInt8):Bool:=fu neg n d && decide (cP (ae n)≤400) && decide (cP (ae d)≤400)
theorem ef (neg:Bool) (n d:List UInt8) (f:n.length<2^36) (hd:d.length<2^36):CO 84 [Ω neg n d] (.ret (.bool (dK neg n d))):=by
 have b:=jp neg n d f hd;have c:=H4 n (by omega);have e:=H4 d (by omega);unfold dK;cases a:fu neg n d with
 |false=>exact WA neg n d (by rw [a];rfl) b
 | true=>
  by_cases h3:cP (ae n)≤400
  ·have h:=Wy neg n d (by rw [cV,Yq0 h3];rfl) (by rw [a];rfl) b c e;rw [cV] at h;rw [Yq0 h3];exact h
  ·have h:=Wz neg n d (by rw [cV,Yq1 h3];rfl) (by rw [a];rfl) b c;rw [Yq1 h3];exact h
theorem R3 (x:Nat) (h0:lit true (decide ((x:Int)≤((0:Nat):Int)))=true):CO 114 [ω (x:Int)] (.ret (.str [])):=pK [] 1 1 (.c h0 .nil) (.nil)
theorem R4 (x:Nat) (h0:lit false (decide ((x:Int)≤((0:Nat):Int)))=true) (a:CO 134 [.sl [.int .u32 (γ .u32 (γ .i64 (Xxk (Xql (Xqe .i64) (x:Int) &&& Xql (Xqe .i64) ((4294967295:Nat):Int))))),.int .u32 (γ .u32 (Xqv (x:Int) (2^(min 32 64))))] 2 true] (.ret (.str (aa x)))):CO 114 [ω (x:Int)] (.ret (.str (aa x))):=pK [] 1 0 (.k 1 h0 .nil) (.c a .nil)
theorem SL (x:Nat) (h0:lit false (decide ((x:Int)<((0:Nat):Int)))=true) (a:CO 114 [ω (x:Int)] (.ret (.str (aa x)))) (b:CO 114 [ω 1] (.ret (.str (aa 1)))):CO 83 [ω (x:Int)] (.ret (Ω false (aa x) (aa 1))):=pK [] 1 0 (.k 4 h0 .nil) (.c b (.c a .nil))
theorem SZ (neg:Bool) (n d:List UInt8) (h0:lit true (!(fu neg n d))=true) (a:CO 115 [Ω neg n d] (.ret (.bool (fu neg n d)))):CO 85 [Ω neg n d] (.ret (ω 0)):=pK [] 2 3 (.k 1 h0 (.n 3 .nil)) (.c a .nil)
theorem S5 (neg:Bool) (n d:List UInt8) (h0:lit true ((neg==false) && ((n==(aa 0)) && ((d==(aa 1)) && true)))=true) (a:lit false (!(fu neg n d))=true) (c:CO 115 [Ω neg n d] (.ret (.bool (fu neg n d)))) (b:CO 83 [ω 0] (.ret (Ω false (aa 0) (aa 1)))):CO 85 [Ω neg n d] (.ret (ω 0)):=pK [] 2 2 (.c h0 (.k 3 a (.n 3 .nil))) (.c b (.c c .nil))
theorem S6 (neg:Bool) (n d:List UInt8) (h0:lit true neg=true) (a:lit false ((neg==false) && ((n==(aa 0)) && ((d==(aa 1)) && true)))=true) (e:lit false (!(fu neg n d))=true) (c:CO 115 [Ω neg n d] (.ret (.bool (fu neg n d)))) (b:CO 83 [ω 0] (.ret (Ω false (aa 0) (aa 1)))):CO 85 [Ω neg n d] (.ret (ω (-1))):=pK [] 3 4 (.c h0 (.k 1 a (.k 3 e (.n 3 .nil)))) (.c b (.c c .nil))
theorem S7 (neg:Bool) (n d:List UInt8) (h0:lit false neg=true) (a:lit false ((neg==false) && ((n==(aa 0)) && ((d==(aa 1)) && true)))=true) (e:lit false (!(fu neg n d))=true) (c:CO 115 [Ω neg n d] (.ret (.bool (fu neg n d)))) (b:CO 83 [ω 0] (.ret (Ω false (aa 0) (aa 1)))):CO 85 [Ω neg n d] (.ret (ω 1)):=pK [] 3 0 (.c h0 (.k 1 a (.k 3 e (.n 3 .nil)))) (.c b (.c c .nil))
theorem Ps {x:Nat} (a:x<9223372036854775808):dh [x % 4294967296,x / 4294967296]=digs x:=by
 have h:=gH (l:= [x % 4294967296,x / 4294967296]) (bA.cons (Xqh _ (by omega)) (bA.cons (by omega) bA.nil));rw [h];congr 1;simp only [aB,Xjg,Xq3];omega
theorem GA {x:Nat} (a:x<9223372036854775808):(digs x).length≤2:=CK (σ a (by decide))
theorem zh (x:Nat) (c:x<9223372036854775808):CO 114 [ω (x:Int)] (.ret (.str (aa x))):=by
 rcases Ξ x with rfl|h0
 ·rw [b_];exact R3 0 rfl
 ·have hd:=GA c;have a:=mS [x % 4294967296,x / 4294967296] x true (Ps c) (by simp) (by omega);have h:=R4 x;have d:(4294967295:Nat)<18446744073709551616:=by omega
  simp (disch:=first|omega|(simp [aq,au]<;>omega)) only [cV,dw,eC,eU,aeN,xK,aS,mW,Δ,mP,iQ,jI] at h;have b:¬ x≤0:=by omega
  apply h
  ·exact b
  ·exact a
theorem Fm (x:Nat) (a:x<9223372036854775808):CO 83 [ω (x:Int)] (.ret (Ot false x 1)):=
 SL x (by rw [bq];exact (by simp [lit])) (zh x a) (zh 1 (by omega))
theorem gq:CO 83 [ω 0] (.ret (Ot false 0 1)):=Fm 0 (by omega)
theorem pQ:CO 83 [ω 1] (.ret (Ot false 1 1)):=Fm 1 (by omega)
def jK (neg:Bool) (n d:List UInt8):Int:=if fu neg n d=true∧0<ae n then (if neg then -1 else 1) else 0
theorem yB {neg:Bool} {n d:List UInt8} (h:fu neg n d=true):((neg==false) && ((n==aa 0) && ((d==aa 1) && true)))=decide (ae n=0):=by
 obtain ⟨e,f,i,a,g⟩:=iE.1 h;have b:=(kz n).1 e;have c:=(kz d).1 f;rw [Xjk];simp only [π,beq_iff_eq,and_true,decide_eq_true_eq];constructor
 ·rintro ⟨_,hn,_⟩
  rw [hn,aC]
 ·intro h0;rw [h0] at b a;rw [Xw2] at a;rw [a] at c;refine ⟨?_,b.symm,c.symm⟩;cases neg with
  |false=>rfl
  |true=>have:=g rfl;omega
theorem gD (neg:Bool) (n d:List UInt8) (c:n.length<2^36) (hd:d.length<2^36):CO 85 [Ω neg n d] (.ret (ω (jK neg n d))):=by
 have b:=jp neg n d c hd;unfold jK;cases a:fu neg n d with
 |false=>
  have h:=SZ neg n d (by rw [a];rfl) b;rw [if_neg (by simp)];exact h
 | true=>
  by_cases h0:ae n=0
  ·have h:=S5 neg n d (by rw [yB a,Yq0 h0];rfl) (by rw [a];rfl) b gq;rw [if_neg (by omega)];exact h
  ·rw [if_pos ⟨rfl,by omega⟩];cases neg with
   |true=>exact S6 true n d rfl (by rw [yB a,Yq1 h0];rfl) (by rw [a];rfl) b gq
   |false=>exact S7 false n d rfl (by rw [yB a,Yq1 h0];rfl) (by rw [a];rfl) b gq
theorem oH {i:Nat} (h:i<2^62):ω (γ .i64 ((i:Int)+((1:Nat):Int)))= ω ((i+1:Nat):Int):=by rw [bU]<;>first|rfl|omega
def cy (fd fc:Nat→Nat→Nat→Nat):List Nat→List Nat→Nat→List Nat × Nat
 | [],_,c=>([],c)
 |x::l,m,c=>(fd x (m.headD 0) c::(cy fd fc l m.tail (fc x (m.headD 0) c)).1,(cy fd fc l m.tail (fc x (m.headD 0) c)).2)
def xp (x y c:Nat):Nat:=(x+y+c) % 4294967296
def vE (x y c:Nat):Nat:=(x+y+c) / 4294967296
def vX (x y c:Nat):Nat:=(x+4294967296 - y - c) % 4294967296
def sj (x y c:Nat):Nat:=if x<y+c then 1 else 0
def UV (x c:Nat):Nat:=x+c
def YY (x y c:Nat):Nat:=x+y+c
def UG (x c:Nat):Nat:=(x+18446744073709551616 - c) % 18446744073709551616
def YV (x y c:Nat):Nat:=(x+18446744073709551616 - y - c) % 18446744073709551616
theorem Gy (fd fc:Nat→Nat→Nat→Nat):∀ (l m:List Nat) (c:Nat),(cy fd fc l m c).1.length=l.length
 | [],_,_=>rfl
 |_::l,m,_=>by simp only [cy,μ,Gy fd fc l m.tail _]
theorem Gz {fd fc:Nat→Nat→Nat→Nat} (h:∀ x y c,fd x y c<4294967296):∀ (l m:List Nat) (c:Nat),bA (cy fd fc l m c).1
 | [],_,_=>bA.nil
 |_::l,m,_=>bA.cons (h _ _ _) (Gz h l m.tail _)
theorem Uw (m:List Nat):aB m=m.headD 0+4294967296*aB m.tail:=by cases m with|nil=>rfl|cons x l=>rfl
theorem bA.hd {m:List Nat} (h:bA m):m.headD 0<4294967296:=by cases m with|nil=>show 0<_;omega|cons x l=>exact h.head
theorem bA.tl {m:List Nat} (h:bA m):bA m.tail:=by cases m with|nil=>exact h|cons x l=>exact h.tail
theorem O3:∀ (l m:List Nat) (c:Nat),m.length≤l.length→aB (cy xp vE l m c).1+4294967296^l.length*(cy xp vE l m c).2=aB l+aB m+c
 | [],m,c,h=>by
  have:m= []:=List.length_eq_zero_iff.1 (by simpa using h);subst this;simp [cy,aB]
 |x::l,m,c,h=>by
  have b:=O3 l m.tail (vE x (m.headD 0) c) (by rw [Xv7];simp only [μ] at h;omega);have f:=Uw m;have hd:=Xq7 (x+m.headD 0+c) 4294967296;simp only [cy,aB,μ,Xq2];have e:4294967296^l.length*4294967296*(cy xp vE l m.tail (vE x (m.headD 0) c)).2=4294967296*(4294967296^l.length*(cy xp vE l m.tail (vE x (m.headD 0) c)).2):=by rw [Xqb (4294967296^l.length),Xqo]
  rw [e,f];generalize 4294967296^l.length*(cy xp vE l m.tail (vE x (m.headD 0) c)).2=P at*
  generalize aB (cy xp vE l m.tail (vE x (m.headD 0) c)).1=V at*
  have a:xp x (m.headD 0) c=(x+m.headD 0+c) % 4294967296:=rfl;have d:vE x (m.headD 0) c=(x+m.headD 0+c) / 4294967296:=rfl;rw [d] at b;rw [a];omega
theorem ND:∀ (l m:List Nat) (c:Nat),bA l→bA m→c≤1→m.length≤l.length→aB (cy vX sj l m c).1+aB m+c=aB l+4294967296^l.length*(cy vX sj l m c).2
 | [],m,c,_,_,_,h=>by
  have:m= []:=List.length_eq_zero_iff.1 (by simpa using h);subst this;simp [cy,aB]
 |x::l,m,c,hl,hm1,hc,h=>by
  have a:sj x (m.headD 0) c≤1:=by unfold sj;split<;>omega
  have f:=ND l m.tail (sj x (m.headD 0) c) hl.tail hm1.tl a (by rw [Xv7];simp only [μ] at h;omega);have b:=Uw m;have d:=hl.head;have g:=hm1.hd;simp only [cy,aB,μ,Xq2];have e:4294967296^l.length*4294967296*(cy vX sj l m.tail (sj x (m.headD 0) c)).2=4294967296*(4294967296^l.length*(cy vX sj l m.tail (sj x (m.headD 0) c)).2):=by rw [Xqb (4294967296^l.length),Xqo]
  rw [e,b];generalize 4294967296^l.length*(cy vX sj l m.tail (sj x (m.headD 0) c)).2=P at*
  generalize aB (cy vX sj l m.tail (sj x (m.headD 0) c)).1=V at*
  generalize m.headD 0=y at*
  have hd:vX x y c+y+c=x+4294967296*sj x y c:=by unfold vX sj;split<;>omega
  omega
theorem adj {x c:Nat} (a:x<4294967296) (b:c≤1):Xxm .u64 (γ .u64 ((γ .u64 (x:Int))+(c:Int)))= .int .u64 ((UV x c:Nat):Int):=by
 rw [kL,bQ,kL];unfold UV;congr 2;omega
theorem ajG {x y c:Nat} (b:x<4294967296) (d:y<4294967296) (a:c≤1):Xxm .u64 (γ .u64 (((UV x c:Nat):Int)+(γ .u64 (y:Int))))= .int .u64 ((YY x y c:Nat):Int):=by
 unfold UV YY;rw [kL,bQ,kL];congr 2;omega
theorem ajI (x y c:Nat):Xxm .u32 (γ .u32 ((YY x y c:Nat):Int))= .int .u32 ((xp x y c:Nat):Int):=by
 unfold YY xp;rw [mW]
theorem ajH (x y c:Nat):Xxm .u64 (Xqv ((YY x y c:Nat):Int) (2^(min 32 64)))= .int .u64 ((vE x y c:Nat):Int):=by
 unfold YY vE;rw [show min 32 64=32 from rfl,iQ]
theorem adl (x c:Nat):Xxm .u32 (γ .u32 ((UV x c:Nat):Int))= .int .u32 ((xp x 0 c:Nat):Int):=by
 unfold UV xp;rw [mW];rfl
theorem adk (x c:Nat):Xxm .u64 (Xqv ((UV x c:Nat):Int) (2^(min 32 64)))= .int .u64 ((vE x 0 c:Nat):Int):=by
 unfold UV vE;rw [show min 32 64=32 from rfl,iQ];rfl
theorem abf {x c:Nat} (a:x<4294967296) (b:c≤1):Xxm .u64 (γ .u64 ((γ .u64 (x:Int)) - (c:Int)))= .int .u64 ((UG x c:Nat):Int):=by
 rw [kL,iN];unfold UG;congr 2;omega
theorem aja {x y c:Nat} (b:x<4294967296) (d:y<4294967296) (a:c≤1):Xxm .u64 (γ .u64 (((UG x c:Nat):Int) - (γ .u64 (y:Int))))= .int .u64 ((YV x y c:Nat):Int):=by
 unfold UG YV;rw [kL,iN];congr 2;omega
theorem ajc {x y c:Nat} (b:x<4294967296) (d:y<4294967296) (a:c≤1):Xxm .u32 (γ .u32 ((YV x y c:Nat):Int))= .int .u32 ((vX x y c:Nat):Int):=by
 unfold YV vX;rw [mW];congr 2;omega
theorem p63:(2:Nat)^63=9223372036854775808:=by decide
theorem ajb {x y c:Nat} (b:x<4294967296) (d:y<4294967296) (a:c≤1):Xxm .u64 (Xqv ((YV x y c:Nat):Int) (2^(min 63 64)))= .int .u64 ((sj x y c:Nat):Int):=by
 unfold YV sj;rw [show min 63 64=63 from rfl,iQ,p63];congr 2;split<;>omega
theorem abh {x c:Nat} (a:x<4294967296) (b:c≤1):Xxm .u32 (γ .u32 ((UG x c:Nat):Int))= .int .u32 ((vX x 0 c:Nat):Int):=by
 unfold UG vX;rw [mW];congr 2;omega
theorem abg {x c:Nat} (a:x<4294967296) (b:c≤1):Xxm .u64 (Xqv ((UG x c:Nat):Int) (2^(min 63 64)))= .int .u64 ((sj x 0 c:Nat):Int):=by
 unfold UG sj;rw [show min 63 64=63 from rfl,iQ,p63];congr 2;split<;>omega
theorem HA {x y c:Nat} (b:x<4294967296) (d:y<4294967296) (a:c≤1):vE x y c≤1:=by unfold vE;omega
theorem NB {x y c:Nat}:sj x y c≤1:=by unfold sj;split<;>omega
theorem uB {d l:List Nat} {x:Nat}:ε ((δ (d.length:Int))*1) (ah (d++x::l))= [Xxm .u32 (x:Int)]++ah l:=by
 rw [av,Φ];unfold ah;rw [Xxt,List.drop_left' (by simp)];rfl
theorem uD {p s:List Nat} {x y:Nat}:ο ((0+(δ (p.length:Int)))*1) (ah (p++x::s))++ [Xxm .u32 (y:Int)]++ε (((0+(δ (p.length:Int)))*1)+1) (ah (p++x::s))=ah (p++y::s):=by
 rw [av,Θ,Φ];exact jh rfl
def HB (a b:List Nat) (na nb:Bool) (p:Nat × List Nat × Nat):St:=⟨[(0,.sl (ah a) a.length na),(1,.sl (ah b) b.length nb),(5,.ref 0 0 0 p.2.1.length),(6,.int .u64 (p.2.2:Int)),(21,ω (a.length:Int)),(22,ω (p.1:Int))],[(0,⟨(ah p.2.1),0,false,0,1,true⟩)],.dead,[]⟩
def FD (a b:List Nat) (na nb:Bool) (p:List Nat × Nat):St:=⟨[(0,.sl (ah a) a.length na),(1,.sl (ah b) b.length nb),(5,.ref 0 0 0 p.1.length),(6,.int .u64 (p.2:Int))],[(0,⟨(ah p.1),0,false,0,1,true⟩)],.dead,[]⟩
theorem Tj {nt:Nat} (D:59≤nt) (a b:List Nat) (J I:Bool) (E:bA a) (C:bA b) (Q:a.length<2^40) (t:List Nat):∀ (l d o e m:List Nat) (c:Nat),c≤1→d++l=a→o.length=d.length→e++m=b→(e.length=d.length∨(m= []∧e.length≤d.length))→
  az prog ap [] nt (ac 0 (af f135)) (fun _=> .exit 0) (HB a b J I) (FD a b J I) (d.length,o++(θ l.length 0++t),c) (o++((cy xp vE l m c).1++t),(cy xp vE l m c).2):=by
 intro l
 induction l with
 |nil=>
  intro d o e m c K hd B q j;rw [Xqa] at hd;subst hd;have P:decide ((d.length:Int)<(d.length:Int))=false:=Yq1 (by omega);exact .done (pN 135 [] 1 0 (.c (ay P) .nil) .nil D)
 | cons x l ih=>
  intro d o e m c K hd B q j;have g:x<4294967296:=E x (by rw [← hd];simp);have i:=K;have L:d.length+(l.length+1)=a.length:=by rw [← hd];simp
  have H:(ε ((δ (d.length:Int))*1) (ah a))= [Xxm .u32 (x:Int)]++ah l:=by rw [← hd];exact uB
  generalize ah l=ra at H;obtain ⟨w,r⟩:∃ w,w=o++(θ (x::l).length 0++t):=⟨_,rfl⟩
  have n:∀ v:Nat,ο ((0+(δ (d.length:Int)))*1) (ah w)++ [Xxm .u32 (v:Int)]++ε (((0+(δ (d.length:Int)))*1)+1) (ah w)=ah ((o++ [v])++(θ l.length 0++t)):=by
   intro v;rw [r,← B,μ,Xxd,Xqx,uD,Ψ];rfl
  have F:w.length=o.length+(l.length+1)+t.length:=by rw [r];simp;omega
  have p:∀ v:Nat,((o++ [v])++(θ l.length 0++t)).length=w.length:=by intro v;rw [F];simp;omega
  have h0:decide (((0:Nat):Int)≤(d.length:Int))=true:=Yq0 (by omega);have A:decide ((d.length:Int)<(a.length:Int))=true:=Yq0 (by omega);have M:decide ((d.length:Int)<(w.length:Int))=true:=Yq0 (by omega);have N:(Xqk (((0+(δ (d.length:Int)))*1)+1) (η (ah w)))=true:=by rw [Xxw,av,aq];omega
  rw [← r];cases m with
  |cons y m=>
   have s:e.length=d.length:=by rcases j with h|h;exact h;cases h.1
   have u:y<4294967296:=C y (by rw [← q];simp);have O:(ε ((δ (d.length:Int))*1) (ah b))= [Xxm .u32 (y:Int)]++ah m:=by rw [← q,← s];exact uB
   generalize ah m=rb at O;have z:decide ((d.length:Int)<(b.length:Int))=true:=Yq0 (by rw [← q];simp;omega);have f:=ih (d++ [x]) (o++ [xp x y c]) (e++ [y]) m (vE x y c) (HA g u i) (by rw [← hd];simp) (by simp [B]) (by rw [← q];simp) (.inl (by simp [s]));rw [κ,τ] at f;simp only [Ψ,Xxl] at f;simp only [cy,Xjh,Xzm,Xw7,Xv1,Xqx];refine .next ?_ f
   unfold HB;rw [show o++(xp x y c::(θ l.length 0++t))=(o++ [xp x y c])++(θ l.length 0++t) by simp,p,← n];have G:d.length<2^62:=by omega
   generalize d.length=k at*
   exact pN 135 [] 2 3 (.c N (.c h0 (.c M (.k 2 h0 (.c z (.c (aw z) (.k 1 h0 (.c A (.c (aw A) .nil))))))))) (.v 50 (.eq (oH G)) (.v 48 (.eq (ajH x y c)) (.v 46 (.eq (ajI x y c)) (.v 42 (.eq (ajG g u i)) (.v 39 (.ppt O) (.v 31 (.eq (adj g i)) (.v 27 (.ppt H) .nil))))))) D
  |nil=>
   have z:decide ((d.length:Int)<(b.length:Int))=false:=Yq1 (by rw [← q,Xqa];rcases j with h|h<;>omega);have f:=ih (d++ [x]) (o++ [xp x 0 c]) e [] (vE x 0 c) (HA g (by omega) i) (by rw [← hd];simp) (by simp [B]) q (.inr ⟨rfl,by rw [κ];rcases j with h|h<;>omega⟩);rw [κ,τ] at f;simp only [Ψ,Xxl] at f;simp only [cy,Xjh,Xzm,Xw7,Xv1,Xqx];refine .next ?_ f
   unfold HB;rw [show o++(xp x 0 c::(θ l.length 0++t))=(o++ [xp x 0 c])++(θ l.length 0++t) by simp,p,← n];have G:d.length<2^62:=by omega
   generalize d.length=k at*
   exact pN 135 [] 2 1 (.c N (.c h0 (.c M (.k 1 (ay z) (.k 1 h0 (.c A (.c (aw A) .nil))))))) (.v 50 (.eq (oH G)) (.v 48 (.eq (adk x c)) (.v 46 (.eq (adl x c)) (.v 31 (.eq (adj g i)) (.v 27 (.ppt H) .nil))))) D
def Kw (a b:List Nat) (na nb:Bool) (p:Nat × List Nat × Nat):St:=⟨[(0,.sl (ah a) a.length na),(1,.sl (ah b) b.length nb),(5,.ref 0 0 0 p.2.1.length),(6,.int .u64 (p.2.2:Int)),(13,ω (a.length:Int)),(14,ω (p.1:Int))],[(0,⟨(ah p.2.1),0,false,0,1,true⟩)],.dead,[]⟩
def NC (a b:List Nat) (na nb:Bool) (p:List Nat × Nat):St:=⟨[(0,.sl (ah a) a.length na),(1,.sl (ah b) b.length nb),(5,.ref 0 0 0 p.1.length),(6,.int .u64 (p.2:Int))],[(0,⟨(ah p.1),0,false,0,1,true⟩)],.dead,[]⟩
theorem RE {nt:Nat} (D:45≤nt) (a b:List Nat) (J I:Bool) (E:bA a) (C:bA b) (Q:a.length<2^40) (t:List Nat):∀ (l d o e m:List Nat) (c:Nat),c≤1→d++l=a→o.length=d.length→e++m=b→(e.length=d.length∨(m= []∧e.length≤d.length))→
  az prog ap [] nt (ac 0 (af f204)) (fun _=> .exit 0) (Kw a b J I) (NC a b J I) (d.length,o++(θ l.length 0++t),c) (o++((cy vX sj l m c).1++t),(cy vX sj l m c).2):=by
 intro l
 induction l with
 |nil=>
  intro d o e m c K hd B q j;rw [Xqa] at hd;subst hd;have P:decide ((d.length:Int)<(d.length:Int))=false:=Yq1 (by omega);exact .done (pN 204 [] 1 0 (.c (ay P) .nil) .nil D)
 | cons x l ih=>
  intro d o e m c K hd B q j;have f:x<4294967296:=E x (by rw [← hd];simp);have g:=K;have L:d.length+(l.length+1)=a.length:=by rw [← hd];simp
  have H:(ε ((δ (d.length:Int))*1) (ah a))= [Xxm .u32 (x:Int)]++ah l:=by rw [← hd];exact uB
  generalize ah l=ra at H;obtain ⟨w,s⟩:∃ w,w=o++(θ (x::l).length 0++t):=⟨_,rfl⟩
  have n:∀ v:Nat,ο ((0+(δ (d.length:Int)))*1) (ah w)++ [Xxm .u32 (v:Int)]++ε (((0+(δ (d.length:Int)))*1)+1) (ah w)=ah ((o++ [v])++(θ l.length 0++t)):=by
   intro v;rw [s,← B,μ,Xxd,Xqx,uD,Ψ];rfl
  have F:w.length=o.length+(l.length+1)+t.length:=by rw [s];simp;omega
  have p:∀ v:Nat,((o++ [v])++(θ l.length 0++t)).length=w.length:=by intro v;rw [F];simp;omega
  have h0:decide (((0:Nat):Int)≤(d.length:Int))=true:=Yq0 (by omega);have A:decide ((d.length:Int)<(a.length:Int))=true:=Yq0 (by omega);have M:decide ((d.length:Int)<(w.length:Int))=true:=Yq0 (by omega);have N:(Xqk (((0+(δ (d.length:Int)))*1)+1) (η (ah w)))=true:=by rw [Xxw,av,aq];omega
  rw [← s];cases m with
  |cons y m=>
   have u:e.length=d.length:=by rcases j with h|h;exact h;cases h.1
   have r:y<4294967296:=C y (by rw [← q];simp);have O:(ε ((δ (d.length:Int))*1) (ah b))= [Xxm .u32 (y:Int)]++ah m:=by rw [← q,← u];exact uB
   generalize ah m=rb at O;have z:decide ((d.length:Int)<(b.length:Int))=true:=Yq0 (by rw [← q];simp;omega);have i:=ih (d++ [x]) (o++ [vX x y c]) (e++ [y]) m (sj x y c) NB (by rw [← hd];simp) (by simp [B]) (by rw [← q];simp) (.inl (by simp [u]));rw [κ,τ] at i;simp only [Ψ,Xxl] at i;simp only [cy,Xjh,Xzm,Xw7,Xv1,Xqx];refine .next ?_ i
   unfold Kw;rw [show o++(vX x y c::(θ l.length 0++t))=(o++ [vX x y c])++(θ l.length 0++t) by simp,p,← n];have G:d.length<2^62:=by omega
   generalize d.length=k at*
   exact pN 204 [] 2 3 (.c N (.c h0 (.c M (.k 2 h0 (.c z (.c (aw z) (.k 1 h0 (.c A (.c (aw A) .nil))))))))) (.v 42 (.eq (oH G)) (.v 40 (.eq (ajb f r g)) (.v 38 (.eq (ajc f r g)) (.v 34 (.eq (aja f r g)) (.v 31 (.ppt O) (.v 23 (.eq (abf f g)) (.v 19 (.ppt H) .nil))))))) D
  |nil=>
   have z:decide ((d.length:Int)<(b.length:Int))=false:=Yq1 (by rw [← q,Xqa];rcases j with h|h<;>omega);have i:=ih (d++ [x]) (o++ [vX x 0 c]) e [] (sj x 0 c) NB (by rw [← hd];simp) (by simp [B]) q (.inr ⟨rfl,by rw [κ];rcases j with h|h<;>omega⟩);rw [κ,τ] at i;simp only [Ψ,Xxl] at i;simp only [cy,Xjh,Xzm,Xw7,Xv1,Xqx];refine .next ?_ i
   unfold Kw;rw [show o++(vX x 0 c::(θ l.length 0++t))=(o++ [vX x 0 c])++(θ l.length 0++t) by simp,p,← n];have G:d.length<2^62:=by omega
   generalize d.length=k at*
   exact pN 204 [] 2 1 (.c N (.c h0 (.c M (.k 1 (ay z) (.k 1 h0 (.c A (.c (aw A) .nil))))))) (.v 42 (.eq (oH G)) (.v 40 (.eq (abg f g)) (.v 38 (.eq (abh f g)) (.v 23 (.eq (abf f g)) (.v 19 (.ppt H) .nil))))) D
theorem Yk (a b w:List Nat) (e d:Bool) (c z:Nat) (f:(Xqk (((0+(δ (a.length:Int)))*1)+1) (η (ah w)))=true) (k:(decide (((0:Nat):Int)≤(a.length:Int)))=true) (l:(decide ((a.length:Int)<(w.length:Int)))=true) (g:(decide (((0:Nat):Int)≤(γ .i64 ((a.length:Int)+((1:Nat):Int)))))=true) (h:(decide ((γ .i64 ((a.length:Int)+((1:Nat):Int)))=(γ .i64 ((a.length:Int)+((1:Nat):Int)))))=true) (i:(decide ((γ .i64 ((a.length:Int)+((1:Nat):Int)))≤((1099511627776:Nat):Int)))=true) (m:(decide ((a.length:Int)<(b.length:Int)))=false) (j:CO 161 [.sl (ο (w.length*1) (ο ((0+(δ (a.length:Int)))*1) (ah w)++ [.int .u32 (γ .u32 (c:Int))]++ε (((0+(δ (a.length:Int)))*1)+1) (ah w))) w.length true] (.ret (.sl (ah (digs z)) (digs z).length true))) (n:aG prog ap [] 59 (.block 0 (.loop (ac 0 (af f135)))) ⟨[(0,.sl (ah a) a.length e),(1,.sl (ah b) b.length d),(4,.nilS),(5,.ref 0 0 0 (δ (γ .i64 ((a.length:Int)+((1:Nat):Int))))),(6,.int .u64 0),(7,.dead),(8,.dead),(13,.bool (decide ((a.length:Int)<(b.length:Int)))),(21,ω (a.length:Int)),(22,ω 0),(23,.dead),(35,.dead)],[(0,⟨(dX (δ (γ .i64 ((a.length:Int)+((1:Nat):Int)))) [.int .u32 0]),0,false,0,1,true⟩)],.dead,[]⟩ (.normal) ⟨[(0,.sl (ah a) a.length e),(1,.sl (ah b) b.length d),(5,.ref 0 0 0 w.length),(6,.int .u64 (c:Int))],[(0,⟨(ah w),0,false,0,1,true⟩)],.dead,[]⟩):CO 135 [.sl (ah a) a.length e,.sl (ah b) b.length d] (.ret (.sl (ah (digs z)) (digs z).length true)):=pK [0] 1 0 (.c f (.c k (.c l (.c g (.c h (.c i (.c (ay m) .nil))))))) (.c j (.l n .nil))
theorem Yl (a b w:List Nat) (e d:Bool) (c z:Nat) (f:(Xqk (((0+(δ (b.length:Int)))*1)+1) (η (ah w)))=true) (k:(decide (((0:Nat):Int)≤(b.length:Int)))=true) (l:(decide ((b.length:Int)<(w.length:Int)))=true) (g:(decide (((0:Nat):Int)≤(γ .i64 ((b.length:Int)+((1:Nat):Int)))))=true) (h:(decide ((γ .i64 ((b.length:Int)+((1:Nat):Int)))=(γ .i64 ((b.length:Int)+((1:Nat):Int)))))=true) (i:(decide ((γ .i64 ((b.length:Int)+((1:Nat):Int)))≤((1099511627776:Nat):Int)))=true) (m:(decide ((a.length:Int)<(b.length:Int)))=true) (j:CO 161 [.sl (ο (w.length*1) (ο ((0+(δ (b.length:Int)))*1) (ah w)++ [.int .u32 (γ .u32 (c:Int))]++ε (((0+(δ (b.length:Int)))*1)+1) (ah w))) w.length true] (.ret (.sl (ah (digs z)) (digs z).length true))) (n:aG prog ap [] 59 (.block 0 (.loop (ac 0 (af f135)))) ⟨[(0,.sl (ah b) b.length d),(1,.sl (ah a) a.length e),(4,.nilS),(5,.ref 0 0 0 (δ (γ .i64 ((b.length:Int)+((1:Nat):Int))))),(6,.int .u64 0),(7,.dead),(8,.dead),(13,.bool (decide ((a.length:Int)<(b.length:Int)))),(21,ω (b.length:Int)),(22,ω 0),(23,.dead),(35,.dead)],[(0,⟨(dX (δ (γ .i64 ((b.length:Int)+((1:Nat):Int)))) [.int .u32 0]),0,false,0,1,true⟩)],.dead,[]⟩ (.normal) ⟨[(0,.sl (ah b) b.length d),(1,.sl (ah a) a.length e),(5,.ref 0 0 0 w.length),(6,.int .u64 (c:Int))],[(0,⟨(ah w),0,false,0,1,true⟩)],.dead,[]⟩):CO 135 [.sl (ah a) a.length e,.sl (ah b) b.length d] (.ret (.sl (ah (digs z)) (digs z).length true)):=pK [0] 1 1 (.c f (.c k (.c l (.c g (.c h (.c i (.c (aw m) .nil))))))) (.c j (.l n .nil))
theorem Rz (a b w:List Nat) (e d:Bool) (c z:Nat) (f:(decide (((0:Nat):Int)≤(a.length:Int)))=true) (h:(decide ((a.length:Int)=(a.length:Int)))=true) (i:(decide ((a.length:Int)≤((1099511627776:Nat):Int)))=true) (g:CO 161 [.sl (ο (w.length*1) (ah w)) w.length true] (.ret (.sl (ah (digs z)) (digs z).length true))) (j:aG prog ap [] 45 (.block 0 (.loop (ac 0 (af f204)))) ⟨[(0,.sl (ah a) a.length e),(1,.sl (ah b) b.length d),(4,.nilS),(5,.ref 0 0 0 (δ (a.length:Int))),(6,.int .u64 0),(7,.dead),(8,.dead),(13,ω (a.length:Int)),(14,ω 0),(15,.dead),(27,.dead)],[(0,⟨(dX (δ (a.length:Int)) [.int .u32 0]),0,false,0,1,true⟩)],.dead,[]⟩ (.normal) ⟨[(0,.sl (ah a) a.length e),(1,.sl (ah b) b.length d),(5,.ref 0 0 0 w.length),(6,.int .u64 (c:Int))],[(0,⟨(ah w),0,false,0,1,true⟩)],.dead,[]⟩):CO 204 [.sl (ah a) a.length e,.sl (ah b) b.length d] (.ret (.sl (ah (digs z)) (digs z).length true)):=pK [0] 0 0 (.c f (.c h (.c i .nil))) (.c g (.l j .nil))
theorem Vd (s t:List UInt8) (z:Nat) (b:CO 136 [.str s] (.ret (.sl (ah (digs (ae s))) (digs (ae s)).length true))) (a:CO 136 [.str t] (.ret (.sl (ah (digs (ae t))) (digs (ae t)).length true))) (d:CO 135 [.sl (ah (digs (ae s))) (digs (ae s)).length true,.sl (ah (digs (ae t))) (digs (ae t)).length true] (.ret (.sl (ah (digs z)) (digs z).length true))) (c:CO 134 [.sl (ah (digs z)) (digs z).length true] (.ret (.str (aa z)))):CO 113 [.str s,.str t] (.ret (.str (aa z))):=pK [] 0 0 .nil (.c c (.c d (.c a (.c b .nil))))
theorem Yh (s t:List UInt8) (z:Nat) (a:(decide ((ji (ae s) (ae t))<((0:Nat):Int)))=true) (c:CO 136 [.str s] (.ret (.sl (ah (digs (ae s))) (digs (ae s)).length true))) (b:CO 136 [.str t] (.ret (.sl (ah (digs (ae t))) (digs (ae t)).length true))) (d:CO 183 [.sl (ah (digs (ae s))) (digs (ae s)).length true,.sl (ah (digs (ae t))) (digs (ae t)).length true] (.ret (ω (ji (ae s) (ae t))))):CO 188 [.str s,.str t] (.ret (.tup [.str [],.bool false])):=pK [] 1 1 (.c (aw a) .nil) (.c d (.c b (.c c .nil)))
theorem Yi (s t:List UInt8) (z:Nat) (a:(decide ((ji (ae s) (ae t))<((0:Nat):Int)))=false) (c:CO 136 [.str s] (.ret (.sl (ah (digs (ae s))) (digs (ae s)).length true))) (b:CO 136 [.str t] (.ret (.sl (ah (digs (ae t))) (digs (ae t)).length true))) (e:CO 183 [.sl (ah (digs (ae s))) (digs (ae s)).length true,.sl (ah (digs (ae t))) (digs (ae t)).length true] (.ret (ω (ji (ae s) (ae t))))) (d:CO 204 [.sl (ah (digs (ae s))) (digs (ae s)).length true,.sl (ah (digs (ae t))) (digs (ae t)).length true] (.ret (.sl (ah (digs z)) (digs z).length true))) (f:CO 134 [.sl (ah (digs z)) (digs z).length true] (.ret (.str (aa z)))):CO 188 [.str s,.str t] (.ret (.tup [.str (aa z),.bool true])):=pK [] 1 0 (.c (ay a) .nil) (.c f (.c d (.c e (.c b (.c c .nil)))))
theorem W9 (s t:List UInt8) (z:Nat) (b:CO 136 [.str s] (.ret (.sl (ah (digs (ae s))) (digs (ae s)).length true))) (a:CO 136 [.str t] (.ret (.sl (ah (digs (ae t))) (digs (ae t)).length true))) (d:CO 189 [.sl (ah (digs (ae s))) (digs (ae s)).length true,.sl (ah (digs (ae t))) (digs (ae t)).length true] (.ret (.sl (ah (digs z)) (digs z).length true))) (c:CO 134 [.sl (ah (digs z)) (digs z).length true] (.ret (.str (aa z)))):CO 175 [.str s,.str t] (.ret (.str (aa z))):=pK [] 0 0 .nil (.c c (.c d (.c a (.c b .nil))))
theorem Un:∀ (l m:List Nat) (c:Nat),bA l→bA m→c≤1→(cy xp vE l m c).2≤1
 | [],_,_,_,_,h=>h
 |x::l,m,c,hl,hm,h=>by
  simp only [cy];exact Un l m.tail _ hl.tail hm.tl (HA hl.head hm.hd h)
theorem FJ {a b:List Nat} (k i:Bool) (g:bA a) (e:bA b) (j:b.length≤a.length) (o:a.length<2^39):∃ (p:List Nat) (c:Nat),c≤1∧p.length=a.length∧bA (p++ [c])∧aB (p++ [c])=aB a+aB b∧∀ nt,59≤nt→
  az prog ap [] nt (ac 0 (af f135)) (fun _=> .exit 0) (HB a b k i) (FD a b k i) (0,θ (a.length+1) 0,0) (p++ [0],c):=by
 have m:=Un a b 0 g e (by omega);have l:=O3 a b 0 j;have d:=Gy xp vE a b 0;have f:=Gz (fd:=xp) (fc:=vE) (fun x y c=>Xqh _ (by omega)) a b 0;refine ⟨(cy xp vE a b 0).1,(cy xp vE a b 0).2,m,d,f.app (bA.cons (by omega) bA.nil), ?_,fun nt n=> ?_⟩
 ·rw [jr,d];simp only [aB,Xjg,Xq3] at l ⊢;exact l
 ·have h:=Tj n a b k i g e (by omega) [0] a [] [] [] b 0 (by omega) rfl rfl rfl (.inl rfl);rw [Xqd,Xqd,← Xzn] at h;exact h
theorem Ju {p:List Nat} {c n:Nat} (a:c≤1) (hp:p.length=n):ο ((0+(δ (n:Int)))*1) (ah (p++ [0]))++ [Xxm .u32 (γ .u32 (c:Int))]++ε (((0+(δ (n:Int)))*1)+1) (ah (p++ [0]))=ah (p++ [c]):=by
 subst hp;rw [mW,Δ (by omega)];exact uD (p:=p) (s:= []) (x:=0) (y:=c)
theorem Ym (a b:List Nat) (e d:Bool) (k:bA a) (i:bA b) (u:a.length<2^38) (v:b.length<2^38):CO 135 [.sl (ah a) a.length e,.sl (ah b) b.length d] (.ret (.sl (ah (digs (aB a+aB b))) (digs (aB a+aB b)).length true)):=by
 have t:∀ n:Nat,n<2^38→γ .i64 ((n:Int)+((1:Nat):Int))=((n+1:Nat):Int):=fun n l=>by rw [bQ,aS (by omega)]
 have hs:∀ (a b:List Nat) (e d:Bool) (p:List Nat) (c:Nat),(∀ nt,59≤nt→az prog ap [] nt (ac 0 (af f135)) (fun _=> .exit 0) (HB a b e d) (FD a b e d) (0,θ (a.length+1) 0,0) (p++ [0],c))→
   aG prog ap [] 59 (.block 0 (.loop (ac 0 (af f135)))) ⟨[(0,.sl (ah a) a.length e),(1,.sl (ah b) b.length d),(5,.ref 0 0 0 (a.length+1)),(6,.int .u64 ((0:Nat):Int)),(21,ω (a.length:Int)),(22,ω ((0:Nat):Int))],[(0,⟨ah (θ (a.length+1) 0),0,false,0,1,true⟩)],.dead,[]⟩ .normal (FD a b e d (p++ [0],c)):=by
  intro a b e d p c j;have h:=az.blk (s:=HB a b e d (0,θ (a.length+1) 0,0)) (s':=FD a b e d (p++ [0],c)) (id:=0) j (by simp) rfl (aJ.refl _) (aJ.refl _);unfold HB at h;simp only [Xxi] at h;exact h
 rcases Xq8 a.length b.length with hlt|hge
 ·obtain ⟨p,c,m,hp,g,r,j⟩:=FJ d e i k (Xjp hlt) (by omega);have f:=Yl a b (p++ [0]) e d c (aB a+aB b);have o:=hs b a d e p c j;rw [t b.length v,av (b.length+1),lC,Ju m hp] at f;have q:(p++ [0]).length=b.length+1:=by rw [κ,hp];rfl
  exact f (by rw [Xxw,av];unfold ah;rw [Xxp];omega) (Yq0 (by omega)) (Yq0 (by omega)) (Yq0 (by omega)) (Yq0 rfl) (Yq0 (by omega)) (Yq0 (by omega))
   (ww (p++ [c]) _ _ (by simp) (by rw [gH g,r,Xxr]) (by omega)) fun nt l=>(o nt l).weak (aJ.of ⟨rfl,rfl,rfl,rfl,rfl,rfl,trivial⟩) (aJ.refl _)
 ·obtain ⟨p,c,m,hp,g,r,j⟩:=FJ e d k i hge (by omega);have f:=Yk a b (p++ [0]) e d c (aB a+aB b);have o:=hs a b e d p c j;rw [t a.length u,av (a.length+1),lC,Ju m hp] at f;have q:(p++ [0]).length=a.length+1:=by rw [κ,hp];rfl
  exact f (by rw [Xxw,av];unfold ah;rw [Xxp];omega) (Yq0 (by omega)) (Yq0 (by omega)) (Yq0 (by omega)) (Yq0 rfl) (Yq0 (by omega)) (Yq1 (by omega))
   (ww (p++ [c]) _ _ (by simp) (by rw [gH g,r]) (by omega)) fun nt l=>(o nt l).weak (aJ.of ⟨rfl,rfl,rfl,rfl,rfl,rfl,trivial⟩) (aJ.refl _)
theorem Kv {a b:List Nat} (k i:Bool) (g:bA a) (f:bA b) (j:b.length≤a.length) (n:aB b≤aB a) (q:a.length<2^39):∃ (p:List Nat) (c:Nat),p.length=a.length∧bA p∧aB p=aB a - aB b∧∀ nt,45≤nt→
  az prog ap [] nt (ac 0 (af f204)) (fun _=> .exit 0) (Kw a b k i) (NC a b k i) (0,θ a.length 0,0) (p,c):=by
 have o:=ND a b 0 g f (by omega) j;have d:=Gy vX sj a b 0;have e:=Gz (fd:=vX) (fc:=sj) (fun x y c=>Xqh _ (by omega)) a b 0;have l:=lG e;rw [d] at l;refine ⟨(cy vX sj a b 0).1,(cy vX sj a b 0).2,d,e, ?_,fun nt m=> ?_⟩
 ·have h0:(cy vX sj a b 0).2=0:=by
   rcases Ξ (cy vX sj a b 0).2 with h|h
   ·exact h
   ·have:=Xq0 (4294967296^a.length) h;omega
  rw [h0] at o;omega
 ·have h:=RE m a b k i g f (by omega) [] a [] [] [] b 0 (by omega) rfl rfl rfl (.inl rfl);rw [Xqd,Xqd,Xqa,Xqa] at h;exact h
theorem RA (a b:List Nat) (g d:Bool) (k:bA a) (j:bA b) (i:b.length≤a.length) (l:aB b≤aB a) (r:a.length<2^38):CO 204 [.sl (ah a) a.length g,.sl (ah b) b.length d] (.ret (.sl (ah (digs (aB a - aB b))) (digs (aB a - aB b)).length true)):=by
 obtain ⟨p,c,hp,e,q,m⟩:=Kv g d k j i l (by omega);have f:=Rz a b p g d c (aB a - aB b);have h:=az.blk (s:=Kw a b g d (0,θ a.length 0,0)) (s':=NC a b g d (p,c)) (id:=0) m (by simp) rfl (aJ.refl _) (aJ.refl _);unfold Kw at h;simp only [Xxi] at h;rw [av,lC] at f;have n:ο (p.length*1) (ah p)=ah p:=by rw [Φ,kI,Xqw]
 exact f (Yq0 (by omega)) (Yq0 rfl) (Yq0 (by omega)) (ww p _ _ rfl (by rw [gH e,q]) (by omega)) fun nt o=>(h nt o).weak (aJ.of ⟨rfl,rfl,rfl,rfl,rfl,rfl,trivial⟩) (aJ.refl _)
theorem mC {s:List UInt8} {n:Nat} (hs:s.length≤4*n):(digs (ae s)).length≤n:=by
 have h:=qO s;refine gC (σ h ?_);rw [show (256:Nat)=2^8 from rfl,← Xja];exact Xqf (by omega) (by omega)
theorem Ig {x y:Nat} (h:y≤x):(digs y).length≤(digs x).length:=by
 refine gC (υ h ?_);rw [Xja];exact jG x
theorem J4 {x y m n:Nat} (c:(digs x).length≤m) (d:(digs y).length≤n):(digs (x*y)).length≤m+n:=by
 refine gC ?_;have a:=σ (jG x) (Xqf (by omega) c);have b:=σ (jG y) (Xqf (by omega) d);rw [Xq9,Xxo,Xja,Xja];exact Nat.mul_lt_mul'' a b
theorem J3 {x y n:Nat} (a:(digs x).length≤n) (b:(digs y).length≤n):(digs (x+y)).length≤n+1:=by
 refine gC ?_;have c:=σ (jG x) (Xqf (by omega) a);have d:=σ (jG y) (Xqf (by omega) b);rw [Xja,Xq2];have:(2:Nat)^32=4294967296:=by decide
 rw [this];generalize 4294967296^n=P at*
 omega
theorem RW (s t:List UInt8) (hs:s.length<2^36) (d:t.length<2^36):CO 113 [.str s,.str t] (.ret (.str (aa (ae s+ae t)))):=by
 have a:=mC (s:=s) (n:=2^34) (by omega);have b:=mC (s:=t) (n:=2^34) (by omega);have c:=J3 a b;have h:=Ym (digs (ae s)) (digs (ae t)) true true (bA.digs _) (bA.digs _) (by omega) (by omega);rw [dz,dz] at h;exact Vd s t _ (pI s (by omega)) (pI t (by omega)) h (mS _ _ true (qM _) (by omega) (by omega))
theorem Ib (s t:List UInt8) (hs:s.length<2^36):CO 183 [.sl (ah (digs (ae s))) (digs (ae s)).length true,.sl (ah (digs (ae t))) (digs (ae t)).length true] (.ret (ω (ji (ae s) (ae t)))):=by
 have h:=rT (digs (ae s)) (digs (ae t)) true true (xW (by omega));rw [uO] at h;exact h
theorem Jo (x y:Nat):decide (ji x y<((0:Nat):Int))=decide (x<y):=by
 unfold ji;by_cases h:x<y
 ·rw [if_pos h,Yq0 h];rfl
 ·rw [if_neg h,Yq1 h];split<;>rfl
theorem R8 (s t:List UInt8) (hs:s.length<2^36) (a:t.length<2^36) (h:ae s<ae t):CO 188 [.str s,.str t] (.ret (.tup [.str [],.bool false])):=
 Yh s t 0 (by rw [Jo];exact Yq0 h) (pI s (by omega)) (pI t (by omega)) (Ib s t hs)
theorem R9 (s t:List UInt8) (hs:s.length<2^36) (c:t.length<2^36) (h:ae t≤ae s):CO 188 [.str s,.str t] (.ret (.tup [.str (aa (ae s - ae t)),.bool true])):=by
 have b:=mC (s:=s) (n:=2^34) (by omega);have a:=Ig (Nat.sub_le (ae s) (ae t));have f:=RA (digs (ae s)) (digs (ae t)) true true (bA.digs _) (bA.digs _) (Ig h) (by rw [dz,dz];exact h) (by omega);rw [dz,dz] at f;exact Yi s t _ (by rw [Jo];exact Yq1 (by omega)) (pI s (by omega)) (pI t (by omega)) (Ib s t hs) f (mS _ _ true (qM _) (by omega) (by omega))
def ag (l:List Nat):List AV:=l.map fun (d:Nat)=>ω (d:Int)
theorem bK (l:List Nat):(ag l).length=l.length:=by simp [ag]
theorem EG (a b:List Nat):ag (a++b)=ag a++ag b:=by simp [ag]
theorem ep {l:List Nat} {k:Nat} (h:k<l.length):ζ (ε k (ag l)) .dead= ω ((l.getD k 0:Nat):Int):=by
 unfold ag;rw [← Xjz,Xxh h,Xqc,Xjh,ν,ξ h];rfl
theorem ct (l:List Nat) (k:Nat):ο k (ag l)=ag (l.take k):=by unfold ag;rw [Xwo]
theorem Ep (l:List Nat) (k:Nat):ε k (ag l)=ag (l.drop k):=by unfold ag;rw [Xjz]
theorem db (x:Int):chk (.int .i64) (ω x)=true:=rfl
theorem Iy {l:List Nat} {j:Nat} (h:j<l.length) (y:Nat):ο j (ag l)++ [ω (y:Int)]++ε (j+1) (ag l)=ag (l.set j y):=by
 rw [ct,Ep,Xxs,if_pos h];simp [ag]
theorem xm (m:Nat):dX m [ω 0]=ag (θ m 0):=by
 unfold dX ag
 induction m with
 |zero=>rfl
 |succ m ih=>rw [Xxd,List.flatten_cons,ih,Xxd];rfl
theorem iD (l:List Nat) (x:Nat):ag l++ [ω (x:Int)]=ag (l++ [x]):=by rw [EG];rfl
theorem EH (l:List Nat) (x:Nat):[ω (x:Int)]++ag l=ag (x::l):=rfl
theorem HP (x:Nat) (l:List Nat):dh (x::l)=if dh l= []∧x=0 then [] else x::dh l:=by
 unfold dh;rw [Xj8,List.dropWhile_append];by_cases h:(Yq8 (· ==0) l.reverse)= []
 ·simp only [h,List.isEmpty_nil,if_true,Xw9];by_cases hx:x=0
  ·subst hx;simp
  ·simp [hx]
 ·have:(Yq8 (· ==0) l.reverse).isEmpty=false:=by simpa using h
  simp only [this,Xjr,if_false];rw [if_neg (by simp only [List.reverse_eq_nil_iff];exact fun ⟨h1,_⟩=>h h1)];simp
def bM:List Nat→Nat
 | []=>0
 |d::l=>d+16777216*bM l
def aV (l:List Nat):Prop:=∀ d ∈ l,d<16777216
theorem aV.nil:aV []:=fun _ h=>(by cases h)
theorem aV.cons {d:Nat} {l:List Nat} (h:d<16777216) (b:aV l):aV (d::l):=by
 intro x a;rcases List.mem_cons.1 a with rfl|a
 ·exact h
 ·exact b x a
theorem aV.head {d:Nat} {l:List Nat} (h:aV (d::l)):d<16777216:=h d (Xjn ..)
theorem aV.tail {d:Nat} {l:List Nat} (h:aV (d::l)):aV l:=fun x a=>h x (Xx0 _ a)
theorem aV.app {a b:List Nat} (h:aV a) (d:aV b):aV (a++b):=fun x c=>(List.mem_append.1 c).elim (h x) (d x)
theorem aV.take {a:List Nat} (h:aV a) (n:Nat):aV (a.take n):=fun x b=>h x (Xjm b)
theorem aV.getD {a:List Nat} (h:aV a) (n:Nat):a.getD n 0<16777216:=by
 rw [ν];rcases Xq8 n a.length with hn|hn
 ·rw [ξ hn];exact h _ (List.getElem_mem hn)
 ·rw [Xqz hn];show 0<16777216;omega
theorem aV.zeros (n:Nat):aV (θ n 0):=fun x a=>by rw [(List.mem_replicate.1 a).2];omega
theorem uF (a b:List Nat):bM (a++b)=bM a+16777216^a.length*bM b:=by
 induction a with
 |nil=>simp [bM]
 |cons x a ih=>
  simp only [Xqx,bM,ih,μ,Xq2,Xq9];rw [Xqb (16777216^a.length) 16777216,Xqo];omega
theorem Oj (k:Nat):0<16777216^k:=Yqs (by omega)
theorem uG {l:List Nat} (h:aV l):bM l<16777216^l.length:=by
 induction l with
 |nil=>simp [bM]
 |cons d l ih=>
  have a:=ih h.tail;have b:=h.head;simp only [bM,μ,Xq2];omega
theorem HR (n:Nat):bM (θ n 0)=0:=by
 induction n with
 |zero=>rfl
 |succ n ih=>rw [Xxd];simp only [bM,ih]
def ak (n:Nat):List Nat:=if n=0 then [] else n % 16777216::ak (n / 16777216)
termination_by n
decreasing_by omega
theorem dP:ak 0= []:=by rw [ak,if_pos rfl]
theorem j_ {n:Nat} (h:0<n):ak n=n % 16777216::ak (n / 16777216):=by rw [ak,if_neg (by omega)]
theorem dm (n:Nat):bM (ak n)=n:=by
 induction n using Xkh with
 | _ n ih=>
  rcases Ξ n with rfl|h
  ·rw [dP];rfl
  ·rw [j_ h];simp only [bM];rw [ih (n / 16777216) (by omega)];omega
theorem aV.dig (n:Nat):aV (ak n):=by
 induction n using Xkh with
 | _ n ih=>
  rcases Ξ n with rfl|h
  ·rw [dP];exact aV.nil
  ·rw [j_ h];exact aV.cons (Xqh _ (by omega)) (ih (n / 16777216) (by omega))
theorem Em {n:Nat}:ak n= []↔n=0:=by
 constructor
 ·intro h;have:=dm n;rw [h] at this;exact this.symm
 ·intro h;subst h;exact dP
theorem Jz {l:List Nat} (h:aV l):dh l=ak (bM l):=by
 induction l with
 |nil=>rw [show bM []=0 from rfl,dP];rfl
 | cons d l ih=>
  have hd:=h.head;rw [HP,ih h.tail];simp only [bM];by_cases hz:bM l=0∧d=0
  ·rw [if_pos ⟨Em.2 hz.1,hz.2⟩,hz.1,hz.2,dP]
  ·rw [if_neg (fun h=>hz ⟨Em.1 h.1,h.2⟩),j_ (n:=d+16777216*bM l) (by omega)];rw [show (d+16777216*bM l) % 16777216=d by omega,show (d+16777216*bM l) / 16777216=bM l by omega]
theorem qp (n:Nat):n<16777216^(ak n).length:=by
 have:=uG (aV.dig n);rwa [dm] at this
theorem Qw {n k:Nat} (h:(ak n).length=k+1):16777216^k≤n:=by
 induction k generalizing n with
 |zero=>
  rcases Ξ n with rfl|h0
  ·rw [dP] at h;simp at h
  ·rw [Xvr];exact h0
 | succ k ih=>
  rcases Ξ n with rfl|h0
  ·rw [dP] at h;simp at h
  ·rw [j_ h0,μ] at h;have:=ih (n:=n / 16777216) (by omega);rw [Xq2];omega
theorem ny {n k:Nat} (h:n<16777216^k):(ak n).length≤k:=by
 rcases Xq8 k (ak n).length with h1|h1
 ·obtain ⟨j,a⟩:∃ j,(ak n).length=j+1:=⟨(ak n).length - 1,by omega⟩
  have c:=Qw a;have b:=Xqf (show 0<16777216 by omega) (show k≤j by omega);omega
 ·exact h1
theorem mB {x y:Nat} (h:x≤y):(ak x).length≤(ak y).length:=ny (υ h (qp y))
theorem Zk {nt:Nat} (c:19≤nt) (s:List UInt8) (k:Nat) (h0:lit true (((Xxj (Xx6 s (δ (k:Int)) 0):Nat):Int)==((0:Nat):Int))=true) (a:(decide (((0:Nat):Int)≤(k:Int)))=true) (d:(decide ((k:Int)<(((η s):Nat):Int)))=true) (b:lit true (decide ((k:Int)<(((η s):Nat):Int)))=true):ψ nt f76 ⟨[(0,.str s),(3,ω (k:Int))],[],.dead,[]⟩ (.normal) ⟨[(0,.str s),(3,ω (γ .i64 ((k:Int)+((1:Nat):Int))))],[],.dead,[]⟩:=pJ 76 [] 2 3 (.c h0 (.c a (.c d (.c b .nil)))) (.nil) c
theorem Zl {nt:Nat} (c:19≤nt) (s:List UInt8) (k:Nat) (h0:lit false (((Xxj (Xx6 s (δ (k:Int)) 0):Nat):Int)==((0:Nat):Int))=true) (a:(decide (((0:Nat):Int)≤(k:Int)))=true) (d:(decide ((k:Int)<(((η s):Nat):Int)))=true) (b:lit true (decide ((k:Int)<(((η s):Nat):Int)))=true):ψ nt f76 ⟨[(0,.str s),(3,ω (k:Int))],[],.dead,[]⟩ (.exit 0) ⟨[(0,.str s),(3,ω (k:Int))],[],.dead,[]⟩:=pJ 76 [] 2 1 (.c h0 (.c a (.c d (.c b .nil)))) (.nil) c
theorem Zm {nt:Nat} (a:19≤nt) (s:List UInt8) (k:Nat) (h0:lit false (decide ((k:Int)<(((η s):Nat):Int)))=true):ψ nt f76 ⟨[(0,.str s),(3,ω (k:Int))],[],.dead,[]⟩ (.exit 0) ⟨[(0,.str s),(3,ω (k:Int))],[],.dead,[]⟩:=pJ 76 [] 2 0 (.k 1 h0 .nil) (.nil) a
theorem VD (s:List UInt8) (k:Nat) (h0:(decide (((0:Nat):Int)≤(k:Int)))=true) (a:(decide ((k:Int)≤(((η s):Nat):Int)))=true) (c:(decide ((((η s):Nat):Int)≤(((η s):Nat):Int)))=true) (b:aG prog ap [] 19 (.block 0 (.loop (ac 0 (af f76)))) ⟨[(0,.str s),(2,.str []),(3,ω 0),(13,.dead)],[],.dead,[]⟩ (.normal) ⟨[(0,.str s),(3,ω (k:Int))],[],.dead,[]⟩):CO 76 [.str s] (.ret (.str (ε (δ (k:Int)) (ο (δ (((η s):Nat):Int)) s)))):=pK [0] 0 0 (.c h0 (.c a (.c c .nil))) (.l b .nil)
theorem ac2 {nt:Nat} (d:21≤nt) (l:List Nat) (a:Bool) (h0:(decide (((0:Nat):Int)≤(γ .i64 ((l.length:Int) - ((1:Nat):Int)))))=true) (b:(decide ((γ .i64 ((l.length:Int) - ((1:Nat):Int)))≤(l.length:Int)))=true) (g:lit true ((Γ (ζ (ε ((δ (γ .i64 ((l.length:Int) - ((1:Nat):Int))))*1) (ag l)) .dead))==((0:Nat):Int))=true) (c:(chk (.int .i64) (ζ (ε ((δ (γ .i64 ((l.length:Int) - ((1:Nat):Int))))*1) (ag l)) .dead))=true) (e:(decide ((γ .i64 ((l.length:Int) - ((1:Nat):Int)))<(l.length:Int)))=true) (f:lit true (decide (((0:Nat):Int)<(l.length:Int)))=true):ψ nt f108 ⟨[(0,.sl (ag l) l.length a)],[],.dead,[]⟩ (.normal) ⟨[(0,.sl (ο ((δ (γ .i64 ((l.length:Int) - ((1:Nat):Int))))*1) (ag l)) ((δ (γ .i64 ((l.length:Int) - ((1:Nat):Int)))) - 0) a)],[],.dead,[]⟩:=pJ 108 [] 2 3 (.k 1 h0 (.c b (.c g (.c c (.c h0 (.c e (.c f .nil))))))) (.nil) d
theorem ac3 {nt:Nat} (d:21≤nt) (l:List Nat) (a:Bool) (h0:lit false ((Γ (ζ (ε ((δ (γ .i64 ((l.length:Int) - ((1:Nat):Int))))*1) (ag l)) .dead))==((0:Nat):Int))=true) (b:(chk (.int .i64) (ζ (ε ((δ (γ .i64 ((l.length:Int) - ((1:Nat):Int))))*1) (ag l)) .dead))=true) (f:(decide (((0:Nat):Int)≤(γ .i64 ((l.length:Int) - ((1:Nat):Int)))))=true) (c:(decide ((γ .i64 ((l.length:Int) - ((1:Nat):Int)))<(l.length:Int)))=true) (e:lit true (decide (((0:Nat):Int)<(l.length:Int)))=true):ψ nt f108 ⟨[(0,.sl (ag l) l.length a)],[],.dead,[]⟩ (.exit 0) ⟨[(0,.sl (ag l) l.length a)],[],.dead,[]⟩:=pJ 108 [] 2 1 (.c h0 (.c b (.c f (.c c (.c e .nil))))) (.nil) d
theorem ac4 {nt:Nat} (b:21≤nt) (l:List Nat) (a:Bool) (h0:lit false (decide (((0:Nat):Int)<(l.length:Int)))=true):ψ nt f108 ⟨[(0,.sl (ag l) l.length a)],[],.dead,[]⟩ (.exit 0) ⟨[(0,.sl (ag l) l.length a)],[],.dead,[]⟩:=pJ 108 [] 2 0 (.k 1 h0 .nil) (.nil) b
theorem XX (l r:List Nat) (a:Bool) (b:aG prog ap [] 21 (.block 0 (.loop (ac 0 (af f108)))) ⟨[(0,.sl (ag l) l.length a),(2,.nilS),(14,.dead)],[],.dead,[]⟩ (.normal) ⟨[(0,.sl (ag r) r.length a)],[],.dead,[]⟩):CO 108 [.sl (ag l) l.length a] (.ret (.sl (ag r) r.length a)):=pK [0] 0 0 .nil (.l b .nil)
theorem acM {nt:Nat} (j:41≤nt) (a b:List Nat) (i h:Bool) (k:Nat) (h0:(chk (.int .i64) (ζ (ε ((δ (k:Int))*1) (ag b)) .dead))=true) (c:(decide (((0:Nat):Int)≤(k:Int)))=true) (f:(decide ((k:Int)<(b.length:Int)))=true) (d:(chk (.int .i64) (ζ (ε ((δ (k:Int))*1) (ag a)) .dead))=true) (e:(decide ((k:Int)<(a.length:Int)))=true) (l:lit true (!((Γ (ζ (ε ((δ (k:Int))*1) (ag a)) .dead))==(Γ (ζ (ε ((δ (k:Int))*1) (ag b)) .dead))))=true) (g:lit true (decide (((0:Nat):Int)≤(k:Int)))=true):ψ nt f109 ⟨[(0,.sl (ag a) a.length i),(1,.sl (ag b) b.length h),(5,ω (k:Int))],[],.dead,[]⟩ (.ret) ⟨[(4,ω (γ .i64 ((Γ (ζ (ε ((δ (k:Int))*1) (ag a)) .dead)) - (Γ (ζ (ε ((δ (k:Int))*1) (ag b)) .dead)))))],[],.dead,[]⟩:=pJ 109 [] 2 3 (.c h0 (.c c (.c f (.c d (.c c (.c e (.c l (.c h0 (.c c (.c f (.c d (.c c (.c e (.c g .nil)))))))))))))) (.nil) j
theorem acN {nt:Nat} (i:41≤nt) (a b:List Nat) (d c:Bool) (k:Nat) (h0:lit false (!((Γ (ζ (ε ((δ (k:Int))*1) (ag a)) .dead))==(Γ (ζ (ε ((δ (k:Int))*1) (ag b)) .dead))))=true) (f:(chk (.int .i64) (ζ (ε ((δ (k:Int))*1) (ag b)) .dead))=true) (e:(decide (((0:Nat):Int)≤(k:Int)))=true) (h:(decide ((k:Int)<(b.length:Int)))=true) (j:(chk (.int .i64) (ζ (ε ((δ (k:Int))*1) (ag a)) .dead))=true) (l:(decide ((k:Int)<(a.length:Int)))=true) (g:lit true (decide (((0:Nat):Int)≤(k:Int)))=true):ψ nt f109 ⟨[(0,.sl (ag a) a.length d),(1,.sl (ag b) b.length c),(5,ω (k:Int))],[],.dead,[]⟩ (.normal) ⟨[(0,.sl (ag a) a.length d),(1,.sl (ag b) b.length c),(5,ω (γ .i64 ((k:Int) - ((1:Nat):Int))))],[],.dead,[]⟩:=pJ 109 [] 2 1 (.c h0 (.c f (.c e (.c h (.c j (.c e (.c l (.c g .nil)))))))) (.nil) i
theorem Xx {nt:Nat} (e:41≤nt) (a b:List Nat) (d c:Bool):ψ nt f109 ⟨[(0,.sl (ag a) a.length d),(1,.sl (ag b) b.length c),(5,ω (-1))],[],.dead,[]⟩ (.exit 0) ⟨[],[],.dead,[]⟩:=pJ 109 [] 1 0 (.n 1 .nil) (.nil) e
theorem Xy (a b:List Nat) (d c:Bool) (h0:lit true (!((a.length:Int)==(b.length:Int)))=true):CO 109 [.sl (ag a) a.length d,.sl (ag b) b.length c] (.ret (ω (γ .i64 ((a.length:Int) - (b.length:Int))))):=pK [0] 1 1 (.c h0 .nil) (.nil)
theorem Xz (a b:List Nat) (d c:Bool) (h0:lit false (!((a.length:Int)==(b.length:Int)))=true) (e:aG prog ap [] 41 (.block 0 (.loop (ac 0 (af f109)))) ⟨[(0,.sl (ag a) a.length d),(1,.sl (ag b) b.length c),(4,ω 0),(5,ω (γ .i64 ((a.length:Int) - ((1:Nat):Int)))),(10,.bool (!((a.length:Int)==(b.length:Int)))),(20,.dead),(31,.dead)],[],.dead,[]⟩ (.normal) ⟨[],[],.dead,[]⟩):CO 109 [.sl (ag a) a.length d,.sl (ag b) b.length c] (.ret (ω 0)):=pK [0] 1 0 (.c h0 .nil) (.l e .nil)
theorem XB (a b:List Nat) (e d:Bool) (c:Int) (h0:lit false (!((a.length:Int)==(b.length:Int)))=true) (f:aG prog ap [] 41 (.block 0 (.loop (ac 0 (af f109)))) ⟨[(0,.sl (ag a) a.length e),(1,.sl (ag b) b.length d),(4,ω 0),(5,ω (γ .i64 ((a.length:Int) - ((1:Nat):Int)))),(10,.bool (!((a.length:Int)==(b.length:Int)))),(20,.dead),(31,.dead)],[],.dead,[]⟩ (.ret) ⟨[(4,ω c)],[],.dead,[]⟩):CO 109 [.sl (ag a) a.length e,.sl (ag b) b.length d] (.ret (ω c)):=pK [0] 1 0 (.c h0 .nil) (.l f .nil)
theorem XU {nt:Nat} (g:35≤nt) (a o:List Nat) (b:Bool) (d c k:Nat) (h0:(chk (.int .i64) (ζ (ε ((δ (k:Int))*1) (ag a)) .dead))=true) (e:(decide (((0:Nat):Int)≤(k:Int)))=true) (h:(decide ((k:Int)<(a.length:Int)))=true) (f:lit true (decide ((k:Int)<(a.length:Int)))=true):ψ nt f112 ⟨[(0,.sl (ag a) a.length b),(1,ω (d:Int)),(6,ω (c:Int)),(7,ω (k:Int)),(5,.nilS)],[],.dead,[]⟩ (.normal) ⟨[(0,.sl (ag a) a.length b),(1,ω (d:Int)),(6,ω (γ .i64 (Xqs (γ .i64 ((γ .i64 ((Γ (ζ (ε ((δ (k:Int))*1) (ag a)) .dead))*(d:Int)))+(c:Int))) ((16777216:Nat):Int)))),(7,ω (γ .i64 ((k:Int)+((1:Nat):Int)))),(5,.ref 0 0 0 1)],[(0,⟨[ω (Xq4 (γ .i64 ((γ .i64 ((Γ (ζ (ε ((δ (k:Int))*1) (ag a)) .dead))*(d:Int)))+(c:Int))) ((16777216:Nat):Int))],0,false,0,1,true⟩)],.dead,[]⟩:=pJ 112 [] 2 1 (.k 5 h0 (.c e (.c h (.c f .nil)))) (.nil) g
theorem XV {nt:Nat} (e:35≤nt) (a o:List Nat) (b:Bool) (d c k:Nat) (h0:lit false (decide ((k:Int)<(a.length:Int)))=true):ψ nt f112 ⟨[(0,.sl (ag a) a.length b),(1,ω (d:Int)),(6,ω (c:Int)),(7,ω (k:Int)),(5,.nilS)],[],.dead,[]⟩ (.exit 0) ⟨[(5,.nilS),(6,ω (c:Int))],[],.dead,[]⟩:=pJ 112 [] 1 0 (.c h0 .nil) (.nil) e
theorem S9 (a o r:List Nat) (b:Bool) (d c:Nat) (f:aG prog ap [] 35 (.block 0 (.loop (ac 0 (af f112)))) ⟨[(0,.sl (ag a) a.length b),(1,ω (d:Int)),(4,.nilS),(5,.nilS),(6,ω 0),(7,ω 0),(8,.dead),(12,.dead)],[],.dead,[]⟩ (.normal) ⟨[(5,.nilS),(6,ω (c:Int))],[],.dead,[]⟩) (e:CO 108 [.sl [ω (c:Int)] 1 true] (.ret (.sl (ag r) r.length true))):CO 112 [.sl (ag a) a.length b,ω (d:Int)] (.ret (.sl (ag r) r.length true)):=pK [0] 1 0 (.n 3 .nil) (.c e (.l f .nil))
theorem XS {nt:Nat} (g:35≤nt) (a o:List Nat) (b:Bool) (d c k:Nat) (h0:(Xqk (o.length+1) 1099511627776)=true) (e:(Xqk (o.length*1) (η (ag o)))=true) (j:(chk (.int .i64) (ζ (ε ((δ (k:Int))*1) (ag a)) .dead))=true) (f:(decide (((0:Nat):Int)≤(k:Int)))=true) (h:(decide ((k:Int)<(a.length:Int)))=true) (i:lit true (decide ((k:Int)<(a.length:Int)))=true):ψ nt f112 ⟨[(0,.sl (ag a) a.length b),(1,ω (d:Int)),(6,ω (c:Int)),(7,ω (k:Int)),(5,.ref 0 0 0 o.length)],[(0,⟨(ag o),0,false,0,1,true⟩)],.dead,[]⟩ (.normal) ⟨[(0,.sl (ag a) a.length b),(1,ω (d:Int)),(6,ω (γ .i64 (Xqs (γ .i64 ((γ .i64 ((Γ (ζ (ε ((δ (k:Int))*1) (ag a)) .dead))*(d:Int)))+(c:Int))) ((16777216:Nat):Int)))),(7,ω (γ .i64 ((k:Int)+((1:Nat):Int)))),(5,.ref 0 0 0 (o.length+1))],[(0,⟨((ο (o.length*1) (ag o))++ [ω (Xq4 (γ .i64 ((γ .i64 ((Γ (ζ (ε ((δ (k:Int))*1) (ag a)) .dead))*(d:Int)))+(c:Int))) ((16777216:Nat):Int))]),0,false,0,1,true⟩)],.dead,[]⟩:=pJ 112 [] 1 1 (.k 2 h0 (.c e (.k 2 j (.c f (.c h (.c i .nil)))))) (.nil) g
theorem XT {nt:Nat} (e:35≤nt) (a o:List Nat) (b:Bool) (d c k:Nat) (h0:lit false (decide ((k:Int)<(a.length:Int)))=true):ψ nt f112 ⟨[(0,.sl (ag a) a.length b),(1,ω (d:Int)),(6,ω (c:Int)),(7,ω (k:Int)),(5,.ref 0 0 0 o.length)],[(0,⟨(ag o),0,false,0,1,true⟩)],.dead,[]⟩ (.exit 0) ⟨[(5,.ref 0 0 0 o.length),(6,ω (c:Int))],[(0,⟨(ag o),0,false,0,1,true⟩)],.dead,[]⟩:=pJ 112 [] 1 0 (.c h0 .nil) (.nil) e
theorem S8 (a o r:List Nat) (b:Bool) (d c:Nat) (h0:(Xqk (o.length+1) 1099511627776)=true) (e:(Xqk (o.length*1) (η (ag o)))=true) (g:aG prog ap [] 35 (.block 0 (.loop (ac 0 (af f112)))) ⟨[(0,.sl (ag a) a.length b),(1,ω (d:Int)),(4,.nilS),(5,.nilS),(6,ω 0),(7,ω 0),(8,.dead),(12,.dead)],[],.dead,[]⟩ (.normal) ⟨[(5,.ref 0 0 0 o.length),(6,ω (c:Int))],[(0,⟨(ag o),0,false,0,1,true⟩)],.dead,[]⟩) (f:CO 108 [.sl (ο ((o.length+1)*1) ((ο (o.length*1) (ag o))++ [ω (c:Int)])) (o.length+1) true] (.ret (.sl (ag r) r.length true))):CO 112 [.sl (ag a) a.length b,ω (d:Int)] (.ret (.sl (ag r) r.length true)):=pK [0] 0 0 (.k 1 h0 (.c e (.n 1 .nil))) (.c f (.l g .nil))
theorem XK {nt:Nat} (j:41≤nt) (a b o:List Nat) (e d:Bool) (c k:Nat) (h0:lit true (decide ((γ .i64 ((γ .i64 ((Γ (ζ (ε ((δ (k:Int))*1) (ag a)) .dead)) - (c:Int))) - (Γ (ζ (ε ((δ (k:Int))*1) (ag b)) .dead))))<((0:Nat):Int)))=true) (g:(chk (.int .i64) (ζ (ε ((δ (k:Int))*1) (ag b)) .dead))=true) (f:(decide (((0:Nat):Int)≤(k:Int)))=true) (i:(decide ((k:Int)<(b.length:Int)))=true) (l:lit true (decide ((k:Int)<(b.length:Int)))=true) (m:(chk (.int .i64) (ζ (ε ((δ (k:Int))*1) (ag a)) .dead))=true) (h:(decide ((k:Int)<(a.length:Int)))=true) (n:lit true (decide ((k:Int)<(a.length:Int)))=true):ψ nt f111 ⟨[(0,.sl (ag a) a.length e),(1,.sl (ag b) b.length d),(6,ω (c:Int)),(7,ω (k:Int)),(5,.nilS)],[],.dead,[]⟩ (.normal) ⟨[(0,.sl (ag a) a.length e),(1,.sl (ag b) b.length d),(6,ω 1),(7,ω (γ .i64 ((k:Int)+((1:Nat):Int)))),(5,.ref 0 0 0 1)],[(0,⟨[ω (γ .i64 ((γ .i64 ((γ .i64 ((Γ (ζ (ε ((δ (k:Int))*1) (ag a)) .dead)) - (c:Int))) - (Γ (ζ (ε ((δ (k:Int))*1) (ag b)) .dead))))+((16777216:Nat):Int)))],0,false,0,1,true⟩)],.dead,[]⟩:=pJ 111 [] 4 7 (.k 3 h0 (.c g (.c f (.c i (.c l (.c m (.c f (.c h (.c n .nil))))))))) (.nil) j
theorem XL {nt:Nat} (j:41≤nt) (a b o:List Nat) (e d:Bool) (c k:Nat) (h0:lit false (decide ((γ .i64 ((γ .i64 ((Γ (ζ (ε ((δ (k:Int))*1) (ag a)) .dead)) - (c:Int))) - (Γ (ζ (ε ((δ (k:Int))*1) (ag b)) .dead))))<((0:Nat):Int)))=true) (g:(chk (.int .i64) (ζ (ε ((δ (k:Int))*1) (ag b)) .dead))=true) (f:(decide (((0:Nat):Int)≤(k:Int)))=true) (i:(decide ((k:Int)<(b.length:Int)))=true) (l:lit true (decide ((k:Int)<(b.length:Int)))=true) (m:(chk (.int .i64) (ζ (ε ((δ (k:Int))*1) (ag a)) .dead))=true) (h:(decide ((k:Int)<(a.length:Int)))=true) (n:lit true (decide ((k:Int)<(a.length:Int)))=true):ψ nt f111 ⟨[(0,.sl (ag a) a.length e),(1,.sl (ag b) b.length d),(6,ω (c:Int)),(7,ω (k:Int)),(5,.nilS)],[],.dead,[]⟩ (.normal) ⟨[(0,.sl (ag a) a.length e),(1,.sl (ag b) b.length d),(6,ω 0),(7,ω (γ .i64 ((k:Int)+((1:Nat):Int)))),(5,.ref 0 0 0 1)],[(0,⟨[ω (γ .i64 ((γ .i64 ((Γ (ζ (ε ((δ (k:Int))*1) (ag a)) .dead)) - (c:Int))) - (Γ (ζ (ε ((δ (k:Int))*1) (ag b)) .dead))))],0,false,0,1,true⟩)],.dead,[]⟩:=pJ 111 [] 4 3 (.k 3 h0 (.c g (.c f (.c i (.c l (.c m (.c f (.c h (.c n .nil))))))))) (.nil) j
theorem XM {nt:Nat} (h:41≤nt) (a b o:List Nat) (e d:Bool) (c k:Nat) (h0:lit true (decide ((γ .i64 ((Γ (ζ (ε ((δ (k:Int))*1) (ag a)) .dead)) - (c:Int)))<((0:Nat):Int)))=true) (f:lit false (decide ((k:Int)<(b.length:Int)))=true) (l:(chk (.int .i64) (ζ (ε ((δ (k:Int))*1) (ag a)) .dead))=true) (g:(decide (((0:Nat):Int)≤(k:Int)))=true) (i:(decide ((k:Int)<(a.length:Int)))=true) (j:lit true (decide ((k:Int)<(a.length:Int)))=true):ψ nt f111 ⟨[(0,.sl (ag a) a.length e),(1,.sl (ag b) b.length d),(6,ω (c:Int)),(7,ω (k:Int)),(5,.nilS)],[],.dead,[]⟩ (.normal) ⟨[(0,.sl (ag a) a.length e),(1,.sl (ag b) b.length d),(6,ω 1),(7,ω (γ .i64 ((k:Int)+((1:Nat):Int)))),(5,.ref 0 0 0 1)],[(0,⟨[ω (γ .i64 ((γ .i64 ((Γ (ζ (ε ((δ (k:Int))*1) (ag a)) .dead)) - (c:Int)))+((16777216:Nat):Int)))],0,false,0,1,true⟩)],.dead,[]⟩:=pJ 111 [] 4 5 (.k 3 h0 (.c f (.c l (.c g (.c i (.c j .nil)))))) (.nil) h
theorem XN {nt:Nat} (h:41≤nt) (a b o:List Nat) (e d:Bool) (c k:Nat) (h0:lit false (decide ((γ .i64 ((Γ (ζ (ε ((δ (k:Int))*1) (ag a)) .dead)) - (c:Int)))<((0:Nat):Int)))=true) (f:lit false (decide ((k:Int)<(b.length:Int)))=true) (l:(chk (.int .i64) (ζ (ε ((δ (k:Int))*1) (ag a)) .dead))=true) (g:(decide (((0:Nat):Int)≤(k:Int)))=true) (i:(decide ((k:Int)<(a.length:Int)))=true) (j:lit true (decide ((k:Int)<(a.length:Int)))=true):ψ nt f111 ⟨[(0,.sl (ag a) a.length e),(1,.sl (ag b) b.length d),(6,ω (c:Int)),(7,ω (k:Int)),(5,.nilS)],[],.dead,[]⟩ (.normal) ⟨[(0,.sl (ag a) a.length e),(1,.sl (ag b) b.length d),(6,ω 0),(7,ω (γ .i64 ((k:Int)+((1:Nat):Int)))),(5,.ref 0 0 0 1)],[(0,⟨[ω (γ .i64 ((Γ (ζ (ε ((δ (k:Int))*1) (ag a)) .dead)) - (c:Int)))],0,false,0,1,true⟩)],.dead,[]⟩:=pJ 111 [] 4 1 (.k 3 h0 (.c f (.c l (.c g (.c i (.c j .nil)))))) (.nil) h
theorem XO {nt:Nat} (f:41≤nt) (a b o:List Nat) (e d:Bool) (c k:Nat) (h0:lit false (decide ((k:Int)<(a.length:Int)))=true):ψ nt f111 ⟨[(0,.sl (ag a) a.length e),(1,.sl (ag b) b.length d),(6,ω (c:Int)),(7,ω (k:Int)),(5,.nilS)],[],.dead,[]⟩ (.exit 0) ⟨[(5,.nilS)],[],.dead,[]⟩:=pJ 111 [] 1 0 (.c h0 .nil) (.nil) f
theorem SY (a b o r:List Nat) (d c:Bool) (f:aG prog ap [] 41 (.block 0 (.loop (ac 0 (af f111)))) ⟨[(0,.sl (ag a) a.length d),(1,.sl (ag b) b.length c),(4,.nilS),(5,.nilS),(6,ω 0),(7,ω 0),(8,.dead),(12,.dead),(24,.dead),(32,.dead)],[],.dead,[]⟩ (.normal) ⟨[(5,.nilS)],[],.dead,[]⟩) (e:CO 108 [.nilS] (.ret (.sl (ag r) r.length false))):CO 111 [.sl (ag a) a.length d,.sl (ag b) b.length c] (.ret (.sl (ag r) r.length false)):=pK [0] 0 0 .nil (.c e (.l f .nil))
theorem XF {nt:Nat} (j:41≤nt) (a b o:List Nat) (e d:Bool) (c k:Nat) (h0:(Xqk (o.length+1) 1099511627776)=true) (m:(Xqk (o.length*1) (η (ag o)))=true) (h:lit true (decide ((γ .i64 ((γ .i64 ((Γ (ζ (ε ((δ (k:Int))*1) (ag a)) .dead)) - (c:Int))) - (Γ (ζ (ε ((δ (k:Int))*1) (ag b)) .dead))))<((0:Nat):Int)))=true) (q:(chk (.int .i64) (ζ (ε ((δ (k:Int))*1) (ag b)) .dead))=true) (f:(decide (((0:Nat):Int)≤(k:Int)))=true) (g:(decide ((k:Int)<(b.length:Int)))=true) (i:lit true (decide ((k:Int)<(b.length:Int)))=true) (l:(chk (.int .i64) (ζ (ε ((δ (k:Int))*1) (ag a)) .dead))=true) (p:(decide ((k:Int)<(a.length:Int)))=true) (n:lit true (decide ((k:Int)<(a.length:Int)))=true):ψ nt f111 ⟨[(0,.sl (ag a) a.length e),(1,.sl (ag b) b.length d),(6,ω (c:Int)),(7,ω (k:Int)),(5,.ref 0 0 0 o.length)],[(0,⟨(ag o),0,false,0,1,true⟩)],.dead,[]⟩ (.normal) ⟨[(0,.sl (ag a) a.length e),(1,.sl (ag b) b.length d),(6,ω 1),(7,ω (γ .i64 ((k:Int)+((1:Nat):Int)))),(5,.ref 0 0 0 (o.length+1))],[(0,⟨((ο (o.length*1) (ag o))++ [ω (γ .i64 ((γ .i64 ((γ .i64 ((Γ (ζ (ε ((δ (k:Int))*1) (ag a)) .dead)) - (c:Int))) - (Γ (ζ (ε ((δ (k:Int))*1) (ag b)) .dead))))+((16777216:Nat):Int)))]),0,false,0,1,true⟩)],.dead,[]⟩:=pJ 111 [] 3 7 (.k 1 h0 (.c m (.k 1 h (.c q (.c f (.c g (.c i (.c l (.c f (.c p (.c n .nil))))))))))) (.nil) j
theorem XG {nt:Nat} (j:41≤nt) (a b o:List Nat) (e d:Bool) (c k:Nat) (h0:(Xqk (o.length+1) 1099511627776)=true) (m:(Xqk (o.length*1) (η (ag o)))=true) (h:lit false (decide ((γ .i64 ((γ .i64 ((Γ (ζ (ε ((δ (k:Int))*1) (ag a)) .dead)) - (c:Int))) - (Γ (ζ (ε ((δ (k:Int))*1) (ag b)) .dead))))<((0:Nat):Int)))=true) (q:(chk (.int .i64) (ζ (ε ((δ (k:Int))*1) (ag b)) .dead))=true) (f:(decide (((0:Nat):Int)≤(k:Int)))=true) (g:(decide ((k:Int)<(b.length:Int)))=true) (i:lit true (decide ((k:Int)<(b.length:Int)))=true) (l:(chk (.int .i64) (ζ (ε ((δ (k:Int))*1) (ag a)) .dead))=true) (p:(decide ((k:Int)<(a.length:Int)))=true) (n:lit true (decide ((k:Int)<(a.length:Int)))=true):ψ nt f111 ⟨[(0,.sl (ag a) a.length e),(1,.sl (ag b) b.length d),(6,ω (c:Int)),(7,ω (k:Int)),(5,.ref 0 0 0 o.length)],[(0,⟨(ag o),0,false,0,1,true⟩)],.dead,[]⟩ (.normal) ⟨[(0,.sl (ag a) a.length e),(1,.sl (ag b) b.length d),(6,ω 0),(7,ω (γ .i64 ((k:Int)+((1:Nat):Int)))),(5,.ref 0 0 0 (o.length+1))],[(0,⟨((ο (o.length*1) (ag o))++ [ω (γ .i64 ((γ .i64 ((Γ (ζ (ε ((δ (k:Int))*1) (ag a)) .dead)) - (c:Int))) - (Γ (ζ (ε ((δ (k:Int))*1) (ag b)) .dead))))]),0,false,0,1,true⟩)],.dead,[]⟩:=pJ 111 [] 3 3 (.k 1 h0 (.c m (.k 1 h (.c q (.c f (.c g (.c i (.c l (.c f (.c p (.c n .nil))))))))))) (.nil) j
theorem XH {nt:Nat} (i:41≤nt) (a b o:List Nat) (e d:Bool) (c k:Nat) (h0:(Xqk (o.length+1) 1099511627776)=true) (f:(Xqk (o.length*1) (η (ag o)))=true) (m:lit true (decide ((γ .i64 ((Γ (ζ (ε ((δ (k:Int))*1) (ag a)) .dead)) - (c:Int)))<((0:Nat):Int)))=true) (h:lit false (decide ((k:Int)<(b.length:Int)))=true) (j:(chk (.int .i64) (ζ (ε ((δ (k:Int))*1) (ag a)) .dead))=true) (l:(decide (((0:Nat):Int)≤(k:Int)))=true) (g:(decide ((k:Int)<(a.length:Int)))=true) (n:lit true (decide ((k:Int)<(a.length:Int)))=true):ψ nt f111 ⟨[(0,.sl (ag a) a.length e),(1,.sl (ag b) b.length d),(6,ω (c:Int)),(7,ω (k:Int)),(5,.ref 0 0 0 o.length)],[(0,⟨(ag o),0,false,0,1,true⟩)],.dead,[]⟩ (.normal) ⟨[(0,.sl (ag a) a.length e),(1,.sl (ag b) b.length d),(6,ω 1),(7,ω (γ .i64 ((k:Int)+((1:Nat):Int)))),(5,.ref 0 0 0 (o.length+1))],[(0,⟨((ο (o.length*1) (ag o))++ [ω (γ .i64 ((γ .i64 ((Γ (ζ (ε ((δ (k:Int))*1) (ag a)) .dead)) - (c:Int)))+((16777216:Nat):Int)))]),0,false,0,1,true⟩)],.dead,[]⟩:=pJ 111 [] 3 5 (.k 1 h0 (.c f (.k 1 m (.c h (.c j (.c l (.c g (.c n .nil)))))))) (.nil) i
theorem XI {nt:Nat} (i:41≤nt) (a b o:List Nat) (e d:Bool) (c k:Nat) (h0:(Xqk (o.length+1) 1099511627776)=true) (f:(Xqk (o.length*1) (η (ag o)))=true) (m:lit false (decide ((γ .i64 ((Γ (ζ (ε ((δ (k:Int))*1) (ag a)) .dead)) - (c:Int)))<((0:Nat):Int)))=true) (h:lit false (decide ((k:Int)<(b.length:Int)))=true) (j:(chk (.int .i64) (ζ (ε ((δ (k:Int))*1) (ag a)) .dead))=true) (l:(decide (((0:Nat):Int)≤(k:Int)))=true) (g:(decide ((k:Int)<(a.length:Int)))=true) (n:lit true (decide ((k:Int)<(a.length:Int)))=true):ψ nt f111 ⟨[(0,.sl (ag a) a.length e),(1,.sl (ag b) b.length d),(6,ω (c:Int)),(7,ω (k:Int)),(5,.ref 0 0 0 o.length)],[(0,⟨(ag o),0,false,0,1,true⟩)],.dead,[]⟩ (.normal) ⟨[(0,.sl (ag a) a.length e),(1,.sl (ag b) b.length d),(6,ω 0),(7,ω (γ .i64 ((k:Int)+((1:Nat):Int)))),(5,.ref 0 0 0 (o.length+1))],[(0,⟨((ο (o.length*1) (ag o))++ [ω (γ .i64 ((Γ (ζ (ε ((δ (k:Int))*1) (ag a)) .dead)) - (c:Int)))]),0,false,0,1,true⟩)],.dead,[]⟩:=pJ 111 [] 3 1 (.k 1 h0 (.c f (.k 1 m (.c h (.c j (.c l (.c g (.c n .nil)))))))) (.nil) i
theorem XJ {nt:Nat} (f:41≤nt) (a b o:List Nat) (e d:Bool) (c k:Nat) (h0:lit false (decide ((k:Int)<(a.length:Int)))=true):ψ nt f111 ⟨[(0,.sl (ag a) a.length e),(1,.sl (ag b) b.length d),(6,ω (c:Int)),(7,ω (k:Int)),(5,.ref 0 0 0 o.length)],[(0,⟨(ag o),0,false,0,1,true⟩)],.dead,[]⟩ (.exit 0) ⟨[(5,.ref 0 0 0 o.length)],[(0,⟨(ag o),0,false,0,1,true⟩)],.dead,[]⟩:=pJ 111 [] 1 0 (.c h0 .nil) (.nil) f
theorem SX (a b o r:List Nat) (d c:Bool) (f:aG prog ap [] 41 (.block 0 (.loop (ac 0 (af f111)))) ⟨[(0,.sl (ag a) a.length d),(1,.sl (ag b) b.length c),(4,.nilS),(5,.nilS),(6,ω 0),(7,ω 0),(8,.dead),(12,.dead),(24,.dead),(32,.dead)],[],.dead,[]⟩ (.normal) ⟨[(5,.ref 0 0 0 o.length)],[(0,⟨(ag o),0,false,0,1,true⟩)],.dead,[]⟩) (e:CO 108 [.sl (ο (o.length*1) (ag o)) o.length true] (.ret (.sl (ag r) r.length false))):CO 111 [.sl (ag a) a.length d,.sl (ag b) b.length c] (.ret (.sl (ag r) r.length false)):=pK [0] 0 0 .nil (.c e (.l f .nil))
def nz:List UInt8→Nat
 | []=>0
 |c::r=>if c=0 then nz r+1 else 0
theorem QC (s:List UInt8):s.drop (nz s)=s.dropWhile (· ==0):=by
 induction s with
 |nil=>rfl
 |cons c r ih=>
  simp only [nz,Xxv];by_cases h:c=0
  ·subst h;simpa using ih
  ·simp [h]
theorem abI (s:List UInt8):nz s≤s.length:=by
 induction s with
 |nil=>exact φ _
 |cons c r ih=>simp only [nz,μ];split<;>omega
def Ul (s:List UInt8) (k:Nat):St:=⟨[(0,.str s),(3,ω (k:Int))],[],.dead,[]⟩
theorem Tn {p r:List UInt8} {c:UInt8} {k:Nat} (h:k=p.length):(p++c::r).getD k 0=c:=by subst h;simp
theorem TM (c:UInt8):(c.toNat=0)=(c=0):=by
 apply propext;constructor
 ·intro h;apply UInt8.toNat_inj.1;simpa using h
 ·intro h;subst h;rfl
theorem L9 {nt:Nat} (b:19≤nt) (s:List UInt8) (hs:s.length<2^40):∀ (r p:List UInt8),p++r=s→az prog ap [] nt (ac 0 (af f76)) (fun _=> .exit 0) (Ul s) (Ul s) p.length (p.length+nz r):=by
 intro r
 induction r with
 |nil=>
  intro p h;have hp:p.length=s.length:=by rw [← h];simp
  refine .done (Zm b s p.length ?_);rw [hp,bq];simp [lit]
 | cons c r ih=>
  intro p h;have f:p.length+(r.length+1)=s.length:=by rw [← h];simp
  have d:s.getD p.length 0=c:=by rw [← h];exact Tn rfl
  by_cases hc:c=0
  ·have hnext:=ih (p++ [c]) (by simp [h]);rw [κ,τ] at hnext;simp only [nz,if_pos hc];rw [show p.length+(nz r+1)=p.length+1+nz r by omega];refine .next ?_ hnext
   have a:=Zk b s p.length;have e:c.toNat=0:=by subst hc;rfl
   simp (disch:=first|omega|(simp [aq,au]<;>omega)) only [av,d,e,kO,decide_true,bB,cV,bf,bq,bQ,aS] at a;apply a<;>first|exact True.intro|omega|assumption|exact rfl
  ·simp only [nz,if_neg hc,Xq3];refine .done ?_;have a:=Zl b s p.length;have e:¬ c.toNat=0:=by rw [TM];exact hc
   simp (disch:=first|omega|(simp [aq,au]<;>omega)) only [av,d,kO,dw,eC,eU,cV,bf,bq,bB] at a;apply a<;>first|exact True.intro|omega|assumption|exact rfl
theorem eI (s:List UInt8) (hs:s.length<2^40):CO 76 [.str s] (.ret (.str (aa (ae s)))):=by
 have b:=abI s;have h:=VD s (nz s);simp (disch:=first|omega|(simp [aq,au]<;>omega)) only [cV,bf,av,Xqw,QC] at h;rw [ui];apply h<;>first|exact True.intro|omega|assumption|exact rfl|skip
 ·refine az.blk (fun nt a=>L9 a s hs s [] rfl) (by simp) rfl (aJ.of ⟨rfl,rfl,trivial⟩) ?_;rw [χ,Θ];exact aJ.refl _
theorem HL (l:List Nat) (d:Nat):ο l.length (ag (l++ [d]))=ag l:=by
 rw [ct];simp
theorem xZ (l:List Nat) (d:Nat):ζ (ε l.length (ag (l++ [d]))) .dead= ω (d:Int):=by
 rw [ep (by simp)];simp
def Jj (nn:Bool) (l:List Nat):St:=⟨[(0,.sl (ag l) l.length nn)],[],.dead,[]⟩
theorem OL {nt:Nat} (f:21≤nt) (b:Bool):∀ (k:Nat) (l:List Nat),l.length=k→k<2^40→az prog ap [] nt (ac 0 (af f108)) (fun _=> .exit 0) (Jj b) (Jj b) l (dh l):=by
 intro k
 induction k with
 |zero=>
  intro l e _;have:l= []:=Xx5 e;subst this;exact .done (ac4 f [] b rfl)
 | succ k ih=>
  intro l e i;rcases Xzw l with rfl|⟨a,d,rfl⟩
  ·simp at e
  ·rw [Xzx] at e ⊢;have g:a.length=k:=by simpa using e
   have h:a.length+1 - 1=a.length:=by omega
   rw [kJ];by_cases hd:d=0
   ·rw [if_pos hd];refine .next ?_ (ih a g (by omega))
    have c:=ac2 f (a++ [d]) b;simp (disch:=first|omega|(simp [aq,au]<;>omega)) only [κ,μ,χ,Θ,gP,h,cV,bf,av,Φ,xZ,aU,kO,bB,db,bq,HL,Xjv] at c;simp only [Jj,κ,τ];apply c<;>first|exact True.intro|omega|assumption|exact rfl
   ·rw [if_neg hd];refine .done ?_;have c:=ac3 f (a++ [d]) b;simp (disch:=first|omega|(simp [aq,au]<;>omega)) only [κ,μ,χ,Θ,gP,h,av,Φ,xZ,aU,kO,dw,eC,eU,db,cV,bf,bq,bB] at c;simp only [Jj,κ,τ];apply c<;>first|exact True.intro|omega|assumption|exact rfl
theorem ur (l:List Nat) (a:Bool) (c:l.length<2^40):CO 108 [.sl (ag l) l.length a] (.ret (.sl (ag (dh l)) (dh l).length a)):=
 XX l (dh l) a (az.blk (fun nt b=>OL b a _ l rfl c) (by simp) rfl (aJ.of ⟨rfl,trivial⟩) (aJ.of ⟨rfl,trivial⟩))
def Gj (l:List Nat):AV:=match l with| []=> .nilS|x::l=> .ref 0 0 0 (x::l).length
def Gk (l:List Nat):Hp:=match l with| []=> []|x::l=> [(0,⟨ag (x::l),0,false,0,1,true⟩)]
theorem eD {l:List Nat} (h:l ≠ []):Gj l= .ref 0 0 0 l.length:=by cases l with|nil=>exact absurd rfl h|cons _ _=>rfl
theorem eF {l:List Nat} (h:l ≠ []):Gk l= [(0,⟨ag l,0,false,0,1,true⟩)]:=by cases l with|nil=>exact absurd rfl h|cons _ _=>rfl
theorem fM (l:List Nat) (y:Nat):l++ [y] ≠ []:=by simp
theorem Iw {p s:List Nat} {x k:Nat} (h:k=p.length):ζ (ε k (ag (p++x::s))) .dead= ω (x:Int):=by
 rw [ep (by subst h;simp)];subst h;simp
def La (d:Nat):List Nat→Nat→List Nat × Nat
 | [],c=>([],c)
 |x::l,c=>((x*d+c) % 16777216::(La d l ((x*d+c) / 16777216)).1,(La d l ((x*d+c) / 16777216)).2)
theorem FP {d x c:Nat} (hd:d<16777216) (e:x<16777216) (b:c<16777216):x*d+c<281474976710656∧(x*d+c) / 16777216<16777216∧x*d<281474976710656:=by
 have a:x*d≤16777215*16777215:=Nat.mul_le_mul (by omega) (by omega);omega
theorem TA {d:Nat} (hd:d<16777216) (l:List Nat):∀ c,c<16777216→aV l→(La d l c).2<16777216∧aV (La d l c).1∧(La d l c).1.length=l.length∧bM (La d l c).1+16777216^l.length*(La d l c).2=bM l*d+c:=by
 induction l with
 |nil=>intro c a _;exact ⟨a,aV.nil,rfl,by simp [La,bM]⟩
 |cons x l ih=>
  intro c a b;obtain ⟨_,g,_⟩:=FP hd b.head a;obtain ⟨h,f,e,i⟩:=ih _ g b.tail;simp only [La];refine ⟨h,aV.cons (Xqh _ (by omega)) f,by simp [e], ?_⟩;simp only [bM,μ,Xq2];rw [Xqb (16777216^l.length),Xqo,Xxn,Xqo 16777216 (bM l)];omega
def Lb (a:List Nat) (na:Bool) (d:Nat) (p:Nat × Nat × List Nat):St:=⟨[(0,.sl (ag a) a.length na),(1,ω (d:Int)),(6,ω (p.2.1:Int)),(7,ω (p.1:Int)),(5,Gj p.2.2)],Gk p.2.2,.dead,[]⟩
def Jy (p:Nat × List Nat):St:=⟨[(5,Gj p.2),(6,ω (p.1:Int))],Gk p.2,.dead,[]⟩
theorem TE {nt:Nat} (h:35≤nt) (a o:List Nat) (f:Bool) (d c k x:Nat) (p:a.length<2^40) (n:k<a.length) (q:o.length=k) (g:a.getD k 0=x) (j:x*d+c<281474976710656) (i:x*d<281474976710656):
  ψ nt f112 (Lb a f d (k,c,o)) .normal (Lb a f d (k+1,(x*d+c) / 16777216,o++ [(x*d+c) % 16777216])):=by
 unfold Lb;have m:(x*d+c) / 16777216<9223372036854775808:=by omega
 have l:(x*d+c) % 16777216<9223372036854775808:=by omega
 have e:(((x*d:Nat):Int))+(c:Int)=((x*d+c:Nat):Int):=by omega
 rcases Xxu (o= []) with rfl|hne
 ·have b:=XU h a [] f d c k;simp (disch:=first|omega|(simp [aq,au]<;>omega)) only [av,Φ,ep,g,db,cV,bf,bq,bB,aU,tC,aS,e,lL,bQ,rR] at b;simp only [Xqd,Gj,Gk,ag,Xqc,List.map_nil,μ,χ] at b ⊢;apply b<;>first|exact True.intro|omega|assumption|exact rfl
 ·have b:=XS h a o f d c k;rw [eD hne,eF hne,eD (fM _ _),eF (fM _ _)];simp (disch:=first|omega|(simp [aq,au]<;>omega)) only [dW,bf,Φ,bK,av,ep,g,db,cV,bq,bB,aU,tC,aS,e,lL,bQ,ct,Xqw,rR,iD] at b;simp only [κ,τ];apply b<;>first|exact True.intro|omega|assumption|exact rfl
theorem TB {nt:Nat} (f:35≤nt) (a o:List Nat) (b:Bool) (d c:Nat):ψ nt f112 (Lb a b d (a.length,c,o)) (.exit 0) (Jy (c,o)):=by
 unfold Lb Jy;rcases Xxu (o= []) with rfl|hne
 ·have e:=XV f a [] b d c a.length (by rw [bq];simp [lit]);exact e
 ·have e:=XT f a o b d c a.length (by rw [bq];simp [lit]);rw [eD hne,eF hne];exact e
theorem TC {nt:Nat} (i:35≤nt) (a:List Nat) (b:Bool) (d:Nat) (hd:d<16777216) (m:a.length<2^40) (e:aV a):∀ (l p o:List Nat) (c:Nat),p++l=a→o.length=p.length→c<16777216→
  az prog ap [] nt (ac 0 (af f112)) (fun _=> .exit 0) (Lb a b d) Jy (p.length,c,o) ((La d l c).2,o++(La d l c).1):=by
 intro l
 induction l with
 |nil=>
  intro p o c h f g;have hp:p=a:=by simpa using h
  rw [hp];simp only [La,Xqa];exact .done (TB i a o b d c)
 |cons x l ih=>
  intro p o c h f g;have s:p.length+(l.length+1)=a.length:=by rw [← h];simp
  have r:x<16777216:=e x (by rw [← h];simp);have q:a.getD p.length 0=x:=by rw [← h];simp
  obtain ⟨k,n,j⟩:=FP hd r g;have hnext:=ih (p++ [x]) (o++ [(x*d+c) % 16777216]) ((x*d+c) / 16777216) (by simp [h]) (by simp [f]) n;rw [κ,τ,Ψ] at hnext;exact .next (TE i a o b d c p.length x m (by omega) f q k j) hnext
theorem FN (x d:Nat) (a:Bool) (hd:d<16777216) (m:(ak x).length<2^36):CO 112 [.sl (ag (ak x)) (ak x).length a,ω (d:Int)] (.ret (.sl (ag (ak (x*d))) (ak (x*d)).length true)):=by
 obtain ⟨i,g,f,j⟩:=TA hd (ak x) 0 (by omega) (aV.dig x);have hloop:=fun nt (hn:35≤nt)=>TC hn (ak x) a d hd (by omega) (aV.dig x) (ak x) [] [] 0 rfl rfl (by omega)
 generalize n:La d (ak x) 0=r at*
 obtain ⟨o,c⟩:=r;simp only [Xqd,χ] at hloop i g f j;rw [dm,Xq3] at j;have l:bM (o++ [c])=x*d:=by rw [uF,f];simp only [bM];omega
 have e:=ur (o++ [c]) true (by simp;omega);rw [Jz (aV.app g (aV.cons i aV.nil)),l] at e;rcases Xxu (o= []) with rfl|hne
 ·have h:=S9 (ak x) [] (ak (x*d)) a d c;apply h
  ·exact az.blk hloop (by simp) rfl (aJ.of ⟨rfl,rfl,rfl,rfl,rfl,trivial⟩) (aJ.of ⟨rfl,rfl,trivial⟩)
  ·exact e
 ·have h:=S8 (ak x) o (ak (x*d)) a d c;have k:o.length<2^37:=by omega
  have b:ο (o.length+1) (ag (o++ [c]))=ag (o++ [c]):=by
   rw [ct,Xqi (by simp)]
  simp (disch:=first|omega|(simp [aq,au]<;>omega)) only [dW,bf,Φ,bK,ct,Xqw,iD] at h;rw [κ,τ] at e;rw [← ct] at h;rw [b] at h;apply h<;>first|exact True.intro|omega|assumption|exact rfl|skip
  ·exact az.blk hloop (by simp) rfl (aJ.of ⟨rfl,rfl,rfl,rfl,rfl,trivial⟩) (by unfold Jy;rw [eD hne,eF hne];exact aJ.of ⟨rfl,rfl,trivial⟩)
end Go.Proofs.Tryz
