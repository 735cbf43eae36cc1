/- Contracts of functions that the law reaches, each by its own hypotheses; joined by a program of mine. -/
import Derived.Test.YtdmfgmmooalfnaaGreatDoorC1
import Derived.Test.YtdmfgmmooalfnaaGreatDoorC2
import Derived.Test.YtdmfgmmooalfnaaGreatDoorM5
set_option linter.unusedSimpArgs false
set_option linter.unusedVariables false
set_option maxRecDepth 100000
set_option linter.unusedVariables false
open Go AM
open AV renaming int→Xxo,toInt→τ,tup→Yqh
open List renaming headD→ζ,drop→ε,length→η,take→ν,length_cons→μ,headD_cons→Xjd,tail_cons→Xzj,length_append→θ,length_singleton→σ,replicate→κ,length_nil→Xqb,append_nil→Γ,replicate_succ→Xxc,append_assoc→Xqd,singleton_append→Xxe,nil_append→Xqk,map_drop→Xzc,length_drop→Xxz,take_length→Xqx,drop_drop→Xjm,takeWhile_cons_of_neg→Xz5,all→Xzu,drop_append→Xw1,drop_of_length_le→Xx6,getD_eq_getElem?_getD→ο,getElem?_eq_getElem→ξ,any_cons→Xvv,flatMap_cons→Xjg,take_of_length_le→Ξ,flatMap_append→Xjf,getElem_mem→Xxb,mem_singleton→Xzg,all_cons→Xxs,find?_append→Xkx,mem_of_getElem?→Xqj,length_map→Xxt,length_eq_zero_iff→Xvw
open Int renaming toNat→δ,fdiv→Xqw,natCast_mul→Xw5,tmod→Xju,tdiv→Xxg,natAbs_neg→Xvi,natAbs_natCast→Xjh
open IntKind renaming wrap→γ
open Nat renaming ble→Xqg,mod_lt→Xqv,pow_succ→Xq2,mul_assoc→Xqn,mul_add→Xq8,zero_add→Xqf,mod_eq_of_lt→υ,ble_eq→Xzm,add_comm→Xxq,mul_one→φ,eq_zero_or_pos→Θ,lt_of_lt_of_le→Xqa,add_zero→Xq0,lt_or_ge→Xq5,lt_of_le_of_lt→χ,sub_le→Xwq,mul_pos→Xx7,le_refl→Δ,pow_add→Xxj,mul_lt_mul''→Xvz,pow_le_pow_right→Xqc,div_le_self→Xjq,le_trans→Xq1,gcd→Xxn,mul_div_cancel_left→Xwg,exists_eq_add_of_le→Xvu,add_sub_cancel_left→Xj2,gcd_one_right→Xvn,zero_le→Xxk,add_sub_cancel→Xwf,two_pow_pos→Xqr,div_one→Xz0,lt_trans→Xxa,succ_mul→Xk0,lt_trichotomy→Xj7,not_lt_zero→Xwj,one_le_pow→Xkj,mul_le_mul_left→Xqy,ble_eq_true_of_le→Xqt,le_of_ble_eq_true→Xzd,one_mul→Xzy
open Bool renaming and_eq_true→π,not_eq_true'→Xqo,and_true→Xjr,false_eq_true→Xjo,true_and→Xx8,false_or→Xwi,false_and→Xji,and_false→Xzr
open Option renaming getD→Xz1,isSome→Xj3
namespace Go.Proofs.Tryz
theorem amK {nt:Nat} (H:68≤nt) (u v o:List Nat) (B e:Bool) (i j c a x y:Nat) (t:Xxo .u32 (τ (ζ (ε ((δ (j:Int))*1) (aj v)) .dead))= .int .u32 (y:Int)) (r:Xxo .u64 (γ .u64 (a:Int))= .int .u64 (a:Int)) (k:Xxo .u64 (γ .u64 (y:Int))= .int .u64 (y:Int)) (m:Xxo .u64 (γ .u64 ((a:Int)*(y:Int)))= .int .u64 (((a*y):Nat):Int)) (q:Xxo .u32 (τ (ζ (ε ((0+(δ (((i+j):Nat):Int)))*1) (aj o)) .dead))= .int .u32 (x:Int)) (h:Xxo .u64 (γ .u64 (x:Int))= .int .u64 (x:Int)) (f:Xxo .u64 (γ .u64 ((((a*y):Nat):Int)+(x:Int)))= .int .u64 (((a*y+x):Nat):Int)) (n:Xxo .u64 (γ .u64 ((((a*y+x):Nat):Int)+(c:Int)))= .int .u64 (((a*y+x+c):Nat):Int)) (d:ω (γ .i64 ((i:Int)+(j:Int)))= ω (((i+j):Nat):Int)) (w:Xxo .u32 (γ .u32 (((a*y+x+c):Nat):Int))= .int .u32 ((((a*y+x+c) % 4294967296):Nat):Int)) (g:Xxo .u64 (Xqw (((a*y+x+c):Nat):Int) (2^(min 32 64)))= .int .u64 ((((a*y+x+c) / 4294967296):Nat):Int)) (p:ω (γ .i64 ((j:Int)+((1:Nat):Int)))= ω (((j+1):Nat):Int)) (F:(Xqg (((0+(δ (((i+j):Nat):Int)))*1)+1) (η (aj o)))=true) (C:(decide (((0:Nat):Int)≤(((i+j):Nat):Int)))=true) (z:(decide ((((i+j):Nat):Int)<(o.length:Int)))=true) (E:(chk (.int .u32) (ζ (ε ((0+(δ (((i+j):Nat):Int)))*1) (aj o)) .dead))=true) (D:(chk (.int .u32) (ζ (ε ((δ (j:Int))*1) (aj v)) .dead))=true) (G:(decide (((0:Nat):Int)≤(j:Int)))=true) (A:(decide ((j:Int)<(v.length:Int)))=true):ak prog ap [] nt (af 2 (ah f201)) ⟨[(1,.sl (aj v) v.length e),(5,.ref 0 0 0 o.length),(6,ω (i:Int)),(7,.int .u32 (a:Int)),(8,.int .u64 (c:Int)),(18,.sl (aj u) u.length B),(19,ω (u.length:Int)),(20,ω (i:Int)),(25,.sl (aj v) v.length e),(26,ω (v.length:Int)),(27,ω (j:Int))],[(0,⟨(aj o),0,false,0,1,true⟩)],.dead,[]⟩ (.normal) ⟨[(1,.sl (aj v) v.length e),(5,.ref 0 0 0 o.length),(6,ω (i:Int)),(7,.int .u32 (a:Int)),(8,.int .u64 ((((a*y+x+c) / 4294967296):Nat):Int)),(18,.sl (aj u) u.length B),(19,ω (u.length:Int)),(20,ω (i:Int)),(25,.sl (aj v) v.length e),(26,ω (v.length:Int)),(27,ω (((j+1):Nat):Int))],[(0,⟨(ν ((0+(δ (((i+j):Nat):Int)))*1) (aj o)++ [.int .u32 ((((a*y+x+c) % 4294967296):Nat):Int)]++ε (((0+(δ (((i+j):Nat):Int)))*1)+1) (aj o)),0,false,0,1,true⟩)],.dead,[]⟩:=pN 201 [] 1 1 (.c F (.c C (.c z (.k 1 E (.c C (.c z (.c D (.c G (.c A (.c (aK A) .nil)))))))))) (.v 56 (.eq p) (.v 54 (.eq g) (.v 52 (.eq w) (.v 50 (.eq d) (.v 46 (.eq n) (.v 44 (.eq f) (.v 43 (.eq h) (.v 42 (.eq q) (.v 40 (.eq d) (.v 36 (.eq m) (.v 35 (.eq k) (.v 33 (.eq r) (.v 31 (.eq t) .nil))))))))))))) H
theorem amL {nt:Nat} (g:68≤nt) (u v o:List Nat) (e d:Bool) (i j c a x y:Nat) (f:(decide ((j:Int)<(v.length:Int)))=false):ak prog ap [] nt (af 2 (ah f201)) ⟨[(1,.sl (aj v) v.length d),(5,.ref 0 0 0 o.length),(6,ω (i:Int)),(7,.int .u32 (a:Int)),(8,.int .u64 (c:Int)),(18,.sl (aj u) u.length e),(19,ω (u.length:Int)),(20,ω (i:Int)),(25,.sl (aj v) v.length d),(26,ω (v.length:Int)),(27,ω (j:Int))],[(0,⟨(aj o),0,false,0,1,true⟩)],.dead,[]⟩ (.exit 2) ⟨[(1,.sl (aj v) v.length d),(5,.ref 0 0 0 o.length),(6,ω (i:Int)),(8,.int .u64 (c:Int)),(18,.sl (aj u) u.length e),(19,ω (u.length:Int)),(20,ω (i:Int))],[(0,⟨(aj o),0,false,0,1,true⟩)],.dead,[]⟩:=pN 201 [] 1 0 (.c (aN f) .nil) (.nil) g
theorem amM {nt:Nat} (w:68≤nt) (u v o c:List Nat) (f d:Bool) (i a e:Nat) (g:Xxo .u32 (τ (ζ (ε ((δ (i:Int))*1) (aj u)) .dead))= .int .u32 (a:Int)) (j:ω (γ .i64 ((i:Int)+(v.length:Int)))= ω (((i+v.length):Nat):Int)) (k:Xxo .u32 (γ .u32 (e:Int))= .int .u32 (e:Int)) (h:ω (γ .i64 ((i:Int)+((1:Nat):Int)))= ω (((i+1):Nat):Int)) (t:(Xqg (((0+(δ (((i+v.length):Nat):Int)))*1)+1) (η (aj c)))=true) (y:(decide (((0:Nat):Int)≤(((i+v.length):Nat):Int)))=true) (q:(decide ((((i+v.length):Nat):Int)<(c.length:Int)))=true) (r:(chk (.int .u32) (ζ (ε ((δ (i:Int))*1) (aj u)) .dead))=true) (p:(decide (((0:Nat):Int)≤(i:Int)))=true) (m:(decide ((i:Int)<(u.length:Int)))=true) (n:aG prog ap [] 68 (.block 2 (.loop (af 2 (ah f201)))) ⟨[(0,.dead),(1,.sl (aj v) v.length d),(4,.dead),(5,.ref 0 0 0 o.length),(6,ω (i:Int)),(7,.int .u32 (a:Int)),(8,.int .u64 0),(9,.dead),(10,.dead),(11,.dead),(18,.sl (aj u) u.length f),(19,ω (u.length:Int)),(20,ω (i:Int)),(21,.bool (decide ((i:Int)<(u.length:Int)))),(25,.sl (aj v) v.length d),(26,ω (v.length:Int)),(27,ω 0),(28,.dead)],[(0,⟨(aj o),0,false,0,1,true⟩)],.dead,[]⟩ (.normal) ⟨[(1,.sl (aj v) v.length d),(5,.ref 0 0 0 c.length),(6,ω (i:Int)),(8,.int .u64 (e:Int)),(18,.sl (aj u) u.length f),(19,ω (u.length:Int)),(20,ω (i:Int))],[(0,⟨(aj c),0,false,0,1,true⟩)],.dead,[]⟩):ψ nt f201 ⟨[(1,.sl (aj v) v.length d),(5,.ref 0 0 0 o.length),(18,.sl (aj u) u.length f),(19,ω (u.length:Int)),(20,ω (i:Int))],[(0,⟨(aj o),0,false,0,1,true⟩)],.dead,[]⟩ (.normal) ⟨[(1,.sl (aj v) v.length d),(5,.ref 0 0 0 c.length),(18,.sl (aj u) u.length f),(19,ω (u.length:Int)),(20,ω (((i+1):Nat):Int))],[(0,⟨(ν ((0+(δ (((i+v.length):Nat):Int)))*1) (aj c)++ [.int .u32 (e:Int)]++ε (((0+(δ (((i+v.length):Nat):Int)))*1)+1) (aj c)),0,false,0,1,true⟩)],.dead,[]⟩:=pN 201 [2] 1 1 (.c t (.c y (.c q (.c r (.c p (.c m (.c (aK m) .nil))))))) (.v 65 (.eq h) (.v 63 (.eq k) (.v 61 (.eq j) (.l n (.v 24 (.eq g) .nil))))) w
theorem amN {nt:Nat} (e:68≤nt) (u v o g:List Nat) (c f:Bool) (i a h:Nat) (d:(decide ((i:Int)<(u.length:Int)))=false):ψ nt f201 ⟨[(1,.sl (aj v) v.length f),(5,.ref 0 0 0 o.length),(18,.sl (aj u) u.length c),(19,ω (u.length:Int)),(20,ω (i:Int))],[(0,⟨(aj o),0,false,0,1,true⟩)],.dead,[]⟩ (.exit 0) ⟨[(5,.ref 0 0 0 o.length)],[(0,⟨(aj o),0,false,0,1,true⟩)],.dead,[]⟩:=pN 201 [] 1 0 (.c (aN d) .nil) (.nil) e
theorem aak (a b w:List Nat) (c d:Bool) (z:Nat) (e:(decide (((0:Nat):Int)≤(γ .i64 ((a.length:Int)+(b.length:Int)))))=true) (h:(decide ((γ .i64 ((a.length:Int)+(b.length:Int)))=(γ .i64 ((a.length:Int)+(b.length:Int)))))=true) (f:(decide ((γ .i64 ((a.length:Int)+(b.length:Int)))≤((1099511627776:Nat):Int)))=true) (i:CO 162 [.sl (ν (w.length*1) (aj w)) w.length true] (.ret (.sl (aj (digs z)) (digs z).length true))) (g:aG prog ap [] 68 (.block 0 (.loop (af 0 (ah f201)))) ⟨[(0,.sl (aj a) a.length c),(1,.sl (aj b) b.length d),(4,.nilS),(5,.ref 0 0 0 (δ (γ .i64 ((a.length:Int)+(b.length:Int))))),(6,.dead),(7,.dead),(8,.dead),(9,.dead),(10,.dead),(11,.dead),(18,.sl (aj a) a.length c),(19,ω (a.length:Int)),(20,ω 0),(21,.dead),(25,.dead),(26,.dead),(27,.dead),(28,.dead)],[(0,⟨(gz (δ (γ .i64 ((a.length:Int)+(b.length:Int)))) [.int .u32 0]),0,false,0,1,true⟩)],.dead,[]⟩ (.normal) ⟨[(5,.ref 0 0 0 w.length)],[(0,⟨(aj w),0,false,0,1,true⟩)],.dead,[]⟩):CO 201 [.sl (aj a) a.length c,.sl (aj b) b.length d] (.ret (.sl (aj (digs z)) (digs z).length true)):=pK [0] 0 0 (.c e (.c h (.c f .nil))) (.c i (.l g .nil))
def prI (u v:List Nat) (na nb:Bool) (i a:Nat) (p:Nat × List Nat × Nat):St:=⟨[(1,.sl (aj v) v.length nb),(5,.ref 0 0 0 p.2.1.length),(6,ω (i:Int)),(7,.int .u32 (a:Int)),(8,.int .u64 (p.2.2:Int)),(18,.sl (aj u) u.length na),(19,ω (u.length:Int)),(20,ω (i:Int)),(25,.sl (aj v) v.length nb),(26,ω (v.length:Int)),(27,ω (p.1:Int))],[(0,⟨(aj p.2.1),0,false,0,1,true⟩)],.dead,[]⟩
def prJ (u v:List Nat) (na nb:Bool) (i:Nat) (p:List Nat × Nat):St:=⟨[(1,.sl (aj v) v.length nb),(5,.ref 0 0 0 p.1.length),(6,ω (i:Int)),(8,.int .u64 (p.2:Int)),(18,.sl (aj u) u.length na),(19,ω (u.length:Int)),(20,ω (i:Int))],[(0,⟨(aj p.1),0,false,0,1,true⟩)],.dead,[]⟩
def prO (u v:List Nat) (na nb:Bool) (p:Nat × List Nat):St:=⟨[(1,.sl (aj v) v.length nb),(5,.ref 0 0 0 p.2.length),(18,.sl (aj u) u.length na),(19,ω (u.length:Int)),(20,ω (p.1:Int))],[(0,⟨(aj p.2),0,false,0,1,true⟩)],.dead,[]⟩
def prR (o:List Nat):St:=⟨[(5,.ref 0 0 0 o.length)],[(0,⟨(aj o),0,false,0,1,true⟩)],.dead,[]⟩
def F7 (a:Nat):List Nat→List Nat→Nat→List Nat × Nat
 |x::m,y::v,c=>((a*y+x+c) % 4294967296::(F7 a m v ((a*y+x+c) / 4294967296)).1,(F7 a m v ((a*y+x+c) / 4294967296)).2)
 |_,_,c=>([],c)
theorem Lu {a x y c:Nat} (e:a<4294967296) (g:x<4294967296) (h:y<4294967296) (d:c<4294967296):a*y<18446744073709551616∧a*y+x+c<18446744073709551616∧(a*y+x+c) / 4294967296<4294967296:=by
 have f:a*y≤4294967295*4294967295:=Nat.mul_le_mul (by omega) (by omega);omega
theorem Jl {a:Nat} (d:a<4294967296):∀ (m v:List Nat) (c:Nat),m.length=v.length→c<4294967296→bM m→bM v→(F7 a m v c).2<4294967296∧bM (F7 a m v c).1∧(F7 a m v c).1.length=v.length∧aF (F7 a m v c).1+4294967296^v.length*(F7 a m v c).2=aF m+a*aF v+c
 | [],[],c,_,hc,_,_=> ⟨hc,bM.nil,rfl,by simp [F7,aF]⟩
 |x::m,y::v,c,hl,hc,hm,hv=>by
  obtain ⟨_,_,f⟩:=Lu d hm.head hv.head hc;obtain ⟨e,i,g,j⟩:=Jl d m v _ (by simpa using hl) f hm.tail hv.tail;simp only [F7];refine ⟨e,bM.cons (Xqv _ (by omega)) i,by simp [g], ?_⟩;simp only [aF,μ,Xq2];rw [Nat.mul_comm (4294967296^v.length),Xqn,Xq8,Nat.mul_left_comm a];omega
 | [],_::_,_,h,_,_,_=>by simp at h
 |_::_,[],_,h,_,_,_=>by simp at h
def Qv (v:List Nat):List Nat→List Nat→List Nat
 | [],m=>m
 |a::u,m=>((F7 a m v 0).1++ [(F7 a m v 0).2]).headD 0::Qv v u ((F7 a m v 0).1++ [(F7 a m v 0).2]).tail
theorem Qw {v:List Nat} (e:bM v):∀ (u m:List Nat),bM u→bM m→m.length=v.length→bM (Qv v u m)∧(Qv v u m).length=u.length+v.length∧aF (Qv v u m)=aF m+aF u*aF v
 | [],m,_,hm,hl=> ⟨hm,by simp [Qv,hl],by simp [Qv,aF]⟩
 | a::u,m,hu,hm,hl=>by
  obtain ⟨g,j,h,q⟩:=Jl hu.head m v 0 hl (by omega) hm e;obtain ⟨z,d,c,p⟩:=IQ (F7 a m v 0).1 (F7 a m v 0).2;have f:bM (z::d):=by rw [← c];exact bM.app j (bM.cons g bM.nil)
  have i:aF (z::d)=aF m+a*aF v:=by
   rw [← c,mQ,h];simp only [aF];omega
  simp only [Qv,c,Xjd,Xzj];obtain ⟨k,o,n⟩:=Qw e u d hu.tail f.tail (by omega);refine ⟨bM.cons f.head k,by simp [o];omega, ?_⟩;simp only [aF] at i ⊢;rw [n,Nat.add_mul,Xq8,Xqn];omega
theorem Xz {p s:List Nat} {x y k:Nat} (h:k=p.length):ν ((0+(δ (k:Int)))*1) (aj (p++x::s))++ [Xxo .u32 (y:Int)]++ε (((0+(δ (k:Int)))*1)+1) (aj (p++x::s))=aj (p++y::s):=by
 subst h;exact y_
theorem IM {p s:List Nat} {x k:Nat} (h:k=p.length):(ζ (ε ((δ (k:Int))*1) (aj (p++x::s))) .dead)= .int .u32 (x:Int):=by
 subst h;rw [yY];rfl
theorem aem {p s:List Nat} {x k:Nat} (h:k=p.length):(ζ (ε ((0+(δ (k:Int)))*1) (aj (p++x::s))) .dead)= .int .u32 (x:Int):=by
 rw [Xqf];exact IM h
theorem wdp {a b:Nat} (h:a+b<9223372036854775808):ω (γ .i64 ((a:Int)+(b:Int)))= ω ((a+b:Nat):Int):=by
 rw [bJ,aO h]
theorem ank {a b:Nat} (h:a+b<18446744073709551616):Xxo .u64 (γ .u64 ((a:Int)+(b:Int)))= .int .u64 ((a+b:Nat):Int):=by
 rw [bJ,oO,υ h]
theorem anj {a:Nat} (h:a<18446744073709551616):Xxo .u64 (γ .u64 (a:Int))= .int .u64 (a:Int):=by
 rw [oO,υ h]
theorem ani {a:Nat} (h:a<4294967296):Xxo .u32 (γ .u32 (a:Int))= .int .u32 (a:Int):=by
 rw [rq,υ h]
theorem Zt {nt:Nat} (E:68≤nt) (u u1 u2 v:List Nat) (k j:Bool) (a:Nat) (hu:u=u1++a::u2) (V:a<4294967296) (N:bM v) (F:u.length<2^38) (G:v.length<2^38):∀ (w m e d pp z:List Nat) (c:Nat),e++w=v→m.length=w.length→d.length=e.length→pp.length=u1.length→bM m→c<4294967296→
  az prog ap [] nt (af 2 (ah f201)) (fun _=> .exit 2) (prI u v k j u1.length a) (prJ u v k j u1.length) (e.length,pp++d++m++z,c) (pp++d++(F7 a m w c).1++z,(F7 a m w c).2):=by
 intro w
 induction w with
 |nil=>
  intro m e d pp z c g i A B h t;have K:m= []:=List.length_eq_zero_iff.1 (by simpa using i);subst K;have n:e=v:=by simpa using g
  simp only [F7];exact .done (amL E u v _ k j _ _ _ a 0 0 (by rw [n];exact Yq1 (by omega)))
 | cons y w ih=>
  intro m e d pp z c g i A B h t;cases m with
  |nil=>simp at i
  | cons x m=>
   have M:e.length+(w.length+1)=v.length:=by rw [← g];simp
   have R:u1.length+(u2.length+1)=u.length:=by rw [hu];simp
   have S:y<4294967296:=N y (by rw [← g];simp);have hx:=h.head;obtain ⟨Y,b2,P⟩:=Lu V h.head S t;have f:=ih m (e++ [y]) (d++ [(a*y+x+c) % 4294967296]) pp z ((a*y+x+c) / 4294967296) (by simp [g]) (by simpa using i) (by simp [A]) B h.tail P;simp only [F7];rw [θ,σ] at f;have X:pp++d++x::m++z=(pp++d)++x::(m++z):=by simp
   have O:pp++(d++ [(a*y+x+c) % 4294967296])++m++z=(pp++d)++(a*y+x+c) % 4294967296::(m++z):=by simp
   have U:pp++(d++ [(a*y+x+c) % 4294967296])++(F7 a m w ((a*y+x+c) / 4294967296)).1++z=pp++d++(a*y+x+c) % 4294967296::(F7 a m w ((a*y+x+c) / 4294967296)).1++z:=by simp
   rw [U] at f;refine .next ?_ f
   have C:u1.length+e.length=(pp++d).length:=by rw [θ];omega
   have D:((pp++d)++x::(m++z)).length=(pp++d).length+(m++z).length+1:=by simp;omega
   have hlen2:((pp++d)++(a*y+x+c) % 4294967296::(m++z)).length=((pp++d)++x::(m++z)).length:=by simp
   have Z:=aem (p:=pp++d) (s:=m++z) (x:=x) C;have W:(ζ (ε ((δ (e.length:Int))*1) (aj v)) .dead)= .int .u32 (y:Int):=by rw [← g];exact IM rfl
   have T:=Xz (p:=pp++d) (s:=m++z) (x:=x) (y:=(a*y+x+c) % 4294967296) C;unfold prI;simp only [X,O,hlen2];have hs:=amK E u v ((pp++d)++x::(m++z)) k j u1.length e.length c a x y;rw [T,Z,W] at hs;have q:u1.length<u.length:=by omega
   have r:e.length<v.length:=by omega
   have o:u1.length+e.length<((pp++d)++x::(m++z)).length:=by omega
   have I:Xxo .u32 (γ .u32 (((a*y+x+c):Nat):Int))= .int .u32 ((((a*y+x+c) % 4294967296):Nat):Int):=by rw [rq]
   have H:Xxo .u64 (Xqw (((a*y+x+c):Nat):Int) (2^(min 32 64)))= .int .u64 ((((a*y+x+c) / 4294967296):Nat):Int):=by rw [show min 32 64=32 from rfl,lD]
   have Q:Xxo .u64 (γ .u64 ((a:Int)*(y:Int)))= .int .u64 ((a*y:Nat):Int):=by rw [← Xw5,oO,υ Y]
   have J:Xqg (((0+(δ (((u1.length+e.length):Nat):Int)))*1)+1) (η (aj ((pp++d)++x::(m++z))))=true:=by
    rw [Xzm,aB,au];omega
   have y1:a*y+x<18446744073709551616:=by omega
   apply hs<;>first|exact rfl|exact wdp (by omega)|exact ank (by omega)|exact I|exact H|exact Q|exact anj (by omega)|exact J|exact Ul _|exact qJ q|exact qJ r|exact qJ o
theorem WL {nt:Nat} (j:68≤nt) (u v:List Nat) (i h:Bool) (e:bM u) (E:bM v) (k:u.length<2^38) (q:v.length<2^38):∀ (u2 u1 m pp:List Nat),u1++u2=u→m.length=v.length→pp.length=u1.length→bM m→
  az prog ap [] nt (af 0 (ah f201)) (fun _=> .exit 0) (prO u v i h) prR (u1.length,pp++m++κ u2.length 0) (pp++Qv v u2 m):=by
 intro u2
 induction u2 with
 |nil=>
  intro u1 m pp d A n o;have B:u1=u:=by simpa using d
  simp only [Qv,Xqb,List.replicate_zero,Γ];exact .done (amN j u v _ [] i h _ 0 0 (by rw [B];exact Yq1 (by omega)))
 | cons a u2 ih=>
  intro u1 m pp d A n o;have J:u1.length+(u2.length+1)=u.length:=by rw [← d];simp
  have F:a<4294967296:=e a (by rw [← d];simp);obtain ⟨P,I,U,T⟩:=Jl F m v 0 A (by omega) o E;have t:=fun nt (j:68≤nt)=>Zt j u u1 u2 v i h a d.symm F E k q v m [] [] pp (κ (u2.length+1) 0) 0 rfl A rfl n o (by omega)
  simp only [Qv];generalize F7 a m v 0=r at*
  obtain ⟨z,g,w,S⟩:=IQ r.1 r.2;have R:bM (z::g):=by rw [← w];exact bM.app I (bM.cons P bM.nil)
  have c:=ih (u1++ [a]) g (pp++ [z]) (by simp [d]) (by omega) (by simp [n]) R.tail;simp only [w,Xjd,Xzj];rw [θ,σ] at c;have N:pp++ [z]++Qv v u2 g=pp++z::Qv v u2 g:=by simp
  rw [N] at c;refine .next ?_ c
  rw [Γ] at t;have K:u1.length+v.length=(pp++r.1).length:=by rw [θ];omega
  have Q:pp++r.1++κ (u2.length+1) 0=(pp++r.1)++0::κ u2.length 0:=by rw [Xxc]
  have H:pp++ [z]++g++κ u2.length 0=(pp++r.1)++r.2::κ u2.length 0:=by
   rw [Xqd pp,Xxe,← w];simp
  have O:(ζ (ε ((δ (u1.length:Int))*1) (aj u)) .dead)= .int .u32 (a:Int):=by rw [← d];exact IM rfl
  have M:=Xz (p:=pp++r.1) (s:=κ u2.length 0) (x:=0) (y:=r.2) K;rw [Q] at t;have f:((pp++r.1)++0::κ u2.length 0).length=((pp++r.1)++r.2::κ u2.length 0).length:=by simp
  have hlen2:((pp++r.1)++0::κ u2.length 0).length=(pp++r.1).length+u2.length+1:=by simp;omega
  have hs:=amM j u v (pp++m++κ (u2.length+1) 0) ((pp++r.1)++0::κ u2.length 0) i h u1.length a r.2;rw [M,O] at hs;have D:u1.length<u.length:=by omega
  have C:u1.length+v.length<((pp++r.1)++0::κ u2.length 0).length:=by omega
  have G:Xqg (((0+(δ (((u1.length+v.length):Nat):Int)))*1)+1) (η (aj ((pp++r.1)++0::κ u2.length 0)))=true:=by
   rw [Xzm,aB,au];omega
  unfold prO;simp only [H,μ];rw [← f];apply hs<;>first|exact rfl|exact wdp (by omega)|exact ani (by omega)|exact G|exact Ul _|exact qJ D|exact qJ C|skip
  exact az.blk t (by simp) rfl (aH.of ⟨rfl,rfl,rfl,rfl,rfl,rfl,rfl,rfl,rfl,rfl,rfl,trivial⟩) (aH.refl _)
theorem aal (a b:List Nat) (e d:Bool) (g:bM a) (c:bM b) (t:a.length<2^37) (u:b.length<2^37):CO 201 [.sl (aj a) a.length e,.sl (aj b) b.length d] (.ret (.sl (aj (digs (aF a*aF b))) (digs (aF a*aF b)).length true)):=by
 obtain ⟨p,r,k⟩:=Qw c a (κ b.length 0) g (fun x i=>by rw [(List.mem_replicate.1 i).2];omega) (by simp);have m:aF (κ b.length 0)=0:=by
  generalize b.length=n
  induction n with
  |zero=>rfl
  |succ n ih=>rw [Xxc];simp only [aF,ih]
 rw [m,Xqf] at k;have q:∀ nt,68≤nt→az prog ap [] nt (af 0 (ah f201)) (fun _=> .exit 0) (prO a b e d) prR (0,κ (a.length+b.length) 0) (Qv b a (κ b.length 0)):=fun nt j=>by
  have:=WL j a b e d g c (by omega) (by omega) a [] (κ b.length 0) [] rfl (by simp) rfl (fun x i=>by rw [(List.mem_replicate.1 i).2];omega);rw [Xqk,Xqk,List.replicate_append_replicate,Xxq] at this;exact this
 generalize Qv b a (κ b.length 0)=w at*
 have f:=aak a b w e d (aF a*aF b);have o:γ .i64 ((a.length:Int)+(b.length:Int))=((a.length+b.length:Nat):Int):=by rw [bJ,aO (by omega)]
 rw [o,aB,pX] at f;have h:=az.blk (s:=prO a b e d (0,κ (a.length+b.length) 0)) (s':=prR w) (id:=0) q (by simp) rfl (aH.refl _) (aH.refl _);unfold prO at h;simp only [List.length_replicate] at h;exact f (Yq0 (by omega)) (Yq0 rfl) (Yq0 (by omega)) (BP w _ _ rfl (by rw [jM p,k]) (by omega)) fun nt j=>(h nt j).weak (aH.of ⟨rfl,rfl,rfl,rfl,rfl,trivial⟩) (aH.refl _)
theorem ZY (s t:List UInt8) (hs:s.length<2^36) (e:t.length<2^36):CO 171 [.str s,.str t] (.ret (.str (ae (ag s*ag t)))):=by
 have d:=qG (s:=s) (n:=2^34) (by omega);have c:=qG (s:=t) (n:=2^34) (by omega);have f:=RH d c;have h:=aal (digs (ag s)) (digs (ag t)) true true (bM.digs _) (bM.digs _) (by omega) (by omega);rw [fH,fH] at h;exact aeA s t _ (uC s (by omega)) (uC t (by omega)) h (qX _ _ true (vT _) (by omega) (by omega))
theorem ajU {nt:Nat} (t:83≤nt) (u v o:List Nat) (k c x y:Nat) (r:ω (τ (ζ (ε ((δ (k:Int))*1) (ai u)) .dead))= ω (x:Int)) (g:ω (γ .i64 ((c:Int)+(x:Int)))= ω (((c+x):Nat):Int)) (q:ω (τ (ζ (ε ((δ (k:Int))*1) (ai v)) .dead))= ω (y:Int)) (i:ω (γ .i64 ((((c+x):Nat):Int)+(y:Int)))= ω (((c+x+y):Nat):Int)) (h:ω (Xju (((c+x+y):Nat):Int) ((16777216:Nat):Int))= ω ((((c+x+y) % 16777216):Nat):Int)) (e:ω (γ .i64 (Xxg (((c+x+y):Nat):Int) ((16777216:Nat):Int)))= ω ((((c+x+y) / 16777216):Nat):Int)) (f:ω (γ .i64 ((k:Int)+((1:Nat):Int)))= ω (((k+1):Nat):Int)) (p:(chk (.int .i64) (ζ (ε ((δ (k:Int))*1) (ai v)) .dead))=true) (m:(decide (((0:Nat):Int)≤(k:Int)))=true) (j:(decide ((k:Int)<(v.length:Int)))=true) (n:(chk (.int .i64) (ζ (ε ((δ (k:Int))*1) (ai u)) .dead))=true) (d:(decide ((k:Int)<(u.length:Int)))=true):ψ nt f80 ⟨[(9,.sl (ai u) u.length false),(10,.sl (ai v) v.length false),(11,.nilS),(12,ω (c:Int)),(13,ω (k:Int))],[],.dead,[]⟩ (.normal) ⟨[(9,.sl (ai u) u.length false),(10,.sl (ai v) v.length false),(11,.ref 0 0 0 1),(12,ω ((((c+x+y) / 16777216):Nat):Int)),(13,ω (((k+1):Nat):Int))],[(0,⟨[ω ((((c+x+y) % 16777216):Nat):Int)],0,false,0,1,true⟩)],.dead,[]⟩:=pN 80 [] 6 31 (.k 5 p (.c m (.c j (.c (aK j) (.c n (.c m (.c d (.c (aK d) (.k 2 (aK d) .nil))))))))) (.v 52 (.eq f) (.v 80 (.eq e) (.v 76 (.eq h) (.v 73 (.eq i) (.v 72 (.eq q) (.v 63 (.eq g) (.v 62 (.eq r) .nil))))))) t
theorem ajV {nt:Nat} (m:83≤nt) (u v o:List Nat) (k c x y:Nat) (n:ω (τ (ζ (ε ((δ (k:Int))*1) (ai u)) .dead))= ω (x:Int)) (e:ω (γ .i64 ((c:Int)+(x:Int)))= ω (((c+x):Nat):Int)) (f:ω (Xju (((c+x):Nat):Int) ((16777216:Nat):Int))= ω ((((c+x) % 16777216):Nat):Int)) (d:ω (γ .i64 (Xxg (((c+x):Nat):Int) ((16777216:Nat):Int)))= ω ((((c+x) / 16777216):Nat):Int)) (h:ω (γ .i64 ((k:Int)+((1:Nat):Int)))= ω (((k+1):Nat):Int)) (i:(decide ((k:Int)<(v.length:Int)))=false) (p:(chk (.int .i64) (ζ (ε ((δ (k:Int))*1) (ai u)) .dead))=true) (j:(decide (((0:Nat):Int)≤(k:Int)))=true) (g:(decide ((k:Int)<(u.length:Int)))=true):ψ nt f80 ⟨[(9,.sl (ai u) u.length false),(10,.sl (ai v) v.length false),(11,.nilS),(12,ω (c:Int)),(13,ω (k:Int))],[],.dead,[]⟩ (.normal) ⟨[(9,.sl (ai u) u.length false),(10,.sl (ai v) v.length false),(11,.ref 0 0 0 1),(12,ω ((((c+x) / 16777216):Nat):Int)),(13,ω (((k+1):Nat):Int))],[(0,⟨[ω ((((c+x) % 16777216):Nat):Int)],0,false,0,1,true⟩)],.dead,[]⟩:=pN 80 [] 6 15 (.k 5 (aN i) (.c p (.c j (.c g (.c (aK g) (.k 2 (aK g) .nil)))))) (.v 52 (.eq h) (.v 80 (.eq d) (.v 76 (.eq f) (.v 63 (.eq e) (.v 62 (.eq n) .nil))))) m
theorem ajW {nt:Nat} (m:83≤nt) (u v o:List Nat) (k c x y:Nat) (n:ω (τ (ζ (ε ((δ (k:Int))*1) (ai v)) .dead))= ω (y:Int)) (h:ω (γ .i64 ((c:Int)+(y:Int)))= ω (((c+y):Nat):Int)) (e:ω (Xju (((c+y):Nat):Int) ((16777216:Nat):Int))= ω ((((c+y) % 16777216):Nat):Int)) (d:ω (γ .i64 (Xxg (((c+y):Nat):Int) ((16777216:Nat):Int)))= ω ((((c+y) / 16777216):Nat):Int)) (f:ω (γ .i64 ((k:Int)+((1:Nat):Int)))= ω (((k+1):Nat):Int)) (j:(chk (.int .i64) (ζ (ε ((δ (k:Int))*1) (ai v)) .dead))=true) (p:(decide (((0:Nat):Int)≤(k:Int)))=true) (g:(decide ((k:Int)<(v.length:Int)))=true) (i:(decide ((k:Int)<(u.length:Int)))=false):ψ nt f80 ⟨[(9,.sl (ai u) u.length false),(10,.sl (ai v) v.length false),(11,.nilS),(12,ω (c:Int)),(13,ω (k:Int))],[],.dead,[]⟩ (.normal) ⟨[(9,.sl (ai u) u.length false),(10,.sl (ai v) v.length false),(11,.ref 0 0 0 1),(12,ω ((((c+y) / 16777216):Nat):Int)),(13,ω (((k+1):Nat):Int))],[(0,⟨[ω ((((c+y) % 16777216):Nat):Int)],0,false,0,1,true⟩)],.dead,[]⟩:=pN 80 [] 6 22 (.k 5 j (.c p (.c g (.c (aK g) (.c (aN i) (.k 1 (aK g) (.c (aN i) .nil))))))) (.v 52 (.eq f) (.v 80 (.eq d) (.v 76 (.eq e) (.v 73 (.eq h) (.v 72 (.eq n) .nil))))) m
theorem ajX {nt:Nat} (j:83≤nt) (u v o:List Nat) (k c x y:Nat) (e:ω (Xju (c:Int) ((16777216:Nat):Int))= ω (((c % 16777216):Nat):Int)) (d:ω (γ .i64 (Xxg (c:Int) ((16777216:Nat):Int)))= ω (((c / 16777216):Nat):Int)) (f:ω (γ .i64 ((k:Int)+((1:Nat):Int)))= ω (((k+1):Nat):Int)) (g:(decide ((k:Int)<(v.length:Int)))=false) (h:(decide ((k:Int)<(u.length:Int)))=false) (i:(decide (((0:Nat):Int)<(c:Int)))=true):ψ nt f80 ⟨[(9,.sl (ai u) u.length false),(10,.sl (ai v) v.length false),(11,.nilS),(12,ω (c:Int)),(13,ω (k:Int))],[],.dead,[]⟩ (.normal) ⟨[(9,.sl (ai u) u.length false),(10,.sl (ai v) v.length false),(11,.ref 0 0 0 1),(12,ω (((c / 16777216):Nat):Int)),(13,ω (((k+1):Nat):Int))],[(0,⟨[ω (((c % 16777216):Nat):Int)],0,false,0,1,true⟩)],.dead,[]⟩:=pN 80 [] 6 4 (.k 5 (aN g) (.c (aN h) (.c (aK i) (.c (aN g) (.c (aN h) .nil))))) (.v 52 (.eq f) (.v 80 (.eq d) (.v 76 (.eq e) .nil))) j
theorem ajY {nt:Nat} (f:83≤nt) (u v o:List Nat) (k c x y:Nat) (d:(decide (((0:Nat):Int)<(c:Int)))=false) (g:(decide ((k:Int)<(v.length:Int)))=false) (e:(decide ((k:Int)<(u.length:Int)))=false):ψ nt f80 ⟨[(9,.sl (ai u) u.length false),(10,.sl (ai v) v.length false),(11,.nilS),(12,ω (c:Int)),(13,ω (k:Int))],[],.dead,[]⟩ (.exit 0) ⟨[(11,.nilS)],[],.dead,[]⟩:=pN 80 [] 3 0 (.c (aN d) (.c (aN g) (.c (aN e) .nil))) (.nil) f
theorem ajP {nt:Nat} (w:83≤nt) (u v o:List Nat) (k c x y:Nat) (t:ω (τ (ζ (ε ((δ (k:Int))*1) (ai u)) .dead))= ω (x:Int)) (g:ω (γ .i64 ((c:Int)+(x:Int)))= ω (((c+x):Nat):Int)) (r:ω (τ (ζ (ε ((δ (k:Int))*1) (ai v)) .dead))= ω (y:Int)) (i:ω (γ .i64 ((((c+x):Nat):Int)+(y:Int)))= ω (((c+x+y):Nat):Int)) (h:ω (Xju (((c+x+y):Nat):Int) ((16777216:Nat):Int))= ω ((((c+x+y) % 16777216):Nat):Int)) (d:ω (γ .i64 (Xxg (((c+x+y):Nat):Int) ((16777216:Nat):Int)))= ω ((((c+x+y) / 16777216):Nat):Int)) (f:ω (γ .i64 ((k:Int)+((1:Nat):Int)))= ω (((k+1):Nat):Int)) (q:(Xqg (o.length+1) 1099511627776)=true) (z:(Xqg (o.length*1) (η (ai o)))=true) (p:(chk (.int .i64) (ζ (ε ((δ (k:Int))*1) (ai v)) .dead))=true) (j:(decide (((0:Nat):Int)≤(k:Int)))=true) (m:(decide ((k:Int)<(v.length:Int)))=true) (n:(chk (.int .i64) (ζ (ε ((δ (k:Int))*1) (ai u)) .dead))=true) (e:(decide ((k:Int)<(u.length:Int)))=true):ψ nt f80 ⟨[(9,.sl (ai u) u.length false),(10,.sl (ai v) v.length false),(11,.ref 0 0 0 o.length),(12,ω (c:Int)),(13,ω (k:Int))],[(0,⟨(ai o),0,false,0,1,true⟩)],.dead,[]⟩ (.normal) ⟨[(9,.sl (ai u) u.length false),(10,.sl (ai v) v.length false),(11,.ref 0 0 0 (o.length+1)),(12,ω ((((c+x+y) / 16777216):Nat):Int)),(13,ω (((k+1):Nat):Int))],[(0,⟨((ν (o.length*1) (ai o))++ [ω ((((c+x+y) % 16777216):Nat):Int)]),0,false,0,1,true⟩)],.dead,[]⟩:=pN 80 [] 5 31 (.k 2 q (.c z (.k 2 p (.c j (.c m (.c (aK m) (.c n (.c j (.c e (.c (aK e) (.k 2 (aK e) .nil))))))))))) (.v 52 (.eq f) (.v 80 (.eq d) (.v 76 (.eq h) (.v 73 (.eq i) (.v 72 (.eq r) (.v 63 (.eq g) (.v 62 (.eq t) .nil))))))) w
theorem ajQ {nt:Nat} (q:83≤nt) (u v o:List Nat) (k c x y:Nat) (p:ω (τ (ζ (ε ((δ (k:Int))*1) (ai u)) .dead))= ω (x:Int)) (g:ω (γ .i64 ((c:Int)+(x:Int)))= ω (((c+x):Nat):Int)) (h:ω (Xju (((c+x):Nat):Int) ((16777216:Nat):Int))= ω ((((c+x) % 16777216):Nat):Int)) (e:ω (γ .i64 (Xxg (((c+x):Nat):Int) ((16777216:Nat):Int)))= ω ((((c+x) / 16777216):Nat):Int)) (f:ω (γ .i64 ((k:Int)+((1:Nat):Int)))= ω (((k+1):Nat):Int)) (n:(Xqg (o.length+1) 1099511627776)=true) (r:(Xqg (o.length*1) (η (ai o)))=true) (j:(decide ((k:Int)<(v.length:Int)))=false) (m:(chk (.int .i64) (ζ (ε ((δ (k:Int))*1) (ai u)) .dead))=true) (i:(decide (((0:Nat):Int)≤(k:Int)))=true) (d:(decide ((k:Int)<(u.length:Int)))=true):ψ nt f80 ⟨[(9,.sl (ai u) u.length false),(10,.sl (ai v) v.length false),(11,.ref 0 0 0 o.length),(12,ω (c:Int)),(13,ω (k:Int))],[(0,⟨(ai o),0,false,0,1,true⟩)],.dead,[]⟩ (.normal) ⟨[(9,.sl (ai u) u.length false),(10,.sl (ai v) v.length false),(11,.ref 0 0 0 (o.length+1)),(12,ω ((((c+x) / 16777216):Nat):Int)),(13,ω (((k+1):Nat):Int))],[(0,⟨((ν (o.length*1) (ai o))++ [ω ((((c+x) % 16777216):Nat):Int)]),0,false,0,1,true⟩)],.dead,[]⟩:=pN 80 [] 5 15 (.k 2 n (.c r (.k 2 (aN j) (.c m (.c i (.c d (.c (aK d) (.k 2 (aK d) .nil)))))))) (.v 52 (.eq f) (.v 80 (.eq e) (.v 76 (.eq h) (.v 63 (.eq g) (.v 62 (.eq p) .nil))))) q
theorem ajR {nt:Nat} (q:83≤nt) (u v o:List Nat) (k c x y:Nat) (p:ω (τ (ζ (ε ((δ (k:Int))*1) (ai v)) .dead))= ω (y:Int)) (h:ω (γ .i64 ((c:Int)+(y:Int)))= ω (((c+y):Nat):Int)) (g:ω (Xju (((c+y):Nat):Int) ((16777216:Nat):Int))= ω ((((c+y) % 16777216):Nat):Int)) (d:ω (γ .i64 (Xxg (((c+y):Nat):Int) ((16777216:Nat):Int)))= ω ((((c+y) / 16777216):Nat):Int)) (f:ω (γ .i64 ((k:Int)+((1:Nat):Int)))= ω (((k+1):Nat):Int)) (n:(Xqg (o.length+1) 1099511627776)=true) (r:(Xqg (o.length*1) (η (ai o)))=true) (j:(chk (.int .i64) (ζ (ε ((δ (k:Int))*1) (ai v)) .dead))=true) (m:(decide (((0:Nat):Int)≤(k:Int)))=true) (e:(decide ((k:Int)<(v.length:Int)))=true) (i:(decide ((k:Int)<(u.length:Int)))=false):ψ nt f80 ⟨[(9,.sl (ai u) u.length false),(10,.sl (ai v) v.length false),(11,.ref 0 0 0 o.length),(12,ω (c:Int)),(13,ω (k:Int))],[(0,⟨(ai o),0,false,0,1,true⟩)],.dead,[]⟩ (.normal) ⟨[(9,.sl (ai u) u.length false),(10,.sl (ai v) v.length false),(11,.ref 0 0 0 (o.length+1)),(12,ω ((((c+y) / 16777216):Nat):Int)),(13,ω (((k+1):Nat):Int))],[(0,⟨((ν (o.length*1) (ai o))++ [ω ((((c+y) % 16777216):Nat):Int)]),0,false,0,1,true⟩)],.dead,[]⟩:=pN 80 [] 5 22 (.k 2 n (.c r (.k 2 j (.c m (.c e (.c (aK e) (.c (aN i) (.k 1 (aK e) (.c (aN i) .nil))))))))) (.v 52 (.eq f) (.v 80 (.eq d) (.v 76 (.eq g) (.v 73 (.eq h) (.v 72 (.eq p) .nil))))) q
theorem ajS {nt:Nat} (j:83≤nt) (u v o:List Nat) (k c x y:Nat) (e:ω (Xju (c:Int) ((16777216:Nat):Int))= ω (((c % 16777216):Nat):Int)) (d:ω (γ .i64 (Xxg (c:Int) ((16777216:Nat):Int)))= ω (((c / 16777216):Nat):Int)) (f:ω (γ .i64 ((k:Int)+((1:Nat):Int)))= ω (((k+1):Nat):Int)) (i:(Xqg (o.length+1) 1099511627776)=true) (m:(Xqg (o.length*1) (η (ai o)))=true) (g:(decide ((k:Int)<(v.length:Int)))=false) (h:(decide ((k:Int)<(u.length:Int)))=false) (n:(decide (((0:Nat):Int)<(c:Int)))=true):ψ nt f80 ⟨[(9,.sl (ai u) u.length false),(10,.sl (ai v) v.length false),(11,.ref 0 0 0 o.length),(12,ω (c:Int)),(13,ω (k:Int))],[(0,⟨(ai o),0,false,0,1,true⟩)],.dead,[]⟩ (.normal) ⟨[(9,.sl (ai u) u.length false),(10,.sl (ai v) v.length false),(11,.ref 0 0 0 (o.length+1)),(12,ω (((c / 16777216):Nat):Int)),(13,ω (((k+1):Nat):Int))],[(0,⟨((ν (o.length*1) (ai o))++ [ω (((c % 16777216):Nat):Int)]),0,false,0,1,true⟩)],.dead,[]⟩:=pN 80 [] 5 4 (.k 2 i (.c m (.k 2 (aN g) (.c (aN h) (.c (aK n) (.c (aN g) (.c (aN h) .nil))))))) (.v 52 (.eq f) (.v 80 (.eq d) (.v 76 (.eq e) .nil))) j
theorem ajT {nt:Nat} (f:83≤nt) (u v o:List Nat) (k c x y:Nat) (d:(decide (((0:Nat):Int)<(c:Int)))=false) (g:(decide ((k:Int)<(v.length:Int)))=false) (e:(decide ((k:Int)<(u.length:Int)))=false):ψ nt f80 ⟨[(9,.sl (ai u) u.length false),(10,.sl (ai v) v.length false),(11,.ref 0 0 0 o.length),(12,ω (c:Int)),(13,ω (k:Int))],[(0,⟨(ai o),0,false,0,1,true⟩)],.dead,[]⟩ (.exit 0) ⟨[(11,.ref 0 0 0 o.length)],[(0,⟨(ai o),0,false,0,1,true⟩)],.dead,[]⟩:=pN 80 [] 3 0 (.c (aN d) (.c (aN g) (.c (aN e) .nil))) (.nil) f
theorem aeQ (s t:List UInt8) (x y z:Nat) (w:List Nat) (c:CO 134 [.str s,ω 7] (.ret (.tup [ω (x:Int),.bool true]))) (d:CO 134 [.str t,ω 7] (.ret (.tup [ω (y:Int),.bool true]))) (e:CO 79 [ω (γ .i64 ((x:Int)+(y:Int)))] (.ret (.str (ae z)))):CO 80 [.str s,.str t] (.ret (.str (ae z))):=pK [] 2 3 (.n 2 .nil) (.c e (.c d (.c c .nil)))
theorem aeR (s t:List UInt8) (x y z:Nat) (w:List Nat) (f:CO 134 [.str s,ω 7] (.ret (.tup [ω (x:Int),.bool true]))) (g:CO 134 [.str t,ω 7] (.ret (.tup [ω (y:Int),.bool false]))) (h:CO 135 [.str s] (.ret (.sl (ai (ax (ag s))) (ax (ag s)).length false))) (e:CO 135 [.str t] (.ret (.sl (ai (ax (ag t))) (ax (ag t)).length false))) (c:CO 136 [.sl (ν (w.length*1) (ai w)) w.length true] (.ret (.str (ae z)))) (d:aG prog ap [] 83 (.block 0 (.loop (af 0 (ah f80)))) ⟨[(0,.str s),(1,.str t),(4,.str []),(5,ω (x:Int)),(6,.bool true),(7,ω (y:Int)),(8,.bool false),(9,.sl (ai (ax (ag s))) (ax (ag s)).length false),(10,.sl (ai (ax (ag t))) (ax (ag t)).length false),(11,.nilS),(12,ω 0),(13,ω 0),(14,.dead),(28,.bool false),(50,.dead),(57,.dead),(67,.dead)],[],.dead,[]⟩ (.normal) ⟨[(11,.ref 0 0 0 w.length)],[(0,⟨(ai w),0,false,0,1,true⟩)],.dead,[]⟩):CO 80 [.str s,.str t] (.ret (.str (ae z))):=pK [0] 2 1 (.n 2 .nil) (.c c (.l d (.c e (.c h (.c g (.c f .nil))))))
theorem aeS (s t:List UInt8) (x y z:Nat) (w:List Nat) (f:CO 134 [.str s,ω 7] (.ret (.tup [ω (x:Int),.bool false]))) (g:CO 134 [.str t,ω 7] (.ret (.tup [ω (y:Int),.bool true]))) (h:CO 135 [.str s] (.ret (.sl (ai (ax (ag s))) (ax (ag s)).length false))) (e:CO 135 [.str t] (.ret (.sl (ai (ax (ag t))) (ax (ag t)).length false))) (c:CO 136 [.sl (ν (w.length*1) (ai w)) w.length true] (.ret (.str (ae z)))) (d:aG prog ap [] 83 (.block 0 (.loop (af 0 (ah f80)))) ⟨[(0,.str s),(1,.str t),(4,.str []),(5,ω (x:Int)),(6,.bool false),(7,ω (y:Int)),(8,.bool true),(9,.sl (ai (ax (ag s))) (ax (ag s)).length false),(10,.sl (ai (ax (ag t))) (ax (ag t)).length false),(11,.nilS),(12,ω 0),(13,ω 0),(14,.dead),(28,.bool false),(50,.dead),(57,.dead),(67,.dead)],[],.dead,[]⟩ (.normal) ⟨[(11,.ref 0 0 0 w.length)],[(0,⟨(ai w),0,false,0,1,true⟩)],.dead,[]⟩):CO 80 [.str s,.str t] (.ret (.str (ae z))):=pK [0] 2 0 (.n 2 .nil) (.c c (.l d (.c e (.c h (.c g (.c f .nil))))))
theorem aeT (s t:List UInt8) (x y z:Nat) (w:List Nat) (f:CO 134 [.str s,ω 7] (.ret (.tup [ω (x:Int),.bool false]))) (g:CO 134 [.str t,ω 7] (.ret (.tup [ω (y:Int),.bool false]))) (h:CO 135 [.str s] (.ret (.sl (ai (ax (ag s))) (ax (ag s)).length false))) (e:CO 135 [.str t] (.ret (.sl (ai (ax (ag t))) (ax (ag t)).length false))) (c:CO 136 [.sl (ν (w.length*1) (ai w)) w.length true] (.ret (.str (ae z)))) (d:aG prog ap [] 83 (.block 0 (.loop (af 0 (ah f80)))) ⟨[(0,.str s),(1,.str t),(4,.str []),(5,ω (x:Int)),(6,.bool false),(7,ω (y:Int)),(8,.bool false),(9,.sl (ai (ax (ag s))) (ax (ag s)).length false),(10,.sl (ai (ax (ag t))) (ax (ag t)).length false),(11,.nilS),(12,ω 0),(13,ω 0),(14,.dead),(28,.bool false),(50,.dead),(57,.dead),(67,.dead)],[],.dead,[]⟩ (.normal) ⟨[(11,.ref 0 0 0 w.length)],[(0,⟨(ai w),0,false,0,1,true⟩)],.dead,[]⟩):CO 80 [.str s,.str t] (.ret (.str (ae z))):=pK [0] 2 0 (.n 2 .nil) (.c c (.l d (.c e (.c h (.c g (.c f .nil))))))
theorem akJ (s t:List UInt8) (x y z:Nat) (w:List Nat) (c:(decide ((lZ (ag s) (ag t))<((0:Nat):Int)))=false) (f:CO 101 [.str s,.str t] (.ret (ω (lZ (ag s) (ag t))))) (g:CO 135 [.str s] (.ret (.sl (ai (ax (ag s))) (ax (ag s)).length false))) (h:CO 135 [.str t] (.ret (.sl (ai (ax (ag t))) (ax (ag t)).length false))) (e:CO 151 [.sl (ai (ax (ag s))) (ax (ag s)).length false,.sl (ai (ax (ag t))) (ax (ag t)).length false] (.ret (.sl (ai (ax z)) (ax z).length false))) (d:CO 136 [.sl (ai (ax z)) (ax z).length false] (.ret (.str (ae z)))):CO 102 [.str s,.str t] (.ret (.tup [.str (ae z),.bool true])):=pK [] 1 0 (.c (aN c) .nil) (.c d (.c e (.c h (.c g (.c f .nil)))))
def apQ (o:List Nat):AV:=match o with| []=> .nilS|_::_=> .ref 0 0 0 o.length
def hpQ (o:List Nat):Hp:=match o with| []=> []|a::r=> [(0,⟨ai (a::r),0,false,0,1,true⟩)]
def Aj (u v:List Nat) (p:List Nat × Nat):St:=⟨[(9,.sl (ai u) u.length false),(10,.sl (ai v) v.length false),(11,apQ p.1),(12,ω (p.2:Int)),(13,ω (p.1.length:Int))],hpQ p.1,.dead,[]⟩
def QD (o:List Nat):St:=⟨[(11,apQ o)],hpQ o,.dead,[]⟩
theorem Jn {u r:List Nat} {x k:Nat} (h:ε k u=x::r):(ζ (ε ((δ (k:Int))*1) (ai u)) .dead)= ω (x:Int)∧k<u.length:=by
 refine ⟨?_, ?_⟩
 ·rw [aB,φ];have:ε k (ai u)=ai (ε k u):=by unfold ai;rw [Xzc]
  rw [this,h];rfl
 ·have:=congrArg η h;rw [Xxz,μ] at this;omega
theorem Ai {u:List Nat} {k:Nat} (h:ε k u= []):u.length≤k:=by
 have:=congrArg η h;rw [Xxz,Xqb] at this;omega
theorem QC (o:List Nat) (d:Nat):ν (o.length*1) (ai o)++ [ω (d:Int)]=ai (o++ [d]):=by
 rw [φ,dh,Xqx,iO]
theorem LJ (S:Nat):ω (Xju (S:Int) ((16777216:Nat):Int))= ω (((S % 16777216):Nat):Int):=by rw [wU]
theorem LH {S:Nat} (h:S<2^62):ω (γ .i64 (Xxg (S:Int) ((16777216:Nat):Int)))= ω (((S / 16777216):Nat):Int):=by rw [qg,aO (by omega)]
theorem ajO {nt:Nat} (e:83≤nt) {u v o ru rv:List Nat} {c x y:Nat} (i:ε o.length u=x::ru) (g:ε o.length v=y::rv) (k:x<16777216) (j:y<16777216) (n:c<16777216) (m:o.length<2^39):
  ψ nt f80 (Aj u v (o,c)) .normal (Aj u v (o++ [(c+x+y) % 16777216],(c+x+y) / 16777216)):=by
 obtain ⟨f,k1⟩:=Jn i;obtain ⟨d,k2⟩:=Jn g;cases o with
 |nil=>
  have hs:=ajU e u v [] ([]:List Nat).length c x y;rw [f,d] at hs;apply hs<;>first|exact rfl|exact Q9 (by omega)|exact LJ _|exact LH (by omega)|exact Ul _|exact qJ k1|exact qJ k2
 |cons a r=>
  have hs:=ajP e u v (a::r) (a::r).length c x y;rw [f,d,QC,show (a::r).length+1=((a::r)++ [(c+x+y) % 16777216]).length by simp] at hs;apply hs<;>first|exact rfl|exact Q9 (by omega)|exact LJ _|exact LH (by omega)|exact Ul _|exact qJ k1|exact qJ k2|(rw [Xzm];simp only [θ,σ,bI,φ];omega)|(have h:=Q9 (a:=(a::r).length) (b:=1) (by omega);rw [show (a::r).length+1=((a::r)++ [(c+x+y) % 16777216]).length by simp] at h;exact h)
theorem ajN {nt:Nat} (d:83≤nt) {u v o ru rv:List Nat} {c x y:Nat} (g:ε o.length u=x::ru) (f:ε o.length v= []) (i:x<16777216) (k:c<16777216) (j:o.length<2^39):
  ψ nt f80 (Aj u v (o,c)) .normal (Aj u v (o++ [(c+x) % 16777216],(c+x) / 16777216)):=by
 obtain ⟨e,k1⟩:=Jn g;have k2:=Ai f;cases o with
 |nil=>
  have hs:=ajV d u v [] ([]:List Nat).length c x y;rw [e] at hs;apply hs<;>first|exact rfl|exact Q9 (by omega)|exact LJ _|exact LH (by omega)|exact Ul _|exact qJ k1|exact Cb k2
 |cons a r=>
  have hs:=ajQ d u v (a::r) (a::r).length c x y;rw [e,QC,show (a::r).length+1=((a::r)++ [(c+x) % 16777216]).length by simp] at hs;apply hs<;>first|exact rfl|exact Q9 (by omega)|exact LJ _|exact LH (by omega)|exact Ul _|exact qJ k1|exact Cb k2|(rw [Xzm];simp only [θ,σ,bI,φ];omega)|(have h:=Q9 (a:=(a::r).length) (b:=1) (by omega);rw [show (a::r).length+1=((a::r)++ [(c+x) % 16777216]).length by simp] at h;exact h)
theorem ajM {nt:Nat} (e:83≤nt) {u v o ru rv:List Nat} {c x y:Nat} (g:ε o.length u= []) (f:ε o.length v=y::rv) (i:y<16777216) (k:c<16777216) (j:o.length<2^39):
  ψ nt f80 (Aj u v (o,c)) .normal (Aj u v (o++ [(c+y) % 16777216],(c+y) / 16777216)):=by
 have k1:=Ai g;obtain ⟨d,k2⟩:=Jn f;cases o with
 |nil=>
  have hs:=ajW e u v [] ([]:List Nat).length c x y;rw [d] at hs;apply hs<;>first|exact rfl|exact Q9 (by omega)|exact LJ _|exact LH (by omega)|exact Ul _|exact Cb k1|exact qJ k2
 |cons a r=>
  have hs:=ajR e u v (a::r) (a::r).length c x y;rw [d,QC,show (a::r).length+1=((a::r)++ [(c+y) % 16777216]).length by simp] at hs;apply hs<;>first|exact rfl|exact Q9 (by omega)|exact LJ _|exact LH (by omega)|exact Ul _|exact Cb k1|exact qJ k2|(rw [Xzm];simp only [θ,σ,bI,φ];omega)|(have h:=Q9 (a:=(a::r).length) (b:=1) (by omega);rw [show (a::r).length+1=((a::r)++ [(c+y) % 16777216]).length by simp] at h;exact h)
theorem ajL {nt:Nat} (e:83≤nt) {u v o ru rv:List Nat} {c x y:Nat} (g:ε o.length u= []) (f:ε o.length v= []) (d:0<c) (j:c<16777216) (i:o.length<2^39):
  ψ nt f80 (Aj u v (o,c)) .normal (Aj u v (o++ [(c) % 16777216],(c) / 16777216)):=by
 have k1:=Ai g;have k2:=Ai f;cases o with
 |nil=>
  have hs:=ajX e u v [] ([]:List Nat).length c x y;apply hs<;>first|exact rfl|exact Q9 (by omega)|exact LJ _|exact LH (by omega)|exact Ul _|exact Cb k1|exact Cb k2|exact qJ d
 |cons a r=>
  have hs:=ajS e u v (a::r) (a::r).length c x y;rw [QC,show (a::r).length+1=((a::r)++ [(c) % 16777216]).length by simp] at hs;apply hs<;>first|exact rfl|exact Q9 (by omega)|exact LJ _|exact LH (by omega)|exact Ul _|exact Cb k1|exact Cb k2|exact qJ d|(rw [Xzm];simp only [θ,σ,bI,φ];omega)|(have h:=Q9 (a:=(a::r).length) (b:=1) (by omega);rw [show (a::r).length+1=((a::r)++ [(c) % 16777216]).length by simp] at h;exact h)
theorem WZ {nt:Nat} (c:83≤nt) {u v o:List Nat} (e:ε o.length u= []) (d:ε o.length v= []):ψ nt f80 (Aj u v (o,0)) (.exit 0) (QD o):=by
 have k1:=Ai e;have k2:=Ai d;cases o with
 |nil=>exact ajY c u v [] ([]:List Nat).length 0 0 0 rfl (Cb k2) (Cb k1)
 |cons a r=>exact ajT c u v (a::r) (a::r).length 0 0 0 rfl (Cb k2) (Cb k1)
def JX:List Nat→List Nat→Nat→List Nat
 | [],[],c=>if 0<c then [c % 16777216] else []
 | [],y::v,c=>(c+y) % 16777216::JX [] v ((c+y) / 16777216)
 |x::u,[],c=>(c+x) % 16777216::JX u [] ((c+x) / 16777216)
 |x::u,y::v,c=>(c+x+y) % 16777216::JX u v ((c+x+y) / 16777216)
theorem CE:∀ (u v:List Nat) (c:Nat),bf u→bf v→c≤1→cO (JX u v c)=cO u+cO v+c∧bf (JX u v c)∧(JX u v c).length≤u.length+v.length+1∧u.length≤(JX u v c).length∧v.length≤(JX u v c).length
 | [],[],c,_,_,hc=>by
  simp only [JX];rcases Θ c with h|h
  ·subst h;exact ⟨rfl,bf.nil,by simp,by simp,by simp⟩
  ·rw [if_pos h];exact ⟨by simp only [cO];omega,bf.cons (Xqv _ (by omega)) bf.nil,by simp,by simp,by simp⟩
 | [],y::v,c,hu,hv,hc=>by
  have j:=hv.head;obtain ⟨d,e,i,g,f⟩:=CE [] v ((c+y) / 16777216) hu hv.tail (by omega);simp only [JX];refine ⟨?_,bf.cons (Xqv _ (by omega)) e,by simp only [μ,Xqb] at*;omega,by simp,by simp only [μ];omega⟩;simp only [cO] at*
  rw [d];omega
 |x::u,[],c,hu,hv,hc=>by
  have k:=hu.head;obtain ⟨d,e,i,g,f⟩:=CE u [] ((c+x) / 16777216) hu.tail hv (by omega);simp only [JX];refine ⟨?_,bf.cons (Xqv _ (by omega)) e,by simp only [μ,Xqb] at*;omega,by simp only [μ];omega,by simp⟩;simp only [cO] at*
  rw [d];omega
 |x::u,y::v,c,hu,hv,hc=>by
  have k:=hu.head;have j:=hv.head;obtain ⟨d,e,i,g,f⟩:=CE u v ((c+x+y) / 16777216) hu.tail hv.tail (by omega);simp only [JX];refine ⟨?_,bf.cons (Xqv _ (by omega)) e,by simp only [μ] at*;omega,by simp only [μ];omega,by simp only [μ];omega⟩;simp only [cO] at*
  rw [d];omega
theorem PM {u r:List Nat} {x d:Nat} {o:List Nat} (h:ε o.length u=x::r):ε (o++ [d]).length u=r:=by
 rw [θ,σ,← Xjm,h];rfl
theorem PL {u:List Nat} {d:Nat} {o:List Nat} (h:ε o.length u= []):ε (o++ [d]).length u= []:=by
 rw [θ,σ,← Xjm,h];rfl
theorem CW {nt:Nat} (d:83≤nt) {u v:List Nat}:∀ (a b o:List Nat) (c:Nat),ε o.length u=a→ε o.length v=b→bf a→bf b→c≤1→o.length+a.length+b.length<2^38→
  az prog ap [] nt (af 0 (ah f80)) (fun _=> .exit 0) (Aj u v) QD (o,c) (o++JX a b c)
 | [],[],o,c,hu,hv,_,_,hc,hl=>by
  simp only [Xqb] at hl;simp only [JX];rcases Θ c with h|h
  ·subst h;rw [if_neg (by omega),Γ];exact .done (WZ d hu hv)
  ·rw [if_pos h];have j:c / 16777216=0:=by omega
   have i:=ajL d (x:=0) (y:=0) (ru:= []) (rv:= []) hu hv h (by omega) (by omega);rw [j] at i;exact .next i (.done (WZ d (PL hu) (PL hv)))
 | [],y::b,o,c,hu,hv,ha,hb,hc,hl=>by
  have f:=hb.head;simp only [Xqb,μ] at hl;have e:=CW d [] b (o++ [(c+y) % 16777216]) ((c+y) / 16777216) (PL hu) (PM hv) ha hb.tail (by omega) (by simp only [θ,σ,Xqb];omega);rw [Xqd,Xxe] at e;simp only [JX];exact .next (ajM d (x:=0) (ru:= []) hu hv f (by omega) (by omega)) e
 |x::a,[],o,c,hu,hv,ha,hb,hc,hl=>by
  have g:=ha.head;simp only [Xqb,μ] at hl;have e:=CW d a [] (o++ [(c+x) % 16777216]) ((c+x) / 16777216) (PM hu) (PL hv) ha.tail hb (by omega) (by simp only [θ,σ,Xqb];omega);rw [Xqd,Xxe] at e;simp only [JX];exact .next (ajN d (y:=0) (rv:= []) hu hv g (by omega) (by omega)) e
 |x::a,y::b,o,c,hu,hv,ha,hb,hc,hl=>by
  have g:=ha.head;have f:=hb.head;simp only [μ] at hl;have e:=CW d a b (o++ [(c+x+y) % 16777216]) ((c+x+y) / 16777216) (PM hu) (PM hv) ha.tail hb.tail (by omega) (by simp only [θ,σ];omega);rw [Xqd,Xxe] at e;simp only [JX];exact .next (ajO d hu hv g f (by omega) (by omega)) e
theorem PH (s:List UInt8):(ax (ag s)).length≤s.length:=rJ (Xqa (jO s) (by rw [Nat.pow_mul];exact Nat.pow_le_pow_left (by decide) _))
theorem WX (s t:List UInt8) (hs:s.length<2^35) (n:t.length<2^35) (h:2^(8*7)≤ag s∨2^(8*7)≤ag t):∃ w:List Nat,w.length≤s.length+t.length+1∧bf w∧cO w=ag s+ag t∧w ≠ []∧∀ nt,83≤nt→az prog ap [] nt (af 0 (ah f80)) (fun _=> .exit 0) (Aj (ax (ag s)) (ax (ag t))) QD ([],0) w:=by
 have j:=PH s;have m:=PH t;obtain ⟨c,d,i,k,g⟩:=CE (ax (ag s)) (ax (ag t)) 0 (bf.dig _) (bf.dig _) (by omega);rw [fA,fA,Xq0] at c;refine ⟨_,by omega,d,c, ?_,fun nt e=>CW e (ax (ag s)) (ax (ag t)) [] 0 rfl rfl (bf.dig _) (bf.dig _) (by omega) (by simp only [Xqb];omega)⟩;intro f;rw [f] at c;simp only [cO] at c;omega
theorem Ti (s t:List UInt8) (hs:s.length<2^34) (A:t.length<2^34):CO 80 [.str s,.str t] (.ret (.str (ae (ag s+ag t)))):=by
 have j:=BM s (by omega);have k:=BM t (by omega);have v:=wX (s:=s) (by omega);have z:=wX (s:=t) (by omega);have g:2^(8*7)≤ag s∨2^(8*7)≤ag t→∃ w:List Nat,CO 136 [.sl (ν (w.length*1) (ai w)) w.length true] (.ret (.str (ae (ag s+ag t))))∧aG prog ap [] 83 (.block 0 (.loop (af 0 (ah f80)))) (Aj (ax (ag s)) (ax (ag t)) ([],0)) .normal ⟨[(11,.ref 0 0 0 w.length)],[(0,⟨ai w,0,false,0,1,true⟩)],.dead,[]⟩:=by
  intro h;obtain ⟨w,y,u,o,p,q⟩:=WX s t (by omega) (by omega) h;have m:w.length<2^36:=by omega
  have c:=uA w true m u;rw [o] at c;have i:ν (w.length*1) (ai w)=ai w:=by rw [φ,dh,Xqx]
  refine ⟨w,by rw [i];exact c, ?_⟩;have d:=az.blk (s:=Aj (ax (ag s)) (ax (ag t)) ([],0)) (s':=QD w) (id:=0) q (by simp) rfl (aH.refl _) (aH.refl _);cases w with
  |nil=>exact absurd rfl p
  |cons a r=>exact d
 rcases Xq5 (ag s) (2^(8*7)) with c1|c1
 ·have f:=gX s 7 (by omega) (by omega) c1;rcases Xq5 (ag t) (2^(8*7)) with c2|c2
  ·have n:=lg (ag s+ag t) (by omega);have m:γ .i64 (((ag s:Nat):Int)+((ag t:Nat):Int))=((ag s+ag t:Nat):Int):=by rw [bJ,aO (by omega)]
   rw [← m] at n;exact aeQ s t _ _ _ [] f (gX t 7 (by omega) (by omega) c2) n
  ·obtain ⟨w,c,d⟩:=g (.inr c2);exact aeR s t _ 0 _ w f (lu t 7 (by omega) c2) j k c fun nt e=>(d nt e).weak (aH.of ⟨rfl,rfl,rfl,rfl,rfl,trivial⟩) (aH.refl _)
 ·have f:=lu s 7 (by omega) c1;obtain ⟨w,c,d⟩:=g (.inl c1);rcases Xq5 (ag t) (2^(8*7)) with c2|c2
  ·exact aeS s t 0 _ _ w f (gX t 7 (by omega) (by omega) c2) j k c fun nt e=>(d nt e).weak (aH.of ⟨rfl,rfl,rfl,rfl,rfl,trivial⟩) (aH.refl _)
  ·exact aeT s t 0 0 _ w f (lu t 7 (by omega) c2) j k c fun nt e=>(d nt e).weak (aH.of ⟨rfl,rfl,rfl,rfl,rfl,trivial⟩) (aH.refl _)
theorem XB (x y:Nat):decide (lZ x y<((0:Nat):Int))=decide (x<y):=by
 unfold lZ;by_cases h:x<y
 ·rw [if_pos h,Yq0 h];rfl
 ·rw [if_neg h,Yq1 h];split<;>rfl
theorem YM {x y:Nat} (h:y≤x) (d:(ax x).length<2^36):(ax y).length<2^36:=by
 have c:=zh (bf.dig x);rw [fA] at c;exact χ (rJ (χ h c)) d
theorem TG (s t:List UInt8) (hs:s.length<2^35) (f:t.length<2^35) (h:ag t≤ag s):CO 102 [.str s,.str t] (.ret (.tup [.str (ae (ag s - ag t)),.bool true])):=by
 have e:=wX (s:=s) hs;have d:=YM (Xwq (ag s) (ag t)) (by omega);have c:=uA (ax (ag s - ag t)) false d (bf.dig _);rw [fA] at c;exact akJ s t 0 0 _ [] (by rw [XB];exact Yq1 (by omega)) (Jo s t (by omega) (by omega)) (BM s (by omega)) (BM t (by omega)) (Lc _ _ false false h (by omega)) c
theorem akZ (d k:Bool) (c e i j:List UInt8) (a b r:RQ) (f:(iG d c e)=false) (g:CO 115 [Ω d c e] (.ret (.bool (iG d c e)))) (h:CO 42 [ω 0] (.ret (Ω false (ae 0) (ae 1)))):CO 170 [Ω d c e] (.ret (Ω false (ae 0) (ae 1))):=pK [] 1 1 (.k 4 (dW f) (.n 3 .nil)) (.c h (.c g .nil))
theorem ak0 (d j:Bool) (c e h i:List UInt8) (a b r:RQ) (f:(iG d c e)=true) (g:CO 115 [Ω d c e] (.ret (.bool (iG d c e)))):CO 170 [Ω d c e] (.ret (Ω d c e)):=pK [] 1 0 (.k 7 (aU f) (.n 3 .nil)) (.c g .nil)
theorem akt (d j:Bool) (c e h i:List UInt8) (a b r:RQ) (f:a.neg=false) (g:CO 170 [Ω d c e] (.ret (.agg [.bool a.neg,.str (ae a.n),.str (ae a.d)]))):CO 200 [Ω d c e] (.ret (.agg [.bool (!((ae a.n)== [])),.str (ae a.n),.str (ae a.d)])):=pK [] 1 1 (.k 9 (dW f) (.n 5 .nil)) (.c g .nil)
theorem aku (d j:Bool) (c e h i:List UInt8) (a b r:RQ) (f:a.neg=true) (g:CO 170 [Ω d c e] (.ret (.agg [.bool a.neg,.str (ae a.n),.str (ae a.d)]))):CO 200 [Ω d c e] (.ret (Ω false (ae a.n) (ae a.d))):=pK [] 1 0 (.k 8 (aU f) (.n 5 .nil)) (.c g .nil)
theorem aaC (f g:Bool) (e h c d:List UInt8) (a b r:RQ) (i:(a.neg==b.neg)=true) (n:CO 170 [Ω f e h] (.ret (.agg [.bool a.neg,.str (ae a.n),.str (ae a.d)]))) (p:CO 170 [Ω g c d] (.ret (.agg [.bool b.neg,.str (ae b.n),.str (ae b.d)]))) (q:CO 171 [.str (ae a.n),.str (ae b.d)] (.ret (.str (ae (a.n*b.d))))) (k:CO 171 [.str (ae b.n),.str (ae a.d)] (.ret (.str (ae (b.n*a.d))))) (j:CO 171 [.str (ae a.d),.str (ae b.d)] (.ret (.str (ae (a.d*b.d))))) (m:CO 71 [.str (ae (a.n*b.d)),.str (ae (b.n*a.d))] (.ret (.str (ae ((a.n*b.d)+(b.n*a.d)))))) (o:CO 160 [.bool a.neg,.str (ae ((a.n*b.d)+(b.n*a.d))),.str (ae (a.d*b.d))] (.ret (.agg [.bool r.neg,.str (ae r.n),.str (ae r.d)]))):CO 167 [Ω f e h,Ω g c d] (.ret (.agg [.bool r.neg,.str (ae r.n),.str (ae r.d)])):=pK [] 1 1 (.k 5 (aK i) (.n 16 .nil)) (.c o (.c m (.c j (.c k (.c q (.c p (.c n .nil)))))))
theorem aaD (f g:Bool) (e h c d:List UInt8) (a b r:RQ) (i:(a.neg==b.neg)=false) (n:CO 170 [Ω f e h] (.ret (.agg [.bool a.neg,.str (ae a.n),.str (ae a.d)]))) (p:CO 170 [Ω g c d] (.ret (.agg [.bool b.neg,.str (ae b.n),.str (ae b.d)]))) (q:CO 171 [.str (ae a.n),.str (ae b.d)] (.ret (.str (ae (a.n*b.d))))) (k:CO 171 [.str (ae b.n),.str (ae a.d)] (.ret (.str (ae (b.n*a.d))))) (j:CO 171 [.str (ae a.d),.str (ae b.d)] (.ret (.str (ae (a.d*b.d))))) (m:CO 199 [.str (ae (a.n*b.d)),.str (ae (b.n*a.d))] (.ret (.tup [.str (ae ((a.n*b.d) - (b.n*a.d))),.bool true]))) (o:CO 160 [.bool a.neg,.str (ae ((a.n*b.d) - (b.n*a.d))),.str (ae (a.d*b.d))] (.ret (.agg [.bool r.neg,.str (ae r.n),.str (ae r.d)]))):CO 167 [Ω f e h,Ω g c d] (.ret (.agg [.bool r.neg,.str (ae r.n),.str (ae r.d)])):=pK [] 2 2 (.k 6 (aN i) (.n 16 .nil)) (.c o (.c m (.c j (.c k (.c q (.c p (.c n .nil)))))))
theorem aaB (f g:Bool) (e h c d:List UInt8) (a b r:RQ) (i:(a.neg==b.neg)=false) (o:CO 170 [Ω f e h] (.ret (.agg [.bool a.neg,.str (ae a.n),.str (ae a.d)]))) (q:CO 170 [Ω g c d] (.ret (.agg [.bool b.neg,.str (ae b.n),.str (ae b.d)]))) (t:CO 171 [.str (ae a.n),.str (ae b.d)] (.ret (.str (ae (a.n*b.d))))) (m:CO 171 [.str (ae b.n),.str (ae a.d)] (.ret (.str (ae (b.n*a.d))))) (j:CO 171 [.str (ae a.d),.str (ae b.d)] (.ret (.str (ae (a.d*b.d))))) (n:CO 199 [.str (ae (a.n*b.d)),.str (ae (b.n*a.d))] (.ret (.tup [.str [],.bool false]))) (p:CO 199 [.str (ae (b.n*a.d)),.str (ae (a.n*b.d))] (.ret (.tup [.str (ae ((b.n*a.d) - (a.n*b.d))),.bool true]))) (k:CO 160 [.bool b.neg,.str (ae ((b.n*a.d) - (a.n*b.d))),.str (ae (a.d*b.d))] (.ret (.agg [.bool r.neg,.str (ae r.n),.str (ae r.d)]))):CO 167 [Ω f e h,Ω g c d] (.ret (.agg [.bool r.neg,.str (ae r.n),.str (ae r.d)])):=pK [] 2 0 (.k 6 (aN i) (.n 16 .nil)) (.c k (.c p (.c n (.c j (.c m (.c t (.c q (.c o .nil))))))))
theorem akK (f g:Bool) (e h c d:List UInt8) (a b r:RQ) (i:CO 200 [Ω g c d] (.ret (.agg [.bool b.neg,.str (ae b.n),.str (ae b.d)]))) (j:CO 167 [Ω f e h,.agg [.bool b.neg,.str (ae b.n),.str (ae b.d)]] (.ret (.agg [.bool r.neg,.str (ae r.n),.str (ae r.d)]))):CO 168 [Ω f e h,Ω g c d] (.ret (.agg [.bool r.neg,.str (ae r.n),.str (ae r.d)])):=pK [] 0 0 (.n 10 .nil) (.c j (.c i .nil))
theorem akk (f g:Bool) (e h c d:List UInt8) (a b r:RQ) (i:CO 168 [Ω f e h,Ω g c d] (.ret (.agg [.bool r.neg,.str (ae r.n),.str (ae r.d)]))) (j:CO 121 [.agg [.bool r.neg,.str (ae r.n),.str (ae r.d)]] (.ret (ω (iU r)))):CO 127 [Ω f e h,Ω g c d] (.ret (ω (iU r))):=pK [] 0 0 (.n 6 .nil) (.c j (.c i .nil))
theorem aks (f g:Bool) (e h c d:List UInt8) (a b r:RQ) (k:CO 170 [Ω f e h] (.ret (.agg [.bool a.neg,.str (ae a.n),.str (ae a.d)]))) (m:CO 170 [Ω g c d] (.ret (.agg [.bool b.neg,.str (ae b.n),.str (ae b.d)]))) (n:CO 171 [.str (ae a.n),.str (ae b.n)] (.ret (.str (ae (a.n*b.n))))) (j:CO 171 [.str (ae a.d),.str (ae b.d)] (.ret (.str (ae (a.d*b.d))))) (i:CO 160 [.bool (!(a.neg==b.neg)),.str (ae (a.n*b.n)),.str (ae (a.d*b.d))] (.ret (.agg [.bool r.neg,.str (ae r.n),.str (ae r.d)]))):CO 169 [Ω f e h,Ω g c d] (.ret (.agg [.bool r.neg,.str (ae r.n),.str (ae r.d)])):=pK [] 0 0 (.n 18 .nil) (.c i (.c j (.c n (.c m (.c k .nil)))))
theorem akF (f g:Bool) (e h c d:List UInt8) (a b r:RQ) (i:((ae b.n)== [])=true) (j:CO 170 [Ω f e h] (.ret (.agg [.bool a.neg,.str (ae a.n),.str (ae a.d)]))) (k:CO 170 [Ω g c d] (.ret (.agg [.bool b.neg,.str (ae b.n),.str (ae b.d)]))):CO 125 [Ω f e h,Ω g c d] (.ret (.tup [Ω false [] [],.bool false])):=pK [] 1 1 (.k 4 (aK i) (.n 9 .nil)) (.c k (.c j .nil))
theorem akG (f g:Bool) (e h c d:List UInt8) (a b r:RQ) (i:((ae b.n)== [])=false) (m:CO 170 [Ω f e h] (.ret (.agg [.bool a.neg,.str (ae a.n),.str (ae a.d)]))) (n:CO 170 [Ω g c d] (.ret (.agg [.bool b.neg,.str (ae b.n),.str (ae b.d)]))) (o:CO 171 [.str (ae a.n),.str (ae b.d)] (.ret (.str (ae (a.n*b.d))))) (k:CO 171 [.str (ae a.d),.str (ae b.n)] (.ret (.str (ae (a.d*b.n))))) (j:CO 160 [.bool (!(a.neg==b.neg)),.str (ae (a.n*b.d)),.str (ae (a.d*b.n))] (.ret (.agg [.bool r.neg,.str (ae r.n),.str (ae r.d)]))):CO 125 [Ω f e h,Ω g c d] (.ret (.tup [.agg [.bool r.neg,.str (ae r.n),.str (ae r.d)],.bool true])):=pK [] 1 0 (.k 10 (aN i) (.n 9 .nil)) (.c j (.c k (.c o (.c n (.c m .nil)))))
theorem ajA (d j:Bool) (c e h i:List UInt8) (a b r:RQ) (f:((ae a.n)== [])=false) (g:CO 98 [Ω d c e] (.ret (.agg [.bool a.neg,.str (ae a.n),.str (ae a.d)]))):CO 142 [Ω d c e] (.ret (Ω (!a.neg) (ae a.n) (ae a.d))):=pK [] 1 1 (.k 9 (dW f) (.n 5 .nil)) (.c g .nil)
theorem ajB (d j:Bool) (c e h i:List UInt8) (a b r:RQ) (f:((ae a.n)== [])=true) (g:CO 98 [Ω d c e] (.ret (.agg [.bool a.neg,.str (ae a.n),.str (ae a.d)]))):CO 142 [Ω d c e] (.ret (.agg [.bool a.neg,.str (ae a.n),.str (ae a.d)])):=pK [] 1 0 (.k 7 (aU f) (.n 5 .nil)) (.c g .nil)
theorem aan (f g:Bool) (e h c d:List UInt8) (a b r:RQ) (i:(a.neg==b.neg)=true) (n:CO 98 [Ω f e h] (.ret (.agg [.bool a.neg,.str (ae a.n),.str (ae a.d)]))) (p:CO 98 [Ω g c d] (.ret (.agg [.bool b.neg,.str (ae b.n),.str (ae b.d)]))) (q:CO 100 [.str (ae a.n),.str (ae b.d)] (.ret (.str (ae (a.n*b.d))))) (k:CO 100 [.str (ae b.n),.str (ae a.d)] (.ret (.str (ae (b.n*a.d))))) (j:CO 100 [.str (ae a.d),.str (ae b.d)] (.ret (.str (ae (a.d*b.d))))) (m:CO 80 [.str (ae (a.n*b.d)),.str (ae (b.n*a.d))] (.ret (.str (ae ((a.n*b.d)+(b.n*a.d)))))) (o:CO 99 [.bool a.neg,.str (ae ((a.n*b.d)+(b.n*a.d))),.str (ae (a.d*b.d))] (.ret (.agg [.bool r.neg,.str (ae r.n),.str (ae r.d)]))):CO 62 [Ω f e h,Ω g c d] (.ret (.agg [.bool r.neg,.str (ae r.n),.str (ae r.d)])):=pK [] 1 1 (.k 5 (aK i) (.n 16 .nil)) (.c o (.c m (.c j (.c k (.c q (.c p (.c n .nil)))))))
theorem aao (g h:Bool) (e f c d:List UInt8) (a b r:RQ) (k:(decide (((0:Nat):Int)≤(lZ (a.n*b.d) (b.n*a.d))))=true) (t:(a.neg==b.neg)=false) (u:CO 98 [Ω g e f] (.ret (.agg [.bool a.neg,.str (ae a.n),.str (ae a.d)]))) (p:CO 98 [Ω h c d] (.ret (.agg [.bool b.neg,.str (ae b.n),.str (ae b.d)]))) (j:CO 100 [.str (ae a.n),.str (ae b.d)] (.ret (.str (ae (a.n*b.d))))) (m:CO 100 [.str (ae b.n),.str (ae a.d)] (.ret (.str (ae (b.n*a.d))))) (q:CO 100 [.str (ae a.d),.str (ae b.d)] (.ret (.str (ae (a.d*b.d))))) (n:CO 101 [.str (ae (a.n*b.d)),.str (ae (b.n*a.d))] (.ret (ω (lZ (a.n*b.d) (b.n*a.d))))) (o:CO 102 [.str (ae (a.n*b.d)),.str (ae (b.n*a.d))] (.ret (.tup [.str (ae ((a.n*b.d) - (b.n*a.d))),.bool true]))) (i:CO 99 [.bool a.neg,.str (ae ((a.n*b.d) - (b.n*a.d))),.str (ae (a.d*b.d))] (.ret (.agg [.bool r.neg,.str (ae r.n),.str (ae r.d)]))):CO 62 [Ω g e f,Ω h c d] (.ret (.agg [.bool r.neg,.str (ae r.n),.str (ae r.d)])):=pK [] 2 2 (.k 5 (aK k) (.c (aN t) (.n 16 .nil))) (.c i (.c o (.c n (.c q (.c m (.c j (.c p (.c u .nil))))))))
theorem aap (g h:Bool) (e f c d:List UInt8) (a b r:RQ) (k:(decide (((0:Nat):Int)≤(lZ (a.n*b.d) (b.n*a.d))))=false) (t:(a.neg==b.neg)=false) (u:CO 98 [Ω g e f] (.ret (.agg [.bool a.neg,.str (ae a.n),.str (ae a.d)]))) (p:CO 98 [Ω h c d] (.ret (.agg [.bool b.neg,.str (ae b.n),.str (ae b.d)]))) (j:CO 100 [.str (ae a.n),.str (ae b.d)] (.ret (.str (ae (a.n*b.d))))) (m:CO 100 [.str (ae b.n),.str (ae a.d)] (.ret (.str (ae (b.n*a.d))))) (q:CO 100 [.str (ae a.d),.str (ae b.d)] (.ret (.str (ae (a.d*b.d))))) (n:CO 101 [.str (ae (a.n*b.d)),.str (ae (b.n*a.d))] (.ret (ω (lZ (a.n*b.d) (b.n*a.d))))) (o:CO 102 [.str (ae (b.n*a.d)),.str (ae (a.n*b.d))] (.ret (.tup [.str (ae ((b.n*a.d) - (a.n*b.d))),.bool true]))) (i:CO 99 [.bool b.neg,.str (ae ((b.n*a.d) - (a.n*b.d))),.str (ae (a.d*b.d))] (.ret (.agg [.bool r.neg,.str (ae r.n),.str (ae r.d)]))):CO 62 [Ω g e f,Ω h c d] (.ret (.agg [.bool r.neg,.str (ae r.n),.str (ae r.d)])):=pK [] 2 0 (.k 5 (aN k) (.c (aN t) (.n 16 .nil))) (.c i (.c o (.c n (.c q (.c m (.c j (.c p (.c u .nil))))))))
theorem ajF (f g:Bool) (e h c d:List UInt8) (a b r:RQ) (i:CO 142 [Ω g c d] (.ret (.agg [.bool b.neg,.str (ae b.n),.str (ae b.d)]))) (j:CO 62 [Ω f e h,.agg [.bool b.neg,.str (ae b.n),.str (ae b.d)]] (.ret (.agg [.bool r.neg,.str (ae r.n),.str (ae r.d)]))):CO 88 [Ω f e h,Ω g c d] (.ret (.agg [.bool r.neg,.str (ae r.n),.str (ae r.d)])):=pK [] 0 0 (.n 10 .nil) (.c j (.c i .nil))
theorem ajx (f g:Bool) (e h c d:List UInt8) (a b r:RQ) (i:CO 88 [Ω f e h,Ω g c d] (.ret (.agg [.bool r.neg,.str (ae r.n),.str (ae r.d)]))) (j:CO 141 [.agg [.bool r.neg,.str (ae r.n),.str (ae r.d)]] (.ret (ω (iU r)))):CO 87 [Ω f e h,Ω g c d] (.ret (ω (iU r))):=pK [] 0 0 (.n 6 .nil) (.c j (.c i .nil))
theorem ajC (f g:Bool) (e h c d:List UInt8) (a b r:RQ) (i:((ae b.n)== [])=true) (j:CO 98 [Ω f e h] (.ret (.agg [.bool a.neg,.str (ae a.n),.str (ae a.d)]))) (k:CO 98 [Ω g c d] (.ret (.agg [.bool b.neg,.str (ae b.n),.str (ae b.d)]))):CO 60 [Ω f e h,Ω g c d] (.ret (.tup [Ω false [] [],.bool false])):=pK [] 1 1 (.k 4 (aK i) (.n 9 .nil)) (.c k (.c j .nil))
theorem ajD (f g:Bool) (e h c d:List UInt8) (a b r:RQ) (i:((ae b.n)== [])=false) (m:CO 98 [Ω f e h] (.ret (.agg [.bool a.neg,.str (ae a.n),.str (ae a.d)]))) (n:CO 98 [Ω g c d] (.ret (.agg [.bool b.neg,.str (ae b.n),.str (ae b.d)]))) (o:CO 100 [.str (ae a.n),.str (ae b.d)] (.ret (.str (ae (a.n*b.d))))) (k:CO 100 [.str (ae a.d),.str (ae b.n)] (.ret (.str (ae (a.d*b.n))))) (j:CO 99 [.bool (!(a.neg==b.neg)),.str (ae (a.n*b.d)),.str (ae (a.d*b.n))] (.ret (.agg [.bool r.neg,.str (ae r.n),.str (ae r.d)]))):CO 60 [Ω f e h,Ω g c d] (.ret (.tup [.agg [.bool r.neg,.str (ae r.n),.str (ae r.d)],.bool true])):=pK [] 1 0 (.k 10 (aN i) (.n 9 .nil)) (.c j (.c k (.c o (.c n (.c m .nil)))))
def kW (q:RQ):RQ:=⟨!q.neg && decide (0<q.n),q.n,q.d⟩
def gK (a b:RQ):RQ:=if a.neg=b.neg then jV a.neg (a.n*b.d+b.n*a.d) (a.d*b.d) else if b.n*a.d≤a.n*b.d then jV a.neg (a.n*b.d - b.n*a.d) (a.d*b.d) else jV b.neg (b.n*a.d - a.n*b.d) (a.d*b.d)
def eu (a b:RQ):RQ:=gK a (kW b)
def iE (a b:RQ):Int:=iU (eu a b)
def iJ (a b:RQ):RQ:=jV (!(a.neg==b.neg)) (a.n*b.n) (a.d*b.d)
def fF (a b:RQ):RQ:=jV (!(a.neg==b.neg)) (a.n*b.d) (a.d*b.n)
theorem gB {q:RQ} (h:q.ok):vQ q.neg (ae q.n) (ae q.d)=q:=by
 unfold vQ;rw [if_pos (xg q h),aC,aC]
theorem ql {q:RQ} (h:q.ok):(kW q).ok:=by
 refine ⟨h.1,h.2.1,fun c=> ?_⟩;simp only [kW,π,decide_eq_true_eq] at c;exact c.2
theorem eQ {a b:RQ} (c:a.ok) (d:b.ok):(gK a b).ok:=by
 have hd:0<a.d*b.d:=Xx7 c.1 d.1;unfold gK;split
 ·exact vk hd
 ·split
  ·exact vk hd
  ·exact vk hd
theorem iK {a b:RQ} (d:a.ok) (c:b.ok):(iJ a b).ok:=vk (Xx7 d.1 c.1)
theorem pV {a b:RQ} (d:a.ok) (c:0<b.n):(fF a b).ok:=vk (Xx7 d.1 c)
theorem Et (x:Nat):x<2^(8*(ae x).length):=rV.1 (Δ _)
theorem dO (x y:Nat):(ae (x*y)).length≤(ae x).length+(ae y).length:=by
 refine bY ?_;rw [Xq8,Xxj];exact Xvz (Et x) (Et y)
theorem kV {x y:Nat} (h:x≤y):(ae x).length≤(ae y).length:=bY (χ h (Et y))
theorem vg (x y:Nat):(ae (x+y)).length≤(ae x).length+(ae y).length+1:=by
 refine bY ?_;have c:=Xqa (Et x) (Xqc (n:=2) (by omega) (show 8*(ae x).length≤8*((ae x).length+(ae y).length) by omega));have d:=Xqa (Et y) (Xqc (n:=2) (by omega) (show 8*(ae y).length≤8*((ae x).length+(ae y).length) by omega));rw [show 8*((ae x).length+(ae y).length+1)=8*((ae x).length+(ae y).length)+8 by omega,Xxj];generalize 2^(8*((ae x).length+(ae y).length))=P at*
 omega
theorem acr (s:List UInt8):(ae (ag s)).length≤s.length:=bY (jO s)
theorem jA (s:Bool) (n d:List UInt8):(ae (vQ s n d).n).length≤n.length∧(ae (vQ s n d).d).length≤d.length+1:=by
 unfold vQ;split
 ·exact ⟨acr n,Nat.le_succ_of_le (acr d)⟩
 ·refine ⟨by show (ae 0).length≤_;rw [dB];simp, ?_⟩;show (ae 1).length≤_;have:(ae 1).length≤1:=bY (by decide);omega
theorem rP (c:Bool) (n d:Nat):(ae (jV c n d).n).length≤(ae n).length∧(ae (jV c n d).d).length≤(ae d).length:=
 ⟨kV (Xjq _ _),kV (Xjq _ _)⟩
theorem uw (a b:RQ) (L:Nat) (c:(ae a.n).length≤L) (f:(ae a.d).length≤L) (d:(ae b.n).length≤L) (e:(ae b.d).length≤L):(ae (gK a b).n).length≤4*L+1∧(ae (gK a b).d).length≤2*L:=by
 have i:=dO a.n b.d;have h:=dO b.n a.d;have g:=dO a.d b.d;have j:=vg (a.n*b.d) (b.n*a.d);unfold gK;split
 ·have:=rP a.neg (a.n*b.d+b.n*a.d) (a.d*b.d);omega
 ·split
  ·have:=rP a.neg (a.n*b.d - b.n*a.d) (a.d*b.d);have:=kV (Xwq (a.n*b.d) (b.n*a.d));omega
  ·have:=rP b.neg (b.n*a.d - a.n*b.d) (a.d*b.d);have:=kV (Xwq (b.n*a.d) (a.n*b.d));omega
theorem EQ (x y:Nat) (d:(ae x).length<2^34) (c:(ae y).length<2^34):CO 171 [.str (ae x),.str (ae y)] (.ret (.str (ae (x*y)))):=by
 have h:=ZY (ae x) (ae y) (by omega) (by omega);rw [aC,aC] at h;exact h
theorem acv (x y:Nat) (d:(ae x).length<2^34) (c:(ae y).length<2^34):CO 71 [.str (ae x),.str (ae y)] (.ret (.str (ae (x+y)))):=by
 have h:=ZM (ae x) (ae y) (by omega) (by omega);rw [aC,aC] at h;exact h
theorem acw (x y:Nat) (e:(ae x).length<2^34) (d:(ae y).length<2^34) (c:y≤x):CO 199 [.str (ae x),.str (ae y)] (.ret (.tup [.str (ae (x - y)),.bool true])):=by
 have h:=Z4 (ae x) (ae y) (by omega) (by omega) (by rw [aC,aC];exact c);rw [aC,aC] at h;exact h
theorem aiH (x y:Nat) (e:(ae x).length<2^34) (d:(ae y).length<2^34) (c:x<y):CO 199 [.str (ae x),.str (ae y)] (.ret (.tup [.str [],.bool false])):=
 ZZ (ae x) (ae y) (by omega) (by omega) (by rw [aC,aC];exact c)
theorem E9 (x y:Nat) (d:(ae x).length<2^33) (c:(ae y).length<2^33):CO 100 [.str (ae x),.str (ae y)] (.ret (.str (ae (x*y)))):=by
 have h:=Wh (ae x) (ae y) (by omega) (by omega);rw [aC,aC] at h;exact h
theorem ajv (x y:Nat) (d:(ae x).length<2^33) (c:(ae y).length<2^33):CO 80 [.str (ae x),.str (ae y)] (.ret (.str (ae (x+y)))):=by
 have h:=Ti (ae x) (ae y) (by omega) (by omega);rw [aC,aC] at h;exact h
theorem acC (x y:Nat) (e:(ae x).length<2^33) (d:(ae y).length<2^33) (c:y≤x):CO 102 [.str (ae x),.str (ae y)] (.ret (.tup [.str (ae (x - y)),.bool true])):=by
 have h:=TG (ae x) (ae y) (by omega) (by omega) (by rw [aC,aC];exact c);rw [aC,aC] at h;exact h
theorem ajw (x y:Nat) (d:(ae x).length<2^33) (c:(ae y).length<2^33):CO 101 [.str (ae x),.str (ae y)] (.ret (ω (lZ x y))):=by
 have h:=Jo (ae x) (ae y) (by omega) (by omega);rw [aC,aC] at h;exact h
theorem H6 (c:Bool) (n d:Nat) (f:(ae n).length<2^33) (hd:(ae d).length<2^33) (e:0<d):CO 160 [.bool c,.str (ae n),.str (ae d)] (.ret (qA (jV c n d))):=by
 have h:=V6 c (ae n) (ae d) (by omega) (by omega) (by rw [aC];exact e);rw [aC,aC] at h;exact h
theorem Xu (q:RQ) (c:q.ok) (d:(ae q.n).length<2^33) (hd:(ae q.d).length<2^33):CO 121 [.agg [.bool q.neg,.str (ae q.n),.str (ae q.d)]] (.ret (ω (iU q))):=by
 have h:=oJ q.neg (ae q.n) (ae q.d) (by omega) (by omega);rw [FI,gB c] at h;exact h
theorem acB (q:RQ) (c:q.ok) (d:(ae q.n).length<2^33) (hd:(ae q.d).length<2^33):CO 141 [.agg [.bool q.neg,.str (ae q.n),.str (ae q.d)]] (.ret (ω (iU q))):=by
 have h:=Ag q.neg (ae q.n) (ae q.d) (by omega) (by omega);rw [FI,gB c] at h;exact h
theorem nK (c:Bool) (n d:List UInt8) (g:n.length<2^33) (hd:d.length<2^33):CO 170 [Ω c n d] (.ret (qA (vQ c n d))):=by
 have f:=mO c n d (by omega) (by omega);unfold vQ;cases e:iG c n d with
 |false=>
  rw [e] at f;have h:=akZ c false n d [] [] q0 q0 q0 e (by rw [e];exact f) jC;rw [if_neg (by simp)];exact h
 |true=>
  rw [e] at f;have h:=ak0 c false n d [] [] q0 q0 q0 e (by rw [e];exact f);rw [if_pos rfl,← P9 e];exact h
theorem Xq (c:Bool) (n d:List UInt8) (i:n.length<2^33) (hd:d.length<2^33):CO 200 [Ω c n d] (.ret (qA (kW (vQ c n d)))):=by
 have f:=nK c n d i hd;generalize vQ c n d=a at*
 have e:(!((ae a.n)== []))=decide (0<a.n):=by
  rcases Θ a.n with h|h
  ·rw [h,dB];rfl
  ·rw [Yq0 h,Xqo,Yq2];intro j;rw [eP] at j;omega
 unfold kW qA;cases g:a.neg with
 |false=>
  have h:=akt c false n d [] [] a q0 q0 g f;rw [e] at h;exact h
 |true=>exact aku c false n d [] [] a q0 q0 g f
theorem QA (c:Bool) (n d:List UInt8) (j:n.length<2^33) (hd:d.length<2^33):CO 142 [Ω c n d] (.ret (qA (kW (vQ c n d)))):=by
 have g:=iQ c n d j hd;have i:=jo c n d;generalize vQ c n d=a at*
 unfold kW qA;rcases Θ a.n with h|h
 ·have f:a.neg=false:=by
   cases k:a.neg with
   |false=>rfl
   |true=>have:=i.2.2 k;omega
  have e:=ajB c false n d [] [] a q0 q0 (by rw [h,dB];rfl) g;rw [f,Yq1 (by omega)];rw [f] at e;exact e
 ·have e:=ajA c false n d [] [] a q0 q0 (by rw [Yq2];intro m;rw [eP] at m;omega) g;rw [Yq0 h,Xjr];exact e
theorem Fv (g h:Bool) (e f c d:List UInt8) (B:e.length<2^29) (C:f.length<2^29) (t:c.length<2^29) (v:d.length<2^29):CO 167 [Ω g e f,Ω h c d] (.ret (qA (gK (vQ g e f) (vQ h c d)))):=by
 have m:=nK g e f (by omega) (by omega);have n:=nK h c d (by omega) (by omega);obtain ⟨F,E⟩:=jA g e f;obtain ⟨r,A⟩:=jA h c d;have p:=jo g e f;have q:=jo h c d;generalize vQ g e f=a at*
 generalize vQ h c d=b at*
 have hd:0<a.d*b.d:=Xx7 p.1 q.1;have G:=dO a.n b.d;have y:=dO b.n a.d;have w:=dO a.d b.d;have o:=EQ a.n b.d (by omega) (by omega);have k:=EQ b.n a.d (by omega) (by omega);have j:=EQ a.d b.d (by omega) (by omega);have D:=vg (a.n*b.d) (b.n*a.d);have u:=kV (Xwq (a.n*b.d) (b.n*a.d));have z:=kV (Xwq (b.n*a.d) (a.n*b.d));unfold gK;by_cases hs:a.neg=b.neg
 ·rw [if_pos hs];exact aaC g h e f c d a b _ (by rw [hs];exact beq_self_eq_true _) m n o k j (acv _ _ (by omega) (by omega)) (H6 a.neg _ _ (by omega) (by omega) hd)
 ·rw [if_neg hs];have i:(a.neg==b.neg)=false:=beq_eq_false_iff_ne.2 hs;by_cases hl:b.n*a.d≤a.n*b.d
  ·rw [if_pos hl];exact aaD g h e f c d a b _ i m n o k j (acw _ _ (by omega) (by omega) hl) (H6 a.neg _ _ (by omega) (by omega) hd)
  ·rw [if_neg hl];exact aaB g h e f c d a b _ i m n o k j (aiH _ _ (by omega) (by omega) (by omega)) (acw _ _ (by omega) (by omega) (by omega)) (H6 b.neg _ _ (by omega) (by omega) hd)
theorem FC (i e:Bool) (f g c d:List UInt8) (k:f.length<2^29) (n:g.length<2^29) (q:c.length<2^28) (r:d.length<2^28):CO 168 [Ω i f g,Ω e c d] (.ret (qA (eu (vQ i f g) (vQ e c d)))):=by
 have m:=Xq e c d (by omega) (by omega);obtain ⟨j,p⟩:=jA e c d;have o:=ql (jo e c d);unfold eu;have h:=Fv i (kW (vQ e c d)).neg f g (ae (kW (vQ e c d)).n) (ae (kW (vQ e c d)).d) k n (χ j (by omega)) (χ p (by omega));rw [gB o] at h;exact akK i e f g c d q0 _ _ m h
theorem FB (g i:Bool) (e f c d:List UInt8) (p:e.length<2^28) (q:f.length<2^28) (m:c.length<2^28) (n:d.length<2^28):CO 127 [Ω g e f,Ω i c d] (.ret (ω (iE (vQ g e f) (vQ i c d)))):=by
 have h:=FC g i e f c d (by omega) (by omega) m n;obtain ⟨t,u⟩:=jA g e f;obtain ⟨k,o⟩:=jA i c d;have j:(eu (vQ g e f) (vQ i c d)).ok:=eQ (jo _ _ _) (ql (jo _ _ _));have r:=uw (vQ g e f) (kW (vQ i c d)) (2^29) (by omega) (by omega) (Xq1 k (by omega)) (Xq1 o (by omega));exact akk g i e f c d q0 q0 _ h (Xu _ j (by unfold eu;omega) (by unfold eu;omega))
theorem L6 (g i:Bool) (e f c d:List UInt8) (u:e.length<2^29) (v:f.length<2^29) (p:c.length<2^29) (q:d.length<2^29) (n:0<(vQ i c d).n):CO 125 [Ω g e f,Ω i c d] (.ret (.tup [qA (fF (vQ g e f) (vQ i c d)),.bool true])):=by
 have k:=nK g e f (by omega) (by omega);have m:=nK i c d (by omega) (by omega);obtain ⟨y,w⟩:=jA g e f;obtain ⟨o,t⟩:=jA i c d;have j:=jo g e f;generalize vQ g e f=a at*
 generalize vQ i c d=b at*
 have z:=dO a.n b.d;have r:=dO a.d b.n;exact akG g i e f c d a b (fF a b) (by rw [Yq2];intro h;rw [eP] at h;omega) k m (EQ a.n b.d (by omega) (by omega)) (EQ a.d b.n (by omega) (by omega)) (H6 _ _ _ (by omega) (by omega) (Xx7 j.1 n))
theorem Xr (h f:Bool) (e g c d:List UInt8) (m:e.length<2^29) (p:g.length<2^29) (n:c.length<2^29) (o:d.length<2^29) (k:(vQ f c d).n=0):CO 125 [Ω h e g,Ω f c d] (.ret (.tup [Ω false [] [],.bool false])):=by
 have i:=nK h e g (by omega) (by omega);have j:=nK f c d (by omega) (by omega);exact akF h f e g c d _ _ q0 (by rw [k,dB];rfl) i j
theorem Qx (g h:Bool) (e f c d:List UInt8) (D:e.length<2^29) (E:f.length<2^29) (v:c.length<2^29) (y:d.length<2^29):CO 62 [Ω g e f,Ω h c d] (.ret (qA (gK (vQ g e f) (vQ h c d)))):=by
 have n:=iQ g e f (by omega) (by omega);have o:=iQ h c d (by omega) (by omega);obtain ⟨H,G⟩:=jA g e f;obtain ⟨u,C⟩:=jA h c d;have r:=jo g e f;have t:=jo h c d;generalize vQ g e f=a at*
 generalize vQ h c d=b at*
 have hd:0<a.d*b.d:=Xx7 r.1 t.1;have I:=dO a.n b.d;have A:=dO b.n a.d;have z:=dO a.d b.d;have p:=E9 a.n b.d (by omega) (by omega);have m:=E9 b.n a.d (by omega) (by omega);have j:=E9 a.d b.d (by omega) (by omega);have F:=vg (a.n*b.d) (b.n*a.d);have w:=kV (Xwq (a.n*b.d) (b.n*a.d));have B:=kV (Xwq (b.n*a.d) (a.n*b.d));unfold gK;by_cases hs:a.neg=b.neg
 ·rw [if_pos hs];exact aan g h e f c d a b _ (by rw [hs];exact beq_self_eq_true _) n o p m j (ajv _ _ (by omega) (by omega)) (oH a.neg _ _ (by omega) (by omega) hd)
 ·rw [if_neg hs];have i:(a.neg==b.neg)=false:=beq_eq_false_iff_ne.2 hs;have q:=ajw (a.n*b.d) (b.n*a.d) (by omega) (by omega);by_cases hl:b.n*a.d≤a.n*b.d
  ·rw [if_pos hl];have k:decide (((0:Nat):Int)≤lZ (a.n*b.d) (b.n*a.d))=true:=by unfold lZ;rw [if_neg (by omega)];split<;>rfl
   exact aao g h e f c d a b _ k i n o p m j q (acC _ _ (by omega) (by omega) hl) (oH a.neg _ _ (by omega) (by omega) hd)
  ·rw [if_neg hl];have k:decide (((0:Nat):Int)≤lZ (a.n*b.d) (b.n*a.d))=false:=by unfold lZ;rw [if_pos (by omega)];rfl
   exact aap g h e f c d a b _ k i n o p m j q (acC _ _ (by omega) (by omega) (by omega)) (oH b.neg _ _ (by omega) (by omega) hd)
theorem QB (i e:Bool) (f g c d:List UInt8) (k:f.length<2^29) (n:g.length<2^29) (q:c.length<2^28) (r:d.length<2^28):CO 88 [Ω i f g,Ω e c d] (.ret (qA (eu (vQ i f g) (vQ e c d)))):=by
 have m:=QA e c d (by omega) (by omega);obtain ⟨j,p⟩:=jA e c d;have o:=ql (jo e c d);unfold eu;have h:=Qx i (kW (vQ e c d)).neg f g (ae (kW (vQ e c d)).n) (ae (kW (vQ e c d)).d) k n (χ j (by omega)) (χ p (by omega));rw [gB o] at h;exact ajF i e f g c d q0 _ _ m h
theorem Qy (g i:Bool) (e f c d:List UInt8) (p:e.length<2^28) (q:f.length<2^28) (m:c.length<2^28) (n:d.length<2^28):CO 87 [Ω g e f,Ω i c d] (.ret (ω (iE (vQ g e f) (vQ i c d)))):=by
 have h:=QB g i e f c d (by omega) (by omega) m n;obtain ⟨t,u⟩:=jA g e f;obtain ⟨k,o⟩:=jA i c d;have j:(eu (vQ g e f) (vQ i c d)).ok:=eQ (jo _ _ _) (ql (jo _ _ _));have r:=uw (vQ g e f) (kW (vQ i c d)) (2^29) (by omega) (by omega) (Xq1 k (by omega)) (Xq1 o (by omega));exact ajx g i e f c d q0 q0 _ h (acB _ j (by unfold eu;omega) (by unfold eu;omega))
theorem aau (g i:Bool) (e f c d:List UInt8) (u:e.length<2^29) (v:f.length<2^29) (p:c.length<2^29) (q:d.length<2^29) (n:0<(vQ i c d).n):CO 60 [Ω g e f,Ω i c d] (.ret (.tup [qA (fF (vQ g e f) (vQ i c d)),.bool true])):=by
 have k:=iQ g e f (by omega) (by omega);have m:=iQ i c d (by omega) (by omega);obtain ⟨y,w⟩:=jA g e f;obtain ⟨o,t⟩:=jA i c d;have j:=jo g e f;generalize vQ g e f=a at*
 generalize vQ i c d=b at*
 have z:=dO a.n b.d;have r:=dO a.d b.n;exact ajD g i e f c d a b (fF a b) (by rw [Yq2];intro h;rw [eP] at h;omega) k m (E9 a.n b.d (by omega) (by omega)) (E9 a.d b.n (by omega) (by omega)) (oH _ _ _ (by omega) (by omega) (Xx7 j.1 n))
theorem aat (h f:Bool) (e g c d:List UInt8) (m:e.length<2^29) (p:g.length<2^29) (n:c.length<2^29) (o:d.length<2^29) (k:(vQ f c d).n=0):CO 60 [Ω h e g,Ω f c d] (.ret (.tup [Ω false [] [],.bool false])):=by
 have i:=iQ h e g (by omega) (by omega);have j:=iQ f c d (by omega) (by omega);exact ajC h f e g c d _ _ q0 (by rw [k,dB];rfl) i j
theorem QI (g h:Bool) (e f c d:List UInt8) (t:e.length<2^29) (u:f.length<2^29) (o:c.length<2^29) (p:d.length<2^29):CO 169 [Ω g e f,Ω h c d] (.ret (qA (iJ (vQ g e f) (vQ h c d)))):=by
 have k:=nK g e f (by omega) (by omega);have m:=nK h c d (by omega) (by omega);obtain ⟨w,y⟩:=jA g e f;obtain ⟨n,r⟩:=jA h c d;have j:=jo g e f;have i:=jo h c d;generalize vQ g e f=a at*
 generalize vQ h c d=b at*
 have v:=dO a.n b.n;have q:=dO a.d b.d;exact aks g h e f c d a b (iJ a b) k m (EQ a.n b.n (by omega) (by omega)) (EQ a.d b.d (by omega) (by omega)) (H6 _ _ _ (by omega) (by omega) (Xx7 j.1 i.1))
def RQ.rt (q:RQ):Rat:=(if q.neg then -1 else 1)*(q.n:Rat) / (q.d:Rat)
theorem lU {x:Nat} (h:0<x):(x:Rat) ≠ 0:=by
 intro e;have:x=0:=by exact_mod_cast e
 omega
theorem Au (c:Bool) (n d:Nat) (h:0<d):(jV c n d).rt=(if c then -1 else 1)*(n:Rat) / (d:Rat):=by
 obtain ⟨a,j⟩:=Nat.gcd_dvd_left n d;obtain ⟨b,k⟩:=Nat.gcd_dvd_right n d;have e:0<Xxn n d:=Nat.gcd_pos_of_pos_right n h;unfold jV RQ.rt;simp only;generalize Xxn n d=g at*
 subst j k;rw [Xwg _ e,Xwg _ e];have f:0<b:=Nat.pos_of_mul_pos_left h;have o:=lU e;have m:=lU f;have i:((if (c && decide (0<g*a))=true then -1 else 1:Rat))*(a:Rat)=(if c=true then -1 else 1)*(a:Rat):=by
  rcases Θ a with h0|h0
  ·subst h0;simp
  ·rw [Yq0 (Xx7 e h0),Xjr]
 rw [i,Rat.natCast_mul,Rat.natCast_mul];grind
theorem Jy (q:RQ):(kW q).rt= - q.rt:=by
 unfold kW RQ.rt;rcases Θ q.n with h0|h0
 ·simp [h0];grind
 ·cases q.neg<;>simp [h0]<;>grind
theorem Ar {a b:RQ} (i:a.ok) (j:b.ok):(gK a b).rt=a.rt+b.rt:=by
 have m:=lU i.1;have k:=lU j.1;have hd:0<a.d*b.d:=Xx7 i.1 j.1;unfold gK;split
 ·rename_i hs;rw [Au _ _ _ hd,Rat.natCast_add,Rat.natCast_mul,Rat.natCast_mul,Rat.natCast_mul];unfold RQ.rt;rw [hs];cases b.neg<;>simp<;>grind
 ·rename_i hs;split
  ·rename_i h;obtain ⟨c,d⟩:=Xvu h;have g:(a.n:Rat)*b.d=b.n*a.d+c:=by
    have:=congrArg (fun x:Nat=>(x:Rat)) d;simpa only [Rat.natCast_add,Rat.natCast_mul] using this
   rw [d,Xj2,Au _ _ _ hd,Rat.natCast_mul];unfold RQ.rt;cases e:a.neg<;>cases f:b.neg<;>simp [e,f] at hs ⊢ <;>grind
  ·rename_i h;obtain ⟨c,d⟩:=Xvu (Nat.le_of_not_le h);have g:(b.n:Rat)*a.d=a.n*b.d+c:=by
    have:=congrArg (fun x:Nat=>(x:Rat)) d;simpa only [Rat.natCast_add,Rat.natCast_mul] using this
   rw [d,Xj2,Au _ _ _ hd,Rat.natCast_mul];unfold RQ.rt;cases e:a.neg<;>cases f:b.neg<;>simp [e,f] at hs ⊢ <;>grind
theorem Jw {a b:RQ} (c:a.ok) (d:b.ok):(iJ a b).rt=a.rt*b.rt:=by
 have e:=lU c.1;have f:=lU d.1;unfold iJ;rw [Au _ _ _ (Xx7 c.1 d.1),Rat.natCast_mul,Rat.natCast_mul];unfold RQ.rt;cases a.neg<;>cases b.neg<;>simp<;>grind
theorem Xo {a b:RQ} (c:a.ok) (e:b.ok) (d:0<b.n):(fF a b).rt=a.rt / b.rt:=by
 have h:=lU c.1;have f:=lU e.1;have g:=lU d;unfold fF;rw [Au _ _ _ (Xx7 c.1 d),Rat.natCast_mul,Rat.natCast_mul];unfold RQ.rt;cases a.neg<;>cases b.neg<;>simp<;>grind
theorem qp {a b:RQ} (g:a.ok) (d:b.ok) (h:a.rt=b.rt):a=b:=by
 have key:∀ q:RQ,q.ok→∃ h1 h2,q.rt=(⟨if q.neg then -(q.n:Int) else q.n,q.d,h1,h2⟩:Rat):=by
  intro q i;refine ⟨Nat.pos_iff_ne_zero.1 i.1, ?_, ?_⟩
  ·show Xxn _ _=1;rw [← i.2.1];split<;>simp
  ·rw [Rat.mk_eq_mkRat];unfold RQ.rt;rw [Rat.mkRat_eq_div];cases q.neg<;>simp [Rat.intCast_natCast]<;>grind
 obtain ⟨_,_,n⟩:=key a g;obtain ⟨_,_,m⟩:=key b d;rw [n,m] at h;have c:=congrArg Rat.num h;have hd:=congrArg Rat.den h;simp only at c hd;obtain ⟨k,r,t⟩:=a;obtain ⟨j,p,o⟩:=b;simp only at c hd;have e:=g.2.2;have f:=d.2.2;simp only at e f;cases k<;>cases j<;>simp at c e f ⊢ <;>omega
theorem afG {a b:RQ} (d:a.ok) (c:(kW b).ok):(eu a b).rt=a.rt - b.rt:=by
 unfold eu;rw [Ar d c,Jy];grind
theorem QP {q:RQ} (h:q.ok):(iU q<0↔q.rt<0)∧(iU q=0↔q.rt=0)∧(0<iU q↔0<q.rt):=by
 have d:=lU h.1;have hd:(0:Rat)<q.d:=by
  have:0<q.d:=h.1
  exact_mod_cast this
 unfold iU RQ.rt;rcases Θ q.n with h0|h0
 ·have:(0:Rat) / q.d=0:=by grind
  simp [h0,this]
 ·have c:(0:Rat)<q.n:=by exact_mod_cast h0
  have hp:(0:Rat)<(q.n:Rat) / q.d:=(by rw [Rat.div_def];exact Rat.mul_pos c (Rat.inv_pos.2 hd))
  rw [if_neg (by omega)];cases q.neg<;>simp<;>grind
theorem rU {a b c:Rat} (h:0<c):a*c<b*c↔a<b:=Rat.mul_lt_mul_right h
theorem EL {a b c:Rat} (h:0<c):a*c≤b*c↔a≤b:=⟨fun q=>Rat.le_of_mul_le_mul_right q h,fun q=>by
 by_cases e:a=b
 ·rw [e];exact Rat.le_refl
 ·have d:a<b:=by grind
  have f:=(rU h).2 d;grind⟩
def nH (q:RQ):Int:=if q.neg then -((q.n / q.d+(if q.n % q.d=0 then 0 else 1):Nat):Int) else ((q.n / q.d:Nat):Int)
def jJ (k:Int):RQ:=⟨decide (k<0),k.natAbs,1⟩
theorem pR (k:Int):(jJ k).ok:=⟨Nat.one_pos,Xvn _,fun h=>by
 have:k<0:=of_decide_eq_true h;show 0<k.natAbs;omega⟩
theorem Jv (k:Int):(jJ k).rt=(k:Rat):=by
 unfold jJ RQ.rt;by_cases h:k<0
 ·have e:(k:Int)= -(k.natAbs:Int):=by omega
  have c:(k:Rat)= -((k.natAbs:Nat):Rat):=by
   rw [← Rat.intCast_natCast,← Rat.intCast_neg,← e]
  simp only [Yq0 h,if_true];rw [c];rw [show ((1:Nat):Rat)=1 from rfl];grind
 ·have e:(k:Int)=(k.natAbs:Int):=by omega
  have c:(k:Rat)=((k.natAbs:Nat):Rat):=by
   rw [← Rat.intCast_natCast,← e]
  simp only [Yq1 h];rw [c];rw [show ((1:Nat):Rat)=1 from rfl];grind
theorem VF {q:RQ} (h:q.ok):((nH q:Int):Rat)≤q.rt∧q.rt<((nH q:Int):Rat)+1:=by
 have hd:(0:Rat)<q.d:=by
  have:0<q.d:=h.1
  exact_mod_cast this
 have e:(q.n:Rat)=q.d*((q.n / q.d:Nat):Rat)+((q.n % q.d:Nat):Rat):=by
  rw [← Rat.natCast_mul,← Rat.natCast_add,Nat.div_add_mod]
 have f:(0:Rat)≤((q.n % q.d:Nat):Rat):=by
  have:0≤q.n % q.d:=Xxk _
  exact_mod_cast this
 have g:((q.n % q.d:Nat):Rat)<q.d:=by
  have:=Xqv q.n h.1
  exact_mod_cast this
 unfold nH RQ.rt;have d:∀ y:Rat,y / q.d*q.d=y:=fun y=>by grind
 cases hs:q.neg with
 |false=>
  simp only [Xjo,if_false,Rat.intCast_natCast];rw [← EL hd,← rU hd,d];constructor<;>grind
 | true=>
  simp only [if_true,Rat.intCast_neg,Rat.intCast_natCast];rw [← EL hd,← rU hd,d];split
  ·rename_i c;rw [c] at e f g;simp only [Xq0];constructor<;>grind
  ·rename_i c;have:(0:Rat)<((q.n % q.d:Nat):Rat):=by
    have:0<q.n % q.d:=by omega
    exact_mod_cast this
   rw [Rat.natCast_add];rw [show ((1:Nat):Rat)=1 from rfl];constructor<;>grind
theorem CS {k m:Int} {x:Rat} (c:(k:Rat)≤x) (f:x<(k:Rat)+1) (d:(m:Rat)≤x) (e:x<(m:Rat)+1):k=m:=by
 have a:((k:Int):Rat)<((m+1:Int):Rat):=by rw [Rat.intCast_add,Rat.intCast_one];grind
 have b:((m:Int):Rat)<((k+1:Int):Rat):=by rw [Rat.intCast_add,Rat.intCast_one];grind
 rw [Rat.intCast_lt_intCast] at a b;omega
def vZ (a s:RQ):RQ:=iJ (jJ (nH (fF a s))) s
def eqR (a b:RQ):Bool:=(a.neg==b.neg) && ((ae a.n==ae b.n) && (ae a.d==ae b.d))
theorem IJ {a b:RQ}:eqR a b=true↔a=b:=by
 obtain ⟨s,n,d⟩:=a;obtain ⟨s',c,e⟩:=b;simp only [eqR,π,beq_iff_eq,RQ.mk.injEq];exact ⟨fun h=> ⟨h.1,EM h.2.1,EM h.2.2⟩,fun h=> ⟨h.1,by rw [h.2.1],by rw [h.2.2]⟩⟩
def Yb (a s:RQ):RQ:=if eqR (vZ a s) a=true then a else gK (vZ a s) s
def Ya (a s:RQ):RQ:=if 0≤iE (gK (eu a (vZ a s)) (eu a (vZ a s))) s then gK (vZ a s) s else vZ a s
theorem gY {a b:RQ} (d:a.ok) (c:b.ok):(eu a b).ok:=eQ d (ql c)
theorem Jz {a b:RQ} (d:a.ok) (c:b.ok):(eu a b).rt=a.rt - b.rt:=afG d (ql c)
theorem jr {a b:RQ} (c:a.ok) (d:b.ok):(iE a b<0↔a.rt<b.rt)∧(iE a b=0↔a=b)∧(0<iE a b↔b.rt<a.rt):=by
 have h:=QP (gY c d);rw [Jz c d] at h;unfold iE;refine ⟨h.1.trans ?_,h.2.1.trans ?_,h.2.2.trans ?_⟩
 ·constructor<;>intro _<;>grind
 ·constructor
  ·intro e;exact qp c d (by grind)
  ·intro e;rw [e];grind
 ·constructor<;>intro _<;>grind
theorem Fp {s:RQ} (hs:s.ok) (h:0<iU s):0<s.rt∧0<s.n:=by
 refine ⟨(QP hs).2.2.1 h, ?_⟩;unfold iU at h;split at h<;>omega
theorem jf {a s:RQ} (hs:s.ok):(vZ a s).ok:=iK (pR _) hs
theorem QK {a s:RQ} (c:a.ok) (hs:s.ok) (d:0<s.n):(vZ a s).rt=((nH (fF a s):Int):Rat)*s.rt∧((nH (fF a s):Int):Rat)≤a.rt / s.rt∧a.rt / s.rt<((nH (fF a s):Int):Rat)+1:=by
 have h:=VF (pV c d);rw [Xo c hs d] at h;exact ⟨by unfold vZ;rw [Jw (pR _) hs,Jv],h⟩
theorem alD {a s:RQ} (c:a.ok) (hs:s.ok) (hp:0<iU s):kW (vZ (kW a) s)=Yb a s:=by
 obtain ⟨p,k⟩:=Fp hs hp;obtain ⟨j,d,f⟩:=QK (ql c) hs k;obtain ⟨h,o,q⟩:=QK c hs k;rw [Jy] at d f;have i:a.rt=a.rt / s.rt*s.rt:=by grind
 have n: -a.rt / s.rt= -(a.rt / s.rt):=by grind
 rw [n] at d f;generalize a.rt / s.rt=x at*
 unfold Yb;split
 ·rename_i e;have e:=IJ.1 e;refine qp (ql (jf hs)) c ?_;rw [e,i] at h;have g:x=((nH (fF a s):Int):Rat):=by grind
  rw [Jy,j,i];have:nH (fF (kW a) s)= -nH (fF a s):=CS (x:= -x) d f (by rw [Rat.intCast_neg];grind) (by rw [Rat.intCast_neg];grind);rw [this,Rat.intCast_neg,← g];grind
 ·rename_i e;refine qp (ql (jf hs)) (eQ (jf hs) hs) ?_;have m:((nH (fF a s):Int):Rat) ≠ x:=by
   intro g;exact e (IJ.2 (qp (jf hs) c (by rw [h,g,← i])))
  have:nH (fF (kW a) s)= -(nH (fF a s)+1):=CS (x:= -x) d f (by rw [Rat.intCast_neg,Rat.intCast_add,Rat.intCast_one];grind) (by rw [Rat.intCast_neg,Rat.intCast_add,Rat.intCast_one];grind);rw [Jy,j,Ar (jf hs) hs,h,this,Rat.intCast_neg,Rat.intCast_add,Rat.intCast_one];grind
theorem aiG {a s:RQ} (c:a.ok) (hs:s.ok) (hp:0<iU s):vZ (gK a (fF s (jJ 2))) s=Ya a s:=by
 obtain ⟨p,o⟩:=Fp hs hp;have m:(fF s (jJ 2)).ok:=pV hs (by decide);have r:(fF s (jJ 2)).rt=s.rt / 2:=by rw [Xo hs (pR 2) (by decide),Jv];rfl
 obtain ⟨n,d,g⟩:=QK (eQ c m) hs o;obtain ⟨k,u,v⟩:=QK c hs o;rw [Ar c m,r] at d g;have hd:=jf (a:=a) hs;have e:(eu a (vZ a s)).ok:=gY c hd;have f:=(jr (eQ e e) hs).1;rw [Ar e e,Jz c hd,k] at f;have q:a.rt=a.rt / s.rt*s.rt:=by grind
 have t:(a.rt+s.rt / 2) / s.rt=a.rt / s.rt+1 / 2:=by grind
 rw [t] at d g;generalize a.rt / s.rt=x at*
 have j:(x*s.rt - ↑(nH (fF a s))*s.rt+(x*s.rt - ↑(nH (fF a s))*s.rt))<s.rt↔(x - ↑(nH (fF a s))+(x - ↑(nH (fF a s))))<1:=by
  rw [← rU (a:=x - ↑(nH (fF a s))+(x - ↑(nH (fF a s)))) p];constructor<;>intro _<;>grind
 rw [q,j] at f;unfold Ya;split
 ·rename_i i;refine qp (jf hs) (eQ hd hs) ?_;have:¬ (x - ↑(nH (fF a s))+(x - ↑(nH (fF a s))))<1:=fun h=>by have:=f.2 h;omega
  have:nH (fF (gK a (fF s (jJ 2))) s)=nH (fF a s)+1:=CS (x:=x+1 / 2) d g (by rw [Rat.intCast_add,Rat.intCast_one];grind) (by rw [Rat.intCast_add,Rat.intCast_one];grind);rw [n,Ar hd hs,k,this,Rat.intCast_add,Rat.intCast_one];grind
 ·rename_i i;refine qp (jf hs) hd ?_;have:(x - ↑(nH (fF a s))+(x - ↑(nH (fF a s))))<1:=f.1 (by omega);have:nH (fF (gK a (fF s (jJ 2))) s)=nH (fF a s):=CS (x:=x+1 / 2) d g (by grind) (by grind);rw [n,k,this]
def mJ (f:RQ) (nx:Option RQ) (x:RQ):RQ:=
 let p:=eu (match nx with|some y=>if iE y x<0 then y else x|none=>x) f
 if iU p<0 then q0 else p
def ww:RQ→List (RQ × RQ)→RQ→RQ
 |acc,[],_=>acc
 |acc,b::l,x=>ww (gK acc (iJ b.2 (mJ b.1 (l.head?.map (·.1)) x))) l x
def jc:RQ→List (RQ × RQ)→List RQ
 |acc,b::b'::l=>acc::jc (gK acc (iJ (eu b'.1 b.1) b.2)) (b'::l)
 |acc,_=> [acc]
def gJ (l:List (RQ × RQ)) (x:RQ):Nat:=(l.takeWhile fun b=> !(decide (0<iE b.1 x))).length
def atR (l:List (RQ × RQ)) (x:RQ):RQ:=gK ((jc q0 l).getD (gJ l x - 1) q0) (iJ (l.getD (gJ l x - 1) (q0,q0)).2 (eu x (l.getD (gJ l x - 1) (q0,q0)).1))
def wlR:RQ→RQ × RQ→List (RQ × RQ)→RQ→RQ
 |acc,b,[],x=>gK acc (iJ b.2 (eu x b.1))
 |acc,b,b'::l,x=>if 0<iE b'.1 x then gK acc (iJ b.2 (eu x b.1)) else wlR (gK acc (iJ (eu b'.1 b.1) b.2)) b' l x
def sQ:List (RQ × RQ)→Prop
 |b::b'::l=>b.1.rt<b'.1.rt∧sQ (b'::l)
 |_=>True
theorem sQ.all:∀ {b:RQ × RQ} {l:List (RQ × RQ)},sQ (b::l)→∀ y ∈ l,b.1.rt<y.1.rt
 |b,[],_,y,hy=>by cases hy
 | b,b'::l,h,y,hy=>by
  rcases List.mem_cons.1 hy with rfl|hy
  ·exact h.1
  ·have:=sQ.all h.2 y hy;have:=h.1;grind
theorem sQ.tail {b:RQ × RQ} {l:List (RQ × RQ)} (h:sQ (b::l)):sQ l:=by
 cases l with
 |nil=>exact True.intro
 |cons _ _=>exact h.2
def OkL (l:List (RQ × RQ)):Prop:=∀ b ∈ l,b.1.ok∧b.2.ok
theorem akQ:q0.rt=0:=by unfold q0 RQ.rt;grind
theorem FW {x:RQ} (g:x.ok):∀ {l:List (RQ × RQ)} {acc:RQ},acc.ok→OkL l→(∀ b ∈ l,x.rt<b.1.rt)→ww acc l x=acc
 | [],_,_,_,_=>rfl
 | b ::l,acc,ha,ho,hl=>by
  have c:=ho b (by simp);have hp:mJ b.1 (l.head?.map (·.1)) x=q0:=by
   unfold mJ;have e:(match l.head?.map (·.1) with|some y=>if iE y x<0 then y else x|none=>x)=x:=by
    cases l with
    |nil=>rfl
    |cons b' l=>
     have d:=(jr (ho b' (by simp)).1 g).1;have j:=hl b' (by simp);simp only [List.head?_cons,Option.map_some];rw [if_neg];intro h;have:=d.1 h;grind
   simp only [e];have d:iU (eu x b.1)<0:=(jr g c.1).1.2 (hl b (by simp));rw [if_pos d]
  have i:(gK acc (iJ b.2 q0))=acc:=by
   refine qp (eQ ha (iK c.2 wJ)) ha ?_;rw [Ar ha (iK c.2 wJ),Jw c.2 wJ,akQ];grind
  unfold ww;rw [hp,i];exact FW g ha (fun y f=>ho y (by simp [f])) (fun y f=>hl y (by simp [f]))
theorem X4 {x:RQ} (g:x.ok):∀ {l:List (RQ × RQ)} {b:RQ × RQ} {acc:RQ},acc.ok→OkL (b::l)→sQ (b::l)→b.1.rt≤x.rt→ww acc (b::l) x=wlR acc b l x
 | [],b,acc,ha,ho,hs,hb=>by
  have c:=ho b (by simp);have hp:mJ b.1 none x=eu x b.1:=by
   unfold mJ;simp only;rw [if_neg];intro h;have:=(jr g c.1).1.1 h;grind
  show ww (gK acc (iJ b.2 (mJ b.1 none x))) [] x=_;rw [hp];rfl
 | b' ::l,b,acc,ha,ho,hs,hb=>by
  have c:=ho b (by simp);have d:=ho b' (by simp);have k:=jr d.1 g;show ww (gK acc (iJ b.2 (mJ b.1 (some b'.1) x))) (b'::l) x=_;have j:OkL (b'::l):=fun y f=>ho y (by simp at f ⊢;exact .inr f)
  unfold wlR;split
  ·rename_i h;have n:=k.2.2.1 h;have hp:mJ b.1 (some b'.1) x=eu x b.1:=by
    unfold mJ;simp only;rw [if_neg (show ¬ iE b'.1 x<0 by omega),if_neg];intro h;have:=(jr g c.1).1.1 h;grind
   rw [hp];refine FW g (eQ ha (iK c.2 (gY g c.1))) j fun y f=> ?_
   rcases List.mem_cons.1 f with rfl|f
   ·exact n
   ·have:=hs.2.all y f;grind
  ·rename_i h;have m:b'.1.rt≤x.rt:=by
    have:=k.2.2;have v:¬ x.rt<b'.1.rt:=fun q=>h (this.2 q)
    grind
   have hp:mJ b.1 (some b'.1) x=eu b'.1 b.1:=by
    have r:=hs.1;have i:∀ y:RQ,y.ok→b'.1.rt≤y.rt→¬ iU (eu y b.1)<0:=fun y f u q=>by
     have:=(jr f c.1).1.1 q;grind
    unfold mJ;simp only;split
    ·rw [if_neg (i _ d.1 (by grind))]
    ·rename_i o;have:b'.1=x:=qp d.1 g (by
      have t:¬ b'.1.rt<x.rt:=fun q=>o (k.1.2 q)
      grind)
     rw [this,if_neg (i _ g (by rw [this];grind))]
   have p:iJ b.2 (eu b'.1 b.1)=iJ (eu b'.1 b.1) b.2:=by
    have e:=gY d.1 c.1;refine qp (iK c.2 e) (iK e c.2) ?_;rw [Jw c.2 e,Jw e c.2];grind
   rw [hp,p];exact X4 g (eQ ha (iK (gY d.1 c.1) c.2)) j hs.2 m
theorem x_ {b:RQ × RQ} {l:List (RQ × RQ)} {x:RQ} (h:¬ 0<iE b.1 x):gJ (b::l) x=gJ l x+1:=by
 unfold gJ;rw [List.takeWhile_cons_of_pos (by simp at h ⊢;omega)];simp
theorem ab9 {x:RQ}:∀ {l:List (RQ × RQ)} {b:RQ × RQ} {acc:RQ},¬ 0<iE b.1 x→gK ((jc acc (b::l)).getD (gJ (b::l) x - 1) q0) (iJ ((b::l).getD (gJ (b::l) x - 1) (q0,q0)).2 (eu x ((b::l).getD (gJ (b::l) x - 1) (q0,q0)).1))=wlR acc b l x
 | [],b,acc,h=>by
  rw [x_ h];rfl
 | b'::l,b,acc,h=>by
  rw [x_ h,Xwf];unfold wlR;split
  ·rename_i c;have:gJ (b'::l) x=0:=by
    unfold gJ;rw [Xz5 (by simp;omega)];rfl
   rw [this];rfl
  ·rename_i c;rw [← ab9 c,x_ c,Xwf];rfl
theorem ade {x:RQ} (e:x.ok) {l:List (RQ × RQ)} (f:OkL l) (hs:sQ l):ww q0 l x=if gJ l x=0 then q0 else atR l x:=by
 cases l with
 |nil=>rfl
 | cons b l=>
  have g:=f b (by simp);have c:=(jr g.1 e).2.2;by_cases h:0<iE b.1 x
  ·have:gJ (b::l) x=0:=by
    unfold gJ;rw [Xz5 (by simp;omega)];rfl
   rw [this,if_pos rfl];refine FW e wJ f fun y d=> ?_
   rcases List.mem_cons.1 d with rfl|d
   ·exact c.1 h
   ·have:=hs.all y d;have:=c.1 h;grind
  ·rw [if_neg (by rw [x_ h];omega)];unfold atR;rw [ab9 h];exact X4 e wJ f hs (by
    have:¬ x.rt<b.1.rt:=fun q=>h (c.2 q)
    grind)
inductive Oq where
 |err (e:Int)
 |val (q:RQ)
def Oq.n:Oq→Bool| .err _=>false| .val q=>q.neg
def Oq.a:Oq→List UInt8| .err _=> []| .val q=>ae q.n
def Oq.d:Oq→List UInt8| .err _=> []| .val q=>ae q.d
def Oq.e:Oq→Int| .err e=>e| .val _=>0
def Oq.q:Oq→RQ| .err _=>q0| .val q=>q
def uB (o:Oq):List AV:= [.bool o.n,.str o.a,.str o.d,ω o.e]
abbrev eF (o:Oq):AV:= .agg [.bool o.n,.str o.a,.str o.d,ω o.e]
noncomputable def Qa (t:Nat):AV→Bool:=match ap.tyAt t with|some ti=>kU ti|none=>fun _=>false
theorem jb (e:Int):CO 41 [ω e] (.ret (.agg [.bool false,.str [],.str [],ω e])):=pK [] 0 0 (.n 5 .nil) (.nil)
theorem adZ (n:Bool) (a d:List UInt8) (e:Int) (f:lit true (!(e==((0:Nat):Int)))=true) (c:CO 41 [ω e] (.ret (.agg [.bool false,.str [],.str [],ω e]))):CO 43 [.agg [.bool n,.str a,.str d,ω e]] (.ret (.agg [.bool false,.str [],.str [],ω e])):=pK [] 1 1 (.k 6 f (.n 1 .nil)) (.c c .nil)
theorem ad1 (n:Bool) (a d:List UInt8) (e:Int) (h:lit true (!(fB n a d))=true) (c:lit false (!(e==((0:Nat):Int)))=true) (f:CO 70 [Ω n a d] (.ret (.bool (fB n a d)))) (g:CO 41 [ω 3] (.ret (.agg [.bool false,.str [],.str [],ω 3]))):CO 43 [.agg [.bool n,.str a,.str d,ω e]] (.ret (.agg [.bool false,.str [],.str [],ω 3])):=pK [] 2 2 (.k 5 h (.k 3 c (.n 1 .nil))) (.c g (.c f .nil))
theorem ad2 (n:Bool) (a d:List UInt8) (e:Int) (g:lit false (!(fB n a d))=true) (c:lit false (!(e==((0:Nat):Int)))=true) (f:CO 70 [Ω n a d] (.ret (.bool (fB n a d)))):CO 43 [.agg [.bool n,.str a,.str d,ω e]] (.ret (.agg [.bool n,.str a,.str d,ω e])):=pK [] 2 0 (.k 9 g (.k 3 c (.n 1 .nil))) (.c f .nil)
theorem aeb (n:Bool) (a d:List UInt8) (o:Oq) (c:CO 43 [.agg [.bool n,.str a,.str d,ω 0]] (.ret (eF o))):CO 124 [Ω n a d] (.ret (eF o)):=pK [] 0 0 (.n 8 .nil) (.c c .nil)
theorem ad9 (b:Bool) (o:Oq) (c:lit true b=true) (d:CO 42 [ω 1] (.ret (Ω false (ae 1) (ae 1)))) (e:CO 124 [Ω false (ae 1) (ae 1)] (.ret (eF o))):CO 126 [.bool b] (.ret (eF o)):=pK [] 1 1 (.k 5 c .nil) (.c e (.c d .nil))
theorem ad_ (b:Bool) (o:Oq) (c:lit false b=true) (d:CO 42 [ω 0] (.ret (Ω false (ae 0) (ae 1)))) (e:CO 124 [Ω false (ae 0) (ae 1)] (.ret (eF o))):CO 126 [.bool b] (.ret (eF o)):=pK [] 1 0 (.k 5 c .nil) (.c e (.c d .nil))
theorem adF (n:Bool) (a d:List UInt8) (e:lit true ((n==false) && ((a==(ae 1)) && ((d==(ae 1)) && true)))=true) (c:CO 42 [ω 1] (.ret (Ω false (ae 1) (ae 1)))):CO 128 [Ω n a d] (.ret (.tup [.bool ((n==false) && ((a==(ae 1)) && ((d==(ae 1)) && true))),.bool true])):=pK [] 1 1 (.c e (.n 3 .nil)) (.c c .nil)
theorem adG (n:Bool) (a d:List UInt8) (f:lit false ((n==false) && ((a==(ae 1)) && ((d==(ae 1)) && true)))=true) (c:CO 42 [ω 1] (.ret (Ω false (ae 1) (ae 1)))) (e:CO 42 [ω 0] (.ret (Ω false (ae 0) (ae 1)))):CO 128 [Ω n a d] (.ret (.tup [.bool ((n==false) && ((a==(ae 1)) && ((d==(ae 1)) && true))),.bool ((n==false) && ((a==(ae 0)) && ((d==(ae 1)) && true)))])):=pK [] 1 0 (.k 3 f (.n 3 .nil)) (.c e (.c c .nil))
theorem adH (d h:Bool) (f e c:List UInt8) (n:Int) (o:Oq) (ks vs j g i:List AV) (k:Nat) (m:CO 124 [Ω d f e] (.ret (eF o))):CO 75 [.agg [.mp ks vs,.mp j g],.agg [ω n,.bool d,.str f,.str e,.str c],.sl i k h] (.ret (eF o)):=pK [] 0 0 (.n 8 .nil) (.c m .nil)
theorem adI (j m e:Bool) (t p c:List UInt8) (d:Int) (g:Oq) (ks vs o f n:List AV) (k:Nat) (i:Yqh [(Xz1 (dV ks vs (.agg [ω d,.str c])) (.agg [.bool false,.str [],.str [],ω 0])),.bool (Xj3 (dV ks vs (.agg [ω d,.str c])))]= .tup [eF g,.bool e]) (r:lit true (!e)=true) (h:(Xzu ks (Qa 134))=true) (q:CO 41 [ω 12] (.ret (.agg [.bool false,.str [],.str [],ω 12]))):CO 76 [.agg [.mp ks vs,.mp o f],.agg [ω d,.bool j,.str t,.str p,.str c],.sl n k m] (.ret (.agg [.bool false,.str [],.str [],ω 12])):=pK [] 1 1 (.k 5 r (.k 2 h (.n 3 .nil))) (.c q (.v 17 (.eq i) .nil))
theorem adJ (j m f:Bool) (r p c:List UInt8) (d:Int) (e:Oq) (ks vs o g n:List AV) (k:Nat) (i:Yqh [(Xz1 (dV ks vs (.agg [ω d,.str c])) (.agg [.bool false,.str [],.str [],ω 0])),.bool (Xj3 (dV ks vs (.agg [ω d,.str c])))]= .tup [eF e,.bool f]) (q:lit false (!f)=true) (h:(Xzu ks (Qa 134))=true):CO 76 [.agg [.mp ks vs,.mp o g],.agg [ω d,.bool j,.str r,.str p,.str c],.sl n k m] (.ret (eF e)):=pK [] 1 0 (.k 9 q (.k 2 h (.n 3 .nil))) (.v 17 (.eq i) .nil)
theorem adB (i j k h:Bool) (r o d:List UInt8) (p:Int) (c f e:Oq) (ks vs n g:List AV) (q:lit true (!(c.e==((0:Nat):Int)))=true) (m:CO 128 [.agg [.bool c.n,.str c.a,.str c.d]] (.ret (.tup [.bool k,.bool h]))):CO 77 [.agg [.mp ks vs,.mp n g],.agg [ω p,.bool i,.str r,.str o,.str d],.sl [.bool c.n,.str c.a,.str c.d,ω c.e,.bool f.n,.str f.a,.str f.d,ω f.e,.bool e.n,.str e.a,.str e.d,ω e.e] 3 j] (.ret (eF c)):=pK [] 1 1 (.k 11 q (.n 8 .nil)) (.c m .nil)
theorem adC (i q j g:Bool) (u m d:List UInt8) (t:Int) (c f e:Oq) (ks vs k h:List AV) (n:lit true (!g)=true) (p:lit false (!(c.e==((0:Nat):Int)))=true) (r:CO 128 [.agg [.bool c.n,.str c.a,.str c.d]] (.ret (.tup [.bool j,.bool g]))) (o:CO 41 [ω 13] (.ret (.agg [.bool false,.str [],.str [],ω 13]))):CO 77 [.agg [.mp ks vs,.mp k h],.agg [ω t,.bool i,.str u,.str m,.str d],.sl [.bool c.n,.str c.a,.str c.d,ω c.e,.bool f.n,.str f.a,.str f.d,ω f.e,.bool e.n,.str e.a,.str e.d,ω e.e] 3 q] (.ret (.agg [.bool false,.str [],.str [],ω 13])):=pK [] 2 2 (.k 5 n (.c p (.n 8 .nil))) (.c o (.c r .nil))
theorem adD (j q h g:Bool) (u m d:List UInt8) (t:Int) (c e f:Oq) (ks vs k i:List AV) (o:lit true h=true) (p:lit false (!g)=true) (n:lit false (!(c.e==((0:Nat):Int)))=true) (r:CO 128 [.agg [.bool c.n,.str c.a,.str c.d]] (.ret (.tup [.bool h,.bool g]))):CO 77 [.agg [.mp ks vs,.mp k i],.agg [ω t,.bool j,.str u,.str m,.str d],.sl [.bool c.n,.str c.a,.str c.d,ω c.e,.bool e.n,.str e.a,.str e.d,ω e.e,.bool f.n,.str f.a,.str f.d,ω f.e] 3 q] (.ret (eF e)):=pK [] 3 4 (.k 11 o (.c p (.c n (.n 8 .nil)))) (.c r .nil)
theorem adE (j q h g:Bool) (u m e:List UInt8) (t:Int) (c f d:Oq) (ks vs k i:List AV) (o:lit false h=true) (p:lit false (!g)=true) (n:lit false (!(c.e==((0:Nat):Int)))=true) (r:CO 128 [.agg [.bool c.n,.str c.a,.str c.d]] (.ret (.tup [.bool h,.bool g]))):CO 77 [.agg [.mp ks vs,.mp k i],.agg [ω t,.bool j,.str u,.str m,.str e],.sl [.bool c.n,.str c.a,.str c.d,ω c.e,.bool f.n,.str f.a,.str f.d,ω f.e,.bool d.n,.str d.a,.str d.d,ω d.e] 3 q] (.ret (eF d)):=pK [] 3 0 (.k 11 o (.c p (.c n (.n 8 .nil)))) (.c r .nil)
theorem Y3 (g h:Bool) (n k e:List UInt8) (o c d:Oq) (r:RQ) (ks vs j f:List AV) (i:CO 123 [ω 9] (.ret (.fn 167 [] []))) (m:CO 167 [.agg [.bool c.n,.str c.a,.str c.d],.agg [.bool d.n,.str d.a,.str d.d]] (.ret (.agg [.bool r.neg,.str (ae r.n),.str (ae r.d)]))) (p:CO 124 [.agg [.bool r.neg,.str (ae r.n),.str (ae r.d)]] (.ret (eF o))):CO 74 [.agg [.mp ks vs,.mp j f],.agg [ω 9,.bool g,.str n,.str k,.str e],.sl [.bool c.n,.str c.a,.str c.d,ω c.e,.bool d.n,.str d.a,.str d.d,ω d.e] 2 h] (.ret (eF o)):=pK [] 1 1 (.n 25 .nil) (.c p (.c m (.c i .nil)))
theorem YX:CO 123 [ω 9] (.ret (.fn 167 [] [])):=pK [] 1 1 (.n 1 .nil) (.nil)
theorem Vl (g h:Bool) (n k e:List UInt8) (o c d:Oq) (r:RQ) (ks vs j f:List AV) (i:CO 123 [ω 10] (.ret (.fn 168 [] []))) (m:CO 168 [.agg [.bool c.n,.str c.a,.str c.d],.agg [.bool d.n,.str d.a,.str d.d]] (.ret (.agg [.bool r.neg,.str (ae r.n),.str (ae r.d)]))) (p:CO 124 [.agg [.bool r.neg,.str (ae r.n),.str (ae r.d)]] (.ret (eF o))):CO 74 [.agg [.mp ks vs,.mp j f],.agg [ω 10,.bool g,.str n,.str k,.str e],.sl [.bool c.n,.str c.a,.str c.d,ω c.e,.bool d.n,.str d.a,.str d.d,ω d.e] 2 h] (.ret (eF o)):=pK [] 1 1 (.n 25 .nil) (.c p (.c m (.c i .nil)))
theorem Vb:CO 123 [ω 10] (.ret (.fn 168 [] [])):=pK [] 2 2 (.n 2 .nil) (.nil)
theorem Vm (g h:Bool) (n k e:List UInt8) (o c d:Oq) (r:RQ) (ks vs j f:List AV) (i:CO 123 [ω 11] (.ret (.fn 169 [] []))) (m:CO 169 [.agg [.bool c.n,.str c.a,.str c.d],.agg [.bool d.n,.str d.a,.str d.d]] (.ret (.agg [.bool r.neg,.str (ae r.n),.str (ae r.d)]))) (p:CO 124 [.agg [.bool r.neg,.str (ae r.n),.str (ae r.d)]] (.ret (eF o))):CO 74 [.agg [.mp ks vs,.mp j f],.agg [ω 11,.bool g,.str n,.str k,.str e],.sl [.bool c.n,.str c.a,.str c.d,ω c.e,.bool d.n,.str d.a,.str d.d,ω d.e] 2 h] (.ret (eF o)):=pK [] 1 1 (.n 25 .nil) (.c p (.c m (.c i .nil)))
theorem Vd:CO 123 [ω 11] (.ret (.fn 169 [] [])):=pK [] 3 4 (.n 3 .nil) (.nil)
theorem Vo (g h:Bool) (n k e:List UInt8) (o c d:Oq) (r:RQ) (ks vs j f:List AV) (i:CO 123 [ω 12] (.ret (.nilF))) (m:CO 125 [.agg [.bool c.n,.str c.a,.str c.d],.agg [.bool d.n,.str d.a,.str d.d]] (.ret (.tup [.agg [.bool r.neg,.str (ae r.n),.str (ae r.d)],.bool true]))) (p:CO 124 [.agg [.bool r.neg,.str (ae r.n),.str (ae r.d)]] (.ret (eF o))):CO 74 [.agg [.mp ks vs,.mp j f],.agg [ω 12,.bool g,.str n,.str k,.str e],.sl [.bool c.n,.str c.a,.str c.d,ω c.e,.bool d.n,.str d.a,.str d.d,ω d.e] 2 h] (.ret (eF o)):=pK [] 3 2 (.n 32 .nil) (.c p (.c m (.c i .nil)))
theorem R_ (g h:Bool) (n k e:List UInt8) (c d:Oq) (ks vs j f:List AV) (i:CO 123 [ω 12] (.ret (.nilF))) (m:CO 125 [.agg [.bool c.n,.str c.a,.str c.d],.agg [.bool d.n,.str d.a,.str d.d]] (.ret (.tup [Ω false [] [],.bool false]))) (o:CO 41 [ω 16] (.ret (.agg [.bool false,.str [],.str [],ω 16]))):CO 74 [.agg [.mp ks vs,.mp j f],.agg [ω 12,.bool g,.str n,.str k,.str e],.sl [.bool c.n,.str c.a,.str c.d,ω c.e,.bool d.n,.str d.a,.str d.d,ω d.e] 2 h] (.ret (.agg [.bool false,.str [],.str [],ω 16])):=pK [] 3 6 (.n 29 .nil) (.c o (.c m (.c i .nil)))
theorem Kv:CO 123 [ω 12] (.ret (.nilF)):=pK [] 5 0 (.n 5 .nil) (.nil)
theorem KD (n h i:Bool) (a d q m f:List UInt8) (o c e:Oq) (ks vs k g:List AV) (j:CO 123 [ω 13] (.ret (.fn 166 [] [.pp [ω 1] 0]))) (p:CO 166 [.agg [.bool c.n,.str c.a,.str c.d],.agg [.bool e.n,.str e.a,.str e.d],.pp [ω 1] 0] (.ret (Ω n a d))) (r:CO 124 [Ω n a d] (.ret (eF o))):CO 74 [.agg [.mp ks vs,.mp k g],.agg [ω 13,.bool h,.str q,.str m,.str f],.sl [.bool c.n,.str c.a,.str c.d,ω c.e,.bool e.n,.str e.a,.str e.d,ω e.e] 2 i] (.ret (eF o)):=pK [] 1 1 (.n 25 .nil) (.c r (.c p (.c j .nil)))
theorem Kw (c:CO 165 [ω 1] (.ret (.fn 166 [] [.pp [ω 1] 0]))):CO 123 [ω 13] (.ret (.fn 166 [] [.pp [ω 1] 0])):=pK [] 4 8 (.n 4 .nil) (.c c .nil)
theorem KE (n h i:Bool) (a d q m f:List UInt8) (o c e:Oq) (ks vs k g:List AV) (j:CO 123 [ω 14] (.ret (.fn 166 [] [.pp [ω (-1)] 0]))) (p:CO 166 [.agg [.bool c.n,.str c.a,.str c.d],.agg [.bool e.n,.str e.a,.str e.d],.pp [ω (-1)] 0] (.ret (Ω n a d))) (r:CO 124 [Ω n a d] (.ret (eF o))):CO 74 [.agg [.mp ks vs,.mp k g],.agg [ω 14,.bool h,.str q,.str m,.str f],.sl [.bool c.n,.str c.a,.str c.d,ω c.e,.bool e.n,.str e.a,.str e.d,ω e.e] 2 i] (.ret (eF o)):=pK [] 1 1 (.n 25 .nil) (.c r (.c p (.c j .nil)))
theorem Ky (c:CO 165 [ω (-1)] (.ret (.fn 166 [] [.pp [ω (-1)] 0]))):CO 123 [ω 14] (.ret (.fn 166 [] [.pp [ω (-1)] 0])):=pK [] 5 16 (.n 5 .nil) (.c c .nil)
theorem Vp (h i:Bool) (p m e:List UInt8) (g:Int) (o c d:Oq) (ks vs k f:List AV) (j:CO 123 [ω 16] (.ret (.nilF))) (n:CO 127 [.agg [.bool c.n,.str c.a,.str c.d],.agg [.bool d.n,.str d.a,.str d.d]] (.ret (ω g))) (q:CO 126 [.bool (decide (g<((0:Nat):Int)))] (.ret (eF o))):CO 74 [.agg [.mp ks vs,.mp k f],.agg [ω 16,.bool h,.str p,.str m,.str e],.sl [.bool c.n,.str c.a,.str c.d,ω c.e,.bool d.n,.str d.a,.str d.d,ω d.e] 2 i] (.ret (eF o)):=pK [] 3 4 (.n 28 .nil) (.c q (.c n (.c j .nil)))
theorem Ve:CO 123 [ω 16] (.ret (.nilF)):=pK [] 5 0 (.n 5 .nil) (.nil)
theorem Vq (g h:Bool) (n k e:List UInt8) (o c d:Oq) (ks vs j f:List AV) (i:CO 123 [ω 17] (.ret (.nilF))) (m:CO 126 [.bool ((c.n==d.n) && ((c.a==d.a) && ((c.d==d.d) && true)))] (.ret (eF o))):CO 74 [.agg [.mp ks vs,.mp j f],.agg [ω 17,.bool g,.str n,.str k,.str e],.sl [.bool c.n,.str c.a,.str c.d,ω c.e,.bool d.n,.str d.a,.str d.d,ω d.e] 2 h] (.ret (eF o)):=pK [] 4 8 (.n 29 .nil) (.c m (.c i .nil))
theorem Vf:CO 123 [ω 17] (.ret (.nilF)):=pK [] 5 0 (.n 5 .nil) (.nil)
theorem Vr (h t i f p m:Bool) (v k e:List UInt8) (c d:Oq) (ks vs j g:List AV) (n:lit true (!f)=true) (u:CO 123 [ω 18] (.ret (.nilF))) (r:CO 128 [.agg [.bool c.n,.str c.a,.str c.d]] (.ret (.tup [.bool i,.bool f]))) (o:CO 128 [.agg [.bool d.n,.str d.a,.str d.d]] (.ret (.tup [.bool p,.bool m]))) (q:CO 41 [ω 13] (.ret (.agg [.bool false,.str [],.str [],ω 13]))):CO 74 [.agg [.mp ks vs,.mp j g],.agg [ω 18,.bool h,.str v,.str k,.str e],.sl [.bool c.n,.str c.a,.str c.d,ω c.e,.bool d.n,.str d.a,.str d.d,ω d.e] 2 t] (.ret (.agg [.bool false,.str [],.str [],ω 13])):=pK [] 6 48 (.k 6 n (.n 24 .nil)) (.c q (.c o (.c r (.c u .nil))))
theorem Vs (i u j f o g:Bool) (w m e:List UInt8) (c d:Oq) (ks vs k h:List AV) (n:lit true (!g)=true) (t:lit false (!f)=true) (v:CO 123 [ω 18] (.ret (.nilF))) (r:CO 128 [.agg [.bool c.n,.str c.a,.str c.d]] (.ret (.tup [.bool j,.bool f]))) (p:CO 128 [.agg [.bool d.n,.str d.a,.str d.d]] (.ret (.tup [.bool o,.bool g]))) (q:CO 41 [ω 13] (.ret (.agg [.bool false,.str [],.str [],ω 13]))):CO 74 [.agg [.mp ks vs,.mp k h],.agg [ω 18,.bool i,.str w,.str m,.str e],.sl [.bool c.n,.str c.a,.str c.d,ω c.e,.bool d.n,.str d.a,.str d.d,ω d.e] 2 u] (.ret (.agg [.bool false,.str [],.str [],ω 13])):=pK [] 6 32 (.k 5 n (.c t (.n 24 .nil))) (.c q (.c p (.c r (.c v .nil))))
theorem Vt (k w g f i h:Bool) (z n e:List UInt8) (o c d:Oq) (ks vs m j:List AV) (q:lit true g=true) (v:lit false (!h)=true) (p:lit false (!f)=true) (y:CO 123 [ω 18] (.ret (.nilF))) (u:CO 128 [.agg [.bool c.n,.str c.a,.str c.d]] (.ret (.tup [.bool g,.bool f]))) (r:CO 128 [.agg [.bool d.n,.str d.a,.str d.d]] (.ret (.tup [.bool i,.bool h]))) (t:CO 126 [.bool i] (.ret (eF o))):CO 74 [.agg [.mp ks vs,.mp m j],.agg [ω 18,.bool k,.str z,.str n,.str e],.sl [.bool c.n,.str c.a,.str c.d,ω c.e,.bool d.n,.str d.a,.str d.d,ω d.e] 2 w] (.ret (eF o)):=pK [] 8 192 (.k 5 q (.k 2 v (.c p (.n 24 .nil)))) (.c t (.c r (.c u (.c y .nil))))
theorem Vu (j w g f q h:Bool) (z m e:List UInt8) (o c d:Oq) (ks vs k i:List AV) (p:lit false g=true) (v:lit false (!h)=true) (n:lit false (!f)=true) (y:CO 123 [ω 18] (.ret (.nilF))) (u:CO 128 [.agg [.bool c.n,.str c.a,.str c.d]] (.ret (.tup [.bool g,.bool f]))) (r:CO 128 [.agg [.bool d.n,.str d.a,.str d.d]] (.ret (.tup [.bool q,.bool h]))) (t:CO 126 [.bool false] (.ret (eF o))):CO 74 [.agg [.mp ks vs,.mp k i],.agg [ω 18,.bool j,.str z,.str m,.str e],.sl [.bool c.n,.str c.a,.str c.d,ω c.e,.bool d.n,.str d.a,.str d.d,ω d.e] 2 w] (.ret (eF o)):=pK [] 8 64 (.k 5 p (.k 2 v (.c n (.n 24 .nil)))) (.c t (.c r (.c u (.c y .nil))))
theorem yl:CO 123 [ω 18] (.ret (.nilF)):=pK [] 5 0 (.n 5 .nil) (.nil)
theorem Vw (h t i f p m:Bool) (v k e:List UInt8) (c d:Oq) (ks vs j g:List AV) (n:lit true (!f)=true) (u:CO 123 [ω 19] (.ret (.nilF))) (r:CO 128 [.agg [.bool c.n,.str c.a,.str c.d]] (.ret (.tup [.bool i,.bool f]))) (o:CO 128 [.agg [.bool d.n,.str d.a,.str d.d]] (.ret (.tup [.bool p,.bool m]))) (q:CO 41 [ω 13] (.ret (.agg [.bool false,.str [],.str [],ω 13]))):CO 74 [.agg [.mp ks vs,.mp j g],.agg [ω 19,.bool h,.str v,.str k,.str e],.sl [.bool c.n,.str c.a,.str c.d,ω c.e,.bool d.n,.str d.a,.str d.d,ω d.e] 2 t] (.ret (.agg [.bool false,.str [],.str [],ω 13])):=pK [] 6 48 (.k 6 n (.n 24 .nil)) (.c q (.c o (.c r (.c u .nil))))
theorem Vx (i u j f o g:Bool) (w m e:List UInt8) (c d:Oq) (ks vs k h:List AV) (n:lit true (!g)=true) (t:lit false (!f)=true) (v:CO 123 [ω 19] (.ret (.nilF))) (r:CO 128 [.agg [.bool c.n,.str c.a,.str c.d]] (.ret (.tup [.bool j,.bool f]))) (p:CO 128 [.agg [.bool d.n,.str d.a,.str d.d]] (.ret (.tup [.bool o,.bool g]))) (q:CO 41 [ω 13] (.ret (.agg [.bool false,.str [],.str [],ω 13]))):CO 74 [.agg [.mp ks vs,.mp k h],.agg [ω 19,.bool i,.str w,.str m,.str e],.sl [.bool c.n,.str c.a,.str c.d,ω c.e,.bool d.n,.str d.a,.str d.d,ω d.e] 2 u] (.ret (.agg [.bool false,.str [],.str [],ω 13])):=pK [] 6 32 (.k 5 n (.c t (.n 24 .nil))) (.c q (.c p (.c r (.c v .nil))))
theorem Vy (j w g f q h:Bool) (z m e:List UInt8) (o c d:Oq) (ks vs k i:List AV) (p:lit true g=true) (v:lit false (!h)=true) (n:lit false (!f)=true) (y:CO 123 [ω 19] (.ret (.nilF))) (u:CO 128 [.agg [.bool c.n,.str c.a,.str c.d]] (.ret (.tup [.bool g,.bool f]))) (r:CO 128 [.agg [.bool d.n,.str d.a,.str d.d]] (.ret (.tup [.bool q,.bool h]))) (t:CO 126 [.bool true] (.ret (eF o))):CO 74 [.agg [.mp ks vs,.mp k i],.agg [ω 19,.bool j,.str z,.str m,.str e],.sl [.bool c.n,.str c.a,.str c.d,ω c.e,.bool d.n,.str d.a,.str d.d,ω d.e] 2 w] (.ret (eF o)):=pK [] 8 128 (.k 5 p (.k 2 v (.c n (.n 24 .nil)))) (.c t (.c r (.c u (.c y .nil))))
theorem Vz (k w g f i h:Bool) (z n e:List UInt8) (o c d:Oq) (ks vs m j:List AV) (q:lit false g=true) (v:lit false (!h)=true) (p:lit false (!f)=true) (y:CO 123 [ω 19] (.ret (.nilF))) (u:CO 128 [.agg [.bool c.n,.str c.a,.str c.d]] (.ret (.tup [.bool g,.bool f]))) (r:CO 128 [.agg [.bool d.n,.str d.a,.str d.d]] (.ret (.tup [.bool i,.bool h]))) (t:CO 126 [.bool i] (.ret (eF o))):CO 74 [.agg [.mp ks vs,.mp m j],.agg [ω 19,.bool k,.str z,.str n,.str e],.sl [.bool c.n,.str c.a,.str c.d,ω c.e,.bool d.n,.str d.a,.str d.d,ω d.e] 2 w] (.ret (eF o)):=pK [] 8 0 (.k 5 q (.k 2 v (.c p (.n 24 .nil)))) (.c t (.c r (.c u (.c y .nil))))
theorem yt:CO 123 [ω 19] (.ret (.nilF)):=pK [] 5 0 (.n 5 .nil) (.nil)
theorem PU:CO 165 [ω 1] (.ret (.fn 166 [] [.pp [ω 1] 0])):=pK [] 0 0 .nil (.nil)
theorem Y6 (h e:Bool) (f i c d:List UInt8) (g:Int) (k:lit true (decide (((0:Nat):Int)<(γ .i64 (g*((1:Nat):Int)))))=true) (j:CO 127 [Ω h f i,Ω e c d] (.ret (ω g))):CO 166 [Ω h f i,Ω e c d,.pp [ω 1] 0] (.ret (Ω e c d)):=pK [] 1 1 (.k 7 k (.n 7 .nil)) (.c j .nil)
theorem Y7 (d i:Bool) (c e f h:List UInt8) (g:Int) (k:lit false (decide (((0:Nat):Int)<(γ .i64 (g*((1:Nat):Int)))))=true) (j:CO 127 [Ω d c e,Ω i f h] (.ret (ω g))):CO 166 [Ω d c e,Ω i f h,.pp [ω 1] 0] (.ret (Ω d c e)):=pK [] 1 0 (.k 7 k (.n 7 .nil)) (.c j .nil)
theorem PT:CO 165 [ω (-1)] (.ret (.fn 166 [] [.pp [ω (-1)] 0])):=pK [] 0 0 .nil (.nil)
theorem Y4 (h e:Bool) (f i c d:List UInt8) (g:Int) (k:lit true (decide (((0:Nat):Int)<(γ .i64 (g*(-1:Int)))))=true) (j:CO 127 [Ω h f i,Ω e c d] (.ret (ω g))):CO 166 [Ω h f i,Ω e c d,.pp [ω (-1)] 0] (.ret (Ω e c d)):=pK [] 1 1 (.k 7 k (.n 7 .nil)) (.c j .nil)
theorem Y5 (d i:Bool) (c e f h:List UInt8) (g:Int) (k:lit false (decide (((0:Nat):Int)<(γ .i64 (g*(-1:Int)))))=true) (j:CO 127 [Ω d c e,Ω i f h] (.ret (ω g))):CO 166 [Ω d c e,Ω i f h,.pp [ω (-1)] 0] (.ret (Ω d c e)):=pK [] 1 0 (.k 7 k (.n 7 .nil)) (.c j .nil)
def iI (q:RQ):Bool:=decide (dZ q.n≤400) && decide (dZ q.d≤400)
def Oq.ok:Oq→Prop| .err e=>e ≠ 0| .val q=>q.ok∧iI q=true
def yR (n:Bool) (a d:List UInt8) (e:Int):Oq:=if e=0 then (if fB n a d=true then .val ⟨n,ag a,ag d⟩ else .err 3) else .err e
def mV (q:RQ):Oq:=if iI q=true then .val q else .err 3
def bR (b:Bool):RQ:=if b then ⟨false,1,1⟩ else ⟨false,0,1⟩
def FT (b:Bool):Oq:= .val (bR b)
def Oq.one (o:Oq):Bool:=(o.n==false) && ((o.a==(ae 1)) && ((o.d==(ae 1)) && true))
def Oq.bit (o:Oq):Bool:=o.one||((o.n==false) && ((o.a==(ae 0)) && ((o.d==(ae 1)) && true)))
def eqO (a b:Oq):Bool:=(a.n==b.n) && ((a.a==b.a) && ((a.d==b.d) && true))
def Rw (a b c:Oq):Oq:=if a.e=0 then (if a.bit then (if a.one then b else c) else .err 13) else a
def Lt (op:Int) (a b:Oq):Oq:=
 if op=9 then mV (gK a.q b.q) else if op=10 then mV (eu a.q b.q) else if op=11 then mV (iJ a.q b.q)
 else if op=12 then (if b.q.n=0 then .err 16 else mV (fF a.q b.q))
 else if op=13 then (if 0<iE a.q b.q then b else a) else if op=14 then (if iE a.q b.q<0 then b else a)
 else if op=16 then FT (decide (iE a.q b.q<0)) else if op=17 then FT (eqO a b)
 else if a.bit && b.bit then FT (if op=18 then a.one && b.one else a.one||b.one) else .err 13
theorem oq {n:Bool} {a d:List UInt8} (h:fB n a d=true):iG n a d=true∧iI ⟨n,ag a,ag d⟩=true:=by
 unfold fB at h;simp only [π] at h;exact ⟨h.1.1,by unfold iI;simp only [π];exact ⟨h.1.2,h.2⟩⟩
theorem iV {n:Bool} {a d:List UInt8} (h:iG n a d=true):ae (ag a)=a∧ae (ag d)=d:=by
 rw [kT] at h;exact ⟨(mX a).1 h.1,(mX d).1 h.2.1⟩
theorem yS (n:Bool) (a d:List UInt8) (e:Int):(yR n a d e).ok:=by
 unfold yR;split
 ·split
  ·rename_i h;obtain ⟨c,f⟩:=oq h;have:=jo n a d;unfold vQ at this;rw [if_pos c] at this;exact ⟨this,f⟩
  ·exact (by decide:(3:Int) ≠ 0)
 ·assumption
theorem yz {q:RQ} (h:q.ok):fB q.neg (ae q.n) (ae q.d)=iI q:=by
 unfold fB iI;rw [xg q h,aC,aC,Xx8]
theorem yT {q:RQ} (h:q.ok):yR q.neg (ae q.n) (ae q.d) 0=mV q:=by
 unfold yR mV;rw [if_pos rfl,yz h,aC,aC]
theorem qc {q:RQ} (h:q.ok):(mV q).ok:=by
 rw [← yT h];exact yS _ _ _ _
theorem agS (b:Bool):(bR b).ok:=by cases b<;>exact ⟨by decide,by decide,by decide⟩
theorem KR:dZ 1≤400∧dZ 0≤400:=⟨lQ (k:=400) (Nat.one_lt_two_pow (n:=400) (by decide)),lQ (k:=400) (Xqr 400)⟩
theorem Qb {x:Nat} (h:dZ x≤400):(ae x).length≤51:=by
 refine bY (k:=51) ?_;rcases Θ x with h0|h0
 ·rw [h0];apply Xqr
 ·obtain ⟨m,d,_,c⟩:=u_ h0;refine Xqa c ?_;apply Xqc (by decide);omega
theorem nM (b:Bool):(FT b).ok:=by
 refine ⟨agS b, ?_⟩;unfold iI bR;have:=KR;cases b<;>simp [this.1,this.2]
theorem aX {q:RQ} (h:iI q=true):(ae q.n).length≤51∧(ae q.d).length≤51:=by
 unfold iI at h;simp only [π,decide_eq_true_eq] at h;exact ⟨Qb h.1,Qb h.2⟩
theorem aeN {o:Oq} (h:o.ok):o.a.length≤51∧o.d.length≤51:=by
 cases o with
 |err e=>exact ⟨Xxk _,Xxk _⟩
 |val q=>exact aX h.2
theorem vN (n:Bool) (a d:List UInt8) (e:Int) (i:a.length<2^36) (hd:d.length<2^36):CO 43 [.agg [.bool n,.str a,.str d,ω e]] (.ret (eF (yR n a d e))):=by
 have f:=gu n a d i hd;unfold yR;by_cases h:e=0
 ·rw [if_pos h];have g:lit false (!(e==((0:Nat):Int)))=true:=by rw [h];rfl
  cases c:fB n a d with
  |true=>
   rw [c] at f;rw [if_pos rfl];have:=ad2 n a d e (by rw [c];rfl) g (by rw [c];exact f);obtain ⟨k,j⟩:=iV (oq c).1;show CO 43 _ (.ret (.agg [.bool n,.str (ae (ag a)),.str (ae (ag d)),ω 0]));rw [k,j,← h];exact this
  |false=>
   rw [c] at f;rw [if_neg (by simp)];exact ad1 n a d e (by rw [c];rfl) g (by rw [c];exact f) (jb 3)
 ·rw [if_neg h];exact adZ n a d e (by rw [show (e==((0:Nat):Int))=false from beq_eq_false_iff_ne.2 h];rfl) (jb e)
theorem KG (n:Bool) (a d:List UInt8) (c:a.length<2^36) (hd:d.length<2^36):CO 124 [Ω n a d] (.ret (eF (yR n a d 0))):=aeb n a d _ (vN n a d 0 c hd)
theorem qO {q:RQ} (h:q.ok) (c:(ae q.n).length<2^36) (d:(ae q.d).length<2^36):CO 124 [qA q] (.ret (eF (mV q))):=by
 rw [← yT h];exact KG _ _ _ c d
theorem qN {o:Oq} (h:o.ok) (d:o.e=0):CO 124 [.agg [.bool o.n,.str o.a,.str o.d]] (.ret (eF o)):=by
 cases o with
 |err e=>exact absurd d h
 |val q=>
  have c:=qO h.1 (χ (aX h.2).1 (by decide)) (χ (aX h.2).2 (by decide));unfold mV at c;rw [if_pos h.2] at c;exact c
theorem lJ (b:Bool):CO 126 [.bool b] (.ret (eF (FT b))):=by
 cases b with
 |true=>exact ad9 true _ rfl uH (qN (nM true) rfl)
 |false=>exact ad_ false _ rfl jC (qN (nM false) rfl)
theorem nO (o:Oq):CO 128 [.agg [.bool o.n,.str o.a,.str o.d]] (.ret (.tup [.bool o.one,.bool o.bit])):=by
 unfold Oq.bit;cases h:o.one with
 |true=>
  have:=adF o.n o.a o.d h uH;rw [show ((o.n==false) && ((o.a==(ae 1)) && ((o.d==(ae 1)) && true)))=true from h] at this;exact this
 |false=>
  have:=adG o.n o.a o.d (by rw [show ((o.n==false) && ((o.a==(ae 1)) && ((o.d==(ae 1)) && true)))=false from h];rfl) uH jC;rw [show ((o.n==false) && ((o.a==(ae 1)) && ((o.d==(ae 1)) && true)))=false from h] at this;rw [Xwi];exact this
section
variable (op:Int) (ng nn:Bool) (nu de name:List UInt8) (ks vs kt vt:List AV) (o0 o1 o2:Oq)
theorem NM:CO 77 [.agg [.mp ks vs,.mp kt vt],.agg [ω op,.bool ng,.str nu,.str de,.str name],.sl (uB o0++(uB o1++uB o2)) 3 nn] (.ret (eF (Rw o0 o1 o2))):=by
 have c:=nO o0;unfold Rw;by_cases h:o0.e=0
 ·rw [if_pos h];have d:lit false (!(o0.e==((0:Nat):Int)))=true:=by rw [h];rfl
  cases e:o0.bit with
  |false=>
   rw [e] at c;exact adC _ _ _ _ _ _ _ _ o0 o1 o2 ks vs kt vt rfl d c (jb 13)
  |true=>
   rw [e] at c;cases f:o0.one with
   |true=>rw [f] at c;exact adD _ _ _ _ _ _ _ _ o0 o1 o2 ks vs kt vt rfl rfl d c
   |false=>rw [f] at c;exact adE _ _ _ _ _ _ _ _ o0 o1 o2 ks vs kt vt rfl rfl d c
 ·rw [if_neg h];exact adB _ _ _ _ _ _ _ _ o0 o1 o2 ks vs kt vt (by rw [show (o0.e==((0:Nat):Int))=false from beq_eq_false_iff_ne.2 h];rfl) c
theorem alJ {g:Int} (h:g=0∨g=1∨g= -1):decide (((0:Nat):Int)<(γ .i64 (g*((1:Nat):Int))))=decide (0<g)∧decide (((0:Nat):Int)<(γ .i64 (g*(-1:Int))))=decide (g<0):=by
 rcases h with rfl|rfl|rfl<;>decide+kernel
theorem amf (a b:RQ):iE a b=0∨iE a b=1∨iE a b= -1:=by
 unfold iE iU;split
 ·exact .inl rfl
 ·split
  ·exact .inr (.inr rfl)
  ·exact .inr (.inl rfl)
theorem zi {o:Oq} (h:o.ok) (c:o.e=0):∃ q:RQ,o= .val q∧q.ok∧iI q=true:=by
 cases o with
 |err e=>exact absurd c h
 |val q=>exact ⟨q,rfl,h.1,h.2⟩
theorem Vk (F:(9≤op∧op≤14)∨(16≤op∧op≤19)) (k0:o0.ok) (z:o0.e=0) (k1:o1.ok) (y:o1.e=0):CO 74 [.agg [.mp ks vs,.mp kt vt],.agg [ω op,.bool ng,.str nu,.str de,.str name],.sl (uB o0++uB o1) 2 nn] (.ret (eF (Lt op o0 o1))):=by
 obtain ⟨a,rfl,u,G⟩:=zi k0 z;obtain ⟨b,rfl,v,E⟩:=zi k1 y;obtain ⟨g,j⟩:=aX G;obtain ⟨m,i⟩:=aX E;have r:=gB u;have o:=gB v;have d:∀ k:Nat,k≤51→k<2^28:=fun k h=>χ h (by decide)
 have c:∀ k:Nat,k≤51→k<2^29:=fun k h=>χ h (by decide)
 have t:CO 127 [qA a,qA b] (.ret (ω (iE a b))):=by
  have:=FB a.neg b.neg (ae a.n) (ae a.d) (ae b.n) (ae b.d) (d _ g) (d _ j) (d _ m) (d _ i);rw [r,o] at this;exact this
 have D:=amf a b;obtain ⟨B,A⟩:=alJ D;have C:op=9∨op=10∨op=11∨op=12∨op=13∨op=14∨op=16∨op=17∨op=18∨op=19:=by omega
 have w:∀ {q:RQ},(ae q.n).length≤4*51+1∧(ae q.d).length≤2*51→(ae q.n).length<2^36∧(ae q.d).length<2^36:=fun h=> ⟨χ h.1 (by decide),χ h.2 (by decide)⟩
 rcases C with rfl|rfl|rfl|rfl|rfl|rfl|rfl|rfl|rfl|rfl
 ·have:=Fv a.neg b.neg (ae a.n) (ae a.d) (ae b.n) (ae b.d) (c _ g) (c _ j) (c _ m) (c _ i);rw [r,o] at this;obtain ⟨p,n⟩:=w (uw a b 51 g j m i);exact Y3 _ _ _ _ _ _ (.val a) (.val b) _ ks vs kt vt YX this (qO (eQ u v) p n)
 ·have:=FC a.neg b.neg (ae a.n) (ae a.d) (ae b.n) (ae b.d) (c _ g) (c _ j) (d _ m) (d _ i);rw [r,o] at this;obtain ⟨p,n⟩:=w (uw a (kW b) 51 g j m i);exact Vl _ _ _ _ _ _ (.val a) (.val b) _ ks vs kt vt Vb this (qO (gY u v) p n)
 ·have:=QI a.neg b.neg (ae a.n) (ae a.d) (ae b.n) (ae b.d) (c _ g) (c _ j) (c _ m) (c _ i);rw [r,o] at this;have:=dO a.n b.n;have:=dO a.d b.d;have:=rP (!(a.neg==b.neg)) (a.n*b.n) (a.d*b.d);obtain ⟨p,n⟩:=w (q:=iJ a b) ⟨by unfold iJ;omega,by unfold iJ;omega⟩;exact Vm _ _ _ _ _ _ (.val a) (.val b) _ ks vs kt vt Vd (by assumption) (qO (iK u v) p n)
 ·rcases Θ b.n with h0|h0
  ·have:=Xr a.neg b.neg (ae a.n) (ae a.d) (ae b.n) (ae b.d) (c _ g) (c _ j) (c _ m) (c _ i) (by rw [o];exact h0);show CO 74 _ (.ret (eF (if b.n=0 then .err 16 else _)));rw [if_pos h0];exact R_ _ _ _ _ _ (.val a) (.val b) ks vs kt vt Kv this (jb 16)
  ·have:=L6 a.neg b.neg (ae a.n) (ae a.d) (ae b.n) (ae b.d) (c _ g) (c _ j) (c _ m) (c _ i) (by rw [o];exact h0);rw [r,o] at this;have:=dO a.n b.d;have:=dO a.d b.n;have:=rP (!(a.neg==b.neg)) (a.n*b.d) (a.d*b.n);obtain ⟨p,n⟩:=w (q:=fF a b) ⟨by unfold fF;omega,by unfold fF;omega⟩;show CO 74 _ (.ret (eF (if b.n=0 then .err 16 else mV (fF a b))));rw [if_neg (by omega)];exact Vo _ _ _ _ _ _ (.val a) (.val b) _ ks vs kt vt Kv (by assumption) (qO (pV u h0) p n)
 ·show CO 74 _ (.ret (eF (if 0<iE a b then .val b else .val a)));by_cases h:0<iE a b
  ·rw [if_pos h];exact KD _ _ _ _ _ _ _ _ _ (.val a) (.val b) ks vs kt vt (Kw PU) (Y6 _ _ _ _ _ _ _ (by rw [B,Yq0 h];rfl) t) (qN k1 y)
  ·rw [if_neg h];exact KD _ _ _ _ _ _ _ _ _ (.val a) (.val b) ks vs kt vt (Kw PU) (Y7 _ _ _ _ _ _ _ (by rw [B,Yq1 h];rfl) t) (qN k0 z)
 ·show CO 74 _ (.ret (eF (if iE a b<0 then .val b else .val a)));by_cases h:iE a b<0
  ·rw [if_pos h];exact KE _ _ _ _ _ _ _ _ _ (.val a) (.val b) ks vs kt vt (Ky PT) (Y4 _ _ _ _ _ _ _ (by rw [A,Yq0 h];rfl) t) (qN k1 y)
  ·rw [if_neg h];exact KE _ _ _ _ _ _ _ _ _ (.val a) (.val b) ks vs kt vt (Ky PT) (Y5 _ _ _ _ _ _ _ (by rw [A,Yq1 h];rfl) t) (qN k0 z)
 ·exact Vp _ _ _ _ _ _ _ (.val a) (.val b) ks vs kt vt Ve t (lJ _)
 ·exact Vq _ _ _ _ _ _ (.val a) (.val b) ks vs kt vt Vf (lJ _)
 ·have e:=nO (.val a);have f:=nO (.val b);show CO 74 _ (.ret (eF (if Oq.bit (.val a) && Oq.bit (.val b) then FT (Oq.one (.val a) && Oq.one (.val b)) else .err 13)));generalize Oq.bit (.val a)=x2 at*
  generalize Oq.bit (.val b)=x4 at*
  generalize Oq.one (.val a)=x1 at*
  generalize Oq.one (.val b)=x3 at*
  cases x2 with
  |false=>exact Vr _ _ x1 false x3 x4 _ _ _ (.val a) (.val b) ks vs kt vt rfl yl e f (jb 13)
  | true=>
   cases x4 with
   |false=>exact Vs _ _ x1 true x3 false _ _ _ (.val a) (.val b) ks vs kt vt rfl rfl yl e f (jb 13)
   |true=>
    cases x1 with
    |true=>exact Vt _ _ true true x3 true _ _ _ _ (.val a) (.val b) ks vs kt vt rfl rfl rfl yl e f (lJ _)
    |false=>exact Vu _ _ false true x3 true _ _ _ _ (.val a) (.val b) ks vs kt vt rfl rfl rfl yl e f (lJ _)
 ·have e:=nO (.val a);have f:=nO (.val b);show CO 74 _ (.ret (eF (if Oq.bit (.val a) && Oq.bit (.val b) then FT (Oq.one (.val a)||Oq.one (.val b)) else .err 13)));generalize Oq.bit (.val a)=x2 at*
  generalize Oq.bit (.val b)=x4 at*
  generalize Oq.one (.val a)=x1 at*
  generalize Oq.one (.val b)=x3 at*
  cases x2 with
  |false=>exact Vw _ _ x1 false x3 x4 _ _ _ (.val a) (.val b) ks vs kt vt rfl yt e f (jb 13)
  | true=>
   cases x4 with
   |false=>exact Vx _ _ x1 true x3 false _ _ _ (.val a) (.val b) ks vs kt vt rfl rfl yt e f (jb 13)
   |true=>
    cases x1 with
    |true=>exact Vy _ _ true true x3 true _ _ _ _ (.val a) (.val b) ks vs kt vt rfl rfl rfl yt e f (lJ _)
    |false=>exact Vz _ _ false true x3 true _ _ _ _ (.val a) (.val b) ks vs kt vt rfl rfl rfl yt e f (lJ _)
end
theorem ahy (r:RQ) (c:Bool) (n:Nat) (d:CO 158 [.agg [.str []],.str (ae 1)] (.ret (.bool true))) (e:CO 159 [.str (ae n)] (.ret (.bool true))) (f:CO 160 [.bool c,.str (ae n),.str (ae 1)] (.ret (qA r))):CO 205 [.bool c,.str (ae n),.str (ae 1)] (.ret (.tup [qA r,.bool true])):=pK [] 2 0 (.n 6 .nil) (.c f (.c e (.c d .nil)))
theorem aeg (r:RQ) (n m y z:Nat) (c:CO 191 [.str (ae n),.str (ae m)] (.ret (.tup [.str (ae y),.str (ae z),.bool true]))) (d:CO 72 [ω 1] (.ret (.str (ae 1)))) (e:CO 205 [.bool false,.str (ae y),.str (ae 1)] (.ret (.tup [qA r,.bool true]))):CO 177 [Ω false (ae n) (ae m)] (.ret (qA r)):=pK [] 2 0 (.n 14 .nil) (.c e (.c d (.c c .nil)))
theorem aee (r:RQ) (n m y z:Nat) (g:lit true (!((ae z)== []))=true) (e:CO 191 [.str (ae n),.str (ae m)] (.ret (.tup [.str (ae y),.str (ae z),.bool true]))) (f:CO 72 [ω 1] (.ret (.str (ae 1)))) (h:CO 71 [.str (ae y),.str (ae 1)] (.ret (.str (ae (y+1))))) (d:CO 72 [ω 1] (.ret (.str (ae 1)))) (c:CO 205 [.bool true,.str (ae (y+1)),.str (ae 1)] (.ret (.tup [qA r,.bool true]))):CO 177 [Ω true (ae n) (ae m)] (.ret (qA r)):=pK [] 2 3 (.k 9 g (.n 4 .nil)) (.c c (.c d (.c h (.c f (.c e .nil)))))
theorem aef (r:RQ) (n m y z:Nat) (e:lit false (!((ae z)== []))=true) (c:CO 191 [.str (ae n),.str (ae m)] (.ret (.tup [.str (ae y),.str (ae z),.bool true]))) (d:CO 72 [ω 1] (.ret (.str (ae 1)))) (f:CO 205 [.bool true,.str (ae y),.str (ae 1)] (.ret (.tup [qA r,.bool true]))):CO 177 [Ω true (ae n) (ae m)] (.ret (qA r)):=pK [] 2 1 (.k 9 e (.n 4 .nil)) (.c f (.c d (.c c .nil)))
theorem ad3 (a s:RQ) (g:Int) (c:CO 115 [qA a] (.ret (.bool true))) (d:CO 115 [qA s] (.ret (.bool true))) (e:CO 121 [qA s] (.ret (ω g))):CO 176 [qA a,qA s] (.ret (.bool (decide (((0:Nat):Int)<g)))):=pK [] 2 3 (.n 11 .nil) (.c e (.c d (.c c .nil)))
theorem aht (a s q r w:RQ) (d:CO 176 [qA a,qA s] (.ret (.bool true))) (e:CO 125 [qA a,qA s] (.ret (.tup [qA q,.bool true]))) (f:CO 177 [qA q] (.ret (qA w))) (c:CO 169 [qA w,qA s] (.ret (qA r))):CO 131 [qA a,qA s] (.ret (.tup [qA r,.bool true])):=pK [] 1 0 (.n 24 .nil) (.c c (.c f (.c e (.c d .nil))))
theorem ah0 (a s r v:RQ) (e:lit true (!((r.neg==a.neg) && (((ae r.n)==(ae a.n)) && (((ae r.d)==(ae a.d)) && true))))=true) (c:CO 131 [qA a,qA s] (.ret (.tup [qA r,.bool true]))) (d:CO 167 [qA r,qA s] (.ret (qA v))):CO 132 [qA a,qA s] (.ret (.tup [qA v,.bool true])):=pK [] 2 3 (.k 14 e (.n 14 .nil)) (.c d (.c c .nil))
theorem ah1 (a s r:RQ) (d:lit false (!((r.neg==a.neg) && (((ae r.n)==(ae a.n)) && (((ae r.d)==(ae a.d)) && true))))=true) (c:CO 131 [qA a,qA s] (.ret (.tup [qA r,.bool true]))):CO 132 [qA a,qA s] (.ret (.tup [qA r,.bool true])):=pK [] 2 1 (.k 7 d (.n 14 .nil)) (.c c .nil)
theorem ahz (a s q r v w:RQ) (g:Int) (h:lit true (decide (((0:Nat):Int)≤g))=true) (e:CO 131 [qA a,qA s] (.ret (.tup [qA r,.bool true]))) (f:CO 168 [qA a,qA r] (.ret (qA q))) (i:CO 167 [qA q,qA q] (.ret (qA w))) (d:CO 127 [qA w,qA s] (.ret (ω g))) (c:CO 167 [qA r,qA s] (.ret (qA v))):CO 129 [qA a,qA s] (.ret (.tup [qA v,.bool true])):=pK [] 2 2 (.k 14 h (.n 24 .nil)) (.c c (.c d (.c i (.c f (.c e .nil)))))
theorem ahA (a s q r w:RQ) (g:Int) (f:lit false (decide (((0:Nat):Int)≤g))=true) (d:CO 131 [qA a,qA s] (.ret (.tup [qA r,.bool true]))) (e:CO 168 [qA a,qA r] (.ret (qA q))) (h:CO 167 [qA q,qA q] (.ret (qA w))) (c:CO 127 [qA w,qA s] (.ret (ω g))):CO 129 [qA a,qA s] (.ret (.tup [qA r,.bool true])):=pK [] 2 0 (.k 7 f (.n 24 .nil)) (.c c (.c h (.c e (.c d .nil))))
theorem aiC:nR (ae 1)=true:=vw 1
theorem amO:Af (ae 1)=true:=by unfold Af;rw [aiC,aC];rfl
theorem D6 (c:Bool) (n:Nat) (f:(ae n).length<2^33):CO 205 [.bool c,.str (ae n),.str (ae 1)] (.ret (.tup [qA (jV c n 1),.bool true])):=by
 have d:(ae 1).length<2^33:=χ (bY (x:=1) (k:=1) (by decide)) (by decide);have hp:=WO (ae 1) (Xqa d (by decide));rw [amO] at hp;have e:=z_ (ae n);rw [vw] at e;exact ahy _ c n hp e (H6 c n 1 f d (by decide))
theorem I7 (c:Bool) (x:Nat):jV c x 1=jJ (if c then -(x:Int) else (x:Int)):=by
 unfold jV jJ;rw [Xvn,Xz0,Xz0];cases c with
 |true=>
  simp only [Xx8,if_true,Xvi,Xjh,RQ.mk.injEq,and_true];rcases Θ x with h|h
  ·subst h;rfl
  ·rw [Yq0 h,Yq0 (by omega)]
 |false=>
  simp only [Xji,Xjo,if_false,Xjh,RQ.mk.injEq,and_true];rw [Yq1 (by omega)]
theorem Sl {q:RQ} (h:q.ok) (g:(ae q.n).length<2^32) (i:(ae q.d).length<2^32):CO 177 [qA q] (.ret (qA (jJ (nH q)))):=by
 have d:=OD (ae q.n) (ae q.d) (Xqa g (by decide)) (Xqa i (by decide)) (by rw [aC];exact h.1);rw [aC,aC] at d;have o:=kV (Xjq q.n q.d);have p:(ae 1).length≤1:=bY (x:=1) (k:=1) (by decide);have j:=vg (q.n / q.d) 1;have e:=EO 1 (by decide);obtain ⟨f,n,m⟩:=q;unfold nH;simp only at*
 cases f with
 |false=>
  rw [if_neg (by simp)];have c:=D6 false (n / m) (by omega);rw [I7,if_neg (by simp)] at c;exact aeg _ n m _ _ d e c
 | true=>
  rw [if_pos rfl];by_cases hr:n % m=0
  ·have c:=D6 true (n / m) (by omega);rw [I7,if_pos rfl] at c;rw [if_pos hr,Xq0];exact aef _ n m _ _ (by rw [hr,dB];rfl) d e c
  ·have c:=D6 true (n / m+1) (by omega);rw [I7,if_pos rfl] at c;rw [if_neg hr];exact aee _ n m _ _ (by
    rw [show ((ae (n % m))== [])=false from by rw [Yq2];intro h;rw [eP] at h;exact hr h];rfl) d e (acv _ _ (by omega) (by omega)) e c
def iw (L:Nat) (q:RQ):Prop:=(ae q.n).length≤L∧(ae q.d).length≤L
theorem iw.mono {L M:Nat} {q:RQ} (h:iw L q) (k:L≤M):iw M q:=⟨Xq1 h.1 k,Xq1 h.2 k⟩
theorem xE {L:Nat} {a b:RQ} (c:iw L a) (d:iw L b):iw (4*L+1) (gK a b):=by
 have:=uw a b L c.1 c.2 d.1 d.2;exact ⟨this.1,by omega⟩
theorem XH {L:Nat} {a:RQ} (c:iw L a):iw L (kW a):=c
theorem xF {L:Nat} {a b:RQ} (c:iw L a) (d:iw L b):iw (4*L+1) (eu a b):=xE c (XH d)
theorem AC {L:Nat} {a b:RQ} (c:iw L a) (d:iw L b):iw (2*L) (iJ a b):=by
 have k:=dO a.n b.n;have j:=dO a.d b.d;have i:=rP (!(a.neg==b.neg)) (a.n*b.n) (a.d*b.d);obtain ⟨e,h⟩:=c;obtain ⟨f,g⟩:=d;exact ⟨by unfold iJ;omega,by unfold iJ;omega⟩
theorem AL {L:Nat} {a b:RQ} (c:iw L a) (d:iw L b):iw (2*L) (fF a b):=by
 have k:=dO a.n b.d;have j:=dO a.d b.n;have i:=rP (!(a.neg==b.neg)) (a.n*b.d) (a.d*b.n);obtain ⟨e,h⟩:=c;obtain ⟨f,g⟩:=d;exact ⟨by unfold fF;omega,by unfold fF;omega⟩
theorem jd {L:Nat} {a:RQ} (c:iw L a) (f:L<2^28):(ae a.n).length<2^28∧(ae a.d).length<2^28∧(ae a.n).length<2^29∧(ae a.d).length<2^29:=by
 obtain ⟨d,e⟩:=c;omega
section
variable {a b:RQ} {L:Nat} (ha:a.ok) (hb:b.ok) (sa:iw L a) (sb:iw L b) (hL:L<2^28)
include ha hb sa sb hL
theorem Fq:CO 167 [qA a,qA b] (.ret (qA (gK a b))):=by
 obtain ⟨_,_,e,c⟩:=jd sa hL;obtain ⟨_,_,f,d⟩:=jd sb hL;have h:=Fv a.neg b.neg (ae a.n) (ae a.d) (ae b.n) (ae b.d) e c f d;rw [gB ha,gB hb] at h;exact h
theorem OT:CO 168 [qA a,qA b] (.ret (qA (eu a b))):=by
 obtain ⟨_,_,e,c⟩:=jd sa hL;obtain ⟨f,d,_,_⟩:=jd sb hL;have h:=FC a.neg b.neg (ae a.n) (ae a.d) (ae b.n) (ae b.d) e c f d;rw [gB ha,gB hb] at h;exact h
theorem OQ:CO 169 [qA a,qA b] (.ret (qA (iJ a b))):=by
 obtain ⟨_,_,e,c⟩:=jd sa hL;obtain ⟨_,_,f,d⟩:=jd sb hL;have h:=QI a.neg b.neg (ae a.n) (ae a.d) (ae b.n) (ae b.d) e c f d;rw [gB ha,gB hb] at h;exact h
theorem Xp:CO 127 [qA a,qA b] (.ret (ω (iE a b))):=by
 obtain ⟨e,c,_,_⟩:=jd sa hL;obtain ⟨f,d,_,_⟩:=jd sb hL;have h:=FB a.neg b.neg (ae a.n) (ae a.d) (ae b.n) (ae b.d) e c f d;rw [gB ha,gB hb] at h;exact h
theorem afS (f:0<b.n):CO 125 [qA a,qA b] (.ret (.tup [qA (fF a b),.bool true])):=by
 obtain ⟨_,_,e,c⟩:=jd sa hL;obtain ⟨_,_,g,d⟩:=jd sb hL;have h:=L6 a.neg b.neg (ae a.n) (ae a.d) (ae b.n) (ae b.d) e c g d (by rw [gB hb];exact f);rw [gB ha,gB hb] at h;exact h
end
section
variable {a s:RQ} (ha:a.ok) (fa:iI a=true) (hs:s.ok) (fs:iI s=true) (hp:0<iU s)
include ha fa hs fs hp
theorem Sj:CO 176 [qA a,qA s] (.ret (.bool true)):=by
 obtain ⟨j,e⟩:=aX fa;obtain ⟨f,i⟩:=aX fs;have c:=mO a.neg (ae a.n) (ae a.d) (by omega) (by omega);have d:=mO s.neg (ae s.n) (ae s.d) (by omega) (by omega);rw [xg a ha] at c;rw [xg s hs] at d;have g:=Xu s hs (by omega) (by omega);have h:=ad3 a s _ c d g;rw [Yq0 (show ((0:Nat):Int)<iU s from hp)] at h;exact h
omit ha hs hp in
theorem VG:iw 104 (jJ (nH (fF a s))):=by
 obtain ⟨f,e⟩:=aX fa;obtain ⟨g,d⟩:=aX fs;have h:=(AL (L:=51) ⟨f,e⟩ ⟨g,d⟩).1;generalize fF a s=q at*
 have i:(ae 1).length≤1:=bY (x:=1) (k:=1) (by decide);have m:=kV (Xjq q.n q.d);have j:=vg (q.n / q.d) 1;have c:(nH q).natAbs≤q.n / q.d+1:=by
  unfold nH;split
  ·rw [Xvi,Xjh];split<;>omega
  ·rw [Xjh];omega
 have n:=kV c;exact ⟨by show (ae (nH q).natAbs).length≤104;omega,by show (ae 1).length≤104;omega⟩
omit ha hs hp in
theorem NK:iw 208 (vZ a s):=AC (L:=104) (VG fa fs) ⟨by have:=(aX fs).1;omega,by have:=(aX fs).2;omega⟩
theorem D5:CO 131 [qA a,qA s] (.ret (.tup [qA (vZ a s),.bool true])):=by
 have e:=(Fp hs hp).2;have f:iw 51 a:=aX fa;have c:iw 51 s:=aX fs;have d:=AL f c;refine aht a s _ _ _ (Sj ha fa hs fs hp) (afS ha hs f c (by decide) e) (Sl (pV ha e) (χ d.1 (by decide)) (χ d.2 (by decide))) ?_;exact OQ (pR _) hs (VG fa fs) (c.mono (by decide)) (by decide)
theorem aea:CO 132 [qA a,qA s] (.ret (.tup [qA (Yb a s),.bool true])):=by
 have hd:=D5 ha fa hs fs hp;have d:=NK fa fs;have c:iw 51 s:=aX fs;have e:((vZ a s).neg==a.neg && ((ae (vZ a s).n==ae a.n) && ((ae (vZ a s).d==ae a.d) && true)))=eqR (vZ a s) a:=by unfold eqR;rw [Xjr]
 unfold Yb;cases h:eqR (vZ a s) a with
 |true=>
  rw [if_pos rfl];rw [h] at e;have:=ah1 a s (vZ a s) (by rw [e];rfl) hd;rw [IJ.1 h] at this;exact this
 |false=>
  rw [if_neg (by simp)];rw [h] at e;exact ah0 a s (vZ a s) _ (by rw [e];rfl) hd (Fq (jf hs) hs d (c.mono (by decide)) (by decide))
theorem Vg:CO 129 [qA a,qA s] (.ret (.tup [qA (Ya a s),.bool true])):=by
 have hd:=D5 ha fa hs fs hp;have f:=NK fa fs;have j:iw 51 a:=aX fa;have g:iw 51 s:=aX fs;have e:=jf (a:=a) hs;have d:=gY ha e;have c:=xF (j.mono (show 51≤208 by decide)) f;have k:=OT ha e (j.mono (show 51≤208 by decide)) f (by decide);have m:=Fq d d c c (by decide);have i:=Xp (eQ d d) hs (xE c c) (g.mono (by decide)) (by decide);unfold Ya;by_cases h:0≤iE (gK (eu a (vZ a s)) (eu a (vZ a s))) s
 ·rw [if_pos h];exact ahz a s _ (vZ a s) _ _ _ (Yq0 h) hd k m i (Fq e hs f (g.mono (by decide)) (by decide))
 ·rw [if_neg h];exact ahA a s _ (vZ a s) _ _ (by
   rw [show decide (((0:Nat):Int)≤iE (gK (eu a (vZ a s)) (eu a (vZ a s))) s)=false from Yq1 h];rfl) hd k m i
end
structure Sc where
 name:List UInt8
 u1:Int
 u2:Int
 bx:List AV
 bn:Nat
def MX (x:Sc):List AV:= [.str x.name,ω x.u1,ω x.u2,.sl x.bx x.bn false]
def dF (l:List Sc):List AV:=l.flatMap MX
theorem Mc {l:List Sc} {k:Nat} (h:k<l.length):ε (k*4) (dF l)=MX l[k]++dF (l.drop (k+1)):=by
 induction l generalizing k with
 |nil=>simp at h
 | cons x r ih=>
  cases k with
  |zero=>simp [dF]
  |succ k=>
   have c:k<r.length:=by simpa using h
   show ε ((k+1)*4) (MX x++dF r)=_;rw [show (k+1)*4=(MX x).length+k*4 by simp [MX];omega,Xw1,Xj2,ih c,Xx6 (by omega)];rfl
theorem Nu {A:List (List Nat)} {k:Nat} (h:k<A.length):ε (δ (k:Int)*1) (dA A)= [Rl (A.getD k [])]++dA (A.drop (k+1)):=by
 unfold dA;rw [aB,φ,← Xzc,List.drop_eq_getElem_cons h,ο,ξ h];rfl
theorem zo (k:Nat):decide (((0:Nat):Int)≤(k:Int))=true:=Yq0 (by omega)
theorem dlt {k n:Nat} (h:k<n):decide ((k:Int)<(n:Int))=true:=Yq0 (by omega)
theorem GG:∀ (r:List Nd) (k:Nat) (c:List Nat),(∀ j ∈ c,j<k)→(∃ e,je r c.length= .inl e)→(vX r k c).length=r.length∧∀ i x,r[i]? =some x→((vX r k c).getD i []).length=dD x.op∧∀ j ∈ (vX r k c).getD i [],j<k+i
 | [],k,c,_,_=> ⟨rfl,fun i x h=>by simp at h⟩
 | x ::r,k,c,hst,⟨e,he⟩=>by
  simp only [je] at he;split at he
  ·split at he
   ·cases he
   ·rename_i p q;have n:(c.take (c.length - dD x.op)++ [k]).length=c.length - dD x.op+1:=by rw [θ,List.length_take,σ];omega
    have g:=GG r (k+1) (c.take (c.length - dD x.op)++ [k]) (by
     intro j d;rcases List.mem_append.1 d with d|d
     ·have:=hst j (List.mem_of_mem_take d);omega
     ·rw [List.mem_singleton.1 d];omega) ⟨e,by rw [n];exact he⟩
    refine ⟨by simp only [vX,μ,g.1], ?_⟩;intro i y f;cases i with
    |zero=>
     simp only [List.getElem?_cons_zero,Option.some.injEq] at f;subst f;simp only [vX,List.getD_cons_zero];refine ⟨by rw [Xxz];omega,fun j d=> ?_⟩;have:=hst j (List.mem_of_mem_drop d);omega
    |succ i=>
     simp only [List.getElem?_cons_succ] at f;obtain ⟨o,m⟩:=g.2 i y f;simp only [vX,List.getD_cons_succ];exact ⟨o,fun j d=>by have:=m j d;omega⟩
  ·cases he
theorem Iu:∀ (r:List Nd) (d:Nat) (w:Int),je r d= .inr w→w ≠ 0
 | [],d,w,h=>by simp [je] at h
 | x::r,d,w,h=>by
  simp only [je] at h;split at h
  ·split at h
   ·cases h;decide
   ·exact Iu r _ w h
  ·rename_i c;cases h;exact c
theorem rF {e:List Nd} (c:b_ e=0):(bF e).length=e.length∧∀ i x,e[i]? =some x→((bF e).getD i []).length=dD x.op∧∀ j ∈ (bF e).getD i [],j<i:=by
 have h:∃ d,je e ([]:List Nat).length= .inl d:=by
  unfold b_ at c;split at c
  ·cases c
  ·split at c
   ·rename_i d hd;exact ⟨d,hd⟩
   ·rename_i w f;exact absurd c (Iu _ _ _ f)
 obtain ⟨g,k⟩:=GG e 0 [] (by simp) h;exact ⟨g,fun i x m=>by have:=k i x m;rw [Xqf] at this;exact this⟩
theorem wkn {n c:Nat} (h:n=c+1) (d:n<2^40):ω (γ .i64 ((n:Int) - ((1:Nat):Int)))= ω (c:Int):=by rw [dC]<;>first|(congr 1;omega)|omega
theorem dle {n:Nat} (h:n<2^40):decide ((n:Int)≤((1099511627776:Nat):Int))=true:=Yq0 (by omega)
theorem UB (l:List Nd) (e:Bool) (c:∀ x ∈ l,x.sm) (d:b_ l=0):CO 24 [.sl (aV l) l.length e] (.ret (.tup [.sl (dA (bF l)) (bF l).length true,.bool true])):=by
 rw [(rF d).1];exact Yo l e c d
structure Br where
 fn:Bool
 fa:List UInt8
 fd:List UInt8
 rn:Bool
 ra:List UInt8
 rd:List UInt8
def Io (x:Br):List AV:= [.bool x.fn,.str x.fa,.str x.fd,.bool x.rn,.str x.ra,.str x.rd]
def gy (l:List Br):List AV:=l.flatMap Io
def Br.sm (x:Br):Prop:=(x.fa.length<2^33∧x.fd.length<2^33)∧(x.ra.length<2^33∧x.rd.length<2^33)
abbrev UF (x:Br):AV:= .agg [.bool x.fn,.str x.fa,.str x.fd]
abbrev brR (x:Br):AV:= .agg [.bool x.rn,.str x.ra,.str x.rd]
theorem nY {l:List Br} {k:Nat} (h:k<l.length):ε (δ (k:Int)*6) (gy l)=Io l[k]++gy (l.drop (k+1)):=by
 rw [aB]
 induction l generalizing k with
 |nil=>simp at h
 | cons x r ih=>
  cases k with
  |zero=>simp [gy]
  |succ k=>
   have c:k<r.length:=by simpa using h
   show ε ((k+1)*6) (Io x++gy r)=_;rw [show (k+1)*6=(Io x).length+k*6 by simp [Io];omega,Xw1,Xj2,ih c,Xx6 (by omega)];rfl
def GI (cmp:Br→Br→Int):Option Br→List Br→Bool
 |_,[]=>true
 |none,x::r=>cond (iG x.fn x.fa x.fd) (cond (iG x.rn x.ra x.rd) (cond (jD x.fn x.fa x.fd==((0:Nat):Int)) (GI cmp (some x) r) false) false) false
 |some y,x::r=>cond (iG x.fn x.fa x.fd) (cond (iG x.rn x.ra x.rd) (cond (decide (((0:Nat):Int)≤cmp y x)) false (GI cmp (some x) r)) false) false
def agV (nm:List UInt8) (u1 u2:Int) (l:List Br) (k:Nat):St:=⟨[(1,.ptr 0 0 0),(3,.sl (gy l) l.length false),(16,.sl (gy l) l.length false),(17,ω (l.length:Int)),(18,ω (k:Int))],[(0,⟨[.str nm,ω u1,ω u2,.sl (gy l) l.length false],0,false,0,0,true⟩)],.dead,[]⟩
def ab_ (l:List Br):Bool→St
 |true=> ⟨[(3,.sl (gy l) l.length false)],[],.dead,[]⟩
 |false=> ⟨[(2,.int .i64 11)],[],.dead,[]⟩
def bkE:Bool→bG
 |true=> .exit 1
 |false=> .ret
def xJ (f:Nat) (cmp:Br→Br→Int) (l:List Br):Prop:=∀ i y x,l[i]? =some y→l[i+1]? =some x→iG x.fn x.fa x.fd=true→iG x.rn x.ra x.rd=true→CO f [UF y,UF x] (.ret (ω (cmp y x)))
theorem Yz {nt:Nat} (j:60≤nt) (J:List UInt8) (u1 u2:Int) (l:List Br) (cmp:Br→Br→Int) (I:l.length<2^40) (B:∀ x ∈ l,x.sm) (K:xJ 127 cmp l):∀ (r p:List Br),p++r=l→
  az prog ap [] nt (af 1 (ah f202)) bkE (agV J u1 u2 l) (ab_ l) p.length (GI cmp p.getLast? r):=by
 intro r
 induction r with
 |nil=>
  intro p hp;rw [Γ] at hp;subst hp;have c:(decide ((p.length:Int)<(p.length:Int)))=false:=Yq1 (by omega);rw [show GI cmp p.getLast? []=true by cases p.getLast? <;>rfl];exact .done (pN 202 [] 1 0 (.c (aN c) .nil) (.nil) j)
 | cons x r ih=>
  intro p hp;have F:p.length<l.length:=by rw [← hp];simp
  have n:l[p.length]=x:=by subst hp;simp
  have g:=nY F;rw [n] at g;have i:=ih (p++ [x]) (by rw [← hp];simp);rw [List.getLast?_append,List.getLast?_singleton,θ,σ] at i;simp only [Option.some_or] at i;have hs:=B x (by rw [← hp];simp);have d:CO 115 [UF x] (.ret (.bool (iG x.fn x.fa x.fd))):=mO x.fn x.fa x.fd (Xxa hs.1.1 (by decide)) (Xxa hs.1.2 (by decide));have f:CO 115 [brR x] (.ret (.bool (iG x.rn x.ra x.rd))):=mO x.rn x.ra x.rd (Xxa hs.2.1 (by decide)) (Xxa hs.2.2 (by decide));have G:CO 121 [UF x] (.ret (ω (jD x.fn x.fa x.fd))):=oJ x.fn x.fa x.fd (Xxa hs.1.1 (by decide)) (Xxa hs.1.2 (by decide));cases t:p.getLast? with
  | none=>
   have A:p= []:=List.getLast?_eq_none_iff.1 t;subst A;generalize M:([]:List Br).length=k at*
   have D:k=0:=by rw [← M];rfl
   generalize gy (l.drop (k+1))=rB at g;have c:(decide ((k:Int)<(l.length:Int)))=true:=Yq0 (by omega);have o:((k:Int)==((0:Nat):Int))=true:=by rw [D];rfl
   have z:(decide (((0:Nat):Int)<(k:Int)))=false:=Yq1 (by omega);have E:k<2^62:=by omega
   rcases tf (iG x.fn x.fa x.fd) with d0|d0
   ·rcases tf (iG x.rn x.ra x.rd) with d1|d1
    ·rcases tf ((jD x.fn x.fa x.fd)==((0:Nat):Int)) with d2|d2
     ·simp only [GI,d0,d1,d2,cond_true,cond_false];exact .next (pN 202 [] 7 9 (.k 1 (aN z) (.c (aU d2) (.k 3 (aK o) (.c (aU d1) (.k 3 (aU d0) (.k 10 (zo k) (.c c (.c (aK c) .nil)))))))) (.v 57 (.eq (Ci E)) (.c G (.c f (.c d (.v 21 (.ppt g) .nil))))) j) i
     ·simp only [GI,d0,d1,d2,cond_true,cond_false];exact .done (pN 202 [] 6 57 (.k 1 (dW d2) (.k 3 (aK o) (.c (aU d1) (.k 3 (aU d0) (.k 10 (zo k) (.c c (.c (aK c) .nil))))))) (.c G (.c f (.c d (.v 21 (.ppt g) .nil)))) j)
    ·simp only [GI,d0,d1,cond_true,cond_false];exact .done (pN 202 [] 3 5 (.c (dW d1) (.k 3 (aU d0) (.k 10 (zo k) (.c c (.c (aK c) .nil))))) (.c f (.c d (.v 21 (.ppt g) .nil))) j)
   ·simp only [GI,d0,cond_true,cond_false];exact .done (pN 202 [] 3 7 (.k 1 (dW d0) (.k 10 (zo k) (.c c (.c (aK c) .nil)))) (.c d (.v 21 (.ppt g) .nil)) j)
  | some y=>
   obtain ⟨q,C⟩:∃ q,p=q++ [y]:=by
    obtain ⟨q,h⟩:=List.getLast?_eq_some_iff.1 t;exact ⟨q,h⟩
   have m:p.length=q.length+1:=by rw [C];simp
   have e:q.length<l.length:=by omega
   have w:=nY e;have u:l[q.length]=y:=by subst hp C;simp
   rw [u] at w;have H:=K q.length y x (by rw [ξ e,u]) (by rw [← m,ξ F,n]);clear C;generalize p.length=k at*
   generalize q.length=k1 at*
   generalize gy (l.drop (k+1))=rB at g;generalize gy (l.drop (k1+1))=rC at w;have c:(decide ((k:Int)<(l.length:Int)))=true:=Yq0 (by omega);have o:((k:Int)==((0:Nat):Int))=false:=beq_eq_false_iff_ne.2 (by omega);have z:(decide (((0:Nat):Int)<(k:Int)))=true:=Yq0 (by omega);have E:k<2^62:=by omega
   have v:k<2^40:=by omega
   rcases tf (iG x.fn x.fa x.fd) with d0|d0
   ·rcases tf (iG x.rn x.ra x.rd) with d1|d1
    ·rcases tf (decide (((0:Nat):Int)≤(cmp y x))) with d2|d2
     ·simp only [GI,d0,d1,d2,cond_true,cond_false];exact .done (pN 202 [] 7 97 (.c (aK d2) (.k 6 (zo k1) (.c (dlt e) (.c (aK z) (.k 1 (aN o) (.c (aU d1) (.k 3 (aU d0) (.k 10 (zo k) (.c c (.c (aK c) .nil)))))))))) (.c (H d0 d1) (.v 48 (.ppt w) (.v 47 (.eq (wkn m v)) (.c f (.c d (.v 21 (.ppt g) .nil)))))) j)
     ·simp only [GI,d0,d1,d2,cond_true,cond_false];exact .next (pN 202 [] 7 33 (.c (aN d2) (.k 6 (zo k1) (.c (dlt e) (.c (aK z) (.k 1 (aN o) (.c (aU d1) (.k 3 (aU d0) (.k 10 (zo k) (.c c (.c (aK c) .nil)))))))))) (.v 57 (.eq (Ci E)) (.c (H d0 d1) (.v 48 (.ppt w) (.v 47 (.eq (wkn m v)) (.c f (.c d (.v 21 (.ppt g) .nil))))))) j) i
    ·simp only [GI,d0,d1,cond_true,cond_false];exact .done (pN 202 [] 3 5 (.c (dW d1) (.k 3 (aU d0) (.k 10 (zo k) (.c c (.c (aK c) .nil))))) (.c f (.c d (.v 21 (.ppt g) .nil))) j)
   ·simp only [GI,d0,cond_true,cond_false];exact .done (pN 202 [] 3 7 (.k 1 (dW d0) (.k 10 (zo k) (.c c (.c (aK c) .nil)))) (.c d (.v 21 (.ppt g) .nil)) j)
def IV (P:Br→Bool):List Br→Nat→Option Nat
 | [],_=>none
 |x::r,i=>if P x then some i else IV P r (i+1)
theorem KO (P:Br→Bool):∀ (r:List Br) (i:Nat),(IV P r i).isSome=r.any P
 | [],_=>rfl
 |x::r,i=>by
  unfold IV;rw [Xvv];rcases tf (P x) with h|h
  ·rw [if_pos h,h];rfl
  ·rw [if_neg (by rw [h];decide),h,Xwi];exact KO P r (i+1)
def aco (l:List Br) (k:Nat):St:=⟨[(0,.sl (gy l) l.length false),(1,.fn 218 [] []),(7,ω (l.length:Int)),(8,ω (k:Int))],[],.dead,[]⟩
def VT (l:List Br):Option Nat→St
 |none=> ⟨[(0,.sl (gy l) l.length false)],[],.dead,[]⟩
 |some i=> ⟨[(4,.int .i64 (i:Int))],[],.dead,[]⟩
theorem VU {nt:Nat} (g:19≤nt) (l:List Br) (P:Br→Bool) (h:l.length<2^40) (m:∀ x ∈ l,CO 218 [.agg (Io x)] (.ret (.bool (P x)))):∀ (r p:List Br),p++r=l→
  az prog ap [] nt (af 0 (ah f230)) ixE (aco l) (VT l) p.length (IV P r p.length):=by
 intro r
 induction r with
 |nil=>
  intro p hp;rw [Γ] at hp;subst hp;have c:(decide ((p.length:Int)<(p.length:Int)))=false:=Yq1 (by omega);exact .done (pN 230 [] 1 0 (.c (aN c) .nil) (.nil) g)
 | cons x r ih=>
  intro p hp;have n:p.length<l.length:=by rw [← hp];simp
  have f:l[p.length]=x:=by subst hp;simp
  have e:=nY n;rw [f] at e;have d:=ih (p++ [x]) (by rw [← hp];simp);rw [θ,σ] at d;have i:=m x (by rw [← hp];simp);unfold IV;generalize p.length=k at*
  generalize gy (l.drop (k+1))=rB at e;have c:(decide ((k:Int)<(l.length:Int)))=true:=Yq0 (by omega);have j:k<2^62:=by omega
  rcases tf (P x) with d0|d0
  ·rw [if_pos d0];exact .done (pN 230 [] 2 3 (.c (aK d0) (.k 6 (zo k) (.c c (.c (aK c) .nil)))) (.c i (.v 14 (.ppt e) .nil)) g)
  ·rw [if_neg (by rw [d0];decide)];exact .next (pN 230 [] 2 1 (.c (aN d0) (.k 6 (zo k) (.c c (.c (aK c) .nil)))) (.v 18 (.eq (Ci j)) (.c i (.v 14 (.ppt e) .nil))) g) d
theorem aeq (l:List Br) (i:Nat) (c:aG prog ap [] 19 (.block 0 (.loop (af 0 (ah f230)))) ⟨[(0,.sl (gy l) l.length false),(1,.fn 218 [] []),(4,ω 0),(5,.dead),(7,ω (l.length:Int)),(8,ω 0),(9,.dead),(16,.dead)],[],.dead,[]⟩ (.ret) ⟨[(4,ω (i:Int))],[],.dead,[]⟩):CO 230 [.sl (gy l) l.length false,.fn 218 [] []] (.ret (ω (i:Int))):=pK [0] 0 0 .nil (.l c .nil)
theorem aep (l:List Br) (c:aG prog ap [] 19 (.block 0 (.loop (af 0 (ah f230)))) ⟨[(0,.sl (gy l) l.length false),(1,.fn 218 [] []),(4,ω 0),(5,.dead),(7,ω (l.length:Int)),(8,ω 0),(9,.dead),(16,.dead)],[],.dead,[]⟩ (.normal) ⟨[(0,.sl (gy l) l.length false)],[],.dead,[]⟩):CO 230 [.sl (gy l) l.length false,.fn 218 [] []] (.ret (ω (-1))):=pK [0] 0 0 .nil (.l c .nil)
theorem aeo (l:List Br) (P:Br→Bool) (c:l.length<2^40) (f:∀ x ∈ l,CO 218 [.agg (Io x)] (.ret (.bool (P x)))):CO 230 [.sl (gy l) l.length false,.fn 218 [] []] (.ret (ω (ixI (IV P l 0)))):=by
 have h:∀ nt,19≤nt→az prog ap [] nt (af 0 (ah f230)) ixE (aco l) (VT l) 0 (IV P l 0):=fun nt e=>VU e l P c f l [] rfl
 cases d:IV P l 0 with
 |none=>
  rw [d] at h;exact aep l (az.blk h (by simp [ixE]) rfl (aH.of ⟨rfl,rfl,rfl,rfl,trivial⟩) (aH.of ⟨rfl,trivial⟩))
 |some i=>
  rw [d] at h;exact aeq l i (az.blk h (by simp [ixE]) rfl (aH.of ⟨rfl,rfl,rfl,rfl,trivial⟩) (aH.of ⟨rfl,trivial⟩))
theorem YG (l:List Br) (c:Int) (d:CO 230 [.sl (gy l) l.length false,.fn 218 [] []] (.ret (ω c))):CO 217 [.sl (gy l) l.length false,.fn 218 [] []] (.ret (.bool (decide (((0:Nat):Int)≤c)))):=pK [] 0 0 .nil (.c d .nil)
theorem UY (l:List Br) (P:Br→Bool) (c:l.length<2^40) (e:∀ x ∈ l,CO 218 [.agg (Io x)] (.ret (.bool (P x)))):CO 217 [.sl (gy l) l.length false,.fn 218 [] []] (.ret (.bool (l.any P))):=by
 have h:=YG l _ (aeo l P c e);rw [← KO P l 0];cases d:IV P l 0 with
 |none=>rw [d] at h;exact h
 |some i=>
  rw [d] at h;rw [show (some i).isSome=decide (((0:Nat):Int)≤ixI (some i)) from (Yq0 (show ((0:Nat):Int)≤(i:Int) by omega)).symm];exact h
def Gg (x:Br):Bool:= !(fB x.fn x.fa x.fd)|| !(fB x.rn x.ra x.rd)
theorem adf (x:Br) (hs:x.sm):CO 218 [.agg (Io x)] (.ret (.bool (Gg x))):=by
 rcases tf (fB x.fn x.fa x.fd) with b0|b0
 ·rw [show Gg x= !(fB x.rn x.ra x.rd) by unfold Gg;rw [b0];rfl];exact pK [] 1 0 (.k 3 (aU b0) (.n 3 .nil)) (.c (gu x.rn x.ra x.rd (Xxa hs.2.1 (by decide)) (Xxa hs.2.2 (by decide))) (.c (gu x.fn x.fa x.fd (Xxa hs.1.1 (by decide)) (Xxa hs.1.2 (by decide))) .nil))
 ·rw [show Gg x=true by unfold Gg;rw [b0];rfl];exact pK [] 1 1 (.c (dW b0) (.n 3 .nil)) (.c (gu x.fn x.fa x.fd (Xxa hs.1.1 (by decide)) (Xxa hs.1.2 (by decide))) .nil)
def PE (cmp:Br→Br→Int) (l:List Br):Int:=cond (decide (((8:Nat):Int)<(l.length:Int))) 2 (cond ((l.length:Int)==((0:Nat):Int)) 11 (cond (GI cmp none l) (cond (l.any Gg) 3 0) 11))
theorem ame (d:List UInt8) (u1 u2:Int) (l:List Br) (c:Bool) (g:(decide (((8:Nat):Int)<(l.length:Int)))=false) (e:((l.length:Int)==((0:Nat):Int))=false) (f:CO 217 [.sl (gy l) l.length false,.fn 218 [] []] (.ret (.bool c)))
  (l0:aG prog ap [] 60 (.block 1 (.loop (af 1 (ah f202)))) ⟨[(0,.agg [.str d,ω u1,ω u2,.sl (gy l) l.length false]),(1,.ptr 0 0 0),(2,ω 0),(3,.sl (gy l) l.length false),(4,.dead),(5,.dead),(8,.bool (decide (((8:Nat):Int)<(l.length:Int)))),(12,.bool ((l.length:Int)==((0:Nat):Int))),(16,.sl (gy l) l.length false),(17,ω (l.length:Int)),(18,ω 0),(19,.dead),(32,.dead),(56,.dead),(59,.dead)],[(0,⟨[.str d,ω u1,ω u2,.sl (gy l) l.length false],0,false,0,0,true⟩)],.dead,[]⟩ (.normal) ⟨[(3,.sl (gy l) l.length false)],[],.dead,[]⟩):CO 202 [.agg [.str d,ω u1,ω u2,.sl (gy l) l.length false]] (.ret (ω (cond c 3 0))):=by
 rcases tf c with b2|b2
 ·rw [show (cond c 3 0:Int)=3 by rw [b2];rfl];exact pK [1] 3 4 (.c (aK b2) (.c (aN e) (.c (aN g) (.n 1 .nil)))) (.c f (.l l0 .nil))
 ·rw [show (cond c 3 0:Int)=0 by rw [b2];rfl];exact pK [1] 3 0 (.c (aN b2) (.c (aN e) (.c (aN g) (.n 1 .nil)))) (.c f (.l l0 .nil))
theorem amd (c:List UInt8) (u1 u2:Int) (l:List Br) (e:(decide (((8:Nat):Int)<(l.length:Int)))=false) (d:((l.length:Int)==((0:Nat):Int))=false)
  (l0:aG prog ap [] 60 (.block 1 (.loop (af 1 (ah f202)))) ⟨[(0,.agg [.str c,ω u1,ω u2,.sl (gy l) l.length false]),(1,.ptr 0 0 0),(2,ω 0),(3,.sl (gy l) l.length false),(4,.dead),(5,.dead),(8,.bool (decide (((8:Nat):Int)<(l.length:Int)))),(12,.bool ((l.length:Int)==((0:Nat):Int))),(16,.sl (gy l) l.length false),(17,ω (l.length:Int)),(18,ω 0),(19,.dead),(32,.dead),(56,.dead),(59,.dead)],[(0,⟨[.str c,ω u1,ω u2,.sl (gy l) l.length false],0,false,0,0,true⟩)],.dead,[]⟩ (.ret) ⟨[(2,ω 11)],[],.dead,[]⟩):CO 202 [.agg [.str c,ω u1,ω u2,.sl (gy l) l.length false]] (.ret (ω 11)):=pK [1] 2 0 (.c (aN d) (.c (aN e) (.n 1 .nil))) (.l l0 .nil)
theorem OO (d:List UInt8) (u1 u2:Int) (l:List Br) (cmp:Br→Br→Int) (c:l.length<2^40) (e:∀ x ∈ l,x.sm) (j:xJ 127 cmp l):CO 202 [.agg [.str d,ω u1,ω u2,.sl (gy l) l.length false]] (.ret (ω (PE cmp l))):=by
 unfold PE;rcases tf (decide (((8:Nat):Int)<(l.length:Int))) with d0|d0
 ·rw [d0];exact pK [] 1 1 (.c (aK d0) (.n 1 .nil)) (.nil)
 ·rw [d0];rcases tf ((l.length:Int)==((0:Nat):Int)) with d1|d1
  ·rw [d1];exact pK [] 2 2 (.c (aK d1) (.c (aN d0) (.n 1 .nil))) (.nil)
  ·rw [d1];have h:∀ nt,60≤nt→az prog ap [] nt (af 1 (ah f202)) bkE (agV d u1 u2 l) (ab_ l) 0 (GI cmp none l):=fun nt g=>Yz g d u1 u2 l cmp c e j l [] rfl
   cases f:GI cmp none l with
   |true=>
    rw [f] at h;exact ame d u1 u2 l _ d0 d1 (UY l Gg c fun x i=>adf x (e x i)) (az.blk h (by simp [bkE]) rfl (aH.of ⟨rfl,rfl,rfl,rfl,rfl,trivial⟩) (aH.of ⟨rfl,trivial⟩))
   |false=>
    rw [f] at h;exact amd d u1 u2 l d0 d1 (az.blk h (by simp [bkE]) rfl (aH.of ⟨rfl,rfl,rfl,rfl,rfl,trivial⟩) (aH.of ⟨rfl,trivial⟩))
def Dx (b:RQ × RQ):List AV:= [.bool b.1.neg,.str (ae b.1.n),.str (ae b.1.d),.bool b.2.neg,.str (ae b.2.n),.str (ae b.2.d)]
def oU (l:List (RQ × RQ)):List AV:=l.flatMap Dx
def rvC (q:RQ):List AV:= [.bool q.neg,.str (ae q.n),.str (ae q.d)]
def Gs (l:List RQ):List AV:=l.flatMap rvC
abbrev JM (nm:List UInt8) (u1 u2:Int) (l:List (RQ × RQ)):AV:= .agg [.str nm,ω u1,ω u2,.sl (oU l) l.length false]
abbrev QN (nm:List UInt8) (u1 u2:Int) (l:List (RQ × RQ)):AV:= .pp [.str nm,ω u1,ω u2,.sl (oU l) l.length false] 0
abbrev QJ (x:RQ):AV:= .pp [.bool x.neg,.str (ae x.n),.str (ae x.d)] 0
theorem ahq (x:RQ) (c:Int) (d:List UInt8) (u1 u2:Int) (l:List (RQ × RQ)) (g:lit false (!(c==((0:Nat):Int)))=true) (e:CO 202 [JM d u1 u2 l] (.ret (ω c))) (f:CO 115 [qA x] (.ret (.bool true))) (h:CO 70 [qA x] (.ret (.bool true))):CO 172 [JM d u1 u2 l,qA x] (.ret (ω 0)):=pK [] 3 0 (.k 8 g (.n 4 .nil)) (.c h (.c f (.c e .nil)))
theorem ahs (x:RQ) (c:Nat) (d:List UInt8) (u1 u2:Int) (l:List (RQ × RQ)) (e:CO 203 [ω (l.length:Int),.fn 204 [] [QN d u1 u2 l,QJ x]] (.ret (ω (c:Int)))):CO 173 [JM d u1 u2 l,qA x] (.ret (ω (c:Int))):=pK [] 0 0 (.n 1 .nil) (.c e .nil)
theorem ahr (x:RQ) (k:Nat) (g:Int) (d:List UInt8) (u1 u2:Int) (l:List (RQ × RQ)) (b:RQ × RQ) (rb:List AV) (c:(ε ((δ (k:Int))*6) (oU l))=Dx b++rb) (f:(decide (((0:Nat):Int)≤(k:Int)))=true) (e:(decide ((k:Int)<(l.length:Int)))=true) (h:CO 127 [qA b.1,qA x] (.ret (ω g))):CO 204 [ω (k:Int),QN d u1 u2 l,QJ x] (.ret (.bool (decide (((0:Nat):Int)<g)))):=pK [] 0 0 (.k 6 f (.c e (.n 1 .nil))) (.c h (.v 8 (.ppt c) .nil))
theorem ahw (x:RQ) (d:lit true (!(iI x))=true) (c:CO 70 [qA x] (.ret (.bool (iI x)))):CO 174 [qA x] (.ret (.tup [Ω false [] [],ω 3])):=pK [] 1 1 (.k 4 d (.n 3 .nil)) (.c c .nil)
theorem ahx (x:RQ) (d:lit false (!(iI x))=true) (c:CO 70 [qA x] (.ret (.bool (iI x)))):CO 174 [qA x] (.ret (.tup [qA x,ω 0])):=pK [] 1 0 (.k 7 d (.n 3 .nil)) (.c c .nil)
theorem ahT (x:RQ) (p:Bool) (i j c:Nat) (d:List UInt8) (u1 u2:Int) (l:List (RQ × RQ)) {nt:Nat} (h:26≤nt) (m:ω (γ .i64 (Xqw (γ .u64 (γ .i64 ((i:Int)+(j:Int)))) (2^(min 1 64))))=ω (c:Int)) (e:ω (γ .i64 ((c:Int)+((1:Nat):Int)))=ω ((c+1:Nat):Int)) (g:lit true (!p)=true) (f:lit true (decide ((i:Int)<(j:Int)))=true) (k:CO 204 [ω (c:Int),QN d u1 u2 l,QJ x] (.ret (.bool p))):ψ nt f203 ⟨[(1,.fn 204 [] [QN d u1 u2 l,QJ x]),(5,ω (i:Int)),(6,ω (j:Int))],[],.dead,[]⟩ (.normal) ⟨[(1,.fn 204 [] [QN d u1 u2 l,QJ x]),(5,ω ((c+1:Nat):Int)),(6,ω (j:Int))],[],.dead,[]⟩:=pN 203 [] 2 3 (.c g (.k 1 f .nil)) (.v 23 (.eq e) (.c k (.v 17 (.eq m) .nil))) h
theorem ahU (x:RQ) (p:Bool) (i j c:Nat) (d:List UInt8) (u1 u2:Int) (l:List (RQ × RQ)) {nt:Nat} (g:26≤nt) (k:ω (γ .i64 (Xqw (γ .u64 (γ .i64 ((i:Int)+(j:Int)))) (2^(min 1 64))))=ω (c:Int)) (f:lit false (!p)=true) (e:lit true (decide ((i:Int)<(j:Int)))=true) (h:CO 204 [ω (c:Int),QN d u1 u2 l,QJ x] (.ret (.bool p))):ψ nt f203 ⟨[(1,.fn 204 [] [QN d u1 u2 l,QJ x]),(5,ω (i:Int)),(6,ω (j:Int))],[],.dead,[]⟩ (.normal) ⟨[(1,.fn 204 [] [QN d u1 u2 l,QJ x]),(5,ω (i:Int)),(6,ω (c:Int))],[],.dead,[]⟩:=pN 203 [] 2 1 (.c f (.k 1 e .nil)) (.c h (.v 17 (.eq k) .nil)) g
theorem ach (x:RQ) (i j:Nat) (c:List UInt8) (u1 u2:Int) (l:List (RQ × RQ)) {nt:Nat} (e:26≤nt) (d:lit false (decide ((i:Int)<(j:Int)))=true):ψ nt f203 ⟨[(1,.fn 204 [] [QN c u1 u2 l,QJ x]),(5,ω (i:Int)),(6,ω (j:Int))],[],.dead,[]⟩ (.exit 0) ⟨[(5,ω (i:Int))],[],.dead,[]⟩:=pN 203 [] 1 0 (.c d .nil) (.nil) e
theorem ahQ (x:RQ) (c n:Nat) (d:List UInt8) (u1 u2:Int) (l:List (RQ × RQ)) (e:aG prog ap [] 26 (.block 0 (.loop (af 0 (ah f203)))) ⟨[(0,ω (n:Int)),(1,.fn 204 [] [QN d u1 u2 l,QJ x]),(4,ω 0),(5,ω 0),(6,ω (n:Int)),(7,.dead),(11,.dead),(21,.dead)],[],.dead,[]⟩ (.normal) ⟨[(5,ω (c:Int))],[],.dead,[]⟩):CO 203 [ω (n:Int),.fn 204 [] [QN d u1 u2 l,QJ x]] (.ret (ω (c:Int))):=pK [0] 0 0 .nil (.l e .nil)
theorem ahX (d:List UInt8) (u1 u2:Int) (l:List (RQ × RQ)) (c:List RQ) (h:AV.sl (ε 6 (ν ((δ (l.length:Int))*6) (oU l))) ((δ (l.length:Int)) - 1) false=AV.sl (oU l.tail) l.tail.length false) (i:(decide (((1:Nat):Int)≤(l.length:Int)))=true) (e:(decide ((l.length:Int)≤(l.length:Int)))=true) (g:CO 42 [ω 0] (.ret (qA q0))) (f:aG prog ap [] 47 (.block 0 (.loop (af 0 (ah f175)))) ⟨[(0,JM d u1 u2 l),(1,.ptr 0 0 0),(2,.nilS),(3,.ref 1 0 0 1),(4,.dead),(5,.dead),(11,ω (l.tail.length:Int)),(12,ω 0),(13,.dead)],[(0,⟨[.str d,ω u1,ω u2,.sl (oU l) l.length false],0,false,0,0,true⟩),(1,⟨[.bool q0.neg,.str (ae q0.n),.str (ae q0.d)],0,false,0,3,true⟩)],.dead,[]⟩ (.normal) ⟨[(3,.ref 0 0 0 c.length)],[(0,⟨(Gs c),0,false,0,3,true⟩)],.dead,[]⟩):CO 175 [JM d u1 u2 l] (.ret (.own (ν (c.length*3) (Gs c)) c.length 3)):=pK [0] 0 0 (.k 1 i (.c e (.n 1 .nil))) (.l f (.v 10 (.eq h) (.c g .nil)))
theorem ahR (o r v w:RQ) (k:Nat) (j:List UInt8) (u1 u2:Int) (l:List (RQ × RQ)) (c:List RQ) (b m:RQ × RQ) (rb f z:List AV) {nt:Nat} (E:47≤nt) (n:(ε ((δ (k:Int))*6) (oU l))=Dx b++rb) (e:(ε ((δ ((k+1:Nat):Int))*6) (oU l))=Dx m++f) (i:(ε ((0+(δ (k:Int)))*3) (Gs c))=rvC o++z) (p:ω (γ .i64 ((k:Int)+((1:Nat):Int)))=ω ((k+1:Nat):Int)) (g:((ν (c.length*3) (Gs c))++ [.bool r.neg,.str (ae r.n),.str (ae r.d)])=(Gs (c++ [r]))) (A:(Xqg (c.length+1) 1099511627776)=true) (D:(Xqg (c.length*3) (η (Gs c)))=true) (d:(decide (((0:Nat):Int)≤(k:Int)))=true) (h:(decide ((k:Int)<(l.length:Int)))=true) (t:(decide ((k:Int)<(c.length:Int)))=true) (u:(decide (((0:Nat):Int)≤((k+1:Nat):Int)))=true) (q:(decide (((k+1:Nat):Int)<(l.length:Int)))=true) (y:lit true (decide ((k:Int)<(l.tail.length:Int)))=true) (F:CO 168 [qA m.1,qA b.1] (.ret (qA v))) (C:CO 169 [qA v,qA b.2] (.ret (qA w))) (B:CO 167 [qA o,qA w] (.ret (qA r))):ψ nt f175 ⟨[(1,.ptr 0 0 0),(3,.ref 1 0 0 c.length),(11,ω (l.tail.length:Int)),(12,ω (k:Int))],[(0,⟨[.str j,ω u1,ω u2,.sl (oU l) l.length false],0,false,0,0,true⟩),(1,⟨(Gs c),0,false,0,3,true⟩)],.dead,[]⟩ (.normal) ⟨[(1,.ptr 0 0 0),(3,.ref 1 0 0 (c.length+1)),(11,ω (l.tail.length:Int)),(12,ω ((k+1:Nat):Int))],[(0,⟨[.str j,ω u1,ω u2,.sl (oU l) l.length false],0,false,0,0,true⟩),(1,⟨(Gs (c++ [r])),0,false,0,3,true⟩)],.dead,[]⟩:=pN 175 [] 1 1 (.k 1 A (.c D (.k 4 d (.c h (.n 4 (.a (jy [.bool,.str,.str] i rfl) (.c d (.c t (.k 4 d (.c h (.k 4 u (.c q (.k 1 y .nil))))))))))))) (.v 45 (.eq p) (.b 44 g (.c B (.c C (.v 38 (.ppt n) (.v 33 (.rd [.bool,.str,.str] i rfl) (.c F (.v 25 (.ppt n) (.v 19 (.ppt e) (.v 18 (.eq p) .nil)))))))))) E
theorem ahS (k:Nat) (d:List UInt8) (u1 u2:Int) (l:List (RQ × RQ)) (c:List RQ) {nt:Nat} (e:47≤nt) (f:lit false (decide ((k:Int)<(l.tail.length:Int)))=true):ψ nt f175 ⟨[(1,.ptr 0 0 0),(3,.ref 1 0 0 c.length),(11,ω (l.tail.length:Int)),(12,ω (k:Int))],[(0,⟨[.str d,ω u1,ω u2,.sl (oU l) l.length false],0,false,0,0,true⟩),(1,⟨(Gs c),0,false,0,3,true⟩)],.dead,[]⟩ (.exit 0) ⟨[(3,.ref 0 0 0 c.length)],[(0,⟨(Gs c),0,false,0,3,true⟩)],.dead,[]⟩:=pN 175 [] 1 0 (.c f .nil) (.nil) e
theorem ady (x:RQ) (e:Nat) (c:Int) (d:List UInt8) (u1 u2:Int) (l:List (RQ × RQ)) (f:ω (γ .i64 ((e:Int) - ((1:Nat):Int)))=ω (-1)) (i:lit false (!(c==((0:Nat):Int)))=true) (g:CO 172 [JM d u1 u2 l,qA x] (.ret (ω c))) (h:CO 173 [JM d u1 u2 l,qA x] (.ret (ω (e:Int)))) (j:CO 42 [ω 0] (.ret (qA q0))):CO 130 [JM d u1 u2 l,qA x] (.ret (.tup [qA q0,ω 0])):=pK [] 2 2 (.k 12 i (.n 7 .nil)) (.c j (.v 19 (.eq f) (.c h (.c g .nil))))
theorem adz (x o r v w:RQ) (y:Oq) (c g:Nat) (d:Int) (e:List UInt8) (u1 u2:Int) (l:List (RQ × RQ)) (f:List RQ) (b:RQ × RQ) (rb p:List AV) (n:(ε ((δ (c:Int))*6) (oU l))=Dx b++rb) (h:(ε ((0+(δ (c:Int)))*3) (Gs f))=rvC o++p) (B:ω (γ .i64 ((g:Int) - ((1:Nat):Int)))=ω (c:Int)) (i:(decide (((0:Nat):Int)≤(c:Int)))=true) (C:(decide ((c:Int)<(f.length:Int)))=true) (m:(decide ((c:Int)<(l.length:Int)))=true) (j:lit false (decide ((c:Int)<((0:Nat):Int)))=true) (k:lit false (!(d==((0:Nat):Int)))=true) (E:CO 172 [JM e u1 u2 l,qA x] (.ret (ω d))) (A:CO 173 [JM e u1 u2 l,qA x] (.ret (ω (g:Int)))) (q:CO 175 [JM e u1 u2 l] (.ret (.own (Gs f) f.length 3))) (t:CO 168 [qA x,qA b.1] (.ret (qA v))) (D:CO 169 [qA b.2,qA v] (.ret (qA w))) (u:CO 167 [qA o,qA w] (.ret (qA r))) (z:CO 174 [qA r] (.ret (.tup [.agg [.bool y.n,.str y.a,.str y.d],ω y.e]))):CO 130 [JM e u1 u2 l,qA x] (.ret (.tup [.agg [.bool y.n,.str y.a,.str y.d],ω y.e])):=pK [] 2 0 (.n 13 (.a (jy [.bool,.str,.str] h rfl) (.c i (.c C (.k 11 i (.c m (.k 1 j (.k 7 k (.n 7 .nil))))))))) (.c z (.c u (.c D (.c t (.v 32 (.rd [.bool,.str,.str] h rfl) (.c q (.v 26 (.ppt n) (.v 19 (.eq B) (.c A (.c E .nil))))))))))
theorem adw (x:RQ) (f:Nat) (c:Int) (e:List UInt8) (u1 u2:Int) (d:List AV) (h:lit true (!(c==((0:Nat):Int)))=true) (g:CO 202 [.agg [.str e,ω u1,ω u2,.sl d f false]] (.ret (ω c))):CO 172 [.agg [.str e,ω u1,ω u2,.sl d f false],qA x] (.ret (ω c)):=pK [] 1 1 (.c h (.n 4 .nil)) (.c g .nil)
theorem adA (x:RQ) (f:Nat) (c:Int) (e:List UInt8) (u1 u2:Int) (d:List AV) (h:lit true (!(c==((0:Nat):Int)))=true) (g:CO 172 [.agg [.str e,ω u1,ω u2,.sl d f false],qA x] (.ret (ω c))):CO 130 [.agg [.str e,ω u1,ω u2,.sl d f false],qA x] (.ret (.tup [Ω false [] [],ω c])):=pK [] 1 1 (.k 4 h (.n 7 .nil)) (.c g .nil)
theorem yA {α:Type} (f:α→List AV) (m:Nat) (c:∀ a,(f a).length=m):∀ {l:List α} {k:Nat} (h:k<l.length),ε (k*m) (l.flatMap f)=f l[k]++(l.drop (k+1)).flatMap f
 | [],_,h=>by simp at h
 |x::r,0,_=>by simp
 |x::r,k+1,h=>by
  have d:k<r.length:=by simpa using h
  have:=yA f m c d;rw [Xjg,Xk0,Xxq,← Xjm];have e:ε m (f x++r.flatMap f)=r.flatMap f:=by rw [← c x];exact List.drop_left
  rw [e,this];simp
theorem ul {α:Type} (f:α→List AV) (m:Nat) (c:∀ a,(f a).length=m):∀ l:List α,(l.flatMap f).length=l.length*m
 | []=>by simp
 |x::r=>by rw [Xjg,θ,c,ul f m c r,μ,Xk0,Xxq]
theorem fZ {l:List (RQ × RQ)} {k:Nat} (h:k<l.length):ε (δ (k:Int)*6) (oU l)=Dx l[k]++oU (l.drop (k+1)):=by
 rw [aB];exact yA Dx 6 (fun _=>rfl) h
theorem L9 {l:List RQ} {k:Nat} (h:k<l.length):ε ((0+δ (k:Int))*3) (Gs l)=rvC l[k]++Gs (l.drop (k+1)):=by
 rw [aB,Xqf];exact yA rvC 3 (fun _=>rfl) h
theorem JA (l:List RQ):(Gs l).length=l.length*3:=ul rvC 3 (fun _=>rfl) l
theorem Xv (l:List RQ) (r:RQ):ν (l.length*3) (Gs l)++ [.bool r.neg,.str (ae r.n),.str (ae r.d)]=Gs (l++ [r]):=by
 rw [Ξ (by rw [JA];exact Δ _)];unfold Gs;rw [Xjf];rfl
abbrev srS (nm:List UInt8) (u1 u2:Int) (l:List (RQ × RQ)) (x:RQ) (p:Nat × Nat):St:=⟨[(1,.fn 204 [] [QN nm u1 u2 l,QJ x]),(5,ω (p.1:Int)),(6,ω (p.2:Int))],[],.dead,[]⟩
abbrev srO (c:Nat):St:=⟨[(5,ω (c:Int))],[],.dead,[]⟩
theorem aix {i j:Nat} (h:i+j<2^62):ω (γ .i64 (Xqw (γ .u64 (γ .i64 ((i:Int)+(j:Int)))) (2^(min 1 64))))=ω (((i+j) / 2:Nat):Int):=by
 congr 1;rw [show (i:Int)+(j:Int)=((i+j:Nat):Int) from rfl,aO (by omega),oO,υ (show i+j<18446744073709551616 by omega),show (2:Int)^(min 1 64)=((2:Nat):Int) from rfl];rw [show Xqw ((i+j:Nat):Int) ((2:Nat):Int)=(((i+j) / 2:Nat):Int) from by rw [Int.fdiv_eq_ediv_of_nonneg _ (by omega)];rfl,aO (by omega)]
theorem abC {nt:Nat} (t:26≤nt) (f:List UInt8) (u1 u2:Int) (l:List (RQ × RQ)) (x:RQ) (P:Nat→Bool) (C:l.length<2^60)
  (hP:∀ k,k<l.length→CO 204 [ω (k:Int),QN f u1 u2 l,QJ x] (.ret (.bool (P k)))) (hM:∀ i j,i≤j→j<l.length→P i=true→P j=true):
  ∀ (d i j:Nat),j - i≤d→i≤j→j≤l.length→(∀ k,k<i→P k=false)→(∀ k,j≤k→k<l.length→P k=true)→∀ c,c≤l.length→(∀ k,k<c→P k=false)→(∀ k,c≤k→k<l.length→P k=true)→
   az prog ap [] nt (af 0 (ah f203)) (fun _=> .exit 0) (srS f u1 u2 l x) srO (i,j) c:=by
 intro d
 induction d with
 | zero=>
  intro i j hd u z r p c v g m;have:i=j:=by omega
  subst this;have:i=c:=by
   rcases Xj7 i c with h|h|h
   ·have a:=g i h;rw [p i (Δ _) (by omega)] at a;cases a
   ·exact h
   ·have a:=r c h;rw [m c (Δ _) (by omega)] at a;cases a
  subst this;exact .done (ach x i i f u1 u2 l t (aN (Yq1 (by omega))))
 | succ d ih=>
  intro i j hd u z r p c v g m;by_cases hlt:i<j
  ·have y:=aix (i:=i) (j:=j) (by omega);have B:(i+j) / 2<j:=by omega
   have w:i≤(i+j) / 2:=by omega
   generalize (i+j) / 2=q at*
   have o:=hP q (by omega);have n:lit true (decide ((i:Int)<(j:Int)))=true:=Yq0 (by omega);cases hp:P q with
   |false=>
    rw [hp] at o;refine .next (ahT x false i j q f u1 u2 l t y (Ci (by omega)) rfl n o) (ih (q+1) j (by omega) (by omega) z (fun k A=> ?_) p c v g m)
    cases e:P k with
    |false=>rfl
    |true=>rw [hM k q (by omega) (by omega) e] at hp;cases hp
   |true=>
    rw [hp] at o;exact .next (ahU x true i j q f u1 u2 l t y rfl n o) (ih i q (by omega) w (by omega) r (fun k A e=>hM q k A e hp) c v g m)
  ·have:i=j:=by omega
   subst this;have:i=c:=by
    rcases Xj7 i c with h|h|h
    ·have a:=g i h;rw [p i (Δ _) (by omega)] at a;cases a
    ·exact h
    ·have a:=r c h;rw [m c (Δ _) (by omega)] at a;cases a
   subst this;exact .done (ach x i i f u1 u2 l t (aN (Yq1 (by omega))))
structure Uu (l:List (RQ × RQ)):Prop where
 len:l.length≤8
 pos:0<l.length
 ok:∀ b ∈ l,b.1.ok∧b.2.ok
 fit:∀ b ∈ l,iI b.1=true∧iI b.2=true
 srt:sQ l
theorem QS:∀ {l:List (RQ × RQ)},sQ l→∀ i j (hi:i<j) (hj:j<l.length),(l[i]'(by omega)).1.rt<l[j].1.rt
 | [],_,_,_,_,hj=>by simp at hj
 |b::l,h,0,j+1,_,hj=>h.all _ (Xxb (by simpa using hj))
 |b::l,h,i+1,j+1,hi,hj=>QS h.tail i j (by omega) (by simpa using hj)
def pS (l:List (RQ × RQ)) (x:RQ) (k:Nat):Bool:=match l[k]? with|some b=>decide (0<iE b.1 x)|none=>true
theorem yc (x:RQ):∀ l:List (RQ × RQ),gJ l x≤l.length∧(∀ k,k<gJ l x→pS l x k=false)∧(gJ l x<l.length→pS l x (gJ l x)=true)
 | []=> ⟨Δ _,fun k h=>absurd h (Xwj _),fun h=>absurd h (Xwj _)⟩
 | b::l=>by
  obtain ⟨g,f,d⟩:=yc x l;by_cases h:0<iE b.1 x
  ·have e:gJ (b::l) x=0:=by
    unfold gJ;rw [Xz5 (by simp;omega)];rfl
   rw [e];exact ⟨Xxk _,fun k c=>absurd c (Xwj _),fun _=>Yq0 h⟩
  ·rw [x_ h];refine ⟨by simp only [μ];omega,fun k c=> ?_,fun c=>d (by simpa using c)⟩;cases k with
   |zero=>exact Yq1 h
   |succ k=>exact f k (by omega)
section
variable (nm:List UInt8) (u1 u2:Int) {l:List (RQ × RQ)} (hR:Uu l) {x:RQ} (hx:x.ok) (fx:iI x=true)
include hR hx fx
omit fx in
theorem aai:∀ i j,i≤j→j<l.length→pS l x i=true→pS l x j=true:=by
 intro i j d c h;rcases Xq5 i j with h1|h1
 ·have hs:=QS hR.srt i j h1 c;unfold pS at h ⊢;rw [ξ (by omega)] at h ⊢;simp only [decide_eq_true_eq] at h ⊢;have e:=(jr (hR.ok _ (Xxb (show i<l.length by omega))).1 hx).2.2;have f:=(jr (hR.ok _ (Xxb c)).1 hx).2.2;have:=e.1 h;exact f.2 (by grind)
 ·rw [show i=j by omega] at h;exact h
theorem YZ (k:Nat) (c:k<l.length):CO 204 [ω (k:Int),QN nm u1 u2 l,QJ x] (.ret (.bool (pS l x k))):=by
 unfold pS;rw [ξ c];exact ahr x k _ nm u1 u2 l l[k] _ (fZ c) (Yq0 (by omega)) (Yq0 (by omega))
  (Xp (hR.ok _ (Xxb c)).1 hx (aX (hR.fit _ (Xxb c)).1) (aX fx) (by decide))
theorem Kz:CO 173 [JM nm u1 u2 l,qA x] (.ret (ω ((gJ l x:Nat):Int))):=by
 obtain ⟨g,i,h⟩:=yc x l;have e:=hR.len;have f:=aai hR hx;refine ahs x _ nm u1 u2 l (ahQ x _ _ nm u1 u2 l (az.blk (id:=0) (e':= .normal) (s:=⟨_,_,_,_⟩) (s':=srO (gJ l x)) (fun nt j=>abC j nm u1 u2 l x (pS l x) (by omega) (YZ nm u1 u2 hR hx fx) f l.length 0 l.length (by omega) (Xxk _) (Δ _) (fun k d=>absurd d (Xwj _)) (fun k d c=>by omega) (gJ l x) g i (fun k d c=>f _ k d c (h (by omega)))) (by simp) rfl (aH.of ⟨rfl,rfl,rfl,trivial⟩) (aH.refl _)))
end
abbrev smS (nm:List UInt8) (u1 u2:Int) (l:List (RQ × RQ)) (p:Nat × List RQ):St:=⟨[(1,.ptr 0 0 0),(3,.ref 1 0 0 p.2.length),(11,ω (l.tail.length:Int)),(12,ω (p.1:Int))],[(0,⟨[.str nm,ω u1,ω u2,.sl (oU l) l.length false],0,false,0,0,true⟩),(1,⟨(Gs p.2),0,false,0,3,true⟩)],.dead,[]⟩
abbrev smO (os:List RQ):St:=⟨[(3,.ref 0 0 0 os.length)],[(0,⟨(Gs os),0,false,0,3,true⟩)],.dead,[]⟩
theorem XI {k:Nat} {a w:RQ} (c:iw (410*5^k) a) (d:iw 410 w):iw (410*5^(k+1)) (gK a w):=by
 have hp:1≤5^k:=Xkj _ _ (by decide);refine (xE c (d.mono (by omega))).mono ?_;rw [Xq2];generalize 5^k=M at*
 omega
theorem ack {k:Nat} (h:k≤8):410*5^k<2^28:=χ (Xqy 410 (Xqc (by decide) h)) (by decide)
theorem alc {l:List (RQ × RQ)} (e:Uu l) {b c:RQ × RQ} (g:b ∈ l) (d:c ∈ l):iw 205 (eu c.1 b.1)∧iw 410 (iJ (eu c.1 b.1) b.2):=by
 have f:iw 205 (eu c.1 b.1):=xF (L:=51) (aX (e.fit _ d).1) (aX (e.fit _ g).1);exact ⟨f,AC f (iw.mono (L:=51) (aX (e.fit _ g).2) (by decide))⟩
theorem XG {nt:Nat} (B:47≤nt) (m:List UInt8) (u1 u2:Int) {l:List (RQ × RQ)} (f:Uu l):∀ (r p:List (RQ × RQ)) (b:RQ × RQ) (d:List RQ) (c:RQ),l=p++b::r→d.length=p.length→c.ok→iw (410*5^p.length) c→
  az prog ap [] nt (af 0 (ah f175)) (fun _=> .exit 0) (smS m u1 u2 l) smO (p.length,d++ [c]) (d++jc c (b::r)):=by
 intro r
 induction r with
 |nil=>
  intro p b d c h q n hs;exact .done (ahS p.length m u1 u2 l (d++ [c]) B (aN (Yq1 (by rw [h];simp))))
 |cons b2 r ih=>
  intro p b d c h q n hs;have w:=f.len;have j:p.length+1<l.length:=by rw [h];simp
  have i:b ∈ l:=by rw [h];simp
  have g:b2 ∈ l:=by rw [h];simp
  have J:l[p.length]'(by omega)=b:=by subst h;simp
  have D:l[p.length+1]'j=b2:=by subst h;simp
  have o:=fZ (l:=l) (k:=p.length) (by omega);have v:=fZ (l:=l) (k:=p.length+1) j;rw [J] at o;rw [D] at v;have y:=L9 (l:=d++ [c]) (k:=p.length) (by simp;omega);rw [show (d++ [c])[p.length]'(by simp;omega)=c by simp [← q]] at y;have u:=gY (f.ok _ g).1 (f.ok _ i).1;have A:=iK u (f.ok _ i).2;obtain ⟨M,t⟩:=alc f i g;have I:=ack (k:=p.length) (by omega);have E:1≤5^p.length:=Xkj _ _ (by decide);have K:=OT (f.ok _ g).1 (f.ok _ i).1 (aX (f.fit _ g).1) (aX (f.fit _ i).1) (by decide);have H:=OQ u (f.ok _ i).2 M (iw.mono (L:=51) (aX (f.fit _ i).2) (by decide)) (by decide);have F:=Fq n A hs (t.mono (by omega)) I;have G:(d++ [c]).length=p.length+1:=by simp;omega
  have C:=ahR c (gK c (iJ (eu b2.1 b.1) b.2)) _ _ p.length m u1 u2 l (d++ [c]) b b2 _ _ _ B o v y (Ci (by omega)) (Xv _ _) (Xqt (by omega)) (Xqt (by rw [JA];exact Δ _)) (Yq0 (by omega)) (Yq0 (by omega)) (Yq0 (by omega)) (Yq0 (by omega)) (Yq0 (by omega)) (aK (Yq0 (by rw [List.length_tail];omega))) K H F;have z:=ih (p++ [b]) b2 (d++ [c]) (gK c (iJ (eu b2.1 b.1) b.2)) (by rw [h];simp) (by simp;omega) (eQ n A) (by rw [θ];exact XI hs t);rw [θ,σ] at z;rw [show d++jc c (b::b2::r)=(d++ [c])++jc (gK c (iJ (eu b2.1 b.1) b.2)) (b2::r) by simp [jc]];refine .next ?_ z
  have e:(d++ [c]++ [gK c (iJ (eu b2.1 b.1) b.2)]).length=(d++ [c]).length+1:=by simp
  show ak _ _ _ _ _ _ _ (smS m u1 u2 l (p.length+1,d++ [c]++ [gK c (iJ (eu b2.1 b.1) b.2)]));unfold smS;rw [e];exact C
theorem FM:∀ (l:List (RQ × RQ)) (c:RQ),0<l.length→(jc c l).length=l.length
 | [_],_,_=>rfl
 |b::b2::l,c,_=>by show (jc _ (b2::l)).length+1=_;rw [FM (b2::l) _ (by simp)];rfl
theorem WQ:iw 410 q0:=⟨Xq1 (bY (x:=0) (k:=1) (by decide)) (by decide),Xq1 (bY (x:=1) (k:=1) (by decide)) (by decide)⟩
theorem VE (d:List UInt8) (u1 u2:Int) {l:List (RQ × RQ)} (e:Uu l):CO 175 [JM d u1 u2 l] (.ret (.own (Gs (jc q0 l)) (jc q0 l).length 3)):=by
 have f:=e.len;have c:=e.pos;have i:∀ nt,47≤nt→az prog ap [] nt (af 0 (ah f175)) (fun _=> .exit 0) (smS d u1 u2 l) smO (0,[q0]) (jc q0 l):=fun nt g=>by
  cases l with
  |nil=>simp at c
  |cons b r=>exact XG g d u1 u2 e r [] b [] q0 rfl rfl wJ (WQ.mono (by decide))
 have h:=ahX d u1 u2 l (jc q0 l) (by
  cases l with
  |nil=>simp at c
  |cons b r=>
   rw [aB,Ξ (by show ((b::r).flatMap Dx).length≤_;rw [ul Dx 6 (fun _=>rfl)];exact Δ _)];rfl) (Yq0 (by omega)) (Yq0 (by omega)) jC (az.blk (id:=0) (e':= .normal) (s:=⟨_,_,_,_⟩) (s':=smO (jc q0 l)) i (by simp) rfl (aH.of ⟨rfl,rfl,rfl,rfl,trivial⟩) (aH.refl _))
 rw [Ξ (by rw [JA];exact Δ _)] at h;exact h
theorem abD {l:List (RQ × RQ)} (e:Uu l):∀ (r p:List (RQ × RQ)) (b:RQ × RQ) (c:RQ),l=p++b::r→c.ok→iw (410*5^p.length) c→∀ q ∈ jc c (b::r),q.ok∧iw (410*5^8) q:=by
 intro r
 induction r with
 |nil=>
  intro p b c f h hs q d;have d:q ∈ [c]:=d;rw [Xzg] at d;subst d;have:=e.len;exact ⟨h,hs.mono (Xqy 410 (Xqc (by decide) (by rw [f] at this;simp at this;omega)))⟩
 | cons b2 r ih=>
  intro p b c f h hs q d;have i:b ∈ l:=by rw [f];simp
  have g:b2 ∈ l:=by rw [f];simp
  have d:q ∈ c::jc (gK c (iJ (eu b2.1 b.1) b.2)) (b2::r):=d;rcases List.mem_cons.1 d with rfl|d
  ·have:=e.len;exact ⟨h,hs.mono (Xqy 410 (Xqc (by decide) (by rw [f] at this;simp at this;omega)))⟩
  ·have j:=iK (gY (e.ok _ g).1 (e.ok _ i).1) (e.ok _ i).2;exact ih (p++ [b]) b2 _ (by rw [f];simp) (eQ h j) (by rw [θ];exact XI hs (alc e i g).2) q d
theorem MH {l:List (RQ × RQ)} (c:Uu l):∀ q ∈ jc q0 l,q.ok∧iw (410*5^8) q:=by
 cases l with
 |nil=>have:=c.pos;simp at this
 |cons b r=>exact abD c r [] b q0 rfl wJ (WQ.mono (by decide))
def X8 (l:List (RQ × RQ)) (x:RQ):Oq:=if gJ l x=0 then .val q0 else mV (atR l x)
theorem Y0 {q:RQ} (h:q.ok) (e:(ae q.n).length<2^36) (f:(ae q.d).length<2^36):CO 174 [qA q] (.ret (.tup [.agg [.bool (mV q).n,.str (mV q).a,.str (mV q).d],ω (mV q).e])):=by
 have c:=gu q.neg (ae q.n) (ae q.d) e f;rw [yz h] at c;unfold mV;cases d:iI q with
 |true=>
  rw [if_pos rfl];exact ahx q (by rw [d];rfl) c
 |false=>
  rw [if_neg (by simp)];exact ahw q (by rw [d];rfl) c
theorem adx (f:List UInt8) (u1 u2:Int) {l:List (RQ × RQ)} (c:Uu l) {x:RQ} (i:x.ok) (n:iI x=true) (m:CO 202 [JM f u1 u2 l] (.ret (ω 0))):
  CO 130 [JM f u1 u2 l,qA x] (.ret (.tup [.agg [.bool (X8 l x).n,.str (X8 l x).a,.str (X8 l x).d],ω (X8 l x).e])):=by
 obtain ⟨y,u⟩:=aX n;have w:=mO x.neg (ae x.n) (ae x.d) (by omega) (by omega);rw [xg x i] at w;have p:=gu x.neg (ae x.n) (ae x.d) (by omega) (by omega);rw [yz i,n] at p;have j:CO 172 [JM f u1 u2 l,qA x] (.ret (ω 0)):=ahq x 0 f u1 u2 l rfl m w p;have g:=Kz f u1 u2 c i n;have E:=(yc x l).1;have q:=c.len;unfold X8;by_cases hc:gJ l x=0
 ·rw [if_pos hc];rw [hc] at g;exact ady x 0 0 f u1 u2 l rfl rfl j g jC
 ·rw [if_neg hc];have k:gJ l x - 1<l.length:=by omega
  have d:=Xxb k;have F:(jc q0 l).length=l.length:=FM l q0 c.pos;have h:gJ l x - 1<(jc q0 l).length:=by omega
  obtain ⟨z,o⟩:(jc q0 l)[gJ l x - 1].ok∧iw (410*5^8) (jc q0 l)[gJ l x - 1]:=by
   exact MH c _ (Xxb h)
  have v:iw 205 (eu x l[gJ l x - 1].1):=xF (L:=51) ⟨y,u⟩ (aX (c.fit _ d).1);have r:iw 410 (iJ l[gJ l x - 1].2 (eu x l[gJ l x - 1].1)):=AC (L:=205) (iw.mono (L:=51) (aX (c.fit _ d).2) (by decide)) v;have k3:=gY i (c.ok _ d).1;have k4:=iK (c.ok _ d).2 k3;have A:=OT i (c.ok _ d).1 ⟨y,u⟩ (aX (c.fit _ d).1) (by decide);have D:=OQ (c.ok _ d).2 k3 (iw.mono (L:=51) (aX (c.fit _ d).2) (by decide)) v (by decide);have B:=Fq z k4 o (r.mono (by decide)) (by decide);have t:=xE o (r.mono (by decide));have e:atR l x=gK (jc q0 l)[gJ l x - 1] (iJ l[gJ l x - 1].2 (eu x l[gJ l x - 1].1)):=by
   unfold atR;rw [ο,ο,ξ k,ξ h];rfl
  rw [e];have C:=Y0 (eQ z k4) (χ t.1 (by decide)) (χ t.2 (by decide));refine adz x _ _ _ _ _ (gJ l x - 1) (gJ l x) 0 f u1 u2 l _ l[gJ l x - 1] _ _ (fZ k) (L9 h) ?_ (Yq0 (by omega)) (Yq0 (by omega)) (Yq0 (by omega)) (aN (Yq1 (by omega))) rfl j g (VE f u1 u2 c) A D B C;congr 1;rw [show ((gJ l x:Nat):Int) - ((1:Nat):Int)=((gJ l x - 1:Nat):Int) by omega];exact aO (by omega)
def iM (x:Br):Bool:=iG x.fn x.fa x.fd && iG x.rn x.ra x.rd
def Str (nm:List UInt8) (u1 u2:Int) (l:List Br) (k:Nat):St:=⟨[(1,.ptr 0 0 0),(3,.sl (gy l) l.length false),(4,ω (k:Int))],[(0,⟨[.str nm,ω u1,ω u2,.sl (gy l) l.length false],0,false,0,0,true⟩)],.dead,[]⟩
def agB (l:List Br):Bool→St
 |true=> ⟨[(3,.sl (gy l) l.length false)],[],.dead,[]⟩
 |false=> ⟨[(2,.int .i64 11)],[],.dead,[]⟩
def Er:Bool→bG
 |true=> .exit 0
 |false=> .ret
theorem air {nt:Nat} (f:96≤nt) (q:List UInt8) (u1 u2:Int) (l:List Br) (m:l.length<2^40) (i:∀ x ∈ l,x.sm):∀ (r p:List Br),p++r=l→
  az prog ap [] nt (af 0 (ah f206)) Er (Str q u1 u2 l) (agB l) p.length (r.all iM):=by
 intro r
 induction r with
 |nil=>
  intro p hp;rw [Γ] at hp;subst hp;have c:(decide ((p.length:Int)<(p.length:Int)))=false:=Yq1 (by omega);exact .done (pN 206 [] 1 0 (.c (aN c) .nil) (.nil) f)
 | cons x r ih=>
  intro p hp;have n:p.length<l.length:=by rw [← hp];simp
  have h:l[p.length]=x:=by subst hp;simp
  have d:=nY n;rw [h] at d;have e:=ih (p++ [x]) (by rw [← hp];simp);rw [θ,σ] at e;have hs:=i x (by rw [← hp];simp);have j:CO 137 [UF x] (.ret (.bool (iG x.fn x.fa x.fd))):=oI x.fn x.fa x.fd hs.1.1 hs.1.2;have g:CO 137 [brR x] (.ret (.bool (iG x.rn x.ra x.rd))):=oI x.rn x.ra x.rd hs.2.1 hs.2.2;generalize p.length=k at*
  generalize gy (l.drop (k+1))=rB at d;have c:(decide ((k:Int)<(l.length:Int)))=true:=Yq0 (by omega);have o:k<2^62:=by omega
  rcases tf (iG x.fn x.fa x.fd) with d0|d0
  ·rcases tf (iG x.rn x.ra x.rd) with d1|d1
   ·simp only [Xxs,iM,d0,d1,Xx8,Xji,Xjr,Xzr];exact .next (pN 206 [] 3 1 (.c (aU d1) (.c (aU d0) (.k 3 (zo k) (.c c (.k 3 (zo k) (.c c (.c (aK c) .nil))))))) (.v 26 (.eq (Ci o)) (.c g (.v 35 (.ppt d) (.c j (.v 29 (.ppt d) .nil))))) f) e
   ·simp only [Xxs,iM,d0,d1,Xx8,Xji,Xjr,Xzr];exact .done (pN 206 [] 3 5 (.c (dW d1) (.c (aU d0) (.k 3 (zo k) (.c c (.k 3 (zo k) (.c c (.c (aK c) .nil))))))) (.c g (.v 35 (.ppt d) (.c j (.v 29 (.ppt d) .nil)))) f)
  ·simp only [Xxs,iM,d0,Xx8,Xji,Xjr,Xzr];exact .done (pN 206 [] 3 7 (.k 1 (dW d0) (.k 3 (zo k) (.c c (.k 3 (zo k) (.c c (.c (aK c) .nil)))))) (.c g (.v 35 (.ppt d) (.c j (.v 29 (.ppt d) .nil)))) f)
def wG (x:Br):Bool:=fB x.fn x.fa x.fd && fB x.rn x.ra x.rd
def Stf (l:List Br) (k:Nat):St:=⟨[(3,.sl (gy l) l.length false),(10,ω (k:Int))],[],.dead,[]⟩
def agA (l:List Br):Bool→St
 |true=> ⟨[(3,.sl (gy l) l.length false)],[],.dead,[]⟩
 |false=> ⟨[(2,.int .i64 3)],[],.dead,[]⟩
def Ef:Bool→bG
 |true=> .exit 4
 |false=> .ret
theorem aiq {nt:Nat} (f:96≤nt) (l:List Br) (m:l.length<2^40) (i:∀ x ∈ l,x.sm):∀ (r p:List Br),p++r=l→
  az prog ap [] nt (af 4 (ah f206)) Ef (Stf l) (agA l) p.length (r.all wG):=by
 intro r
 induction r with
 |nil=>
  intro p hp;rw [Γ] at hp;subst hp;have c:(decide ((p.length:Int)<(p.length:Int)))=false:=Yq1 (by omega);exact .done (pN 206 [] 1 0 (.c (aN c) .nil) (.nil) f)
 | cons x r ih=>
  intro p hp;have n:p.length<l.length:=by rw [← hp];simp
  have h:l[p.length]=x:=by subst hp;simp
  have d:=nY n;rw [h] at d;have e:=ih (p++ [x]) (by rw [← hp];simp);rw [θ,σ] at e;have hs:=i x (by rw [← hp];simp);have j:CO 81 [UF x] (.ret (.bool (fB x.fn x.fa x.fd))):=lL x.fn x.fa x.fd hs.1.1 hs.1.2;have g:CO 81 [brR x] (.ret (.bool (fB x.rn x.ra x.rd))):=lL x.rn x.ra x.rd hs.2.1 hs.2.2;generalize p.length=k at*
  generalize gy (l.drop (k+1))=rB at d;have c:(decide ((k:Int)<(l.length:Int)))=true:=Yq0 (by omega);have o:k<2^62:=by omega
  rcases tf (fB x.fn x.fa x.fd) with d0|d0
  ·rcases tf (fB x.rn x.ra x.rd) with d1|d1
   ·simp only [Xxs,wG,d0,d1,Xx8,Xji,Xjr,Xzr];exact .next (pN 206 [] 3 1 (.c (aU d1) (.c (aU d0) (.k 3 (zo k) (.c c (.k 3 (zo k) (.c c (.c (aK c) .nil))))))) (.v 77 (.eq (Ci o)) (.c g (.v 86 (.ppt d) (.c j (.v 80 (.ppt d) .nil))))) f) e
   ·simp only [Xxs,wG,d0,d1,Xx8,Xji,Xjr,Xzr];exact .done (pN 206 [] 3 5 (.c (dW d1) (.c (aU d0) (.k 3 (zo k) (.c c (.k 3 (zo k) (.c c (.c (aK c) .nil))))))) (.c g (.v 86 (.ppt d) (.c j (.v 80 (.ppt d) .nil)))) f)
  ·simp only [Xxs,wG,d0,Xx8,Xji,Xjr,Xzr];exact .done (pN 206 [] 3 7 (.k 1 (dW d0) (.k 3 (zo k) (.c c (.k 3 (zo k) (.c c (.c (aK c) .nil)))))) (.c g (.v 86 (.ppt d) (.c j (.v 80 (.ppt d) .nil)))) f)
def BZ (cmp:Br→Br→Int):Br→List Br→Bool
 |_,[]=>true
 |y,x::r=>cond (decide (((0:Nat):Int)≤cmp y x)) false (BZ cmp x r)
def Sta (l:List Br) (k:Nat):St:=⟨[(3,.sl (gy l) l.length false),(8,ω (k:Int))],[],.dead,[]⟩
def agz (l:List Br):Bool→St
 |true=> ⟨[(3,.sl (gy l) l.length false)],[],.dead,[]⟩
 |false=> ⟨[(2,.int .i64 11)],[],.dead,[]⟩
def Ea:Bool→bG
 |true=> .exit 2
 |false=> .ret
theorem aip {nt:Nat} (q:96≤nt) (l:List Br) (cmp:Br→Br→Int) (t:l.length<2^40) (w:∀ x ∈ l,iM x=true) (B:xJ 87 cmp l):∀ (r p:List Br) (y:Br),(p++ [y])++r=l→
  az prog ap [] nt (af 2 (ah f206)) Ea (Sta l) (agz l) (p.length+1) (BZ cmp y r):=by
 intro r
 induction r with
 |nil=>
  intro p y hp;rw [Γ] at hp;generalize o:p.length+1=k;have A:l.length=k:=by rw [← hp,← o];simp
  have f:(decide ((k:Int)<(l.length:Int)))=false:=Yq1 (by omega);exact .done (pN 206 [] 1 0 (.c (aN f) .nil) (.nil) q)
 | cons x r ih=>
  intro p y hp;have u:p.length+1<l.length:=by rw [← hp];simp
  have c:p.length<l.length:=by omega
  have g:l[p.length+1]=x:=by subst hp;simp
  have h:l[p.length]=y:=by subst hp;simp
  have n:=nY u;have m:=nY c;rw [g] at n;rw [h] at m;have i:=ih (p++ [y]) x (by rw [← hp];simp);rw [θ,σ] at i;have d:=w x (by rw [← hp];simp);unfold iM at d;rw [π] at d;have v:=B p.length y x (by rw [ξ c,h]) (by rw [ξ u,g]) d.1 d.2;unfold BZ;have e:p.length+1=p.length+1:=rfl;generalize o:p.length+1=k at*
  generalize C:p.length=k1 at*
  have e:k=k1+1:=o.symm;generalize gy (l.drop (k+1))=rB at n;generalize gy (l.drop k)=rC at m;have f:(decide ((k:Int)<(l.length:Int)))=true:=Yq0 (by omega);have z:k<2^62:=by omega
  have j:k<2^40:=by omega
  rcases tf (decide (((0:Nat):Int)≤(cmp y x))) with d0|d0
  ·rw [d0];exact .done (pN 206 [] 2 3 (.c (aK d0) (.k 3 (zo k) (.c f (.k 3 (zo k1) (.c (dlt c) (.c (aK f) .nil)))))) (.c v (.v 66 (.ppt n) (.v 61 (.ppt m) (.v 60 (.eq (wkn e j)) .nil)))) q)
  ·rw [d0];exact .next (pN 206 [] 2 1 (.c (aN d0) (.k 3 (zo k) (.c f (.k 3 (zo k1) (.c (dlt c) (.c (aK f) .nil)))))) (.v 57 (.eq (Ci z)) (.c v (.v 66 (.ppt n) (.v 61 (.ppt m) (.v 60 (.eq (wkn e j)) .nil))))) q) i
theorem amY (c:List UInt8) (u1 u2:Int) (l:List Br) (f:(decide (((8:Nat):Int)<(l.length:Int)))=false) (e:((l.length:Int)==((0:Nat):Int))=false) (d:aG prog ap [] 96 (.block 0 (.loop (af 0 (ah f206)))) ⟨[(0,.agg [.str c,ω u1,ω u2,.sl (gy l) l.length false]),(1,.ptr 0 0 0),(2,ω 0),(3,.sl (gy l) l.length false),(4,ω 0),(5,.dead),(6,.dead),(7,.dead),(8,.dead),(9,.dead),(10,.dead),(11,.dead),(12,.dead),(17,.bool (decide (((8:Nat):Int)<(l.length:Int)))),(20,.bool ((l.length:Int)==((0:Nat):Int))),(24,.dead),(44,.dead),(51,.dead),(55,.dead),(71,.dead),(75,.dead),(95,.dead)],[(0,⟨[.str c,ω u1,ω u2,.sl (gy l) l.length false],0,false,0,0,true⟩)],.dead,[]⟩ (.ret) ⟨[(2,ω 11)],[],.dead,[]⟩):CO 206 [.agg [.str c,ω u1,ω u2,.sl (gy l) l.length false]] (.ret (ω 11)):=pK [0,2,4] 2 0 (.c (aN e) (.c (aN f) (.n 1 .nil))) (.l d .nil)
theorem am1 (e:List UInt8) (u1 u2:Int) (l:List Br) (k:(decide (((8:Nat):Int)<(l.length:Int)))=false) (j:((l.length:Int)==((0:Nat):Int))=false) (c:Br) (h:List AV) (f:ε 0 (gy l)=Io c++h) (d:(decide (((0:Nat):Int)<(l.length:Int)))=true) (g:CO 141 [UF c] (.ret (ω (jD c.fn c.fa c.fd)))) (z:((jD c.fn c.fa c.fd)==((0:Nat):Int))=false) (i:aG prog ap [] 96 (.block 0 (.loop (af 0 (ah f206)))) ⟨[(0,.agg [.str e,ω u1,ω u2,.sl (gy l) l.length false]),(1,.ptr 0 0 0),(2,ω 0),(3,.sl (gy l) l.length false),(4,ω 0),(5,.dead),(6,.dead),(7,.dead),(8,.dead),(9,.dead),(10,.dead),(11,.dead),(12,.dead),(17,.bool (decide (((8:Nat):Int)<(l.length:Int)))),(20,.bool ((l.length:Int)==((0:Nat):Int))),(24,.dead),(44,.dead),(51,.dead),(55,.dead),(71,.dead),(75,.dead),(95,.dead)],[(0,⟨[.str e,ω u1,ω u2,.sl (gy l) l.length false],0,false,0,0,true⟩)],.dead,[]⟩ (.normal) ⟨[(3,.sl (gy l) l.length false)],[],.dead,[]⟩):CO 206 [.agg [.str e,ω u1,ω u2,.sl (gy l) l.length false]] (.ret (ω 11)):=pK [0,2,4] 3 4 (.c (dW z) (.k 4 d (.c (aN j) (.c (aN k) (.n 1 .nil))))) (.c g (.v 46 (.ppt f) (.l i .nil)))
theorem amZ (e:List UInt8) (u1 u2:Int) (l:List Br) (m:(decide (((8:Nat):Int)<(l.length:Int)))=false) (j:((l.length:Int)==((0:Nat):Int))=false) (c:Br) (h:List AV) (f:ε 0 (gy l)=Io c++h) (d:(decide (((0:Nat):Int)<(l.length:Int)))=true) (g:CO 141 [UF c] (.ret (ω (jD c.fn c.fa c.fd)))) (z:((jD c.fn c.fa c.fd)==((0:Nat):Int))=true) (i:aG prog ap [] 96 (.block 0 (.loop (af 0 (ah f206)))) ⟨[(0,.agg [.str e,ω u1,ω u2,.sl (gy l) l.length false]),(1,.ptr 0 0 0),(2,ω 0),(3,.sl (gy l) l.length false),(4,ω 0),(5,.dead),(6,.dead),(7,.dead),(8,.dead),(9,.dead),(10,.dead),(11,.dead),(12,.dead),(17,.bool (decide (((8:Nat):Int)<(l.length:Int)))),(20,.bool ((l.length:Int)==((0:Nat):Int))),(24,.dead),(44,.dead),(51,.dead),(55,.dead),(71,.dead),(75,.dead),(95,.dead)],[(0,⟨[.str e,ω u1,ω u2,.sl (gy l) l.length false],0,false,0,0,true⟩)],.dead,[]⟩ (.normal) ⟨[(3,.sl (gy l) l.length false)],[],.dead,[]⟩) (k:aG prog ap [] 96 (.block 2 (.loop (af 2 (ah f206)))) ⟨[(0,.dead),(1,.dead),(2,.dead),(3,.sl (gy l) l.length false),(4,.dead),(5,.dead),(6,.dead),(7,ω (jD c.fn c.fa c.fd)),(8,ω 1),(9,.dead),(10,.dead),(11,.dead),(12,.dead),(17,.dead),(20,.dead),(24,.dead),(44,.dead),(51,.bool (!((jD c.fn c.fa c.fd)==((0:Nat):Int)))),(55,.dead),(71,.dead),(75,.dead),(95,.dead)],[],.dead,[]⟩ (.ret) ⟨[(2,ω 11)],[],.dead,[]⟩):CO 206 [.agg [.str e,ω u1,ω u2,.sl (gy l) l.length false]] (.ret (ω 11)):=pK [0,2,4] 3 0 (.c (aU z) (.k 4 d (.c (aN j) (.c (aN m) (.n 1 .nil))))) (.l k (.c g (.v 46 (.ppt f) (.l i .nil))))
theorem am0 (e:List UInt8) (u1 u2:Int) (l:List Br) (n:(decide (((8:Nat):Int)<(l.length:Int)))=false) (k:((l.length:Int)==((0:Nat):Int))=false) (c:Br) (h:List AV) (f:ε 0 (gy l)=Io c++h) (d:(decide (((0:Nat):Int)<(l.length:Int)))=true) (g:CO 141 [UF c] (.ret (ω (jD c.fn c.fa c.fd)))) (z:((jD c.fn c.fa c.fd)==((0:Nat):Int))=true) (j:aG prog ap [] 96 (.block 0 (.loop (af 0 (ah f206)))) ⟨[(0,.agg [.str e,ω u1,ω u2,.sl (gy l) l.length false]),(1,.ptr 0 0 0),(2,ω 0),(3,.sl (gy l) l.length false),(4,ω 0),(5,.dead),(6,.dead),(7,.dead),(8,.dead),(9,.dead),(10,.dead),(11,.dead),(12,.dead),(17,.bool (decide (((8:Nat):Int)<(l.length:Int)))),(20,.bool ((l.length:Int)==((0:Nat):Int))),(24,.dead),(44,.dead),(51,.dead),(55,.dead),(71,.dead),(75,.dead),(95,.dead)],[(0,⟨[.str e,ω u1,ω u2,.sl (gy l) l.length false],0,false,0,0,true⟩)],.dead,[]⟩ (.normal) ⟨[(3,.sl (gy l) l.length false)],[],.dead,[]⟩) (m:aG prog ap [] 96 (.block 2 (.loop (af 2 (ah f206)))) ⟨[(0,.dead),(1,.dead),(2,.dead),(3,.sl (gy l) l.length false),(4,.dead),(5,.dead),(6,.dead),(7,ω (jD c.fn c.fa c.fd)),(8,ω 1),(9,.dead),(10,.dead),(11,.dead),(12,.dead),(17,.dead),(20,.dead),(24,.dead),(44,.dead),(51,.bool (!((jD c.fn c.fa c.fd)==((0:Nat):Int)))),(55,.dead),(71,.dead),(75,.dead),(95,.dead)],[],.dead,[]⟩ (.normal) ⟨[(3,.sl (gy l) l.length false)],[],.dead,[]⟩) (i:aG prog ap [] 96 (.block 4 (.loop (af 4 (ah f206)))) ⟨[(0,.dead),(1,.dead),(2,.dead),(3,.sl (gy l) l.length false),(4,.dead),(5,.dead),(6,.dead),(7,.dead),(8,.dead),(9,.dead),(10,ω 0),(11,.dead),(12,.dead),(17,.dead),(20,.dead),(24,.dead),(44,.dead),(51,.dead),(55,.dead),(71,.dead),(75,.dead),(95,.dead)],[],.dead,[]⟩ (.ret) ⟨[(2,ω 3)],[],.dead,[]⟩):CO 206 [.agg [.str e,ω u1,ω u2,.sl (gy l) l.length false]] (.ret (ω 3)):=pK [0,2,4] 3 0 (.c (aU z) (.k 4 d (.c (aN k) (.c (aN n) (.n 1 .nil))))) (.l i (.l m (.c g (.v 46 (.ppt f) (.l j .nil)))))
theorem am2 (e:List UInt8) (u1 u2:Int) (l:List Br) (n:(decide (((8:Nat):Int)<(l.length:Int)))=false) (k:((l.length:Int)==((0:Nat):Int))=false) (c:Br) (h:List AV) (f:ε 0 (gy l)=Io c++h) (d:(decide (((0:Nat):Int)<(l.length:Int)))=true) (g:CO 141 [UF c] (.ret (ω (jD c.fn c.fa c.fd)))) (z:((jD c.fn c.fa c.fd)==((0:Nat):Int))=true) (j:aG prog ap [] 96 (.block 0 (.loop (af 0 (ah f206)))) ⟨[(0,.agg [.str e,ω u1,ω u2,.sl (gy l) l.length false]),(1,.ptr 0 0 0),(2,ω 0),(3,.sl (gy l) l.length false),(4,ω 0),(5,.dead),(6,.dead),(7,.dead),(8,.dead),(9,.dead),(10,.dead),(11,.dead),(12,.dead),(17,.bool (decide (((8:Nat):Int)<(l.length:Int)))),(20,.bool ((l.length:Int)==((0:Nat):Int))),(24,.dead),(44,.dead),(51,.dead),(55,.dead),(71,.dead),(75,.dead),(95,.dead)],[(0,⟨[.str e,ω u1,ω u2,.sl (gy l) l.length false],0,false,0,0,true⟩)],.dead,[]⟩ (.normal) ⟨[(3,.sl (gy l) l.length false)],[],.dead,[]⟩) (m:aG prog ap [] 96 (.block 2 (.loop (af 2 (ah f206)))) ⟨[(0,.dead),(1,.dead),(2,.dead),(3,.sl (gy l) l.length false),(4,.dead),(5,.dead),(6,.dead),(7,ω (jD c.fn c.fa c.fd)),(8,ω 1),(9,.dead),(10,.dead),(11,.dead),(12,.dead),(17,.dead),(20,.dead),(24,.dead),(44,.dead),(51,.bool (!((jD c.fn c.fa c.fd)==((0:Nat):Int)))),(55,.dead),(71,.dead),(75,.dead),(95,.dead)],[],.dead,[]⟩ (.normal) ⟨[(3,.sl (gy l) l.length false)],[],.dead,[]⟩) (i:aG prog ap [] 96 (.block 4 (.loop (af 4 (ah f206)))) ⟨[(0,.dead),(1,.dead),(2,.dead),(3,.sl (gy l) l.length false),(4,.dead),(5,.dead),(6,.dead),(7,.dead),(8,.dead),(9,.dead),(10,ω 0),(11,.dead),(12,.dead),(17,.dead),(20,.dead),(24,.dead),(44,.dead),(51,.dead),(55,.dead),(71,.dead),(75,.dead),(95,.dead)],[],.dead,[]⟩ (.normal) ⟨[(3,.sl (gy l) l.length false)],[],.dead,[]⟩):CO 206 [.agg [.str e,ω u1,ω u2,.sl (gy l) l.length false]] (.ret (ω 0)):=pK [0,2,4] 3 0 (.c (aU z) (.k 4 d (.c (aN k) (.c (aN n) (.n 1 .nil))))) (.l i (.l m (.c g (.v 46 (.ppt f) (.l j .nil)))))
theorem J4 (cmp:Br→Br→Int):∀ (r:List Br) (y:Br),GI cmp (some y) r=(r.all iM && BZ cmp y r)
 | [],_=>rfl
 |x::r,y=>by
  simp only [GI,Xxs,BZ,iM,J4 cmp r x];cases iG x.fn x.fa x.fd<;>cases iG x.rn x.ra x.rd<;>cases decide (((0:Nat):Int)≤cmp y x)<;>cases r.all iM<;>simp
theorem J3 (cmp:Br→Br→Int) (x:Br) (r:List Br):GI cmp none (x::r)=((x::r).all iM && ((jD x.fn x.fa x.fd==((0:Nat):Int)) && BZ cmp x r)):=by
 simp only [GI,Xxs,iM,J4 cmp r x];cases iG x.fn x.fa x.fd<;>cases iG x.rn x.ra x.rd<;>cases (jD x.fn x.fa x.fd==((0:Nat):Int))<;>cases r.all iM<;>simp
theorem Ij:∀ l:List Br,l.any Gg= !(l.all wG)
 | []=>rfl
 |x::r=>by
  rw [Xvv,Xxs,Ij r];simp only [Gg,wG];cases fB x.fn x.fa x.fd<;>cases fB x.rn x.ra x.rd<;>simp
theorem OE (g:List UInt8) (u1 u2:Int) (l:List Br) (cmp:Br→Br→Int) (e:l.length<2^40) (i:∀ x ∈ l,x.sm) (y:xJ 87 cmp l):CO 206 [.agg [.str g,ω u1,ω u2,.sl (gy l) l.length false]] (.ret (ω (PE cmp l))):=by
 unfold PE;rcases tf (decide (((8:Nat):Int)<(l.length:Int))) with d0|d0
 ·rw [d0];exact pK [] 1 1 (.c (aK d0) (.n 1 .nil)) (.nil)
 ·rw [d0];rcases tf ((l.length:Int)==((0:Nat):Int)) with d1|d1
  ·rw [d1];exact pK [] 2 2 (.c (aK d1) (.c (aN d0) (.n 1 .nil))) (.nil)
  ·rw [d1];have t:l ≠ []:=by intro h;subst h;exact absurd d1 (by decide)
   obtain ⟨c,r,m⟩:=List.exists_cons_of_ne_nil t;have d:(decide (((0:Nat):Int)<(l.length:Int)))=true:=Yq0 (by rw [m];simp only [μ];omega);have f:ε 0 (gy l)=Io c++gy r:=by rw [m];rfl
   have hs:=i c (by rw [m];simp);have p:CO 141 [UF c] (.ret (ω (jD c.fn c.fa c.fd))):=Ag c.fn c.fa c.fd hs.1.1 hs.1.2;have w:GI cmp none l=(l.all iM && ((jD c.fn c.fa c.fd==((0:Nat):Int)) && BZ cmp c r)):=by rw [m];exact J3 cmp c r
   have j:∀ nt,96≤nt→az prog ap [] nt (af 0 (ah f206)) Er (Str g u1 u2 l) (agB l) 0 (l.all iM):=fun nt n=>air n g u1 u2 l e i l [] rfl
   have o:∀ nt,96≤nt→az prog ap [] nt (af 4 (ah f206)) Ef (Stf l) (agA l) 0 (l.all wG):=fun nt n=>aiq n l e i l [] rfl
   rw [w,Ij];cases q:l.all iM with
   |false=>
    rw [q] at j;rw [Xji];exact amY g u1 u2 l d0 d1 (az.blk j (by simp [Er]) rfl (aH.of ⟨rfl,rfl,rfl,trivial⟩) (aH.of ⟨rfl,trivial⟩))
   | true=>
    have k:∀ nt,96≤nt→az prog ap [] nt (af 2 (ah f206)) Ea (Sta l) (agz l) 1 (BZ cmp c r):=fun nt n=>aip n l cmp e (List.all_eq_true.1 q) y r [] c (by rw [m];rfl)
    rw [q] at j;rw [Xx8];rcases tf ((jD c.fn c.fa c.fd)==((0:Nat):Int)) with z|z
    ·rw [z,Xx8];cases v:BZ cmp c r with
     |false=>
      rw [v] at k;exact amZ g u1 u2 l d0 d1 c _ f d p z (az.blk j (by simp [Er]) rfl (aH.of ⟨rfl,rfl,rfl,trivial⟩) (aH.of ⟨rfl,trivial⟩)) (az.blk k (by simp [Ea]) rfl (aH.of ⟨rfl,rfl,trivial⟩) (aH.of ⟨rfl,trivial⟩))
     | true=>
      rw [v] at k;cases u:l.all wG with
      |false=>
       rw [u] at o;exact am0 g u1 u2 l d0 d1 c _ f d p z (az.blk j (by simp [Er]) rfl (aH.of ⟨rfl,rfl,rfl,trivial⟩) (aH.of ⟨rfl,trivial⟩)) (az.blk k (by simp [Ea]) rfl (aH.of ⟨rfl,rfl,trivial⟩) (aH.of ⟨rfl,trivial⟩)) (az.blk o (by simp [Ef]) rfl (aH.of ⟨rfl,rfl,trivial⟩) (aH.of ⟨rfl,trivial⟩))
      |true=>
       rw [u] at o;exact am2 g u1 u2 l d0 d1 c _ f d p z (az.blk j (by simp [Er]) rfl (aH.of ⟨rfl,rfl,rfl,trivial⟩) (aH.of ⟨rfl,trivial⟩)) (az.blk k (by simp [Ea]) rfl (aH.of ⟨rfl,rfl,trivial⟩) (aH.of ⟨rfl,trivial⟩)) (az.blk o (by simp [Ef]) rfl (aH.of ⟨rfl,rfl,trivial⟩) (aH.of ⟨rfl,trivial⟩))
    ·rw [z,Xji];exact am1 g u1 u2 l d0 d1 c _ f d p z (az.blk j (by simp [Er]) rfl (aH.of ⟨rfl,rfl,rfl,trivial⟩) (aH.of ⟨rfl,trivial⟩))
structure Lk where
 op:Int
 nm:List UInt8
 n:Bool
 a:List UInt8
 d:List UInt8
 e:Int
def V5 (x:Lk):List AV:= [ω x.op,.str x.nm,.bool x.n,.str x.a,.str x.d,ω x.e]
def dJ (l:List Lk):List AV:=l.flatMap V5
abbrev Jg (ls:List Lk) (cs:List Sc) (nl ns:Bool) (a b c d:List AV):Hp:= [(0,⟨[.sl (dJ ls) ls.length nl,.sl (dF cs) cs.length ns],0,false,0,0,true⟩),(1,⟨[.mp [] [],.mp [] []],0,false,0,0,true⟩),(2,⟨[.mr 3 0,.mr 4 0],0,false,0,0,false⟩),(3,⟨[.agg a,.agg b],0,false,0,4611686018427387904,true⟩),(4,⟨[.agg c,.agg d],0,false,0,4611686018427387904,true⟩)]
theorem Y_ (c:Oq) (g h i e:Bool) (p m d:List UInt8) (ks vs k f:List AV) (o:lit true (!e)=true) (j:CO 128 [.agg [.bool c.n,.str c.a,.str c.d]] (.ret (.tup [.bool i,.bool e]))) (n:CO 41 [ω 13] (.ret (.agg [.bool false,.str [],.str [],ω 13]))):CO 78 [.agg [.mp ks vs,.mp k f],.agg [ω 20,.bool g,.str p,.str m,.str d],.sl [.bool c.n,.str c.a,.str c.d,ω c.e] 1 h] (.ret (.agg [.bool false,.str [],.str [],ω 13])):=pK [] 2 3 (.k 5 o (.n 11 .nil)) (.c n (.c j .nil))
theorem Za (c o:Oq) (h i f e:Bool) (q m d:List UInt8) (ks vs k g:List AV) (p:lit false (!e)=true) (j:CO 128 [.agg [.bool c.n,.str c.a,.str c.d]] (.ret (.tup [.bool f,.bool e]))) (n:CO 126 [.bool (!f)] (.ret (eF o))):CO 78 [.agg [.mp ks vs,.mp k g],.agg [ω 20,.bool h,.str q,.str m,.str d],.sl [.bool c.n,.str c.a,.str c.d,ω c.e] 1 i] (.ret (eF o)):=pK [] 2 1 (.k 5 p (.n 11 .nil)) (.c n (.c j .nil))
theorem Zb (c o:Oq) (q e:RQ) (g:Bool) (d:List UInt8) (ks vs i f:List AV) (h:CO 131 [.agg [.bool c.n,.str c.a,.str c.d],qA e] (.ret (.tup [qA q,.bool true]))) (j:CO 124 [qA q] (.ret (eF o))):CO 78 [.agg [.mp ks vs,.mp i f],.agg [ω 21,.bool e.neg,.str (ae e.n),.str (ae e.d),.str d],.sl [.bool c.n,.str c.a,.str c.d,ω c.e] 1 g] (.ret (eF o)):=pK [] 3 4 (.n 25 .nil) (.c j (.c h .nil))
theorem Zc (c o:Oq) (q e:RQ) (g:Bool) (d:List UInt8) (ks vs i f:List AV) (h:CO 132 [.agg [.bool c.n,.str c.a,.str c.d],qA e] (.ret (.tup [qA q,.bool true]))) (j:CO 124 [qA q] (.ret (eF o))):CO 78 [.agg [.mp ks vs,.mp i f],.agg [ω 22,.bool e.neg,.str (ae e.n),.str (ae e.d),.str d],.sl [.bool c.n,.str c.a,.str c.d,ω c.e] 1 g] (.ret (eF o)):=pK [] 4 8 (.n 26 .nil) (.c j (.c h .nil))
theorem Zd (c o:Oq) (q e:RQ) (g:Bool) (d:List UInt8) (ks vs i f:List AV) (h:CO 129 [.agg [.bool c.n,.str c.a,.str c.d],qA e] (.ret (.tup [qA q,.bool true]))) (j:CO 124 [qA q] (.ret (eF o))):CO 78 [.agg [.mp ks vs,.mp i f],.agg [ω 23,.bool e.neg,.str (ae e.n),.str (ae e.d),.str d],.sl [.bool c.n,.str c.a,.str c.d,ω c.e] 1 g] (.ret (eF o)):=pK [] 4 0 (.n 26 .nil) (.c j (.c h .nil))
theorem Ze (e:Oq) (h q g:Bool) (t j c k:List UInt8) (u1 u2:Int) (ks vs d f o:List AV) (n:Nat) (i:aS (.tup [(Xz1 (dV d f (.str c)) (.agg [.str [],ω 0,ω 0,.nilS])),.bool (Xj3 (dV d f (.str c)))]) (.tup [.agg [.str k,ω u1,ω u2,.sl o n false],.bool g])) (m:lit true (!g)=true) (p:(Xzu d (Qa 9))=true) (r:CO 41 [ω 12] (.ret (.agg [.bool false,.str [],.str [],ω 12]))):CO 78 [.agg [.mp ks vs,.mp d f],.agg [ω 24,.bool h,.str t,.str j,.str c],.sl [.bool e.n,.str e.a,.str e.d,ω e.e] 1 q] (.ret (.agg [.bool false,.str [],.str [],ω 12])):=pK [] 3 6 (.k 5 m (.k 2 p (.n 11 .nil))) (.c r (.v 43 i .nil))
theorem Zf (d o:Oq) (k r h:Bool) (u n c g:List UInt8) (u1 u2:Int) (ks vs e f j:List AV) (i:Nat) (m:aS (.tup [(Xz1 (dV e f (.str c)) (.agg [.str [],ω 0,ω 0,.nilS])),.bool (Xj3 (dV e f (.str c)))]) (.tup [.agg [.str g,ω u1,ω u2,.sl j i false],.bool h])) (p:lit false (!h)=true) (q:(Xzu e (Qa 9))=true) (t:CO 130 [.agg [.str g,ω u1,ω u2,.sl j i false],.agg [.bool d.n,.str d.a,.str d.d]] (.ret (.tup [.agg [.bool o.n,.str o.a,.str o.d],ω o.e]))):CO 78 [.agg [.mp ks vs,.mp e f],.agg [ω 24,.bool k,.str u,.str n,.str c],.sl [.bool d.n,.str d.a,.str d.d,ω d.e] 1 r] (.ret (eF o)):=pK [] 3 2 (.k 16 p (.k 2 q (.n 11 .nil))) (.c t (.v 43 m .nil))
theorem ahD (ks vs:List AV) (k:Nat) (ls:List Lk) (cs:List Sc) (x:Lk) (c e g:Bool) (o:List AV) (d h:Oq) {nt:Nat} (t:68≤nt) (p:(ε ((δ (k:Int))*6) (dJ ls))=V5 x++o) (m:Yqh [(Xz1 (dV ks vs (.agg [ω x.op,.str x.nm])) (.agg [.bool false,.str [],.str [],ω 0])),.bool (Xj3 (dV ks vs (.agg [ω x.op,.str x.nm])))]=Yqh [eF h,.bool g]) (q:ω (γ .i64 ((k:Int)+((1:Nat):Int)))=ω ((k+1:Nat):Int)) (f:(Xzu ks (Qa 134))=true) (r:lit true (!g)=true) (n:(decide (((0:Nat):Int)≤(k:Int)))=true) (i:(decide ((k:Int)<(ls.length:Int)))=true) (j:lit true (decide ((k:Int)<(ls.length:Int)))=true) (u:CO 43 [.agg [.bool x.n,.str x.a,.str x.d,ω x.e]] (.ret (eF d))):ψ nt f45 ⟨[(1,.ptr 0 0 0),(2,.ptr 1 0 0),(3,.ptr 2 0 0),(17,.sl (dJ ls) ls.length c),(18,ω (ls.length:Int)),(19,ω (k:Int))],(Jg ls cs c e ks vs [] []),.dead,[]⟩ (.normal) ⟨[(1,.ptr 0 0 0),(2,.ptr 1 0 0),(3,.ptr 2 0 0),(17,.sl (dJ ls) ls.length c),(18,ω (ls.length:Int)),(19,ω ((k+1:Nat):Int))],(Jg ls cs c e (xq ks (.agg [ω x.op,.str x.nm])) (oW ks vs (.agg [ω x.op,.str x.nm]) (eF d)) [] []),.dead,[]⟩:=pN 45 [] 2 3 (.k 1 f (.k 7 r (.k 2 f (.k 13 n (.c i (.c j .nil)))))) (.v 43 (.eq q) (.c u (.v 32 (.eq m) (.v 21 (.ppt p) .nil)))) t
theorem ahE (ks vs:List AV) (k:Nat) (ls:List Lk) (cs:List Sc) (x:Lk) (c d e:Bool) (n:List AV) (f:Oq) {nt:Nat} (r:68≤nt) (o:(ε ((δ (k:Int))*6) (dJ ls))=V5 x++n) (i:Yqh [(Xz1 (dV ks vs (.agg [ω x.op,.str x.nm])) (.agg [.bool false,.str [],.str [],ω 0])),.bool (Xj3 (dV ks vs (.agg [ω x.op,.str x.nm])))]=Yqh [eF f,.bool e]) (p:ω (γ .i64 ((k:Int)+((1:Nat):Int)))=ω ((k+1:Nat):Int)) (m:lit false (!e)=true) (q:(Xzu ks (Qa 134))=true) (j:(decide (((0:Nat):Int)≤(k:Int)))=true) (g:(decide ((k:Int)<(ls.length:Int)))=true) (h:lit true (decide ((k:Int)<(ls.length:Int)))=true):ψ nt f45 ⟨[(1,.ptr 0 0 0),(2,.ptr 1 0 0),(3,.ptr 2 0 0),(17,.sl (dJ ls) ls.length c),(18,ω (ls.length:Int)),(19,ω (k:Int))],(Jg ls cs c d ks vs [] []),.dead,[]⟩ (.normal) ⟨[(1,.ptr 0 0 0),(2,.ptr 1 0 0),(3,.ptr 2 0 0),(17,.sl (dJ ls) ls.length c),(18,ω (ls.length:Int)),(19,ω ((k+1:Nat):Int))],(Jg ls cs c d ks vs [] []),.dead,[]⟩:=pN 45 [] 2 1 (.c m (.k 2 q (.k 13 j (.c g (.c h .nil))))) (.v 43 (.eq p) (.v 32 (.eq i) (.v 21 (.ppt o) .nil))) r
theorem ahF (ks vs:List AV) (k:Nat) (ls:List Lk) (cs:List Sc) (c d:Bool) {nt:Nat} (e:68≤nt) (f:lit false (decide ((k:Int)<(ls.length:Int)))=true):ψ nt f45 ⟨[(1,.ptr 0 0 0),(2,.ptr 1 0 0),(3,.ptr 2 0 0),(17,.sl (dJ ls) ls.length c),(18,ω (ls.length:Int)),(19,ω (k:Int))],(Jg ls cs c d ks vs [] []),.dead,[]⟩ (.exit 0) ⟨[(1,.ptr 0 0 0),(2,.ptr 1 0 0),(3,.ptr 2 0 0)],(Jg ls cs c d ks vs [] []),.dead,[]⟩:=pN 45 [] 1 0 (.c f .nil) (.nil) e
theorem ahG (o:List UInt8) (u1 u2:Int) (ks vs d e v:List AV) (r k:Nat) (ls:List Lk) (cs:List Sc) (c:Sc) (h f i:Bool) (q:List AV) {nt:Nat} (y:68≤nt) (t:(ε ((δ (k:Int))*4) (dF cs))=MX c++q) (n:aS (.tup [(Xz1 (dV d e (.str c.name)) (.agg [.str [],ω 0,ω 0,.nilS])),.bool (Xj3 (dV d e (.str c.name)))]) (.tup [.agg [.str o,ω u1,ω u2,.sl v r false],.bool i])) (u:ω (γ .i64 ((k:Int)+((1:Nat):Int)))=ω ((k+1:Nat):Int)) (g:(Xzu d (Qa 9))=true) (w:lit true (!i)=true) (p:(decide (((0:Nat):Int)≤(k:Int)))=true) (j:(decide ((k:Int)<(cs.length:Int)))=true) (m:lit true (decide ((k:Int)<(cs.length:Int)))=true):ak prog ap [] nt (af 2 (ah f45)) ⟨[(1,.ptr 0 0 0),(2,.ptr 1 0 0),(3,.ptr 2 0 0),(45,.sl (dF cs) cs.length f),(46,ω (cs.length:Int)),(47,ω (k:Int))],(Jg ls cs h f ks vs d e),.dead,[]⟩ (.normal) ⟨[(1,.ptr 0 0 0),(2,.ptr 1 0 0),(3,.ptr 2 0 0),(45,.sl (dF cs) cs.length f),(46,ω (cs.length:Int)),(47,ω ((k+1:Nat):Int))],(Jg ls cs h f ks vs (xq d (.str c.name)) (oW d e (.str c.name) (.agg [.str c.name,ω c.u1,ω c.u2,.sl c.bx c.bn false]))),.dead,[]⟩:=pN 45 [] 2 3 (.k 1 g (.k 6 w (.k 2 g (.k 7 p (.c j (.c m .nil)))))) (.v 66 (.eq u) (.v 56 n (.v 49 (.ppt t) .nil))) y
theorem ahH (n:List UInt8) (u1 u2:Int) (ks vs d e v:List AV) (r k:Nat) (ls:List Lk) (cs:List Sc) (c:Sc) (g f h:Bool) (q:List AV) {nt:Nat} (y:68≤nt) (t:(ε ((δ (k:Int))*4) (dF cs))=MX c++q) (m:aS (.tup [(Xz1 (dV d e (.str c.name)) (.agg [.str [],ω 0,ω 0,.nilS])),.bool (Xj3 (dV d e (.str c.name)))]) (.tup [.agg [.str n,ω u1,ω u2,.sl v r false],.bool h])) (u:ω (γ .i64 ((k:Int)+((1:Nat):Int)))=ω ((k+1:Nat):Int)) (p:lit false (!h)=true) (w:(Xzu d (Qa 9))=true) (o:(decide (((0:Nat):Int)≤(k:Int)))=true) (i:(decide ((k:Int)<(cs.length:Int)))=true) (j:lit true (decide ((k:Int)<(cs.length:Int)))=true):ak prog ap [] nt (af 2 (ah f45)) ⟨[(1,.ptr 0 0 0),(2,.ptr 1 0 0),(3,.ptr 2 0 0),(45,.sl (dF cs) cs.length f),(46,ω (cs.length:Int)),(47,ω (k:Int))],(Jg ls cs g f ks vs d e),.dead,[]⟩ (.normal) ⟨[(1,.ptr 0 0 0),(2,.ptr 1 0 0),(3,.ptr 2 0 0),(45,.sl (dF cs) cs.length f),(46,ω (cs.length:Int)),(47,ω ((k+1:Nat):Int))],(Jg ls cs g f ks vs d e),.dead,[]⟩:=pN 45 [] 2 1 (.c p (.k 2 w (.k 7 o (.c i (.c j .nil))))) (.v 66 (.eq u) (.v 56 m (.v 49 (.ppt t) .nil))) y
theorem ahI (ks vs f d:List AV) (k:Nat) (ls:List Lk) (cs:List Sc) (e c:Bool) {nt:Nat} (g:68≤nt) (h:lit false (decide ((k:Int)<(cs.length:Int)))=true):ak prog ap [] nt (af 2 (ah f45)) ⟨[(1,.ptr 0 0 0),(2,.ptr 1 0 0),(3,.ptr 2 0 0),(45,.sl (dF cs) cs.length c),(46,ω (cs.length:Int)),(47,ω (k:Int))],(Jg ls cs e c ks vs f d),.dead,[]⟩ (.exit 2) ⟨[(1,.ptr 0 0 0),(2,.ptr 1 0 0),(3,.ptr 2 0 0)],(Jg ls cs e c ks vs f d),.dead,[]⟩:=pN 45 [] 1 0 (.c h .nil) (.nil) g
theorem adU (ks vs f e:List AV) (ls:List Lk) (cs:List Sc) (c d:Bool) (g:aG prog ap [] 68 (.block 0 (.loop (af 0 (ah f45)))) ⟨[(0,.agg [.sl (dJ ls) ls.length c,.sl (dF cs) cs.length d]),(1,.ptr 0 0 0),(2,.ptr 1 0 0),(3,.ptr 2 0 0),(5,.dead),(6,.dead),(8,.dead),(10,.dead),(12,.dead),(17,.sl (dJ ls) ls.length c),(18,ω (ls.length:Int)),(19,ω 0),(20,.dead),(36,.dead),(45,.dead),(46,.dead),(47,.dead),(48,.dead),(60,.dead)],(Jg ls cs c d [] [] [] []),.dead,[]⟩ (.normal) ⟨[(1,.ptr 0 0 0),(2,.ptr 1 0 0),(3,.ptr 2 0 0)],(Jg ls cs c d ks vs [] []),.dead,[]⟩) (h:aG prog ap [] 68 (.block 2 (.loop (af 2 (ah f45)))) ⟨[(0,.dead),(1,.ptr 0 0 0),(2,.ptr 1 0 0),(3,.ptr 2 0 0),(5,.dead),(6,.dead),(8,.dead),(10,.dead),(12,.dead),(17,.dead),(18,.dead),(19,.dead),(20,.dead),(36,.dead),(45,.sl (dF cs) cs.length d),(46,ω (cs.length:Int)),(47,ω 0),(48,.dead),(60,.dead)],(Jg ls cs c d ks vs [] []),.dead,[]⟩ (.normal) ⟨[(1,.ptr 0 0 0),(2,.ptr 1 0 0),(3,.ptr 2 0 0)],(Jg ls cs c d ks vs f e),.dead,[]⟩):CO 45 [.agg [.sl (dJ ls) ls.length c,.sl (dF cs) cs.length d]] (.ret (.agg [.mp ks vs,.mp f e])):=pK [0,2] 0 0 (.n 8 .nil) (.l h (.l g .nil))
theorem adK (o:Oq) (f g:Bool) (j i c:List UInt8) (d:Int) (ks vs h e:List AV) (m:lit true (decide (d≤((4:Nat):Int)))=true) (k:CO 75 [.agg [.mp ks vs,.mp h e],.agg [ω d,.bool f,.str j,.str i,.str c],.sl [] 0 g] (.ret (eF o))):CO 46 [.agg [.mp ks vs,.mp h e],.agg [ω d,.bool f,.str j,.str i,.str c],.sl [] 0 g] (.ret (eF o)):=pK [] 2 1 (.k 13 m (.n 3 .nil)) (.c k .nil)
theorem adM (o:Oq) (f g:Bool) (j i c:List UInt8) (d:Int) (ks vs h e:List AV) (n:lit true (decide (d≤((8:Nat):Int)))=true) (k:lit false (decide (d≤((4:Nat):Int)))=true) (m:CO 76 [.agg [.mp ks vs,.mp h e],.agg [ω d,.bool f,.str j,.str i,.str c],.sl [] 0 g] (.ret (eF o))):CO 46 [.agg [.mp ks vs,.mp h e],.agg [ω d,.bool f,.str j,.str i,.str c],.sl [] 0 g] (.ret (eF o)):=pK [] 3 2 (.k 13 n (.k 1 k (.n 3 .nil))) (.c m .nil)
theorem adN (c:Oq) (j k:Bool) (p n d:List UInt8) (e:Int) (ks vs m f:List AV) (o:lit true (!(c.e==((0:Nat):Int)))=true) (g:lit false (e==((15:Nat):Int))=true) (i:lit false (decide (e≤((8:Nat):Int)))=true) (h:lit false (decide (e≤((4:Nat):Int)))=true):CO 46 [.agg [.mp ks vs,.mp m f],.agg [ω e,.bool j,.str p,.str n,.str d],.sl [.bool c.n,.str c.a,.str c.d,ω c.e] 1 k] (.ret (eF c)):=pK [] 6 56 (.k 9 o (.k 12 g (.k 1 i (.k 1 h (.n 3 .nil))))) (.nil)
theorem adO (c o:Oq) (g h:Bool) (k j d:List UInt8) (e:Int) (ks vs i f:List AV) (r:lit false (!(c.e==((0:Nat):Int)))=true) (m:lit false (e==((15:Nat):Int))=true) (p:lit false (decide (e≤((8:Nat):Int)))=true) (n:lit false (decide (e≤((4:Nat):Int)))=true) (q:CO 78 [.agg [.mp ks vs,.mp i f],.agg [ω e,.bool g,.str k,.str j,.str d],.sl [.bool c.n,.str c.a,.str c.d,ω c.e] 1 h] (.ret (eF o))):CO 46 [.agg [.mp ks vs,.mp i f],.agg [ω e,.bool g,.str k,.str j,.str d],.sl [.bool c.n,.str c.a,.str c.d,ω c.e] 1 h] (.ret (eF o)):=pK [] 7 24 (.k 11 r (.k 12 m (.k 1 p (.k 1 n (.n 3 .nil))))) (.c q .nil)
theorem adP (c e:Oq) (k m:Bool) (q o d:List UInt8) (f:Int) (ks vs n g:List AV) (p:lit true (!(c.e==((0:Nat):Int)))=true) (h:lit false (f==((15:Nat):Int))=true) (j:lit false (decide (f≤((8:Nat):Int)))=true) (i:lit false (decide (f≤((4:Nat):Int)))=true):CO 46 [.agg [.mp ks vs,.mp n g],.agg [ω f,.bool k,.str q,.str o,.str d],.sl [.bool c.n,.str c.a,.str c.d,ω c.e,.bool e.n,.str e.a,.str e.d,ω e.e] 2 m] (.ret (eF c)):=pK [] 6 48 (.k 9 p (.k 10 h (.k 1 j (.k 1 i (.n 3 .nil))))) (.nil)
theorem adQ (d c:Oq) (m n:Bool) (r p e:List UInt8) (f:Int) (ks vs o g:List AV) (q:lit true (!(c.e==((0:Nat):Int)))=true) (h:lit false (!(d.e==((0:Nat):Int)))=true) (k:lit false (f==((15:Nat):Int))=true) (i:lit false (decide (f≤((8:Nat):Int)))=true) (j:lit false (decide (f≤((4:Nat):Int)))=true):CO 46 [.agg [.mp ks vs,.mp o g],.agg [ω f,.bool m,.str r,.str p,.str e],.sl [.bool d.n,.str d.a,.str d.d,ω d.e,.bool c.n,.str c.a,.str c.d,ω c.e] 2 n] (.ret (eF c)):=pK [] 8 208 (.k 9 q (.k 9 h (.k 10 k (.k 1 i (.k 1 j (.n 3 .nil)))))) (.nil)
theorem adR (c d o:Oq) (h k:Bool) (m j e:List UInt8) (f:Int) (ks vs i g:List AV) (r:lit false (!(d.e==((0:Nat):Int)))=true) (t:lit false (!(c.e==((0:Nat):Int)))=true) (q:lit false (f==((15:Nat):Int))=true) (n:lit false (decide (f≤((8:Nat):Int)))=true) (p:lit false (decide (f≤((4:Nat):Int)))=true) (u:CO 74 [.agg [.mp ks vs,.mp i g],.agg [ω f,.bool h,.str m,.str j,.str e],.sl [.bool c.n,.str c.a,.str c.d,ω c.e,.bool d.n,.str d.a,.str d.d,ω d.e] 2 k] (.ret (eF o))):CO 46 [.agg [.mp ks vs,.mp i g],.agg [ω f,.bool h,.str m,.str j,.str e],.sl [.bool c.n,.str c.a,.str c.d,ω c.e,.bool d.n,.str d.a,.str d.d,ω d.e] 2 k] (.ret (eF o)):=pK [] 9 80 (.k 11 r (.k 9 t (.k 10 q (.k 1 n (.k 1 p (.n 3 .nil)))))) (.c u .nil)
theorem adS (c f d o:Oq) (i j:Bool) (n m e:List UInt8) (g:Int) (ks vs k h:List AV) (t:lit true (g==((15:Nat):Int))=true) (p:lit false (decide (g≤((8:Nat):Int)))=true) (q:lit false (decide (g≤((4:Nat):Int)))=true) (r:CO 77 [.agg [.mp ks vs,.mp k h],.agg [ω g,.bool i,.str n,.str m,.str e],.sl [.bool c.n,.str c.a,.str c.d,ω c.e,.bool f.n,.str f.a,.str f.d,ω f.e,.bool d.n,.str d.a,.str d.d,ω d.e] 3 j] (.ret (eF o))):CO 46 [.agg [.mp ks vs,.mp k h],.agg [ω g,.bool i,.str n,.str m,.str e],.sl [.bool c.n,.str c.a,.str c.d,ω c.e,.bool f.n,.str f.a,.str f.d,ω f.e,.bool d.n,.str d.a,.str d.d,ω d.e] 3 j] (.ret (eF o)):=pK [] 3 4 (.k 12 t (.k 1 p (.k 1 q (.n 3 .nil)))) (.c r .nil)
def F_ (m:List AV × List AV) (k v:AV):List AV × List AV:=if (dV m.1 m.2 k).isSome then m else (xq m.1 k,oW m.1 m.2 k v)
theorem D_ (k v q:AV):∀ (ks vs:List AV),ks.length=vs.length→dV (ks++ [k]) (vs++ [v]) q=(dV ks vs q).or (if wZ q k then some v else none)
 | [],[],_=>by simp [dV];cases wZ q k<;>rfl
 |a::ks,b::vs,h=>by
  simp only [List.cons_append,dV];cases wZ q a with
  |true=>rfl
  |false=>exact D_ k v q ks vs (by simpa using h)
 | [],_::_,h=>by simp at h
 |_::_,[],h=>by simp at h
theorem G7 (q v:AV):∀ (ks vs:List AV),ks.length=vs.length→dV ks vs q=none→ks.any (wZ q)=false∧oW ks vs q v=vs++ [v]
 | [],[],_,_=> ⟨rfl,rfl⟩
 | a::ks,b::vs,h,hf=>by
  simp only [dV] at hf;cases c:wZ q a with
  |true=>rw [c] at hf;cases hf
  |false=>
   rw [c] at hf;obtain ⟨d,e⟩:=G7 q v ks vs (by simpa using h) hf;exact ⟨by simp [c,d],by simp [oW,c,e]⟩
 | [],_::_,h,_=>by simp at h
 |_::_,[],h,_=>by simp at h
structure Rh {α:Type} (kf vf:α→AV) (p:List α) (m:List AV × List AV):Prop where
 len:m.1.length=m.2.length
 find:∀ y,dV m.1 m.2 (kf y)=(p.find? fun x=>wZ (kf y) (kf x)).map vf
 keys:∀ k ∈ m.1,∃ x,k=kf x
theorem Rh.step {α:Type} {c vf:α→AV} (i:∀ x y,wZ (c x) (c y)=true→c x=c y) {p:List α} {m:List AV × List AV} (h:Rh c vf p m) (x:α):Rh c vf (p++ [x]) (F_ m (c x) (vf x)):=by
 unfold F_;cases hs:dV m.1 m.2 (c x) with
 | some v=>
  rw [if_pos (by rfl)];refine ⟨h.len,fun y=> ?_,h.keys⟩;rw [h.find y,Xkx];cases hp:p.find? (fun x=>wZ (c y) (c x)) with
  |some z=>rfl
  | none=>
   have g:=h.find x;rw [hs] at g;cases f:wZ (c y) (c x) with
   |false=>simp [f]
   |true=>
    rw [← i y x f,hp] at g;cases g
 | none=>
  obtain ⟨j,n⟩:=G7 (c x) (vf x) m.1 m.2 h.len hs;have e:xq m.1 (c x)=m.1++ [c x]:=by unfold xq;rw [j]
  rw [if_neg (by simp),e,n];refine ⟨by simp [h.len],fun y=> ?_,fun k d=> ?_⟩
  ·rw [D_ _ _ _ _ _ h.len,h.find y,Xkx];cases hp:p.find? (fun x=>wZ (c y) (c x)) with
   |some z=>rfl
   |none=>cases f:wZ (c y) (c x)<;>simp [f]
  ·rcases List.mem_append.1 d with d|d
   ·exact h.keys k d
   ·rw [Xzg] at d;exact ⟨x,d⟩
def Gl {α:Type} (kf vf:α→AV) (p:List α):List AV × List AV:=p.foldl (fun m x=>F_ m (kf x) (vf x)) ([],[])
theorem zY {α:Type} (c vf:α→AV) (p:List α) (x:α):Gl c vf (p++ [x])=F_ (Gl c vf p) (c x) (vf x):=by unfold Gl;rw [List.foldl_append];rfl
theorem EG {α:Type} {c vf:α→AV} (d:∀ x y,wZ (c x) (c y)=true→c x=c y) (l:List α):Rh c vf l (Gl c vf l):=by
 have key:∀ (r p:List α),Rh c vf p (Gl c vf p)→Rh c vf (p++r) (Gl c vf (p++r)):=by
  intro r
  induction r with
  |nil=>intro p h;simpa using h
  |cons x r ih=>
   intro p h;have e:=h.step d x;rw [← zY] at e;have:=ih (p++ [x]) e;simpa using this
 exact key l [] ⟨rfl,fun y=>rfl,fun k d=>by simp [Gl] at d⟩
def Uj (x:Lk):AV:= .agg [ω x.op,.str x.nm]
def lkV (x:Lk):Oq:=yR x.n x.a x.d x.e
def zS (ls:List Lk):List AV × List AV:=Gl Uj (fun x=>eF (lkV x)) ls
theorem Qd (x y:Lk) (h:wZ (Uj x) (Uj y)=true):Uj x=Uj y:=by
 simp only [Uj,wZ,II,D8,Xjr,π,beq_iff_eq] at h;unfold Uj;rw [h.1,h.2]
def Xw (c:Sc):AV:= .str c.name
def CY (cs:List Sc):List AV × List AV:=Gl Xw (fun c=> .agg (MX c)) cs
theorem QM (x y:Sc) (h:wZ (Xw x) (Xw y)=true):Xw x=Xw y:=by
 simp only [Xw,wZ,beq_iff_eq] at h;unfold Xw;rw [h]
def Qg (ls:List Lk) (op:Int) (nm:List UInt8):Option Oq:=(ls.find? fun y=>(op==y.op) && (nm==y.nm)).map lkV
def scO (cs:List Sc) (nm:List UInt8):Option Sc:=cs.find? fun c=>nm==c.name
theorem KX (ls:List Lk) (c:Int) (d:List UInt8):dV (zS ls).1 (zS ls).2 (.agg [ω c,.str d])=(Qg ls c d).map (fun o=>eF o):=by
 have h:=(EG (vf:=fun x=>eF (lkV x)) Qd ls).find ⟨c,d,false,[],[],0⟩;unfold zS Qg;rw [Option.map_map];refine h.trans ?_;congr 1;congr 1;funext y;simp [Uj,wZ,II,D8]
theorem L_ (cs:List Sc) (d:List UInt8):dV (CY cs).1 (CY cs).2 (.str d)=(scO cs d).map (fun c=> .agg (MX c)):=by
 have h:=(EG (vf:=fun c=>AV.agg (MX c)) QM cs).find ⟨d,0,0,[],0⟩;exact h
theorem ab8 {α:Type} {c vf:α→AV} (d:∀ x y,wZ (c x) (c y)=true→c x=c y) (t:Nat) (e:∀ x,Qa t (c x)=true) (l:List α):Xzu (Gl c vf l).1 (Qa t)=true:=by
 rw [List.all_eq_true];intro k f;obtain ⟨x,rfl⟩:=(EG (vf:=vf) d l).keys k f;exact e x
theorem aet (x:Lk):Qa 134 (Uj x)=true:=by kernel_rfl
theorem aeu (c:Sc):Qa 9 (Xw c)=true:=by kernel_rfl
theorem CV (ls:List Lk):Xzu (zS ls).1 (Qa 134)=true:=ab8 Qd 134 aet ls
theorem CZ (cs:List Sc):Xzu (CY cs).1 (Qa 9)=true:=ab8 QM 9 aeu cs
def zO:Oq:= .val ⟨false,0,0⟩
theorem anl:eF zO= .agg [.bool false,.str [],.str [],ω 0]:=by
 show AV.agg [.bool false,.str (ae 0),.str (ae 0),ω 0]=_;rw [dB]
theorem acs (ls:List Lk) (c:Int) (d:List UInt8):Yqh [(Xz1 (dV (zS ls).1 (zS ls).2 (.agg [ω c,.str d])) (.agg [.bool false,.str [],.str [],ω 0])),.bool (Xj3 (dV (zS ls).1 (zS ls).2 (.agg [ω c,.str d])))]=Yqh [eF ((Qg ls c d).getD zO),.bool (Qg ls c d).isSome]:=by
 rw [KX];cases Qg ls c d with
 |none=>simp only [Option.map_none,Option.getD_none,Option.isSome_none];rw [anl]
 |some x=>rfl
theorem KY {l:List Lk} {k:Nat} (h:k<l.length):ε (δ (k:Int)*6) (dJ l)=V5 l[k]++dJ (l.drop (k+1)):=by
 rw [aB];exact yA V5 6 (fun _=>rfl) h
theorem aS.tupL {l r:List AV} (h:fC l r):aS (.tup l) (.tup r):=by
 intro g m S v c;simp only [VR] at c ⊢;obtain ⟨vs,e,c⟩:=c;exact ⟨vs,e,h g m S vs c⟩
theorem aS.zsc:aS (.tup [.agg [.str [],ω 0,ω 0,.nilS],.bool false]) (.tup [.agg [.str [],ω 0,ω 0,.sl [] 0 false],.bool false]):=
 aS.tupL (fC.cons (aS.agg (fC.cons (aS.refl _) (fC.cons (aS.refl _) (fC.cons (aS.refl _) (fC.cons (aS.nilS false rfl) (fC.refl _)))))) (fC.refl _))
abbrev amI (ls:List Lk) (cs:List Sc) (nl ns:Bool) (p:Nat × (List AV × List AV)):St:=⟨[(1,.ptr 0 0 0),(2,.ptr 1 0 0),(3,.ptr 2 0 0),(17,.sl (dJ ls) ls.length nl),(18,ω (ls.length:Int)),(19,ω (p.1:Int))],Jg ls cs nl ns p.2.1 p.2.2 [] [],.dead,[]⟩
abbrev opO (ls:List Lk) (cs:List Sc) (nl ns:Bool) (a b:List AV × List AV):St:=⟨[(1,.ptr 0 0 0),(2,.ptr 1 0 0),(3,.ptr 2 0 0)],Jg ls cs nl ns a.1 a.2 b.1 b.2,.dead,[]⟩
abbrev amJ (ls:List Lk) (cs:List Sc) (nl ns:Bool) (a:List AV × List AV) (p:Nat × (List AV × List AV)):St:=⟨[(1,.ptr 0 0 0),(2,.ptr 1 0 0),(3,.ptr 2 0 0),(45,.sl (dF cs) cs.length ns),(46,ω (cs.length:Int)),(47,ω (p.1:Int))],Jg ls cs nl ns a.1 a.2 p.2.1 p.2.2,.dead,[]⟩
theorem Uz {m:List AV × List AV} {k v:AV} (h:(dV m.1 m.2 k).isSome=true):F_ m k v=m:=by unfold F_;rw [if_pos h]
theorem Uy {m:List AV × List AV} {k v:AV} (h:(dV m.1 m.2 k).isSome=false):F_ m k v=(xq m.1 k,oW m.1 m.2 k v):=by unfold F_;rw [if_neg (by rw [h];simp)]
theorem aae {nt:Nat} (n:68≤nt) (ls:List Lk) (cs:List Sc) (g h:Bool) (v:ls.length<2^60) (hs:∀ x ∈ ls,x.a.length<2^36∧x.d.length<2^36):∀ (r p:List Lk),ls=p++r→
  az prog ap [] nt (af 0 (ah f45)) (fun _=> .exit 0) (amI ls cs g h) (fun q:List AV × List AV=>opO ls cs g h q ([],[])) (p.length,zS p) (zS ls):=by
 intro r
 induction r with
 |nil=>
  intro p hp;rw [Γ] at hp;subst hp;exact .done (ahF _ _ _ ls cs g h n (aN (Yq1 (by omega))))
 | cons x r ih=>
  intro p hp;have o:p.length<ls.length:=by rw [hp];simp
  have m:=KY o;rw [show ls[p.length]=x by subst hp;simp] at m;have c:=ih (p++ [x]) (by rw [hp];simp);rw [θ,σ] at c;have e:zS (p++ [x])=F_ (zS p) (Uj x) (eF (lkV x)):=zY _ _ p x;rw [e] at c;have i:=acs p x.op x.nm;have f:=congrArg Xj3 (KX p x.op x.nm);rw [Option.isSome_map] at f;have u:decide (((0:Nat):Int)≤(p.length:Int))=true:=Yq0 (by omega);have j:decide ((p.length:Int)<(ls.length:Int))=true:=Yq0 (by omega);have d:=hs x (by rw [hp];simp);cases t:(Qg p x.op x.nm).isSome with
  |true=>
   rw [t] at i f;rw [Uz (k:=Uj x) f] at c;exact .next (ahE _ _ p.length ls cs x g h true _ _ n m i (Ci (by omega)) rfl (CV p) u j (aK j)) c
  |false=>
   rw [t] at i f;rw [Uy (k:=Uj x) f] at c;exact .next (ahD _ _ p.length ls cs x g h false _ (lkV x) _ n m i (Ci (by omega)) (CV p) rfl u j (aK j) (vN x.n x.a x.d x.e d.1 d.2)) c
theorem aah {nt:Nat} (m:68≤nt) (ls:List Lk) (cs:List Sc) (g h:Bool) (a:List AV × List AV) (u:cs.length<2^60):∀ (r p:List Sc),cs=p++r→
  az prog ap [] nt (af 2 (ah f45)) (fun _=> .exit 2) (amJ ls cs g h a) (fun q:List AV × List AV=>opO ls cs g h a q) (p.length,CY p) (CY cs):=by
 intro r
 induction r with
 |nil=>
  intro p hp;rw [Γ] at hp;subst hp;exact .done (ahI _ _ _ _ _ ls cs g h m (aN (Yq1 (by omega))))
 | cons x r ih=>
  intro p hp;have n:p.length<cs.length:=by rw [hp];simp
  have j:=Mc n;rw [show cs[p.length]=x by subst hp;simp] at j;have f:=ih (p++ [x]) (by rw [hp];simp);rw [θ,σ] at f;have e:CY (p++ [x])=F_ (CY p) (Xw x) (.agg (MX x)):=zY _ _ p x;rw [e] at f;have d:=L_ p x.name;have t:decide (((0:Nat):Int)≤(p.length:Int))=true:=Yq0 (by omega);have i:decide ((p.length:Int)<(cs.length:Int))=true:=Yq0 (by omega);cases o:scO p x.name with
  |some c=>
   rw [o] at d;rw [Uz (k:=Xw x) (show (dV (CY p).1 (CY p).2 (.str x.name)).isSome=true by rw [d];rfl)] at f;exact .next (ahH _ _ _ a.1 a.2 _ _ _ _ p.length ls cs x g h true _ m j (by rw [d];exact aS.refl _) (Ci (by omega)) rfl (CZ p) t i (aK i)) f
  |none=>
   rw [o] at d;rw [Uy (k:=Xw x) (show (dV (CY p).1 (CY p).2 (.str x.name)).isSome=false by rw [d];rfl)] at f;exact .next (ahG [] 0 0 a.1 a.2 _ _ [] 0 p.length ls cs x g h false _ m j (by rw [d];exact aS.zsc) (Ci (by omega)) (CZ p) rfl t i (aK i)) f
theorem KC (ls:List Lk) (cs:List Sc) (c d:Bool) (g:ls.length<2^60) (f:cs.length<2^60) (hs:∀ x ∈ ls,x.a.length<2^36∧x.d.length<2^36):CO 45 [.agg [.sl (dJ ls) ls.length c,.sl (dF cs) cs.length d]] (.ret (.agg [.mp (zS ls).1 (zS ls).2,.mp (CY cs).1 (CY cs).2])):=
 adU _ _ _ _ ls cs c d
  (az.blk (id:=0) (e':= .normal) (s:=⟨_,_,_,_⟩) (s':=opO ls cs c d (zS ls) ([],[])) (fun nt e=>aae e ls cs c d g hs ls [] rfl) (by simp) rfl (aH.of ⟨rfl,rfl,rfl,rfl,rfl,rfl,trivial⟩) (aH.refl _))
  (az.blk (id:=2) (e':= .normal) (s:=⟨_,_,_,_⟩) (s':=opO ls cs c d (zS ls) (CY cs)) (fun nt e=>aah e ls cs c d (zS ls) f cs [] rfl) (by simp) rfl (aH.of ⟨rfl,rfl,rfl,rfl,rfl,rfl,trivial⟩) (aH.refl _))
structure Sq where
 nm:List UInt8
 u1:Int
 u2:Int
 l:List Br
def Sq.c (q:Sq):Sc:=⟨q.nm,q.u1,q.u2,gy q.l,q.l.length⟩
theorem lh {c:List Nd} (h:c.all (fun x=>Xqg (x.num.length+1) 8589934592 && Xqg (x.den.length+1) 8589934592)=true):∀ x ∈ c,x.sm:=by
 intro x d;have:=List.all_eq_true.1 h x d;rw [π] at this;exact ⟨Xzd this.1,Xzd this.2⟩
def Br.s28 (x:Br):Prop:=(x.fa.length<2^28∧x.fd.length<2^28)∧(x.ra.length<2^28∧x.rd.length<2^28)
theorem Br.s28.sm {x:Br} (h:x.s28):x.sm:=⟨⟨Xxa h.1.1 (by decide),Xxa h.1.2 (by decide)⟩,Xxa h.2.1 (by decide),Xxa h.2.2 (by decide)⟩
def t_ (y x:Br):Int:=iE (vQ y.fn y.fa y.fd) (vQ x.fn x.fa x.fd)
def UC (x:Br):RQ × RQ:=(vQ x.fn x.fa x.fd,vQ x.rn x.ra x.rd)
def MW (l:List Br) (x:RQ):Oq:=if PE t_ l=0 then X8 (l.map UC) x else .err (PE t_ l)
theorem YD {l:List Br} (h:∀ x ∈ l,x.s28):xJ 127 t_ l:=fun i y x c d _ _=>
 FB y.fn x.fn y.fa y.fd x.fa x.fd (h y (Xqj c)).1.1 (h y (Xqj c)).1.2 (h x (Xqj d)).1.1 (h x (Xqj d)).1.2
theorem sW {n:Bool} {a d:List UInt8} (h:iG n a d=true):vQ n a d=⟨n,ag a,ag d⟩:=by unfold vQ;rw [if_pos h]
theorem adk {x:Br} (h:iM x=true):Dx (UC x)=Io x:=by
 simp only [iM,π] at h;unfold Dx UC Io;simp only [sW h.1,sW h.2];rw [(iV h.1).1,(iV h.1).2,(iV h.2).1,(iV h.2).2]
theorem UE:∀ {l:List Br},l.all iM=true→oU (l.map UC)=gy l
 | [],_=>rfl
 |x::l,h=>by
  simp only [Xxs,π] at h;show Dx (UC x)++oU (l.map UC)=Io x++gy l;rw [adk h.1,UE h.2]
theorem JY:∀ (l:List Br) (y:Br),BZ t_ y l=true→sQ ((y::l).map UC)
 | [],_,_=>True.intro
 | x::l,y,h=>by
  unfold BZ at h;cases hd:decide (((0:Nat):Int)≤t_ y x) with
  |true=>rw [hd] at h;cases h
  |false=>
   rw [hd] at h;have c:t_ y x<0:=by have:=of_decide_eq_false hd;omega
   exact ⟨(jr (jo _ _ _) (jo _ _ _)).1.1 c,JY l x h⟩
theorem UQ {l:List Br} (h:PE t_ l=0):Uu (l.map UC)∧oU (l.map UC)=gy l:=by
 unfold PE at h;cases d:decide (((8:Nat):Int)<(l.length:Int)) with
 |true=>rw [d] at h;cases h
 | false=>
  rw [d] at h;have g:l.length≤8:=by have:=of_decide_eq_false d;omega
  cases l with
  |nil=>cases h
  | cons x r=>
   rw [show ((((x::r).length:Nat):Int)==((0:Nat):Int))=false from beq_eq_false_iff_ne.2 (by simp only [μ];omega),J3] at h;cases e:(x::r).all iM with
   |false=>rw [e] at h;cases h
   | true=>
    rw [e] at h;cases hs:(jD x.fn x.fa x.fd==((0:Nat):Int)) && BZ t_ x r with
    |false=>rw [hs] at h;cases h
    | true=>
     rw [hs] at h;simp only [π] at hs;cases c:(x::r).any Gg with
     |true=>rw [c] at h;cases h
     | false=>
      rw [Ij] at c;have i:(x::r).all wG=true:=by simpa using c
      refine ⟨⟨by simpa using g,by simp,fun b f=> ?_,fun b f=> ?_,JY r x hs.2⟩,UE e⟩
      ·obtain ⟨y,_,rfl⟩:=List.mem_map.1 f;exact ⟨jo _ _ _,jo _ _ _⟩
      ·obtain ⟨y,k,rfl⟩:=List.mem_map.1 f;have:=List.all_eq_true.1 i y k;simp only [wG,π] at this;obtain ⟨o,m⟩:=oq this.1;obtain ⟨n,j⟩:=oq this.2;exact ⟨by show iI (vQ _ _ _)=true;rw [sW o];exact m,by show iI (vQ _ _ _)=true;rw [sW n];exact j⟩
theorem adc {l:List (RQ × RQ)} {x:RQ} (d:Uu l) (j:x.ok):(X8 l x).ok:=by
 unfold X8;split
 ·have:=nM false;exact this
 ·refine qc ?_;have i:=(yc x l).1;have g:=d.pos;have f:gJ l x - 1<l.length:=by omega
  have c:gJ l x - 1<(jc q0 l).length:=by rw [FM l q0 d.pos];exact f
  have h:=Xxb f;have e:atR l x=gK (jc q0 l)[gJ l x - 1] (iJ l[gJ l x - 1].2 (eu x l[gJ l x - 1].1)):=by
   unfold atR;rw [ο,ο,ξ f,ξ c];rfl
  rw [e];exact eQ (MH d _ (Xxb c)).1 (iK (d.ok _ h).2 (gY j (d.ok _ h).1))
theorem adb {l:List Br} {x:RQ} (c:x.ok):(MW l x).ok:=by
 unfold MW;split
 ·rename_i h;exact adc (UQ h).1 c
 ·assumption
theorem YY (d:List UInt8) (u1 u2:Int) {l:List Br} (hs:∀ x ∈ l,x.s28) (m:l.length<2^40) {x:RQ} (f:x.ok) (j:iI x=true):
  CO 130 [.agg [.str d,ω u1,ω u2,.sl (gy l) l.length false],qA x] (.ret (.tup [.agg [.bool (MW l x).n,.str (MW l x).a,.str (MW l x).d],ω (MW l x).e])):=by
 have c:=OO d u1 u2 l t_ m (fun x f=>(hs x f).sm) (YD hs);unfold MW;by_cases h:PE t_ l=0
 ·rw [if_pos h];rw [h] at c;obtain ⟨k,e⟩:=UQ h;have i:=adx d u1 u2 k f j;simp only [JM,e,Xxt] at i;exact i c
 ·rw [if_neg h];have g:lit true (!(PE t_ l==((0:Nat):Int)))=true:=by rw [show (PE t_ l==((0:Nat):Int))=false from beq_eq_false_iff_ne.2 h];rfl
  exact adA x _ _ d u1 u2 _ g (adw x _ _ d u1 u2 _ g c)
structure eU where
 ls:List Lk
 qs:List Sq
def sqO (qs:List Sq) (nm:List UInt8):Option Sq:=qs.find? fun q=>nm==q.nm
theorem aby (qs:List Sq) (c:List UInt8):scO (qs.map Sq.c) c=(sqO qs c).map Sq.c:=by
 unfold scO sqO;rw [List.find?_map];rfl
abbrev afY (E:eU):AV:= .agg [.mp (zS E.ls).1 (zS E.ls).2,.mp (CY (E.qs.map Sq.c)).1 (CY (E.qs.map Sq.c)).2]
def OW (qs:List Sq) (op:Int) (nm:List UInt8) (st:RQ) (a:Oq):Oq:=
 if op=20 then (if a.bit then FT (!a.one) else .err 13)
 else if op=24 then (match sqO qs nm with|none=> .err 12|some s=>MW s.l a.q)
 else if op=21 then mV (vZ a.q st) else if op=22 then mV (Yb a.q st) else mV (Ya a.q st)
def mG (E:eU) (x:Nd) (l:List Oq):Oq:=
 if x.op≤4 then yR x.neg x.num x.den 0 else if x.op≤8 then (Qg E.ls x.op x.name).getD (.err 12)
 else match l with
 | [a]=>if a.e=0 then OW E.qs x.op x.name (vQ x.neg x.num x.den) a else a
 | [a,b]=>if a.e=0 then (if b.e=0 then Lt x.op a b else b) else a
 | [a,b,c]=>Rw a b c
 |_=> .err 11
def QU (x:Nd):Prop:=21≤x.op→x.op≤23→fB x.neg x.num x.den=true∧0<jD x.neg x.num x.den
theorem Aa {a s:RQ} (f:iI a=true) (e:iI s=true):iw 10000 (Ya a s)∧iw 10000 (Yb a s)∧iw 10000 (vZ a s):=by
 have c:=NK f e;have g:iw 51 s:=aX e;have d:=xE c (g.mono (show 51≤208 by decide));refine ⟨?_, ?_,c.mono (by decide)⟩
 ·unfold Ya;split
  ·exact d.mono (by decide)
  ·exact c.mono (by decide)
 ·unfold Yb;split
  ·exact iw.mono (L:=51) (aX f) (by decide)
  ·exact d.mono (by decide)
theorem AU {a s:RQ} (c:a.ok) (hs:s.ok):(Yb a s).ok∧(Ya a s).ok:=by
 constructor
 ·unfold Yb;split
  ·exact c
  ·exact eQ (jf hs) hs
 ·unfold Ya;split
  ·exact eQ (jf hs) hs
  ·exact jf hs
theorem NS (E:eU) (x:Nd) (G:Bool) (a:Oq) (p:20≤x.op∧x.op≤24) (j:QU x) (F:a.ok) (D:a.e=0) (z:∀ s ∈ E.qs,s.l.length<2^40∧∀ b ∈ s.l,b.s28):
  CO 78 [afY E,.agg (nI x),.sl (uB a) 1 G] (.ret (eF (OW E.qs x.op x.name (vQ x.neg x.num x.den) a))):=by
 obtain ⟨q,rfl,g,d⟩:=zi F D;obtain ⟨f,u,t,v,k⟩:=x;unfold OW;simp only at p j ⊢;have step:21≤f→f≤23→∃ c:RQ,vQ u t v=c∧c.ok∧iI c=true∧0<iU c∧t=ae c.n∧v=ae c.d∧u=c.neg:=by
  intro m o;obtain ⟨H,C⟩:=j m o;obtain ⟨h,A⟩:=oq H;refine ⟨_,rfl,jo _ _ _,by rw [sW h];exact A,by rw [← FI];exact C, ?_, ?_, ?_⟩
  ·rw [sW h];exact (iV h).1.symm
  ·rw [sW h];exact (iV h).2.symm
  ·rw [sW h]
 have n:∀ {r:RQ},iw 10000 r→r.ok→CO 124 [qA r] (.ret (eF (mV r))):=fun m o=>qO o (χ m.1 (by decide)) (χ m.2 (by decide))
 have B:f=20∨f=21∨f=22∨f=23∨f=24:=by omega
 rcases B with rfl|rfl|rfl|rfl|rfl
 ·rw [if_pos rfl];have y:=nO (.val q);generalize Oq.bit (.val q)=w2 at*
  generalize Oq.one (.val q)=w1 at*
  cases w2 with
  |false=>exact Y_ (.val q) _ _ _ _ _ _ _ _ _ _ _ rfl y (jb 13)
  |true=>exact Za (.val q) _ _ _ _ _ _ _ _ _ _ _ _ rfl y (lJ _)
 ·obtain ⟨c,e,k1,k2,k3,rfl,rfl,rfl⟩:=step (by decide) (by decide);rw [e,if_neg (by decide),if_neg (by decide),if_pos rfl];exact Zb (.val q) _ _ c _ _ _ _ _ _ (D5 g d k1 k2 k3) (n (Aa d k2).2.2 (jf k1))
 ·obtain ⟨c,e,k1,k2,k3,rfl,rfl,rfl⟩:=step (by decide) (by decide);rw [e,if_neg (by decide),if_neg (by decide),if_neg (by decide),if_pos rfl];exact Zc (.val q) _ _ c _ _ _ _ _ _ (aea g d k1 k2 k3) (n (Aa d k2).2.1 (AU g k1).1)
 ·obtain ⟨c,e,k1,k2,k3,rfl,rfl,rfl⟩:=step (by decide) (by decide);rw [e,if_neg (by decide),if_neg (by decide),if_neg (by decide),if_neg (by decide)];exact Zd (.val q) _ _ c _ _ _ _ _ _ (Vg g d k1 k2 k3) (n (Aa d k2).1 (AU g k1).2)
 ·rw [if_neg (by decide),if_pos rfl];have i:=L_ (E.qs.map Sq.c) k;rw [aby] at i;cases hs:sqO E.qs k with
  |none=>
   rw [hs] at i;exact Ze (.val q) _ _ false _ _ k [] 0 0 _ _ _ _ [] 0 (by rw [i];exact aS.zsc) rfl (CZ _) (jb 12)
  |some s=>
   rw [hs] at i;have w:=List.mem_of_find?_eq_some hs;exact Zf (.val q) _ _ _ true _ _ k s.nm s.u1 s.u2 _ _ _ _ (gy s.l) s.l.length (by rw [i];exact aS.refl _) rfl (CZ _) (YY s.nm s.u1 s.u2 (z s w).2 (z s w).1 g d)
def dI (l:List Oq):List AV:=l.flatMap uB
theorem KA (E:eU) (x:Nd) (j:Bool) (l:List Oq) (C:1≤x.op) (q:x.op≤24) (t:QU x) (m:l.length=dD x.op) (w:∀ o ∈ l,o.ok) (r:x.sm) (B:∀ s ∈ E.qs,s.l.length<2^40∧∀ b ∈ s.l,b.s28):
  CO 46 [afY E,.agg (nI x),.sl (dI l) l.length j] (.ret (eF (mG E x l))):=by
 obtain ⟨d,g,f,i,e⟩:=x;unfold mG;simp only at C q t m ⊢;have k:∀ {p:Prop} [Decidable p],¬ p→lit false (decide p)=true:=fun h=>aN (Yq1 h)
 have zT:∀ o:Oq,o.e=0→lit false (!(o.e==((0:Nat):Int)))=true:=fun o h=>by rw [h];rfl
 have y:∀ o:Oq,¬ o.e=0→lit true (!(o.e==((0:Nat):Int)))=true:=fun o h=>by rw [show (o.e==((0:Nat):Int))=false from beq_eq_false_iff_ne.2 h];rfl
 by_cases h4:d≤4
 ·rw [if_pos h4];have:dD d=0:=by unfold dD;rw [if_neg (by omega),if_neg (by omega),if_neg (by omega)]
  rw [this,Xvw] at m;subst m;exact adK _ g j f i e d _ _ _ _ (aK (Yq0 h4)) (adH g j f i e d _ _ _ _ _ [] 0 (KG g f i (Xxa r.1 (by decide)) (Xxa r.2 (by decide))))
 ·rw [if_neg h4];by_cases h8:d≤8
  ·rw [if_pos h8];have:dD d=0:=by unfold dD;rw [if_neg (by omega),if_neg (by omega),if_neg (by omega)]
   rw [this,Xvw] at m;subst m;refine adM _ g j f i e d _ _ _ _ (aK (Yq0 h8)) (k h4) ?_;have v:=acs E.ls d e;cases u:Qg E.ls d e with
   |none=>
    rw [u] at v;exact adI g j false f i e d _ _ _ _ _ [] 0 v rfl (CV _) (jb 12)
   |some o=>
    rw [u] at v;exact adJ g j true f i e d o _ _ _ _ [] 0 v rfl (CV _)
  ·rw [if_neg h8];by_cases h15:d=15
   ·have:dD d=3:=by unfold dD;rw [if_pos h15]
    rw [this] at m
    match l,m with
    | [a,b,c],_=>
     exact adS a b c _ g j f i e d _ _ _ _ (aK (by rw [h15];rfl)) (k h8) (k h4) (NM d g j f i e _ _ _ _ a b c)
   ·have n:lit false (d==((15:Nat):Int))=true:=by rw [show (d==((15:Nat):Int))=false from beq_eq_false_iff_ne.2 h15];rfl
    by_cases h19:d≤19
    ·have:dD d=2:=by unfold dD;rw [if_neg (by omega),if_pos (by omega)]
     rw [this] at m
     match l,m with
     | [a,b],_=>
      have z:=w a (by simp);have A:=w b (by simp);simp only;by_cases za:a.e=0
      ·rw [if_pos za];by_cases zb:b.e=0
       ·rw [if_pos zb];exact adR a b _ g j f i e d _ _ _ _ (zT b zb) (zT a za) n (k h8) (k h4) (Vk d g j f i e _ _ _ _ a b (by omega) z za A zb)
       ·rw [if_neg zb];exact adQ a b g j f i e d _ _ _ _ (y b zb) (zT a za) n (k h8) (k h4)
      ·rw [if_neg za];exact adP a b g j f i e d _ _ _ _ (y a za) n (k h8) (k h4)
    ·have:dD d=1:=by unfold dD;rw [if_neg (by omega),if_neg (by omega),if_pos (by omega)]
     rw [this] at m
     match l,m with
     | [a],_=>
      have z:=w a (by simp);simp only;by_cases za:a.e=0
      ·rw [if_pos za];exact adO a _ g j f i e d _ _ _ _ (zT a za) n (k h8) (k h4) (NS E ⟨d,g,f,i,e⟩ j a ⟨by show 20≤d;omega,q⟩ t z za B)
      ·rw [if_neg za];exact adN a g j f i e d _ _ _ _ (y a za) n (k h8) (k h4)
theorem WN {j:Int} {a b:Oq} (f:a.ok) (e:b.ok) (i:a.e=0) (g:b.e=0):(Lt j a b).ok:=by
 obtain ⟨q,rfl,c,m⟩:=zi f i;obtain ⟨r,rfl,d,k⟩:=zi e g;unfold Lt
 repeat' split
 all_goals first|exact qc (eQ c d)|exact qc (gY c d)|exact qc (iK c d)|exact (by decide:(13:Int) ≠ 0)|exact e|exact f|exact nM _|exact (by decide:(16:Int) ≠ 0)|(rename_i h;exact qc (pV c (Nat.pos_of_ne_zero h)))
theorem abA {qs:List Sq} {h:Int} {f:List UInt8} {d:RQ} {a:Oq} (ks:d.ok) (e:a.ok) (g:a.e=0):(OW qs h f d a).ok:=by
 obtain ⟨q,rfl,c,i⟩:=zi e g;unfold OW
 repeat' split
 all_goals first|exact nM _|exact (by decide:(13:Int) ≠ 0)|exact (by decide:(12:Int) ≠ 0)|exact adb c|exact qc (jf ks)|exact qc (AU c ks).1|exact qc (AU c ks).2
theorem aey {ls:List Lk} {c:Int} {d:List UInt8}:((Qg ls c d).getD (.err 12)).ok:=by
 unfold Qg;cases ls.find? _ with
 |none=>exact (by decide:(12:Int) ≠ 0)
 |some x=>exact yS _ _ _ _
theorem Lh {E:eU} {x:Nd} {l:List Oq} (d:∀ o ∈ l,o.ok):(mG E x l).ok:=by
 unfold mG;split
 ·exact yS _ _ _ _
 ·split
  ·exact aey
  ·split
   ·rename_i a;split
    ·exact abA (jo _ _ _) (d a (by simp)) (by assumption)
    ·exact d a (by simp)
   ·rename_i a b;split
    ·split
     ·exact WN (d a (by simp)) (d b (by simp)) (by assumption) (by assumption)
     ·exact d b (by simp)
    ·exact d a (by simp)
   ·rename_i a b c;unfold Rw
    repeat' split
    all_goals first|exact (by decide:(13:Int) ≠ 0)|exact d _ (by simp)
   ·exact (by decide:(11:Int) ≠ 0)
structure Ty where
 tr:Bool
 m:Int
 d:Int
def alB (m d:Int):Bool:=decide (-3≤m∧m≤3∧ -3≤d∧d≤3)
def OJ (t:Ty):Bool:=cond t.tr ((t.m==0) && (t.d==0)) (alB t.m t.d)
structure Sg where
 op:Int
 name:List UInt8
 ty:Ty
def amo (s:Sg) (op:Int) (nm:List UInt8):Bool:=(s.op==op) && ((s.name==nm) && (iL op && (OJ s.ty && (!(op==((24:Nat):Int))|| !s.ty.tr))))
def acj (l:List Sg) (op:Int) (nm:List UInt8):Option Ty:=(l.find? fun s=>amo s op nm).map (·.ty)
def zT:Ty:=⟨false,0,0⟩
theorem aiB (x y:Nat) (c:CO 134 [.str (ae x),ω 3] (.ret (.tup [ω (x:Int),.bool true]))) (d:CO 134 [.str (ae y),ω 4] (.ret (.tup [ω (y:Int),.bool true]))) (e:CO 79 [ω (γ .i64 ((x:Int)*(y:Int)))] (.ret (.str (ae (x*y))))):CO 100 [.str (ae x),.str (ae y)] (.ret (.str (ae (x*y)))):=pK [] 2 3 (.n 2 .nil) (.c e (.c d (.c c .nil)))
theorem jX {x:Nat} (h:x<16777216):(ae x).length≤7:=bY (by omega)
theorem aiA (x y:Nat) (g:x<65536) (f:y<65536):CO 100 [.str (ae x),.str (ae y)] (.ret (.str (ae (x*y)))):=by
 have j:=jX (x:=x) (by omega);have h:=jX (x:=y) (by omega);have d:=gX (ae x) 3 (by omega) (by omega) (by rw [aC];omega);have c:=gX (ae y) 4 (by omega) (by omega) (by rw [aC];omega);rw [aC] at d c;have i:x*y<65536*65536:=Xvz g f;have e:=lg (x*y) (by omega);refine aiB x y d c ?_;rw [← Xw5,dC (by omega) (by omega)];exact e
theorem ajG (c:Bool) (n k:Nat) (q:RQ) (h:lit false ((ae k)== [])=true) (f:CO 98 [Ω c (ae n) (ae 1)] (.ret (Ω c (ae n) (ae 1)))) (g:CO 98 [Ω false (ae k) (ae 1)] (.ret (Ω false (ae k) (ae 1)))) (i:CO 100 [.str (ae n),.str (ae 1)] (.ret (.str (ae (n*1))))) (e:CO 100 [.str (ae 1),.str (ae k)] (.ret (.str (ae (1*k))))) (d:CO 99 [.bool (!(c==false)),.str (ae (n*1)),.str (ae (1*k))] (.ret (.agg [.bool q.neg,.str (ae q.n),.str (ae q.d)]))):CO 60 [Ω c (ae n) (ae 1),Ω false (ae k) (ae 1)] (.ret (.tup [.agg [.bool q.neg,.str (ae q.n),.str (ae q.d)],.bool true])):=pK [] 1 0 (.k 10 h (.n 9 .nil)) (.c d (.c e (.c i (.c g (.c f .nil)))))
theorem P8 {c:Bool} {n:Nat} (h:c=true→0<n):(⟨c,n,1⟩:RQ).ok:=⟨by simp,by simp,h⟩
theorem Q7 {c:Bool} {n d:Nat} (h:(⟨c,n,d⟩:RQ).ok):vQ c (ae n) (ae d)=⟨c,n,d⟩:=by
 unfold vQ;rw [if_pos (xg ⟨c,n,d⟩ h),aC,aC]
theorem ZU {k:Nat} (h:0<k):ae k ≠ []:=by
 intro c;have:=aC k;rw [c] at this;simp [ag] at this;omega
theorem amX (c:Bool) (n k:Nat) (d:c=true→0<n) (o:n<65536) (j:0<k) (f:k<65536):CO 60 [qA ⟨c,n,1⟩,qA ⟨false,k,1⟩] (.ret (.tup [qA (jV c n k),.bool true])):=by
 have v:=jX (x:=n) (by omega);have r:=jX (x:=k) (by omega);have t:=jX (x:=1) (by omega);have v1:=iQ c (ae n) (ae 1) (by omega) (by omega);have g:=iQ false (ae k) (ae 1) (by omega) (by omega);rw [Q7 (P8 d)] at v1;rw [Q7 (P8 (by simp))] at g;have p:=aiA n 1 o (by omega);have m:=aiA 1 k (by omega) f;have q:(ae (n*1)).length≤7:=jX (by omega);have u:(ae (1*k)).length≤7:=jX (by omega);have i:=oH c (n*1) (1*k) (by omega) (by omega) (by omega);rw [φ,Xzy] at i;have e:(!(c==false))=c:=by cases c<;>rfl
 have h:=ajG c n k (jV c n k) (by rw [show (ae k== [])=false by simpa using ZU j];rfl) v1 g p m;rw [e,φ,Xzy] at h;exact h i
theorem aaU (x:Nat) (o:x<1000000):CO 48 [ω (-((x:Int)+1))] (.ret (LM true (x+1) 1)):=by
 have c:x<9223372036854775808:=by omega
 have j:=lg x c;have g:=lg 1 (by omega);have p:(ae x).length≤7:=bY (by omega);have n:(ae 1).length≤7:=bY (by omega);have i:=gX (ae x) 7 (by omega) (by omega) (by rw [aC];omega);have e:=gX (ae 1) 7 (by omega) (by omega) (by rw [aC];omega);rw [aC] at i e;have f:=afW (ae x) (ae 1) x 1 (x+1);rw [zl (by omega)] at f;have d:=f i e (lg (x+1) (by omega));have h:=ajj (-((x:Int)+1)) (x+1) x;have m:γ .i64 (-((x:Int)+1)+((1:Nat):Int))= -(x:Int):=by rw [dC]<;>omega
 have k:γ .i64 (0 - -(x:Int))=(x:Int):=by rw [dC]<;>omega
 rw [m,k] at h;exact h (by simp only [lit,Xqo];exact Yq1 (by omega)) j g d g
def Lp (v:Int):RQ:=⟨decide (v<0),v.natAbs,1⟩
theorem Oy (v:Int) (h: -1000000≤v) (c:v≤1000000):CO 48 [ω v] (.ret (qA (Lp v))):=by
 by_cases h0:0≤v
 ·obtain ⟨x,rfl⟩:∃ x:Nat,v=(x:Int):=⟨v.toNat,by omega⟩
  have:=aam x (by omega);unfold Lp;rw [Yq1 (by omega),Xjh];exact this
 ·obtain ⟨x,rfl⟩:∃ x:Nat,v= -((x:Int)+1):=⟨(-v - 1).toNat,by omega⟩
  have:=aaU x (by omega);unfold Lp;rw [Yq0 (by omega),show (-((x:Int)+1)).natAbs=x+1 by omega];exact this
def eqT (a b:Ty):Bool:=((a.tr==b.tr) && ((a.m==b.m) && ((a.d==b.d) && true)))
def Gm (ts:List Ty):Bool:=ts.all fun t=> !t.tr
def acE:Nat→Ty→List Ty→Bool × Ty
 |1,_,[]=>(true,⟨false,1,0⟩)
 |2,_,[]=>(true,⟨false,0,1⟩)
 |3,_,[]=>(true,⟨false,0,0⟩)
 |4,_,[]=>(true,⟨true,0,0⟩)
 |5,sg,[]=>(true,sg)
 |6,sg,[]=>(true,sg)
 |7,sg,[]=>(true,sg)
 |8,sg,[]=>(true,sg)
 |9,_,[a,b]=>(eqT a b && Gm [a,b],a)
 |10,_,[a,b]=>(eqT a b && Gm [a,b],a)
 |11,_,[a,b]=>(Gm [a,b] && OJ ⟨false,γ .i64 (a.m+b.m),γ .i64 (a.d+b.d)⟩,⟨false,γ .i64 (a.m+b.m),γ .i64 (a.d+b.d)⟩)
 |12,_,[a,b]=>(Gm [a,b] && OJ ⟨false,γ .i64 (a.m - b.m),γ .i64 (a.d - b.d)⟩,⟨false,γ .i64 (a.m - b.m),γ .i64 (a.d - b.d)⟩)
 |13,_,[a,b]=>(eqT a b && Gm [a,b],a)
 |14,_,[a,b]=>(eqT a b && Gm [a,b],a)
 |15,_,[a,b,c]=>(a.tr && eqT b c,b)
 |16,_,[a,b]=>(eqT a b && Gm [a,b],⟨true,0,0⟩)
 |17,_,[a,b]=>(eqT a b,⟨true,0,0⟩)
 |18,_,[a,b]=>(a.tr && b.tr,⟨true,0,0⟩)
 |19,_,[a,b]=>(a.tr && b.tr,⟨true,0,0⟩)
 |20,_,[a]=>(a.tr,⟨true,0,0⟩)
 |21,_,[a]=>(Gm [a],a)
 |22,_,[a]=>(Gm [a],a)
 |23,_,[a]=>(Gm [a],a)
 |24,sg,[a]=>(eqT a sg,sg)
 |_,_,_=>(false,⟨false,0,0⟩)
def ofR (named fo:Bool) (sg:Ty) (op:Nat) (ts:List Ty):Ty × Int:=cond (named && !fo) (⟨false,0,0⟩,12) (cond (acE op sg ts).1 ((acE op sg ts).2,0) (⟨false,0,0⟩,13))
def abW (l:List Sg) (x:Nd) (ts:List Ty):Ty × Int:=ofR (iL x.op) (acj l x.op x.name).isSome ((acj l x.op x.name).getD zT) x.op.toNat ts
inductive Tm (l:List Sg):List Nd→Ty→Prop where
 |n0 {x:Nd} {t:Ty}:aI x=0→dD x.op=0→abW l x []=(t,0)→Tm l [x] t
 |n1 {x:Nd} {t ta:Ty} {a:List Nd}:Tm l a ta→aI x=0→dD x.op=1→abW l x [ta]=(t,0)→Tm l (a++ [x]) t
 |n2 {x:Nd} {t ta tb:Ty} {a b:List Nd}:Tm l a ta→Tm l b tb→aI x=0→dD x.op=2→abW l x [ta,tb]=(t,0)→Tm l (a++b++ [x]) t
 |n3 {x:Nd} {t ta tb tc:Ty} {a b c:List Nd}:Tm l a ta→Tm l b tb→Tm l c tc→aI x=0→dD x.op=3→abW l x [ta,tb,tc]=(t,0)→Tm l (a++b++c++ [x]) t
abbrev MJ (ls:List Lk) (cs:List Sc) (nl ns:Bool) (k1 v1 k2 v2:List AV):Hp:= [(0,⟨[.sl (dJ ls) ls.length nl,.sl (dF cs) cs.length ns],0,false,0,0,true⟩),(1,⟨[.mp k1 v1,.mp k2 v2],0,false,0,0,true⟩)]
theorem Zh (x:Nd) (o:Oq) (g h d i:Bool) (k:Nat) (k1 v1 k2 c p m:List AV) (e:List Nd) (A:List (List Nat)) (ls:List Lk) (cs:List Sc) {nt:Nat} (v:56≤nt) (q:(ε ((δ (k:Int))*5) (aV e))=nI x++p) (t:(ε ((δ (k:Int))*1) (dA A))= [.sl [] 0 false]++m) (r:ω (γ .i64 ((k:Int)+((1:Nat):Int)))=ω ((k+1:Nat):Int)) (f:(decide (((0:Nat):Int)≤(k:Int)))=true) (u:(decide ((k:Int)<(A.length:Int)))=true) (n:(decide ((k:Int)<(e.length:Int)))=true) (j:lit true (decide ((k:Int)<(e.length:Int)))=true) (w:CO 46 [.agg [.mp k1 v1,.mp k2 c],.agg [ω x.op,.bool x.neg,.str x.num,.str x.den,.str x.name],.nilS] (.ret (eF o))):ψ nt f19 ⟨[(3,.ptr 0 0 0),(5,.sl (dA A) A.length i),(7,.ptr 1 0 0),(8,.nilS),(23,.sl (aV e) e.length g),(24,ω (e.length:Int)),(25,ω (k:Int))],(MJ ls cs h d k1 v1 k2 c),.dead,[]⟩ (.normal) ⟨[(3,.ptr 0 0 0),(5,.sl (dA A) A.length i),(7,.ptr 1 0 0),(8,.ref 2 0 0 1),(23,.sl (aV e) e.length g),(24,ω (e.length:Int)),(25,ω ((k+1:Nat):Int))],(MJ ls cs h d k1 v1 k2 c++ [(2,⟨[.bool o.n,.str o.a,.str o.d,ω o.e],0,false,0,4,true⟩)]),.dead,[]⟩:=pN 19 [] 3 1 (.k 12 f (.c u (.k 6 f (.c n (.c j .nil))))) (.v 54 (.eq r) (.c w (.v 32 (.ppt t) (.v 28 (.ppt q) .nil)))) v
theorem Zi (d g j c:Bool) (k:Nat) (k1 v1 k2 h:List AV) (e:List Nd) (A:List (List Nat)) (ls:List Lk) (cs:List Sc) {nt:Nat} (f:56≤nt) (i:lit false (decide ((k:Int)<(e.length:Int)))=true):ψ nt f19 ⟨[(3,.ptr 0 0 0),(5,.sl (dA A) A.length c),(7,.ptr 1 0 0),(8,.nilS),(23,.sl (aV e) e.length d),(24,ω (e.length:Int)),(25,ω (k:Int))],(MJ ls cs g j k1 v1 k2 h),.dead,[]⟩ (.exit 0) ⟨[(8,.nilS)],[],.dead,[]⟩:=pN 19 [] 1 0 (.c i .nil) (.nil) f
theorem ad4 (x:Nd) (o:Oq) (i j g m:Bool) (k:Nat) (k1 v1 k2 d t r:List AV) (e:List Nd) (A:List (List Nat)) (c:List Oq) (ls:List Lk) (cs:List Sc) {nt:Nat} (B:56≤nt) (v:(ε ((δ (k:Int))*5) (aV e))=nI x++t) (y:(ε ((δ (k:Int))*1) (dA A))= [.sl [] 0 false]++r) (f:((ν (c.length*4) (dI c))++ [.bool o.n,.str o.a,.str o.d,ω o.e])=(dI (c++ [o]))) (w:ω (γ .i64 ((k:Int)+((1:Nat):Int)))=ω ((k+1:Nat):Int)) (u:(Xqg (c.length+1) 1099511627776)=true) (z:(Xqg (c.length*4) (η (dI c)))=true) (h:(decide (((0:Nat):Int)≤(k:Int)))=true) (n:(decide ((k:Int)<(A.length:Int)))=true) (p:(decide ((k:Int)<(e.length:Int)))=true) (q:lit true (decide ((k:Int)<(e.length:Int)))=true) (C:CO 46 [.agg [.mp k1 v1,.mp k2 d],.agg [ω x.op,.bool x.neg,.str x.num,.str x.den,.str x.name],.nilS] (.ret (eF o))):ψ nt f19 ⟨[(3,.ptr 0 0 0),(5,.sl (dA A) A.length m),(7,.ptr 1 0 0),(8,.ref 2 0 0 c.length),(23,.sl (aV e) e.length i),(24,ω (e.length:Int)),(25,ω (k:Int))],(MJ ls cs j g k1 v1 k2 d++ [(2,⟨(dI c),0,false,0,4,true⟩)]),.dead,[]⟩ (.normal) ⟨[(3,.ptr 0 0 0),(5,.sl (dA A) A.length m),(7,.ptr 1 0 0),(8,.ref 2 0 0 (c.length+1)),(23,.sl (aV e) e.length i),(24,ω (e.length:Int)),(25,ω ((k+1:Nat):Int))],(MJ ls cs j g k1 v1 k2 d++ [(2,⟨(dI (c++ [o])),0,false,0,4,true⟩)]),.dead,[]⟩:=pN 19 [] 2 1 (.k 1 u (.c z (.k 10 h (.c n (.k 6 h (.c p (.c q .nil))))))) (.v 54 (.eq w) (.b 53 f (.c C (.v 32 (.ppt y) (.v 28 (.ppt v) .nil))))) B
theorem ad5 (f h m d:Bool) (k:Nat) (k1 v1 k2 i:List AV) (e:List Nd) (A:List (List Nat)) (c:List Oq) (ls:List Lk) (cs:List Sc) {nt:Nat} (g:56≤nt) (j:lit false (decide ((k:Int)<(e.length:Int)))=true):ψ nt f19 ⟨[(3,.ptr 0 0 0),(5,.sl (dA A) A.length d),(7,.ptr 1 0 0),(8,.ref 2 0 0 c.length),(23,.sl (aV e) e.length f),(24,ω (e.length:Int)),(25,ω (k:Int))],(MJ ls cs h m k1 v1 k2 i++ [(2,⟨(dI c),0,false,0,4,true⟩)]),.dead,[]⟩ (.exit 0) ⟨[(8,.ref 0 0 0 c.length)],[(0,⟨(dI c),0,false,0,4,true⟩)],.dead,[]⟩:=pN 19 [] 1 0 (.c j .nil) (.nil) g
theorem ad6 (x:Nd) (o d:Oq) (n p m q:Bool) (k g:Nat) (k1 v1 k2 h B w v:List AV) (e:List Nd) (A:List (List Nat)) (c:List Oq) (ls:List Lk) (cs:List Sc) {nt:Nat} (H:56≤nt) (D:(ε ((δ (k:Int))*5) (aV e))=nI x++B) (F:(ε ((δ (k:Int))*1) (dA A))= [.sl [ω (g:Int)] 1 false]++w) (f:(ε ((0+(δ (g:Int)))*4) (dI c))=uB d++v) (i:((ν (c.length*4) (dI c))++ [.bool o.n,.str o.a,.str o.d,ω o.e])=(dI (c++ [o]))) (E:ω (γ .i64 ((k:Int)+((1:Nat):Int)))=ω ((k+1:Nat):Int)) (C:(Xqg (c.length+1) 1099511627776)=true) (G:(Xqg (c.length*4) (η (dI c)))=true) (z:(decide (((0:Nat):Int)≤(g:Int)))=true) (t:(decide ((g:Int)<(c.length:Int)))=true) (j:(decide (((0:Nat):Int)≤(k:Int)))=true) (u:(decide ((k:Int)<(A.length:Int)))=true) (r:(decide ((k:Int)<(e.length:Int)))=true) (y:lit true (decide ((k:Int)<(e.length:Int)))=true) (I:CO 46 [.agg [.mp k1 v1,.mp k2 h],.agg [ω x.op,.bool x.neg,.str x.num,.str x.den,.str x.name],.sl [.bool d.n,.str d.a,.str d.d,ω d.e] 1 true] (.ret (eF o))):ψ nt f19 ⟨[(3,.ptr 0 0 0),(5,.sl (dA A) A.length q),(7,.ptr 1 0 0),(8,.ref 2 0 0 c.length),(23,.sl (aV e) e.length n),(24,ω (e.length:Int)),(25,ω (k:Int))],(MJ ls cs p m k1 v1 k2 h++ [(2,⟨(dI c),0,false,0,4,true⟩)]),.dead,[]⟩ (.normal) ⟨[(3,.ptr 0 0 0),(5,.sl (dA A) A.length q),(7,.ptr 1 0 0),(8,.ref 2 0 0 (c.length+1)),(23,.sl (aV e) e.length n),(24,ω (e.length:Int)),(25,ω ((k+1:Nat):Int))],(MJ ls cs p m k1 v1 k2 h++ [(2,⟨(dI (c++ [o])),0,false,0,4,true⟩)]),.dead,[]⟩:=pN 19 [] 4 3 (.k 1 C (.c G (.n 12 (.a (jy [.bool,.str,.str,.int .i64] f rfl) (.c z (.c t (.k 5 j (.c u (.k 6 j (.c r (.c y .nil))))))))))) (.v 54 (.eq E) (.b 53 i (.c I (.v 43 (.rd [.bool,.str,.str,.int .i64] f rfl) (.v 32 (.ppt F) (.v 28 (.ppt D) .nil)))))) H
theorem ad7 (x:Nd) (o d h:Oq) (r t q u:Bool) (k i j:Nat) (k1 v1 k2 m F C B N:List AV) (e:List Nd) (A:List (List Nat)) (c:List Oq) (ls:List Lk) (cs:List Sc) {nt:Nat} (O:56≤nt) (H:(ε ((δ (k:Int))*5) (aV e))=nI x++F) (K:(ε ((δ (k:Int))*1) (dA A))= [.sl [ω (i:Int),ω (j:Int)] 2 false]++C) (f:(ε ((0+(δ (i:Int)))*4) (dI c))=uB d++B) (g:(ε ((0+(δ (j:Int)))*4) (dI c))=uB h++N) (n:((ν (c.length*4) (dI c))++ [.bool o.n,.str o.a,.str o.d,ω o.e])=(dI (c++ [o]))) (J:ω (γ .i64 ((k:Int)+((1:Nat):Int)))=ω ((k+1:Nat):Int)) (G:(Xqg (c.length+1) 1099511627776)=true) (M:(Xqg (c.length*4) (η (dI c)))=true) (E:(decide (((0:Nat):Int)≤(j:Int)))=true) (w:(decide ((j:Int)<(c.length:Int)))=true) (y:(decide (((0:Nat):Int)≤(i:Int)))=true) (z:(decide ((i:Int)<(c.length:Int)))=true) (p:(decide (((0:Nat):Int)≤(k:Int)))=true) (D:(decide ((k:Int)<(A.length:Int)))=true) (I:(decide ((k:Int)<(e.length:Int)))=true) (v:lit true (decide ((k:Int)<(e.length:Int)))=true) (P:CO 46 [.agg [.mp k1 v1,.mp k2 m],.agg [ω x.op,.bool x.neg,.str x.num,.str x.den,.str x.name],.sl [.bool d.n,.str d.a,.str d.d,ω d.e,.bool h.n,.str h.a,.str h.d,ω h.e] 2 true] (.ret (eF o))):ψ nt f19 ⟨[(3,.ptr 0 0 0),(5,.sl (dA A) A.length u),(7,.ptr 1 0 0),(8,.ref 2 0 0 c.length),(23,.sl (aV e) e.length r),(24,ω (e.length:Int)),(25,ω (k:Int))],(MJ ls cs t q k1 v1 k2 m++ [(2,⟨(dI c),0,false,0,4,true⟩)]),.dead,[]⟩ (.normal) ⟨[(3,.ptr 0 0 0),(5,.sl (dA A) A.length u),(7,.ptr 1 0 0),(8,.ref 2 0 0 (c.length+1)),(23,.sl (aV e) e.length r),(24,ω (e.length:Int)),(25,ω ((k+1:Nat):Int))],(MJ ls cs t q k1 v1 k2 m++ [(2,⟨(dI (c++ [o])),0,false,0,4,true⟩)]),.dead,[]⟩:=pN 19 [] 5 11 (.k 1 G (.c M (.n 13 (.a (jy [.bool,.str,.str,.int .i64] g rfl) (.c E (.c w (.n 7 (.a (jy [.bool,.str,.str,.int .i64] f rfl) (.c y (.c z (.k 5 p (.c D (.k 6 p (.c I (.c v .nil))))))))))))))) (.v 54 (.eq J) (.b 53 n (.c P (.v 43 (.rd [.bool,.str,.str,.int .i64] g rfl) (.v 43 (.rd [.bool,.str,.str,.int .i64] f rfl) (.v 32 (.ppt K) (.v 28 (.ppt H) .nil))))))) O
theorem ad8 (x:Nd) (o f j d:Oq) (w y v B:Bool) (k m p n:Nat) (k1 v1 k2 t N I H T M:List AV) (e:List Nd) (A:List (List Nat)) (c:List Oq) (ls:List Lk) (cs:List Sc) {nt:Nat} (U:56≤nt) (P:(ε ((δ (k:Int))*5) (aV e))=nI x++N) (R:(ε ((δ (k:Int))*1) (dA A))= [.sl [ω (m:Int),ω (p:Int),ω (n:Int)] 3 false]++I) (g:(ε ((0+(δ (m:Int)))*4) (dI c))=uB f++H) (h:(ε ((0+(δ (p:Int)))*4) (dI c))=uB j++T) (i:(ε ((0+(δ (n:Int)))*4) (dI c))=uB d++M) (u:((ν (c.length*4) (dI c))++ [.bool o.n,.str o.a,.str o.d,ω o.e])=(dI (c++ [o]))) (Q:ω (γ .i64 ((k:Int)+((1:Nat):Int)))=ω ((k+1:Nat):Int)) (O:(Xqg (c.length+1) 1099511627776)=true) (S:(Xqg (c.length*4) (η (dI c)))=true) (K:(decide (((0:Nat):Int)≤(n:Int)))=true) (E:(decide ((n:Int)<(c.length:Int)))=true) (F:(decide (((0:Nat):Int)≤(p:Int)))=true) (G:(decide ((p:Int)<(c.length:Int)))=true) (D:(decide (((0:Nat):Int)≤(m:Int)))=true) (J:(decide ((m:Int)<(c.length:Int)))=true) (z:(decide (((0:Nat):Int)≤(k:Int)))=true) (C:(decide ((k:Int)<(A.length:Int)))=true) (q:(decide ((k:Int)<(e.length:Int)))=true) (r:lit true (decide ((k:Int)<(e.length:Int)))=true) (V:CO 46 [.agg [.mp k1 v1,.mp k2 t],.agg [ω x.op,.bool x.neg,.str x.num,.str x.den,.str x.name],.sl [.bool f.n,.str f.a,.str f.d,ω f.e,.bool j.n,.str j.a,.str j.d,ω j.e,.bool d.n,.str d.a,.str d.d,ω d.e] 3 true] (.ret (eF o))):ψ nt f19 ⟨[(3,.ptr 0 0 0),(5,.sl (dA A) A.length B),(7,.ptr 1 0 0),(8,.ref 2 0 0 c.length),(23,.sl (aV e) e.length w),(24,ω (e.length:Int)),(25,ω (k:Int))],(MJ ls cs y v k1 v1 k2 t++ [(2,⟨(dI c),0,false,0,4,true⟩)]),.dead,[]⟩ (.normal) ⟨[(3,.ptr 0 0 0),(5,.sl (dA A) A.length B),(7,.ptr 1 0 0),(8,.ref 2 0 0 (c.length+1)),(23,.sl (aV e) e.length w),(24,ω (e.length:Int)),(25,ω ((k+1:Nat):Int))],(MJ ls cs y v k1 v1 k2 t++ [(2,⟨(dI (c++ [o])),0,false,0,4,true⟩)]),.dead,[]⟩:=pN 19 [] 6 27 (.k 1 O (.c S (.n 13 (.a (jy [.bool,.str,.str,.int .i64] i rfl) (.c K (.c E (.n 8 (.a (jy [.bool,.str,.str,.int .i64] h rfl) (.c F (.c G (.n 7 (.a (jy [.bool,.str,.str,.int .i64] g rfl) (.c D (.c J (.k 5 z (.c C (.k 6 z (.c q (.c r .nil))))))))))))))))))) (.v 54 (.eq Q) (.b 53 u (.c V (.v 43 (.rd [.bool,.str,.str,.int .i64] i rfl) (.v 43 (.rd [.bool,.str,.str,.int .i64] h rfl) (.v 43 (.rd [.bool,.str,.str,.int .i64] g rfl) (.v 32 (.ppt R) (.v 28 (.ppt P) .nil)))))))) U
theorem ahY (d f g h:Bool) (k1 v1 k2 i:List AV) (e:List Nd) (A:List (List Nat)) (c:List Oq) (ls:List Lk) (cs:List Sc) (k:CO 24 [.sl (aV e) e.length d] (.ret (.tup [.sl (dA A) A.length h,.bool true]))) (m:CO 45 [.agg [.sl (dJ ls) ls.length f,.sl (dF cs) cs.length g]] (.ret (.agg [.mp k1 v1,.mp k2 i]))) (j:aG prog ap [] 56 (.block 0 (.loop (af 0 (ah f19)))) ⟨[(0,.sl (aV e) e.length d),(1,.agg [.sl (dJ ls) ls.length f,.sl (dF cs) cs.length g]),(3,.ptr 0 0 0),(4,.nilS),(5,.sl (dA A) A.length h),(6,.bool true),(7,.ptr 1 0 0),(8,.nilS),(9,.dead),(10,.dead),(11,.dead),(13,.dead),(20,.bool false),(23,.sl (aV e) e.length d),(24,ω (e.length:Int)),(25,ω 0),(26,.dead),(33,.dead),(34,.dead),(35,.dead),(36,.dead)],(MJ ls cs f g k1 v1 k2 i),.dead,[]⟩ (.normal) ⟨[(8,.ref 0 0 0 c.length)],[(0,⟨(dI c),0,false,0,4,true⟩)],.dead,[]⟩):CO 19 [.sl (aV e) e.length d,.agg [.sl (dJ ls) ls.length f,.sl (dF cs) cs.length g]] (.ret (.own (ν (c.length*4) (dI c)) c.length 4)):=pK [0] 1 0 (.n 4 .nil) (.l j (.c m (.c k .nil)))
theorem ahZ (c d g:Bool) (e:List Nd) (ls:List Lk) (cs:List Sc) (f:CO 24 [.sl (aV e) e.length c] (.ret (.tup [.nilS,.bool false]))):CO 19 [.sl (aV e) e.length c,.agg [.sl (dJ ls) ls.length d,.sl (dF cs) cs.length g]] (.ret (.nilS)):=pK [] 1 1 (.n 1 .nil) (.c f .nil)
theorem ahv (o:Oq) (d f h:Bool) (k:Nat) (r:List AV) (e:List Nd) (c:List Oq) (ls:List Lk) (cs:List Sc) (g:(ε ((0+(δ (k:Int)))*4) (dI c))=uB o++r) (i:ω (γ .i64 ((c.length:Int) - ((1:Nat):Int)))=ω (k:Int)) (p:(decide (((0:Nat):Int)≤(k:Int)))=true) (j:(decide ((k:Int)<(c.length:Int)))=true) (m:lit false ((c.length:Int)==((0:Nat):Int))=true) (n:CO 19 [.sl (aV e) e.length d,.agg [.sl (dJ ls) ls.length f,.sl (dF cs) cs.length h]] (.ret (.own (dI c) c.length 4))):CO 21 [.sl (aV e) e.length d,.agg [.sl (dJ ls) ls.length f,.sl (dF cs) cs.length h]] (.ret (eF o)):=pK [] 1 0 (.n 5 (.a (jy [.bool,.str,.str,.int .i64] g rfl) (.c p (.c j (.c m (.n 2 .nil)))))) (.v 18 (.rd [.bool,.str,.str,.int .i64] g rfl) (.v 16 (.eq i) (.c n .nil)))
theorem ahu (c d f:Bool) (e:List Nd) (ls:List Lk) (cs:List Sc) (g:CO 19 [.sl (aV e) e.length c,.agg [.sl (dJ ls) ls.length d,.sl (dF cs) cs.length f]] (.ret (.nilS))) (h:CO 41 [ω 11] (.ret (.agg [.bool false,.str [],.str [],ω 11]))):CO 21 [.sl (aV e) e.length c,.agg [.sl (dJ ls) ls.length d,.sl (dF cs) cs.length f]] (.ret (.agg [.bool false,.str [],.str [],ω 11])):=pK [] 1 1 (.n 8 .nil) (.c h (.c g .nil))
def trF (E:eU) (A:List (List Nat)):List Nd→List Oq→List Oq
 | [],os=>os
 |x::r,os=>trF E A r (os++ [mG E x ((A.getD os.length []).map fun j=>os.getD j zO)])
def bK (E:eU) (e:List Nd):List Oq:=trF E (bF e) e []
def Bg (E:eU) (e:List Nd):Oq:=if b_ e=0 then (bK E e).getLastD (.err 11) else .err 11
theorem pU (l:List Oq):(dI l).length=l.length*4:=ul uB 4 (fun _=>rfl) l
theorem gV {l:List Oq} {k:Nat} (h:k<l.length):ε ((0+δ (k:Int))*4) (dI l)=uB (l.getD k zO)++dI (l.drop (k+1)):=by
 rw [aB,Xqf,ο,ξ h];exact yA uB 4 (fun _=>rfl) h
theorem kY (l:List Oq) (o:Oq):ν (l.length*4) (dI l)++ [.bool o.n,.str o.a,.str o.d,ω o.e]=dI (l++ [o]):=by
 rw [Ξ (by rw [pU];exact Δ _)];unfold dI;rw [Xjf];rfl
def teO (os:List Oq):AV:=match os with| []=> .nilS|_::_=> .ref 2 0 0 os.length
def teB (os:List Oq):Hp:=match os with| []=> []|_::_=> [(2,⟨dI os,0,false,0,4,true⟩)]
abbrev teS (E:eU) (nl ns ne na:Bool) (e:List Nd) (A:List (List Nat)) (os:List Oq):St:=⟨[(3,.ptr 0 0 0),(5,.sl (dA A) A.length na),(7,.ptr 1 0 0),(8,teO os),(23,.sl (aV e) e.length ne),(24,ω (e.length:Int)),(25,ω (os.length:Int))],MJ E.ls (E.qs.map Sq.c) nl ns (zS E.ls).1 (zS E.ls).2 (CY (E.qs.map Sq.c)).1 (CY (E.qs.map Sq.c)).2++teB os,.dead,[]⟩
def acJ (os:List Oq):St:=match os with| []=> ⟨[(8,.nilS)],[],.dead,[]⟩|_::_=> ⟨[(8,.ref 0 0 0 os.length)],[(0,⟨dI os,0,false,0,4,true⟩)],.dead,[]⟩
theorem XO (E:eU) (g h f d:Bool) (e:List Nd) (A:List (List Nat)) (c:List Oq) (o:Oq):teS E g h f d e A (c++ [o])=⟨[(3,.ptr 0 0 0),(5,.sl (dA A) A.length d),(7,.ptr 1 0 0),(8,.ref 2 0 0 (c.length+1)),(23,.sl (aV e) e.length f),(24,ω (e.length:Int)),(25,ω ((c.length+1:Nat):Int))],MJ E.ls (E.qs.map Sq.c) g h (zS E.ls).1 (zS E.ls).2 (CY (E.qs.map Sq.c)).1 (CY (E.qs.map Sq.c)).2++ [(2,⟨dI (c++ [o]),0,false,0,4,true⟩)],.dead,[]⟩:=by
 cases c with
 |nil=>rfl
 |cons a r=>
  show (⟨[(3,_),(5,_),(7,_),(8,.ref 2 0 0 (a::r++ [o]).length),(23,_),(24,_),(25,ω (((a::r++ [o]).length:Nat):Int))],_,_,_⟩:St)=_;rw [show (a::r++ [o]).length=(a::r).length+1 from θ];rfl
theorem FP (E:eU) (g i f d:Bool) (e:List Nd) (A:List (List Nat)) {c:List Oq} (h:0<c.length):teS E g i f d e A c=⟨[(3,.ptr 0 0 0),(5,.sl (dA A) A.length d),(7,.ptr 1 0 0),(8,.ref 2 0 0 c.length),(23,.sl (aV e) e.length f),(24,ω (e.length:Int)),(25,ω (c.length:Int))],MJ E.ls (E.qs.map Sq.c) g i (zS E.ls).1 (zS E.ls).2 (CY (E.qs.map Sq.c)).1 (CY (E.qs.map Sq.c)).2++ [(2,⟨dI c,0,false,0,4,true⟩)],.dead,[]⟩:=by
 cases c with
 |nil=>simp at h
 |cons a r=>rfl
theorem JF {x:Nd} (h:aI x=0):QU x:=by
 intro e g;have c:fQ x=true:=by
  cases f:fQ x with
  |true=>rfl
  |false=>
   exfalso;unfold aI at h;rw [f] at h;cases d:(!P6 x.op||(!iL x.op && !(x.name== [])))<;>rw [d] at h<;>cases h
 unfold fQ at c;rw [show (x.op==((4:Nat):Int))=false from beq_eq_false_iff_ne.2 (by omega),show zQ x.op=false from Yq1 (by omega),show AB x.op=true from Yq0 ⟨e,g⟩] at c;simp only [cond,π] at c;exact ⟨c.1,by have:=of_decide_eq_true c.2;omega⟩
theorem PD:∀ (r:List Nd) (d k:Nat),je r d= .inl k→∀ x ∈ r,aI x=0
 | [],_,_,_,x,hx=>by cases hx
 | y::r,d,k,h,x,hx=>by
  simp only [je] at h;split at h
  ·rename_i c;split at h
   ·cases h
   ·rcases List.mem_cons.1 hx with rfl|hx
    ·exact c
    ·exact PD r _ k h x hx
  ·cases h
theorem kw {e:List Nd} (h:b_ e=0):(∀ x ∈ e,aI x=0)∧e.length≤60∧0<e.length:=by
 unfold b_ at h;split at h
 ·cases h
 ·rename_i f;cases c:je e 0 with
  |inl d=>
   refine ⟨PD e 0 d c,by omega, ?_⟩;cases e with
   |nil=>simp only [je] at c;cases c;simp [je] at h
   |cons _ _=>simp
  |inr w=>
   rw [c] at h;exact absurd h (Iu _ _ _ c)
structure eU.sm (E:eU):Prop where
 ls:E.ls.length<2^40
 qs:E.qs.length<2^40
 lk:∀ x ∈ E.ls,x.a.length<2^36∧x.d.length<2^36
 sq:∀ s ∈ E.qs,s.l.length<2^40∧∀ b ∈ s.l,b.s28
theorem abK {nt:Nat} (J:56≤nt) (E:eU) (D y C F:Bool) {e:List Nd} (hE:E.sm) (hc:b_ e=0) (X:∀ x ∈ e,x.sm):∀ (r p:List Nd) (c:List Oq),e=p++r→c.length=p.length→(∀ o ∈ c,o.ok)→
  az prog ap [] nt (af 0 (ah f19)) (fun _=> .exit 0) (teS E D y C F e (bF e)) acJ c (trF E (bF e) r c):=by
 obtain ⟨hw,h60,hpos⟩:=kw hc;obtain ⟨hal,W⟩:=rF hc;intro r
 induction r with
 |nil=>
  intro p c hp m H;rw [Γ] at hp;subst hp;cases c with
  |nil=>exact .done (Zi C D y F 0 _ _ _ _ e (bF e) E.ls (E.qs.map Sq.c) J (aN (Yq1 (by simp at m;omega))))
  |cons a r=>exact .done (ad5 C D y F (a::r).length _ _ _ _ e (bF e) (a::r) E.ls (E.qs.map Sq.c) J (aN (Yq1 (by omega))))
 | cons x r ih=>
  intro p c hp m H;have P:c.length<e.length:=by rw [hp,m];simp
  have K:e[c.length]=x:=by subst hp;simp [m]
  have I:x ∈ e:=by rw [← K];exact Xxb P
  have Q:ε (δ (c.length:Int)*5) (aV e)=nI x++aV r:=by subst hp;exact vC m
  obtain ⟨d,g⟩:=W c.length x (by rw [ξ P,K]);have M:=Nu (A:=bF e) (k:=c.length) (by omega);have B:=ry (hw x I);have w:=fun (nn:Bool) (l:List Oq) (Y:l.length=dD x.op) (hk:∀ o ∈ l,o.ok)=>KA E x nn l B.1 B.2 (JF (hw x I)) Y hk (X x I) hE.sq
  have N:∀ j,(c.getD j zO).ok∨c.length≤j:=fun j=>by
   rcases Xq5 j c.length with h|h
   ·left;rw [ο,ξ h];exact H _ (Xxb h)
   ·exact .inr h
  have f:∀ j ∈ (bF e).getD c.length [],(c.getD j zO).ok:=fun j V=>(N j).resolve_right (by have:=g j V;omega)
  have S:∀ l:List Nat,(∀ j ∈ l,(c.getD j zO).ok)→∀ o ∈ c++ [mG E x (l.map fun j=>c.getD j zO)],o.ok:=fun l Y o z=>by
   rcases List.mem_append.1 z with z|z
   ·exact H o z
   ·rw [Xzg] at z;subst z;exact Lh fun o z=>by
     obtain ⟨j,V,rfl⟩:=List.mem_map.1 z;exact Y j V
  have nx:=ih (p++ [x]) (c++ [mG E x (((bF e).getD c.length []).map fun j=>c.getD j zO)]) (by rw [hp];simp) (by simp [m]) (S _ f);refine .next ?_ nx
  rw [XO];have R:decide (((0:Nat):Int)≤(c.length:Int))=true:=Yq0 (by omega);have O:decide ((c.length:Int)<(((bF e).length:Nat):Int))=true:=Yq0 (by omega);have v:decide ((c.length:Int)<(e.length:Int))=true:=Yq0 (by omega);have t:=Ci (i:=c.length) (by omega);have U:Xqg (c.length+1) 1099511627776=true:=Xqt (by omega);have T:Xqg (c.length*4) (η (dI c))=true:=Xqt (by rw [pU];exact Δ _);have n:∀ j,j<c.length→decide (((0:Nat):Int)≤(j:Int))=true∧decide ((j:Int)<(c.length:Int))=true:=fun j V=> ⟨Yq0 (by omega),Yq0 (by omega)⟩
  generalize (bF e).getD c.length []=al at*
  have h3:=wR x.op
  match al,d with
  | [],d=>
   have c0:=(w false [] d (by simp)).args (fC.cons (aS.refl _) (fC.cons (aS.refl _) (fC.cons (aS.nilS false rfl) (fC.refl _))));cases c with
   |nil=>exact Zh x _ C D y F 0 _ _ _ _ _ _ e (bF e) E.ls (E.qs.map Sq.c) J Q M t R O v (aK v) c0
   |cons a q=>
    exact ad4 x _ C D y F _ _ _ _ _ _ _ e (bF e) (a::q) E.ls (E.qs.map Sq.c) J Q M (kY _ _) t U T R O v (aK v) c0
  | [i],d=>
   have u:=g i (by simp);rw [FP _ _ _ _ _ _ _ (by omega)];exact ad6 x _ (c.getD i zO) C D y F _ i _ _ _ _ _ _ _ e (bF e) c E.ls (E.qs.map Sq.c) J Q M (gV u) (kY _ _) t U T (n i u).1 (n i u).2 R O v (aK v) (w true [c.getD i zO] d (by simpa using f i (by simp)))
  | [i,j],d=>
   have u:=g i (by simp);have G:=g j (by simp);rw [FP _ _ _ _ _ _ _ (by omega)];exact ad7 x _ (c.getD i zO) (c.getD j zO) C D y F _ i j _ _ _ _ _ _ _ _ e (bF e) c E.ls (E.qs.map Sq.c) J Q M (gV u) (gV G) (kY _ _) t U T (n j G).1 (n j G).2 (n i u).1 (n i u).2 R O v (aK v) (w true [c.getD i zO,c.getD j zO] d (by
    intro o m;simp at m;rcases m with rfl|rfl
    ·exact f i (by simp)
    ·exact f j (by simp)))
  | [i,j,h],d=>
   have u:=g i (by simp);have G:=g j (by simp);have Z:=g h (by simp);rw [FP _ _ _ _ _ _ _ (by omega)];exact ad8 x _ (c.getD i zO) (c.getD j zO) (c.getD h zO) C D y F _ i j h _ _ _ _ _ _ _ _ _ e (bF e) c E.ls (E.qs.map Sq.c) J Q M (gV u) (gV G) (gV Z) (kY _ _) t U T (n h Z).1 (n h Z).2 (n j G).1 (n j G).2 (n i u).1 (n i u).2 R O v (aK v) (w true [c.getD i zO,c.getD j zO,c.getD h zO] d (by
    intro o m;simp at m;rcases m with rfl|rfl|rfl
    ·exact f i (by simp)
    ·exact f j (by simp)
    ·exact f h (by simp)))
  |_::_::_::_::_,d=>simp only [μ] at d;omega
theorem vS (E:eU) (A:List (List Nat)):∀ (r:List Nd) (os:List Oq),(trF E A r os).length=os.length+r.length
 | [],os=>by simp [trF]
 |x::r,os=>by rw [trF,vS E A r];simp;omega
theorem G6 (E:eU) (f g c:Bool) {e:List Nd} (h:b_ e ≠ 0) (d:∀ x ∈ e,x.sm):CO 19 [.sl (aV e) e.length c,.agg [.sl (dJ E.ls) E.ls.length f,.sl (dF (E.qs.map Sq.c)) (E.qs.map Sq.c).length g]] (.ret .nilS):=
 ahZ c f g e E.ls (E.qs.map Sq.c) (agI e c (b_ e) [] (by rw [show (b_ e==((0:Nat):Int))=false from beq_eq_false_iff_ne.2 h];rfl) (DI e c d))
theorem zJ (E:eU) (d f c:Bool) {e:List Nd} (i:E.sm) (j:b_ e=0) (g:∀ x ∈ e,x.sm):CO 19 [.sl (aV e) e.length c,.agg [.sl (dJ E.ls) E.ls.length d,.sl (dF (E.qs.map Sq.c)) (E.qs.map Sq.c).length f]] (.ret (.own (dI (bK E e)) (bK E e).length 4)):=by
 have m:(bK E e).length=e.length:=by unfold bK;rw [vS];simp
 have k:=(kw j).2.2;have p:=KC E.ls (E.qs.map Sq.c) d f (Xxa i.ls (by decide)) (by rw [Xxt];exact Xxa i.qs (by decide)) i.lk;have n:∀ nt,56≤nt→az prog ap [] nt (af 0 (ah f19)) (fun _=> .exit 0) (teS E d f c true e (bF e)) acJ [] (bK E e):=fun nt o=>abK o E d f c true i j g e [] [] rfl rfl (by simp)
 have q:=az.blk (id:=0) (e':= .normal) (s:=⟨[(0,.sl (aV e) e.length c),(1,.agg [.sl (dJ E.ls) E.ls.length d,.sl (dF (E.qs.map Sq.c)) (E.qs.map Sq.c).length f]),(3,.ptr 0 0 0),(4,.nilS),(5,.sl (dA (bF e)) (bF e).length true),(6,.bool true),(7,.ptr 1 0 0),(8,.nilS),(9,.dead),(10,.dead),(11,.dead),(13,.dead),(20,.bool false),(23,.sl (aV e) e.length c),(24,ω (e.length:Int)),(25,ω 0),(26,.dead),(33,.dead),(34,.dead),(35,.dead),(36,.dead)],MJ E.ls (E.qs.map Sq.c) d f (zS E.ls).1 (zS E.ls).2 (CY (E.qs.map Sq.c)).1 (CY (E.qs.map Sq.c)).2,.dead,[]⟩) (s':=⟨[(8,.ref 0 0 0 (bK E e).length)],[(0,⟨dI (bK E e),0,false,0,4,true⟩)],.dead,[]⟩) n (by simp) rfl (aH.of ⟨rfl,rfl,rfl,rfl,rfl,rfl,rfl,trivial⟩) (by
  generalize bK E e=t at m;cases t with
  |nil=>simp at m;omega
  |cons a r=>exact aH.refl _)
 have h:=ahY c d f true _ _ _ _ e (bF e) (bK E e) E.ls (E.qs.map Sq.c) (UB e c g j) p q;rw [Ξ (by rw [pU];exact Δ _)] at h;exact h
theorem gU (E:eU) (f g c:Bool) {e:List Nd} (j:E.sm) (d:∀ x ∈ e,x.sm):CO 21 [.sl (aV e) e.length c,.agg [.sl (dJ E.ls) E.ls.length f,.sl (dF (E.qs.map Sq.c)) (E.qs.map Sq.c).length g]] (.ret (eF (Bg E e))):=by
 unfold Bg;by_cases hc:b_ e=0
 ·rw [if_pos hc];have m:=zJ E f g c j hc d;have n:(bK E e).length=e.length:=by unfold bK;rw [vS];simp
  obtain ⟨_,k,i⟩:=kw hc;have h:(bK E e).length - 1<(bK E e).length:=by omega
  have hlast:(bK E e).getLastD (.err 11)=(bK E e).getD ((bK E e).length - 1) zO:=by
   rw [List.getLastD_eq_getLast?,List.getLast?_eq_getElem?,ο,ξ h];rfl
  rw [hlast];refine ahv _ c f g ((bK E e).length - 1) _ e (bK E e) E.ls (E.qs.map Sq.c) (gV h) ?_ (Yq0 (by omega)) (Yq0 (by omega)) ?_ m
  ·congr 1;rw [show (((bK E e).length:Nat):Int) - ((1:Nat):Int)=(((bK E e).length - 1:Nat):Int) by omega];exact aO (by omega)
  ·rw [show ((((bK E e).length:Nat):Int)==((0:Nat):Int))=false from beq_eq_false_iff_ne.2 (by omega)];rfl
 ·rw [if_neg hc];exact ahu c f g e E.ls (E.qs.map Sq.c) (G6 E f g c hc d) (jb 11)
inductive Beg (ps:List (List Nat)):Nat→Nat→Prop where
 |z {i:Nat}:ps[i]? =some []→Beg ps i i
 |s {i c b:Nat} {r:List Nat}:ps[i]? =some (c::r)→c<i→Beg ps c b→Beg ps i b
theorem O7 (E:eU) (e:List Nd):(bK E e).length=e.length:=by unfold bK;rw [vS];simp
theorem jQ (e:Int):CO 47 [ω e] (.ret (.agg [.bool false,.str [],.str [],ω e])):=pK [] 0 0 (.n 5 .nil) (.nil)
abbrev zG (E:eU) (nl ns:Bool):AV:= .agg [.sl (dJ E.ls) E.ls.length nl,.sl (dF (E.qs.map Sq.c)) (E.qs.map Sq.c).length ns]
end Go.Proofs.Tryz
