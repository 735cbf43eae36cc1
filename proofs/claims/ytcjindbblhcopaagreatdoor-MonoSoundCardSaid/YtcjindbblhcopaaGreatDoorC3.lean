/- Contracts of functions that the law reaches, each by its own hypotheses; joined by a program of mine. -/
import Derived.Test.YtcjindbblhcopaaGreatDoorC1
import Derived.Test.YtcjindbblhcopaaGreatDoorC2
import Derived.Test.YtcjindbblhcopaaGreatDoorM5
set_option linter.unusedSimpArgs false
set_option linter.unusedVariables false
set_option maxRecDepth 100000
set_option linter.unusedVariables false
open Go AM
open AV renaming int→Xxm,toInt→Γ,tup→Yqy
open List renaming headD→ζ,drop→ε,length→η,take→ο,length_cons→μ,headD_cons→Xjh,tail_cons→Xzm,length_append→κ,length_singleton→τ,replicate→θ,length_nil→χ,append_nil→Xqa,replicate_succ→Xxd,append_assoc→Ψ,singleton_append→Xxl,nil_append→Xqd,length_replicate→Xxi,map_drop→Xjz,length_drop→Xx8,take_length→Xqw,drop_drop→Xjl,takeWhile_cons_of_neg→Xz9,all→Xzv,flatMap_cons→Xx2,drop_append→Xvd,drop_of_length_le→Xxy,drop_eq_getElem_cons→Xxh,getD_eq_getElem?_getD→ν,getElem?_eq_getElem→ξ,getElem_mem→Xxe,length_take→Xq5,length_set→Xxc,any_cons→Xwu,take_of_length_le→Xqi,mem_singleton→Xjc,all_cons→Xj5,find?_append→Xk8
open Int renaming toNat→δ,fdiv→Xqv,tmod→Xq4,tdiv→Xqs,natAbs_neg→Yxa,natAbs_natCast→Xwv
open IntKind renaming wrap→γ
open Nat renaming ble→Xqk,mod_lt→Xqh,pow_succ→Xq2,mul_assoc→Xqo,mul_add→Xq9,zero_add→Θ,mod_eq_of_lt→Δ,ble_eq→Xxw,add_comm→Xxr,mul_one→Φ,eq_zero_or_pos→Ξ,lt_of_lt_of_le→σ,add_zero→Xq3,lt_or_ge→Xq8,lt_of_le_of_lt→υ,sub_le→Xwm,mul_pos→Xjb,le_refl→φ,pow_add→Xxo,pow_le_pow_right→Xqf,div_le_self→Xji,le_trans→Xxa,gcd→Xxq,mul_div_cancel_left→Xwq,exists_eq_add_of_le→Xv3,add_sub_cancel_left→Xj2,gcd_one_right→Xvw,zero_le→Xxf,add_sub_cancel→Xwp,div_one→Xwz,lt_trans→Xq6,succ_mul→Xkl,lt_trichotomy→Xjy,not_lt_zero→Xww,one_le_pow→Yxb,mul_le_mul_left→Xq0,ble_eq_true_of_le→Xqg
open Bool renaming and_eq_true→π,and_true→Xws,false_eq_true→Xjr,true_and→Xz4,false_or→Xzk,false_and→Xw6
open Option renaming getD→Xz2,isSome→Xj3
namespace Go.Proofs.Tryz
abbrev zcc3_0 : List AV := [ω 9,ω 13,ω 14,ω 21,ω 22,ω 23,ω 10,ω 11,ω 12,ω 15,ω 24]
theorem ajr {nt:Nat} (E:68≤nt) (u v o:List Nat) (A e:Bool) (i j c a x y:Nat) (t:Xxm .u32 (Γ (ζ (ε ((δ (j:Int))*1) (ah v)) .dead))= .int .u32 (y:Int)) (r:Xxm .u64 (γ .u64 (a:Int))= .int .u64 (a:Int)) (h:Xxm .u64 (γ .u64 (y:Int))= .int .u64 (y:Int)) (q:Xxm .u64 (γ .u64 ((a:Int)*(y:Int)))= .int .u64 (((a*y):Nat):Int)) (n:Xxm .u32 (Γ (ζ (ε ((0+(δ (((i+j):Nat):Int)))*1) (ah o)) .dead))= .int .u32 (x:Int)) (w:Xxm .u64 (γ .u64 (x:Int))= .int .u64 (x:Int)) (g:Xxm .u64 (γ .u64 ((((a*y):Nat):Int)+(x:Int)))= .int .u64 (((a*y+x):Nat):Int)) (f:Xxm .u64 (γ .u64 ((((a*y+x):Nat):Int)+(c:Int)))= .int .u64 (((a*y+x+c):Nat):Int)) (d:ω (γ .i64 ((i:Int)+(j:Int)))= ω (((i+j):Nat):Int)) (m:Xxm .u32 (γ .u32 (((a*y+x+c):Nat):Int))= .int .u32 ((((a*y+x+c) % 4294967296):Nat):Int)) (k:Xxm .u64 (Xqv (((a*y+x+c):Nat):Int) (2^(min 32 64)))= .int .u64 ((((a*y+x+c) / 4294967296):Nat):Int)) (p:ω (γ .i64 ((j:Int)+((1:Nat):Int)))= ω (((j+1):Nat):Int)) (D:(Xqk (((0+(δ (((i+j):Nat):Int)))*1)+1) (η (ah o)))=true) (z:(decide (((0:Nat):Int)≤(((i+j):Nat):Int)))=true) (C:(decide ((((i+j):Nat):Int)<(o.length:Int)))=true) (F:(chk (.int .u32) (ζ (ε ((0+(δ (((i+j):Nat):Int)))*1) (ah o)) .dead))=true) (G:(chk (.int .u32) (ζ (ε ((δ (j:Int))*1) (ah v)) .dead))=true) (H:(decide (((0:Nat):Int)≤(j:Int)))=true) (B:(decide ((j:Int)<(v.length:Int)))=true):ai prog ap [] nt (ac 2 (af f189)) ⟨[(1,.sl (ah v) v.length e),(5,.ref 0 0 0 o.length),(6,ω (i:Int)),(7,.int .u32 (a:Int)),(8,.int .u64 (c:Int)),(18,.sl (ah u) u.length A),(19,ω (u.length:Int)),(20,ω (i:Int)),(25,.sl (ah v) v.length e),(26,ω (v.length:Int)),(27,ω (j:Int))],[(0,⟨(ah o),0,false,0,1,true⟩)],.dead,[]⟩ (.normal) ⟨[(1,.sl (ah v) v.length e),(5,.ref 0 0 0 o.length),(6,ω (i:Int)),(7,.int .u32 (a:Int)),(8,.int .u64 ((((a*y+x+c) / 4294967296):Nat):Int)),(18,.sl (ah u) u.length A),(19,ω (u.length:Int)),(20,ω (i:Int)),(25,.sl (ah v) v.length e),(26,ω (v.length:Int)),(27,ω (((j+1):Nat):Int))],[(0,⟨(ο ((0+(δ (((i+j):Nat):Int)))*1) (ah o)++ [.int .u32 ((((a*y+x+c) % 4294967296):Nat):Int)]++ε (((0+(δ (((i+j):Nat):Int)))*1)+1) (ah o)),0,false,0,1,true⟩)],.dead,[]⟩:=pN 189 [] 1 1 (.c D (.c z (.c C (.k 1 F (.c z (.c C (.c G (.c H (.c B (.c (aw B) .nil)))))))))) (.v 56 (.eq p) (.v 54 (.eq k) (.v 52 (.eq m) (.v 50 (.eq d) (.v 46 (.eq f) (.v 44 (.eq g) (.v 43 (.eq w) (.v 42 (.eq n) (.v 40 (.eq d) (.v 36 (.eq q) (.v 35 (.eq h) (.v 33 (.eq r) (.v 31 (.eq t) .nil))))))))))))) E
theorem ajs {nt:Nat} (g:68≤nt) (u v o:List Nat) (e d:Bool) (i j c a x y:Nat) (f:(decide ((j:Int)<(v.length:Int)))=false):ai prog ap [] nt (ac 2 (af f189)) ⟨[(1,.sl (ah v) v.length d),(5,.ref 0 0 0 o.length),(6,ω (i:Int)),(7,.int .u32 (a:Int)),(8,.int .u64 (c:Int)),(18,.sl (ah u) u.length e),(19,ω (u.length:Int)),(20,ω (i:Int)),(25,.sl (ah v) v.length d),(26,ω (v.length:Int)),(27,ω (j:Int))],[(0,⟨(ah o),0,false,0,1,true⟩)],.dead,[]⟩ (.exit 2) ⟨[(1,.sl (ah v) v.length d),(5,.ref 0 0 0 o.length),(6,ω (i:Int)),(8,.int .u64 (c:Int)),(18,.sl (ah u) u.length e),(19,ω (u.length:Int)),(20,ω (i:Int))],[(0,⟨(ah o),0,false,0,1,true⟩)],.dead,[]⟩:=pN 189 [] 1 0 (.c (ay f) .nil) (.nil) g
theorem ajt {nt:Nat} (r:68≤nt) (u v o c:List Nat) (e d:Bool) (i a f:Nat) (g:Xxm .u32 (Γ (ζ (ε ((δ (i:Int))*1) (ah u)) .dead))= .int .u32 (a:Int)) (j:ω (γ .i64 ((i:Int)+(v.length:Int)))= ω (((i+v.length):Nat):Int)) (k:Xxm .u32 (γ .u32 (f:Int))= .int .u32 (f:Int)) (h:ω (γ .i64 ((i:Int)+((1:Nat):Int)))= ω (((i+1):Nat):Int)) (n:(Xqk (((0+(δ (((i+v.length):Nat):Int)))*1)+1) (η (ah c)))=true) (p:(decide (((0:Nat):Int)≤(((i+v.length):Nat):Int)))=true) (y:(decide ((((i+v.length):Nat):Int)<(c.length:Int)))=true) (t:(chk (.int .u32) (ζ (ε ((δ (i:Int))*1) (ah u)) .dead))=true) (w:(decide (((0:Nat):Int)≤(i:Int)))=true) (m:(decide ((i:Int)<(u.length:Int)))=true) (q:aG prog ap [] 68 (.block 2 (.loop (ac 2 (af f189)))) ⟨[(0,.dead),(1,.sl (ah v) v.length d),(4,.dead),(5,.ref 0 0 0 o.length),(6,ω (i:Int)),(7,.int .u32 (a:Int)),(8,.int .u64 0),(9,.dead),(10,.dead),(11,.dead),(18,.sl (ah u) u.length e),(19,ω (u.length:Int)),(20,ω (i:Int)),(21,.bool (decide ((i:Int)<(u.length:Int)))),(25,.sl (ah v) v.length d),(26,ω (v.length:Int)),(27,ω 0),(28,.dead)],[(0,⟨(ah o),0,false,0,1,true⟩)],.dead,[]⟩ (.normal) ⟨[(1,.sl (ah v) v.length d),(5,.ref 0 0 0 c.length),(6,ω (i:Int)),(8,.int .u64 (f:Int)),(18,.sl (ah u) u.length e),(19,ω (u.length:Int)),(20,ω (i:Int))],[(0,⟨(ah c),0,false,0,1,true⟩)],.dead,[]⟩):ψ nt f189 ⟨[(1,.sl (ah v) v.length d),(5,.ref 0 0 0 o.length),(18,.sl (ah u) u.length e),(19,ω (u.length:Int)),(20,ω (i:Int))],[(0,⟨(ah o),0,false,0,1,true⟩)],.dead,[]⟩ (.normal) ⟨[(1,.sl (ah v) v.length d),(5,.ref 0 0 0 c.length),(18,.sl (ah u) u.length e),(19,ω (u.length:Int)),(20,ω (((i+1):Nat):Int))],[(0,⟨(ο ((0+(δ (((i+v.length):Nat):Int)))*1) (ah c)++ [.int .u32 (f:Int)]++ε (((0+(δ (((i+v.length):Nat):Int)))*1)+1) (ah c)),0,false,0,1,true⟩)],.dead,[]⟩:=pN 189 [2] 1 1 (.c n (.c p (.c y (.c t (.c w (.c m (.c (aw m) .nil))))))) (.v 65 (.eq h) (.v 63 (.eq k) (.v 61 (.eq j) (.l q (.v 24 (.eq g) .nil))))) r
theorem aju {nt:Nat} (f:68≤nt) (u v o g:List Nat) (e d:Bool) (i a h:Nat) (c:(decide ((i:Int)<(u.length:Int)))=false):ψ nt f189 ⟨[(1,.sl (ah v) v.length d),(5,.ref 0 0 0 o.length),(18,.sl (ah u) u.length e),(19,ω (u.length:Int)),(20,ω (i:Int))],[(0,⟨(ah o),0,false,0,1,true⟩)],.dead,[]⟩ (.exit 0) ⟨[(5,.ref 0 0 0 o.length)],[(0,⟨(ah o),0,false,0,1,true⟩)],.dead,[]⟩:=pN 189 [] 1 0 (.c (ay c) .nil) (.nil) f
theorem Sn (a b w:List Nat) (c d:Bool) (z:Nat) (e:(decide (((0:Nat):Int)≤(γ .i64 ((a.length:Int)+(b.length:Int)))))=true) (g:(decide ((γ .i64 ((a.length:Int)+(b.length:Int)))=(γ .i64 ((a.length:Int)+(b.length:Int)))))=true) (h:(decide ((γ .i64 ((a.length:Int)+(b.length:Int)))≤((1099511627776:Nat):Int)))=true) (f:CO 161 [.sl (ο (w.length*1) (ah w)) w.length true] (.ret (.sl (ah (digs z)) (digs z).length true))) (i:aG prog ap [] 68 (.block 0 (.loop (ac 0 (af f189)))) ⟨[(0,.sl (ah a) a.length c),(1,.sl (ah b) b.length d),(4,.nilS),(5,.ref 0 0 0 (δ (γ .i64 ((a.length:Int)+(b.length:Int))))),(6,.dead),(7,.dead),(8,.dead),(9,.dead),(10,.dead),(11,.dead),(18,.sl (ah a) a.length c),(19,ω (a.length:Int)),(20,ω 0),(21,.dead),(25,.dead),(26,.dead),(27,.dead),(28,.dead)],[(0,⟨(dX (δ (γ .i64 ((a.length:Int)+(b.length:Int)))) [.int .u32 0]),0,false,0,1,true⟩)],.dead,[]⟩ (.normal) ⟨[(5,.ref 0 0 0 w.length)],[(0,⟨(ah w),0,false,0,1,true⟩)],.dead,[]⟩):CO 189 [.sl (ah a) a.length c,.sl (ah b) b.length d] (.ret (.sl (ah (digs z)) (digs z).length true)):=pK [0] 0 0 (.c e (.c g (.c h .nil))) (.c f (.l i .nil))
def prI (u v:List Nat) (na nb:Bool) (i a:Nat) (p:Nat × List Nat × Nat):St:=⟨[(1,.sl (ah v) v.length nb),(5,.ref 0 0 0 p.2.1.length),(6,ω (i:Int)),(7,.int .u32 (a:Int)),(8,.int .u64 (p.2.2:Int)),(18,.sl (ah u) u.length na),(19,ω (u.length:Int)),(20,ω (i:Int)),(25,.sl (ah v) v.length nb),(26,ω (v.length:Int)),(27,ω (p.1:Int))],[(0,⟨(ah p.2.1),0,false,0,1,true⟩)],.dead,[]⟩
def prJ (u v:List Nat) (na nb:Bool) (i:Nat) (p:List Nat × Nat):St:=⟨[(1,.sl (ah v) v.length nb),(5,.ref 0 0 0 p.1.length),(6,ω (i:Int)),(8,.int .u64 (p.2:Int)),(18,.sl (ah u) u.length na),(19,ω (u.length:Int)),(20,ω (i:Int))],[(0,⟨(ah p.1),0,false,0,1,true⟩)],.dead,[]⟩
def prO (u v:List Nat) (na nb:Bool) (p:Nat × List Nat):St:=⟨[(1,.sl (ah v) v.length nb),(5,.ref 0 0 0 p.2.length),(18,.sl (ah u) u.length na),(19,ω (u.length:Int)),(20,ω (p.1:Int))],[(0,⟨(ah p.2),0,false,0,1,true⟩)],.dead,[]⟩
def prR (o:List Nat):St:=⟨[(5,.ref 0 0 0 o.length)],[(0,⟨(ah o),0,false,0,1,true⟩)],.dead,[]⟩
def AJ (a:Nat):List Nat→List Nat→Nat→List Nat × Nat
 |x::m,y::v,c=>((a*y+x+c) % 4294967296::(AJ a m v ((a*y+x+c) / 4294967296)).1,(AJ a m v ((a*y+x+c) / 4294967296)).2)
 |_,_,c=>([],c)
theorem Fg {a x y c:Nat} (e:a<4294967296) (g:x<4294967296) (h:y<4294967296) (f:c<4294967296):a*y<18446744073709551616∧a*y+x+c<18446744073709551616∧(a*y+x+c) / 4294967296<4294967296:=by
 have d:a*y≤4294967295*4294967295:=Nat.mul_le_mul (by omega) (by omega);omega
theorem Dw {a:Nat} (d:a<4294967296):∀ (m v:List Nat) (c:Nat),m.length=v.length→c<4294967296→bA m→bA v→(AJ a m v c).2<4294967296∧bA (AJ a m v c).1∧(AJ a m v c).1.length=v.length∧aB (AJ a m v c).1+4294967296^v.length*(AJ a m v c).2=aB m+a*aB v+c
 | [],[],c,_,hc,_,_=> ⟨hc,bA.nil,rfl,by simp [AJ,aB]⟩
 |x::m,y::v,c,hl,hc,hm,hv=>by
  obtain ⟨_,_,g⟩:=Fg d hm.head hv.head hc;obtain ⟨i,f,e,j⟩:=Dw d m v _ (by simpa using hl) g hm.tail hv.tail;simp only [AJ];refine ⟨i,bA.cons (Xqh _ (by omega)) f,by simp [e], ?_⟩;simp only [aB,μ,Xq2];rw [Nat.mul_comm (4294967296^v.length),Xqo,Xq9,Nat.mul_left_comm a];omega
 | [],_::_,_,h,_,_,_=>by simp at h
 |_::_,[],_,h,_,_,_=>by simp at h
def I7 (v:List Nat):List Nat→List Nat→List Nat
 | [],m=>m
 |a::u,m=>((AJ a m v 0).1++ [(AJ a m v 0).2]).headD 0::I7 v u ((AJ a m v 0).1++ [(AJ a m v 0).2]).tail
theorem I8 {v:List Nat} (f:bA v):∀ (u m:List Nat),bA u→bA m→m.length=v.length→bA (I7 v u m)∧(I7 v u m).length=u.length+v.length∧aB (I7 v u m)=aB m+aB u*aB v
 | [],m,_,hm,hl=> ⟨hm,by simp [I7,hl],by simp [I7,aB]⟩
 | a::u,m,hu,hm,hl=>by
  obtain ⟨g,k,h,q⟩:=Dw hu.head m v 0 hl (by omega) hm f;obtain ⟨z,c,d,p⟩:=C3 (AJ a m v 0).1 (AJ a m v 0).2;have e:bA (z::c):=by rw [← d];exact bA.app k (bA.cons g bA.nil)
  have o:aB (z::c)=aB m+a*aB v:=by
   rw [← d,jr,h];simp only [aB];omega
  simp only [I7,d,Xjh,Xzm];obtain ⟨n,j,i⟩:=I8 f u c hu.tail e.tail (by omega);refine ⟨bA.cons e.head n,by simp [j];omega, ?_⟩;simp only [aB] at o ⊢;rw [i,Nat.add_mul,Xq9,Xqo];omega
theorem OY {p s:List Nat} {x y k:Nat} (h:k=p.length):ο ((0+(δ (k:Int)))*1) (ah (p++x::s))++ [Xxm .u32 (y:Int)]++ε (((0+(δ (k:Int)))*1)+1) (ah (p++x::s))=ah (p++y::s):=by
 subst h;exact uD
theorem CY {p s:List Nat} {x k:Nat} (h:k=p.length):(ζ (ε ((δ (k:Int))*1) (ah (p++x::s))) .dead)= .int .u32 (x:Int):=by
 subst h;rw [uB];rfl
theorem WD {p s:List Nat} {x k:Nat} (h:k=p.length):(ζ (ε ((0+(δ (k:Int)))*1) (ah (p++x::s))) .dead)= .int .u32 (x:Int):=by
 rw [Θ];exact CY h
theorem wdp {a b:Nat} (h:a+b<9223372036854775808):ω (γ .i64 ((a:Int)+(b:Int)))= ω ((a+b:Nat):Int):=by
 rw [bQ,aS h]
theorem ajW {a b:Nat} (h:a+b<18446744073709551616):Xxm .u64 (γ .u64 ((a:Int)+(b:Int)))= .int .u64 ((a+b:Nat):Int):=by
 rw [bQ,kL,Δ h]
theorem ajV {a:Nat} (h:a<18446744073709551616):Xxm .u64 (γ .u64 (a:Int))= .int .u64 (a:Int):=by
 rw [kL,Δ h]
theorem ajU {a:Nat} (h:a<4294967296):Xxm .u32 (γ .u32 (a:Int))= .int .u32 (a:Int):=by
 rw [mW,Δ h]
theorem Rd {nt:Nat} (B:68≤nt) (u u1 u2 v:List Nat) (k h:Bool) (a:Nat) (W:u=u1++a::u2) (V:a<4294967296) (Z:bA v) (U:u.length<2^38) (S:v.length<2^38):∀ (w m e d pp z:List Nat) (c:Nat),e++w=v→m.length=w.length→d.length=e.length→pp.length=u1.length→bA m→c<4294967296→
  az prog ap [] nt (ac 2 (af f189)) (fun _=> .exit 2) (prI u v k h u1.length a) (prJ u v k h u1.length) (e.length,pp++d++m++z,c) (pp++d++(AJ a m w c).1++z,(AJ a m w c).2):=by
 intro w
 induction w with
 |nil=>
  intro m e d pp z c g j D E i A;have hm:m= []:=List.length_eq_zero_iff.1 (by simpa using j);subst hm;have n:e=v:=by simpa using g
  simp only [AJ];exact .done (ajs B u v _ k h _ _ _ a 0 0 (by rw [n];exact Yq1 (by omega)))
 | cons y w ih=>
  intro m e d pp z c g j D E i A;cases m with
  |nil=>simp at j
  | cons x m=>
   have N:e.length+(w.length+1)=v.length:=by rw [← g];simp
   have O:u1.length+(u2.length+1)=u.length:=by rw [W];simp
   have Y:y<4294967296:=Z y (by rw [← g];simp);have hx:=i.head;obtain ⟨H,b2,R⟩:=Fg V i.head Y A;have f:=ih m (e++ [y]) (d++ [(a*y+x+c) % 4294967296]) pp z ((a*y+x+c) / 4294967296) (by simp [g]) (by simpa using j) (by simp [D]) E i.tail R;simp only [AJ];rw [κ,τ] at f;have P:pp++d++x::m++z=(pp++d)++x::(m++z):=by simp
   have F:pp++(d++ [(a*y+x+c) % 4294967296])++m++z=(pp++d)++(a*y+x+c) % 4294967296::(m++z):=by simp
   have T:pp++(d++ [(a*y+x+c) % 4294967296])++(AJ a m w ((a*y+x+c) / 4294967296)).1++z=pp++d++(a*y+x+c) % 4294967296::(AJ a m w ((a*y+x+c) / 4294967296)).1++z:=by simp
   rw [T] at f;refine .next ?_ f
   have t:u1.length+e.length=(pp++d).length:=by rw [κ];omega
   have C:((pp++d)++x::(m++z)).length=(pp++d).length+(m++z).length+1:=by simp;omega
   have hlen2:((pp++d)++(a*y+x+c) % 4294967296::(m++z)).length=((pp++d)++x::(m++z)).length:=by simp
   have X:=WD (p:=pp++d) (s:=m++z) (x:=x) t;have G:(ζ (ε ((δ (e.length:Int))*1) (ah v)) .dead)= .int .u32 (y:Int):=by rw [← g];exact CY rfl
   have J:=OY (p:=pp++d) (s:=m++z) (x:=x) (y:=(a*y+x+c) % 4294967296) t;unfold prI;simp only [P,F,hlen2];have hs:=ajr B u v ((pp++d)++x::(m++z)) k h u1.length e.length c a x y;rw [J,X,G] at hs;have o:u1.length<u.length:=by omega
   have q:e.length<v.length:=by omega
   have r:u1.length+e.length<((pp++d)++x::(m++z)).length:=by omega
   have I:Xxm .u32 (γ .u32 (((a*y+x+c):Nat):Int))= .int .u32 ((((a*y+x+c) % 4294967296):Nat):Int):=by rw [mW]
   have M:Xxm .u64 (Xqv (((a*y+x+c):Nat):Int) (2^(min 32 64)))= .int .u64 ((((a*y+x+c) / 4294967296):Nat):Int):=by rw [show min 32 64=32 from rfl,iQ]
   have Q:Xxm .u64 (γ .u64 ((a:Int)*(y:Int)))= .int .u64 ((a*y:Nat):Int):=by rw [← Int.natCast_mul,kL,Δ H]
   have K:Xqk (((0+(δ (((u1.length+e.length):Nat):Int)))*1)+1) (η (ah ((pp++d)++x::(m++z))))=true:=by
    rw [Xxw,av,aq];omega
   have y1:a*y+x<18446744073709551616:=by omega
   apply hs<;>first|exact rfl|exact wdp (by omega)|exact ajW (by omega)|exact I|exact M|exact Q|exact ajV (by omega)|exact K|exact bw _|exact aF o|exact aF q|exact aF r
theorem Oe {nt:Nat} (j:68≤nt) (u v:List Nat) (i h:Bool) (e:bA u) (F:bA v) (A:u.length<2^38) (w:v.length<2^38):∀ (u2 u1 m pp:List Nat),u1++u2=u→m.length=v.length→pp.length=u1.length→bA m→
  az prog ap [] nt (ac 0 (af f189)) (fun _=> .exit 0) (prO u v i h) prR (u1.length,pp++m++θ u2.length 0) (pp++I7 v u2 m):=by
 intro u2
 induction u2 with
 |nil=>
  intro u1 m pp d n B D;have q:u1=u:=by simpa using d
  simp only [I7,χ,List.replicate_zero,Xqa];exact .done (aju j u v _ [] i h _ 0 0 (by rw [q];exact Yq1 (by omega)))
 | cons a u2 ih=>
  intro u1 m pp d n B D;have N:u1.length+(u2.length+1)=u.length:=by rw [← d];simp
  have E:a<4294967296:=e a (by rw [← d];simp);obtain ⟨J,R,T,U⟩:=Dw E m v 0 n (by omega) D F;have t:=fun nt (j:68≤nt)=>Rd j u u1 u2 v i h a d.symm E F A w v m [] [] pp (θ (u2.length+1) 0) 0 rfl n rfl B D (by omega)
  simp only [I7];generalize AJ a m v 0=r at*
  obtain ⟨z,f,k,S⟩:=C3 r.1 r.2;have Q:bA (z::f):=by rw [← k];exact bA.app R (bA.cons J bA.nil)
  have c:=ih (u1++ [a]) f (pp++ [z]) (by simp [d]) (by omega) (by simp [B]) Q.tail;simp only [k,Xjh,Xzm];rw [κ,τ] at c;have P:pp++ [z]++I7 v u2 f=pp++z::I7 v u2 f:=by simp
  rw [P] at c;refine .next ?_ c
  rw [Xqa] at t;have G:u1.length+v.length=(pp++r.1).length:=by rw [κ];omega
  have O:pp++r.1++θ (u2.length+1) 0=(pp++r.1)++0::θ u2.length 0:=by rw [Xxd]
  have H:pp++ [z]++f++θ u2.length 0=(pp++r.1)++r.2::θ u2.length 0:=by
   rw [Ψ pp,Xxl,← k];simp
  have I:(ζ (ε ((δ (u1.length:Int))*1) (ah u)) .dead)= .int .u32 (a:Int):=by rw [← d];exact CY rfl
  have M:=OY (p:=pp++r.1) (s:=θ u2.length 0) (x:=0) (y:=r.2) G;rw [O] at t;have g:((pp++r.1)++0::θ u2.length 0).length=((pp++r.1)++r.2::θ u2.length 0).length:=by simp
  have hlen2:((pp++r.1)++0::θ u2.length 0).length=(pp++r.1).length+u2.length+1:=by simp;omega
  have hs:=ajt j u v (pp++m++θ (u2.length+1) 0) ((pp++r.1)++0::θ u2.length 0) i h u1.length a r.2;rw [M,I] at hs;have o:u1.length<u.length:=by omega
  have C:u1.length+v.length<((pp++r.1)++0::θ u2.length 0).length:=by omega
  have K:Xqk (((0+(δ (((u1.length+v.length):Nat):Int)))*1)+1) (η (ah ((pp++r.1)++0::θ u2.length 0)))=true:=by
   rw [Xxw,av,aq];omega
  unfold prO;simp only [H,μ];rw [← g];apply hs<;>first|exact rfl|exact wdp (by omega)|exact ajU (by omega)|exact K|exact bw _|exact aF o|exact aF C|skip
  exact az.blk t (by simp) rfl (aJ.of ⟨rfl,rfl,rfl,rfl,rfl,rfl,rfl,rfl,rfl,rfl,rfl,trivial⟩) (aJ.refl _)
theorem Sr (a b:List Nat) (e c:Bool) (g:bA a) (d:bA b) (t:a.length<2^37) (u:b.length<2^37):CO 189 [.sl (ah a) a.length e,.sl (ah b) b.length c] (.ret (.sl (ah (digs (aB a*aB b))) (digs (aB a*aB b)).length true)):=by
 obtain ⟨q,r,k⟩:=I8 d a (θ b.length 0) g (fun x i=>by rw [(List.mem_replicate.1 i).2];omega) (by simp);have m:aB (θ b.length 0)=0:=by
  generalize b.length=n
  induction n with
  |zero=>rfl
  |succ n ih=>rw [Xxd];simp only [aB,ih]
 rw [m,Θ] at k;have o:∀ nt,68≤nt→az prog ap [] nt (ac 0 (af f189)) (fun _=> .exit 0) (prO a b e c) prR (0,θ (a.length+b.length) 0) (I7 b a (θ b.length 0)):=fun nt j=>by
  have:=Oe j a b e c g d (by omega) (by omega) a [] (θ b.length 0) [] rfl (by simp) rfl (fun x i=>by rw [(List.mem_replicate.1 i).2];omega);rw [Xqd,Xqd,List.replicate_append_replicate,Xxr] at this;exact this
 generalize I7 b a (θ b.length 0)=w at*
 have f:=Sn a b w e c (aB a*aB b);have p:γ .i64 ((a.length:Int)+(b.length:Int))=((a.length+b.length:Nat):Int):=by rw [bQ,aS (by omega)]
 rw [p,av,lC] at f;have h:=az.blk (s:=prO a b e c (0,θ (a.length+b.length) 0)) (s':=prR w) (id:=0) o (by simp) rfl (aJ.refl _) (aJ.refl _);unfold prO at h;simp only [Xxi] at h;exact f (Yq0 (by omega)) (Yq0 rfl) (Yq0 (by omega)) (ww w _ _ rfl (by rw [gH q,k]) (by omega)) fun nt j=>(h nt j).weak (aJ.of ⟨rfl,rfl,rfl,rfl,rfl,trivial⟩) (aJ.refl _)
theorem R5 (s t:List UInt8) (hs:s.length<2^36) (f:t.length<2^36):CO 175 [.str s,.str t] (.ret (.str (aa (ae s*ae t)))):=by
 have c:=mC (s:=s) (n:=2^34) (by omega);have d:=mC (s:=t) (n:=2^34) (by omega);have e:=J4 c d;have h:=Sr (digs (ae s)) (digs (ae t)) true true (bA.digs _) (bA.digs _) (by omega) (by omega);rw [dz,dz] at h;exact W9 s t _ (pI s (by omega)) (pI t (by omega)) h (mS _ _ true (qM _) (by omega) (by omega))
theorem acF {nt:Nat} (p:83≤nt) (u v o:List Nat) (k c x y:Nat) (r:ω (Γ (ζ (ε ((δ (k:Int))*1) (ag u)) .dead))= ω (x:Int)) (i:ω (γ .i64 ((c:Int)+(x:Int)))= ω (((c+x):Nat):Int)) (t:ω (Γ (ζ (ε ((δ (k:Int))*1) (ag v)) .dead))= ω (y:Int)) (f:ω (γ .i64 ((((c+x):Nat):Int)+(y:Int)))= ω (((c+x+y):Nat):Int)) (h:ω (Xq4 (((c+x+y):Nat):Int) ((16777216:Nat):Int))= ω ((((c+x+y) % 16777216):Nat):Int)) (g:ω (γ .i64 (Xqs (((c+x+y):Nat):Int) ((16777216:Nat):Int)))= ω ((((c+x+y) / 16777216):Nat):Int)) (e:ω (γ .i64 ((k:Int)+((1:Nat):Int)))= ω (((k+1):Nat):Int)) (n:(chk (.int .i64) (ζ (ε ((δ (k:Int))*1) (ag v)) .dead))=true) (j:(decide (((0:Nat):Int)≤(k:Int)))=true) (m:(decide ((k:Int)<(v.length:Int)))=true) (q:(chk (.int .i64) (ζ (ε ((δ (k:Int))*1) (ag u)) .dead))=true) (d:(decide ((k:Int)<(u.length:Int)))=true):ψ nt f61 ⟨[(9,.sl (ag u) u.length false),(10,.sl (ag v) v.length false),(11,.nilS),(12,ω (c:Int)),(13,ω (k:Int))],[],.dead,[]⟩ (.normal) ⟨[(9,.sl (ag u) u.length false),(10,.sl (ag v) v.length false),(11,.ref 0 0 0 1),(12,ω ((((c+x+y) / 16777216):Nat):Int)),(13,ω (((k+1):Nat):Int))],[(0,⟨[ω ((((c+x+y) % 16777216):Nat):Int)],0,false,0,1,true⟩)],.dead,[]⟩:=pN 61 [] 6 31 (.k 5 n (.c j (.c m (.c (aw m) (.c q (.c j (.c d (.c (aw d) (.k 2 (aw d) .nil))))))))) (.v 52 (.eq e) (.v 80 (.eq g) (.v 76 (.eq h) (.v 73 (.eq f) (.v 72 (.eq t) (.v 63 (.eq i) (.v 62 (.eq r) .nil))))))) p
theorem acG {nt:Nat} (p:83≤nt) (u v o:List Nat) (k c x y:Nat) (n:ω (Γ (ζ (ε ((δ (k:Int))*1) (ag u)) .dead))= ω (x:Int)) (e:ω (γ .i64 ((c:Int)+(x:Int)))= ω (((c+x):Nat):Int)) (f:ω (Xq4 (((c+x):Nat):Int) ((16777216:Nat):Int))= ω ((((c+x) % 16777216):Nat):Int)) (g:ω (γ .i64 (Xqs (((c+x):Nat):Int) ((16777216:Nat):Int)))= ω ((((c+x) / 16777216):Nat):Int)) (h:ω (γ .i64 ((k:Int)+((1:Nat):Int)))= ω (((k+1):Nat):Int)) (i:(decide ((k:Int)<(v.length:Int)))=false) (m:(chk (.int .i64) (ζ (ε ((δ (k:Int))*1) (ag u)) .dead))=true) (j:(decide (((0:Nat):Int)≤(k:Int)))=true) (d:(decide ((k:Int)<(u.length:Int)))=true):ψ nt f61 ⟨[(9,.sl (ag u) u.length false),(10,.sl (ag v) v.length false),(11,.nilS),(12,ω (c:Int)),(13,ω (k:Int))],[],.dead,[]⟩ (.normal) ⟨[(9,.sl (ag u) u.length false),(10,.sl (ag v) v.length false),(11,.ref 0 0 0 1),(12,ω ((((c+x) / 16777216):Nat):Int)),(13,ω (((k+1):Nat):Int))],[(0,⟨[ω ((((c+x) % 16777216):Nat):Int)],0,false,0,1,true⟩)],.dead,[]⟩:=pN 61 [] 6 15 (.k 5 (ay i) (.c m (.c j (.c d (.c (aw d) (.k 2 (aw d) .nil)))))) (.v 52 (.eq h) (.v 80 (.eq g) (.v 76 (.eq f) (.v 63 (.eq e) (.v 62 (.eq n) .nil))))) p
theorem acH {nt:Nat} (n:83≤nt) (u v o:List Nat) (k c x y:Nat) (p:ω (Γ (ζ (ε ((δ (k:Int))*1) (ag v)) .dead))= ω (y:Int)) (h:ω (γ .i64 ((c:Int)+(y:Int)))= ω (((c+y):Nat):Int)) (f:ω (Xq4 (((c+y):Nat):Int) ((16777216:Nat):Int))= ω ((((c+y) % 16777216):Nat):Int)) (e:ω (γ .i64 (Xqs (((c+y):Nat):Int) ((16777216:Nat):Int)))= ω ((((c+y) / 16777216):Nat):Int)) (g:ω (γ .i64 ((k:Int)+((1:Nat):Int)))= ω (((k+1):Nat):Int)) (j:(chk (.int .i64) (ζ (ε ((δ (k:Int))*1) (ag v)) .dead))=true) (m:(decide (((0:Nat):Int)≤(k:Int)))=true) (d:(decide ((k:Int)<(v.length:Int)))=true) (i:(decide ((k:Int)<(u.length:Int)))=false):ψ nt f61 ⟨[(9,.sl (ag u) u.length false),(10,.sl (ag v) v.length false),(11,.nilS),(12,ω (c:Int)),(13,ω (k:Int))],[],.dead,[]⟩ (.normal) ⟨[(9,.sl (ag u) u.length false),(10,.sl (ag v) v.length false),(11,.ref 0 0 0 1),(12,ω ((((c+y) / 16777216):Nat):Int)),(13,ω (((k+1):Nat):Int))],[(0,⟨[ω ((((c+y) % 16777216):Nat):Int)],0,false,0,1,true⟩)],.dead,[]⟩:=pN 61 [] 6 22 (.k 5 j (.c m (.c d (.c (aw d) (.c (ay i) (.k 1 (aw d) (.c (ay i) .nil))))))) (.v 52 (.eq g) (.v 80 (.eq e) (.v 76 (.eq f) (.v 73 (.eq h) (.v 72 (.eq p) .nil))))) n
theorem acI {nt:Nat} (j:83≤nt) (u v o:List Nat) (k c x y:Nat) (e:ω (Xq4 (c:Int) ((16777216:Nat):Int))= ω (((c % 16777216):Nat):Int)) (d:ω (γ .i64 (Xqs (c:Int) ((16777216:Nat):Int)))= ω (((c / 16777216):Nat):Int)) (f:ω (γ .i64 ((k:Int)+((1:Nat):Int)))= ω (((k+1):Nat):Int)) (g:(decide ((k:Int)<(v.length:Int)))=false) (h:(decide ((k:Int)<(u.length:Int)))=false) (i:(decide (((0:Nat):Int)<(c:Int)))=true):ψ nt f61 ⟨[(9,.sl (ag u) u.length false),(10,.sl (ag v) v.length false),(11,.nilS),(12,ω (c:Int)),(13,ω (k:Int))],[],.dead,[]⟩ (.normal) ⟨[(9,.sl (ag u) u.length false),(10,.sl (ag v) v.length false),(11,.ref 0 0 0 1),(12,ω (((c / 16777216):Nat):Int)),(13,ω (((k+1):Nat):Int))],[(0,⟨[ω (((c % 16777216):Nat):Int)],0,false,0,1,true⟩)],.dead,[]⟩:=pN 61 [] 6 4 (.k 5 (ay g) (.c (ay h) (.c (aw i) (.c (ay g) (.c (ay h) .nil))))) (.v 52 (.eq f) (.v 80 (.eq d) (.v 76 (.eq e) .nil))) j
theorem acJ {nt:Nat} (g:83≤nt) (u v o:List Nat) (k c x y:Nat) (d:(decide (((0:Nat):Int)<(c:Int)))=false) (f:(decide ((k:Int)<(v.length:Int)))=false) (e:(decide ((k:Int)<(u.length:Int)))=false):ψ nt f61 ⟨[(9,.sl (ag u) u.length false),(10,.sl (ag v) v.length false),(11,.nilS),(12,ω (c:Int)),(13,ω (k:Int))],[],.dead,[]⟩ (.exit 0) ⟨[(11,.nilS)],[],.dead,[]⟩:=pN 61 [] 3 0 (.c (ay d) (.c (ay f) (.c (ay e) .nil))) (.nil) g
theorem acA {nt:Nat} (r:83≤nt) (u v o:List Nat) (k c x y:Nat) (w:ω (Γ (ζ (ε ((δ (k:Int))*1) (ag u)) .dead))= ω (x:Int)) (h:ω (γ .i64 ((c:Int)+(x:Int)))= ω (((c+x):Nat):Int)) (z:ω (Γ (ζ (ε ((δ (k:Int))*1) (ag v)) .dead))= ω (y:Int)) (e:ω (γ .i64 ((((c+x):Nat):Int)+(y:Int)))= ω (((c+x+y):Nat):Int)) (g:ω (Xq4 (((c+x+y):Nat):Int) ((16777216:Nat):Int))= ω ((((c+x+y) % 16777216):Nat):Int)) (f:ω (γ .i64 (Xqs (((c+x+y):Nat):Int) ((16777216:Nat):Int)))= ω ((((c+x+y) / 16777216):Nat):Int)) (d:ω (γ .i64 ((k:Int)+((1:Nat):Int)))= ω (((k+1):Nat):Int)) (n:(Xqk (o.length+1) 1099511627776)=true) (p:(Xqk (o.length*1) (η (ag o)))=true) (t:(chk (.int .i64) (ζ (ε ((δ (k:Int))*1) (ag v)) .dead))=true) (j:(decide (((0:Nat):Int)≤(k:Int)))=true) (m:(decide ((k:Int)<(v.length:Int)))=true) (q:(chk (.int .i64) (ζ (ε ((δ (k:Int))*1) (ag u)) .dead))=true) (i:(decide ((k:Int)<(u.length:Int)))=true):ψ nt f61 ⟨[(9,.sl (ag u) u.length false),(10,.sl (ag v) v.length false),(11,.ref 0 0 0 o.length),(12,ω (c:Int)),(13,ω (k:Int))],[(0,⟨(ag o),0,false,0,1,true⟩)],.dead,[]⟩ (.normal) ⟨[(9,.sl (ag u) u.length false),(10,.sl (ag v) v.length false),(11,.ref 0 0 0 (o.length+1)),(12,ω ((((c+x+y) / 16777216):Nat):Int)),(13,ω (((k+1):Nat):Int))],[(0,⟨((ο (o.length*1) (ag o))++ [ω ((((c+x+y) % 16777216):Nat):Int)]),0,false,0,1,true⟩)],.dead,[]⟩:=pN 61 [] 5 31 (.k 2 n (.c p (.k 2 t (.c j (.c m (.c (aw m) (.c q (.c j (.c i (.c (aw i) (.k 2 (aw i) .nil))))))))))) (.v 52 (.eq d) (.v 80 (.eq f) (.v 76 (.eq g) (.v 73 (.eq e) (.v 72 (.eq z) (.v 63 (.eq h) (.v 62 (.eq w) .nil))))))) r
theorem acB {nt:Nat} (m:83≤nt) (u v o:List Nat) (k c x y:Nat) (r:ω (Γ (ζ (ε ((δ (k:Int))*1) (ag u)) .dead))= ω (x:Int)) (h:ω (γ .i64 ((c:Int)+(x:Int)))= ω (((c+x):Nat):Int)) (g:ω (Xq4 (((c+x):Nat):Int) ((16777216:Nat):Int))= ω ((((c+x) % 16777216):Nat):Int)) (f:ω (γ .i64 (Xqs (((c+x):Nat):Int) ((16777216:Nat):Int)))= ω ((((c+x) / 16777216):Nat):Int)) (e:ω (γ .i64 ((k:Int)+((1:Nat):Int)))= ω (((k+1):Nat):Int)) (i:(Xqk (o.length+1) 1099511627776)=true) (j:(Xqk (o.length*1) (η (ag o)))=true) (q:(decide ((k:Int)<(v.length:Int)))=false) (n:(chk (.int .i64) (ζ (ε ((δ (k:Int))*1) (ag u)) .dead))=true) (p:(decide (((0:Nat):Int)≤(k:Int)))=true) (d:(decide ((k:Int)<(u.length:Int)))=true):ψ nt f61 ⟨[(9,.sl (ag u) u.length false),(10,.sl (ag v) v.length false),(11,.ref 0 0 0 o.length),(12,ω (c:Int)),(13,ω (k:Int))],[(0,⟨(ag o),0,false,0,1,true⟩)],.dead,[]⟩ (.normal) ⟨[(9,.sl (ag u) u.length false),(10,.sl (ag v) v.length false),(11,.ref 0 0 0 (o.length+1)),(12,ω ((((c+x) / 16777216):Nat):Int)),(13,ω (((k+1):Nat):Int))],[(0,⟨((ο (o.length*1) (ag o))++ [ω ((((c+x) % 16777216):Nat):Int)]),0,false,0,1,true⟩)],.dead,[]⟩:=pN 61 [] 5 15 (.k 2 i (.c j (.k 2 (ay q) (.c n (.c p (.c d (.c (aw d) (.k 2 (aw d) .nil)))))))) (.v 52 (.eq e) (.v 80 (.eq f) (.v 76 (.eq g) (.v 63 (.eq h) (.v 62 (.eq r) .nil))))) m
theorem acC {nt:Nat} (n:83≤nt) (u v o:List Nat) (k c x y:Nat) (r:ω (Γ (ζ (ε ((δ (k:Int))*1) (ag v)) .dead))= ω (y:Int)) (e:ω (γ .i64 ((c:Int)+(y:Int)))= ω (((c+y):Nat):Int)) (h:ω (Xq4 (((c+y):Nat):Int) ((16777216:Nat):Int))= ω ((((c+y) % 16777216):Nat):Int)) (g:ω (γ .i64 (Xqs (((c+y):Nat):Int) ((16777216:Nat):Int)))= ω ((((c+y) / 16777216):Nat):Int)) (d:ω (γ .i64 ((k:Int)+((1:Nat):Int)))= ω (((k+1):Nat):Int)) (j:(Xqk (o.length+1) 1099511627776)=true) (m:(Xqk (o.length*1) (η (ag o)))=true) (q:(chk (.int .i64) (ζ (ε ((δ (k:Int))*1) (ag v)) .dead))=true) (p:(decide (((0:Nat):Int)≤(k:Int)))=true) (f:(decide ((k:Int)<(v.length:Int)))=true) (i:(decide ((k:Int)<(u.length:Int)))=false):ψ nt f61 ⟨[(9,.sl (ag u) u.length false),(10,.sl (ag v) v.length false),(11,.ref 0 0 0 o.length),(12,ω (c:Int)),(13,ω (k:Int))],[(0,⟨(ag o),0,false,0,1,true⟩)],.dead,[]⟩ (.normal) ⟨[(9,.sl (ag u) u.length false),(10,.sl (ag v) v.length false),(11,.ref 0 0 0 (o.length+1)),(12,ω ((((c+y) / 16777216):Nat):Int)),(13,ω (((k+1):Nat):Int))],[(0,⟨((ο (o.length*1) (ag o))++ [ω ((((c+y) % 16777216):Nat):Int)]),0,false,0,1,true⟩)],.dead,[]⟩:=pN 61 [] 5 22 (.k 2 j (.c m (.k 2 q (.c p (.c f (.c (aw f) (.c (ay i) (.k 1 (aw f) (.c (ay i) .nil))))))))) (.v 52 (.eq d) (.v 80 (.eq g) (.v 76 (.eq h) (.v 73 (.eq e) (.v 72 (.eq r) .nil))))) n
theorem acD {nt:Nat} (n:83≤nt) (u v o:List Nat) (k c x y:Nat) (e:ω (Xq4 (c:Int) ((16777216:Nat):Int))= ω (((c % 16777216):Nat):Int)) (d:ω (γ .i64 (Xqs (c:Int) ((16777216:Nat):Int)))= ω (((c / 16777216):Nat):Int)) (f:ω (γ .i64 ((k:Int)+((1:Nat):Int)))= ω (((k+1):Nat):Int)) (i:(Xqk (o.length+1) 1099511627776)=true) (m:(Xqk (o.length*1) (η (ag o)))=true) (h:(decide ((k:Int)<(v.length:Int)))=false) (g:(decide ((k:Int)<(u.length:Int)))=false) (j:(decide (((0:Nat):Int)<(c:Int)))=true):ψ nt f61 ⟨[(9,.sl (ag u) u.length false),(10,.sl (ag v) v.length false),(11,.ref 0 0 0 o.length),(12,ω (c:Int)),(13,ω (k:Int))],[(0,⟨(ag o),0,false,0,1,true⟩)],.dead,[]⟩ (.normal) ⟨[(9,.sl (ag u) u.length false),(10,.sl (ag v) v.length false),(11,.ref 0 0 0 (o.length+1)),(12,ω (((c / 16777216):Nat):Int)),(13,ω (((k+1):Nat):Int))],[(0,⟨((ο (o.length*1) (ag o))++ [ω (((c % 16777216):Nat):Int)]),0,false,0,1,true⟩)],.dead,[]⟩:=pN 61 [] 5 4 (.k 2 i (.c m (.k 2 (ay h) (.c (ay g) (.c (aw j) (.c (ay h) (.c (ay g) .nil))))))) (.v 52 (.eq f) (.v 80 (.eq d) (.v 76 (.eq e) .nil))) n
theorem acE {nt:Nat} (g:83≤nt) (u v o:List Nat) (k c x y:Nat) (d:(decide (((0:Nat):Int)<(c:Int)))=false) (f:(decide ((k:Int)<(v.length:Int)))=false) (e:(decide ((k:Int)<(u.length:Int)))=false):ψ nt f61 ⟨[(9,.sl (ag u) u.length false),(10,.sl (ag v) v.length false),(11,.ref 0 0 0 o.length),(12,ω (c:Int)),(13,ω (k:Int))],[(0,⟨(ag o),0,false,0,1,true⟩)],.dead,[]⟩ (.exit 0) ⟨[(11,.ref 0 0 0 o.length)],[(0,⟨(ag o),0,false,0,1,true⟩)],.dead,[]⟩:=pN 61 [] 3 0 (.c (ay d) (.c (ay f) (.c (ay e) .nil))) (.nil) g
theorem Xo (s t:List UInt8) (x y z:Nat) (w:List Nat) (d:CO 77 [.str s,ω 7] (.ret (.tup [ω (x:Int),.bool true]))) (c:CO 77 [.str t,ω 7] (.ret (.tup [ω (y:Int),.bool true]))) (e:CO 49 [ω (γ .i64 ((x:Int)+(y:Int)))] (.ret (.str (aa z)))):CO 61 [.str s,.str t] (.ret (.str (aa z))):=pK [] 2 3 (.n 2 .nil) (.c e (.c c (.c d .nil)))
theorem Xp (s t:List UInt8) (x y z:Nat) (w:List Nat) (d:CO 77 [.str s,ω 7] (.ret (.tup [ω (x:Int),.bool true]))) (c:CO 77 [.str t,ω 7] (.ret (.tup [ω (y:Int),.bool false]))) (f:CO 78 [.str s] (.ret (.sl (ag (ak (ae s))) (ak (ae s)).length false))) (e:CO 78 [.str t] (.ret (.sl (ag (ak (ae t))) (ak (ae t)).length false))) (h:CO 79 [.sl (ο (w.length*1) (ag w)) w.length true] (.ret (.str (aa z)))) (g:aG prog ap [] 83 (.block 0 (.loop (ac 0 (af f61)))) ⟨[(0,.str s),(1,.str t),(4,.str []),(5,ω (x:Int)),(6,.bool true),(7,ω (y:Int)),(8,.bool false),(9,.sl (ag (ak (ae s))) (ak (ae s)).length false),(10,.sl (ag (ak (ae t))) (ak (ae t)).length false),(11,.nilS),(12,ω 0),(13,ω 0),(14,.dead),(28,.bool false),(50,.dead),(57,.dead),(67,.dead)],[],.dead,[]⟩ (.normal) ⟨[(11,.ref 0 0 0 w.length)],[(0,⟨(ag w),0,false,0,1,true⟩)],.dead,[]⟩):CO 61 [.str s,.str t] (.ret (.str (aa z))):=pK [0] 2 1 (.n 2 .nil) (.c h (.l g (.c e (.c f (.c c (.c d .nil))))))
theorem Xq (s t:List UInt8) (x y z:Nat) (w:List Nat) (d:CO 77 [.str s,ω 7] (.ret (.tup [ω (x:Int),.bool false]))) (c:CO 77 [.str t,ω 7] (.ret (.tup [ω (y:Int),.bool true]))) (f:CO 78 [.str s] (.ret (.sl (ag (ak (ae s))) (ak (ae s)).length false))) (e:CO 78 [.str t] (.ret (.sl (ag (ak (ae t))) (ak (ae t)).length false))) (h:CO 79 [.sl (ο (w.length*1) (ag w)) w.length true] (.ret (.str (aa z)))) (g:aG prog ap [] 83 (.block 0 (.loop (ac 0 (af f61)))) ⟨[(0,.str s),(1,.str t),(4,.str []),(5,ω (x:Int)),(6,.bool false),(7,ω (y:Int)),(8,.bool true),(9,.sl (ag (ak (ae s))) (ak (ae s)).length false),(10,.sl (ag (ak (ae t))) (ak (ae t)).length false),(11,.nilS),(12,ω 0),(13,ω 0),(14,.dead),(28,.bool false),(50,.dead),(57,.dead),(67,.dead)],[],.dead,[]⟩ (.normal) ⟨[(11,.ref 0 0 0 w.length)],[(0,⟨(ag w),0,false,0,1,true⟩)],.dead,[]⟩):CO 61 [.str s,.str t] (.ret (.str (aa z))):=pK [0] 2 0 (.n 2 .nil) (.c h (.l g (.c e (.c f (.c c (.c d .nil))))))
theorem Xr (s t:List UInt8) (x y z:Nat) (w:List Nat) (d:CO 77 [.str s,ω 7] (.ret (.tup [ω (x:Int),.bool false]))) (c:CO 77 [.str t,ω 7] (.ret (.tup [ω (y:Int),.bool false]))) (f:CO 78 [.str s] (.ret (.sl (ag (ak (ae s))) (ak (ae s)).length false))) (e:CO 78 [.str t] (.ret (.sl (ag (ak (ae t))) (ak (ae t)).length false))) (h:CO 79 [.sl (ο (w.length*1) (ag w)) w.length true] (.ret (.str (aa z)))) (g:aG prog ap [] 83 (.block 0 (.loop (ac 0 (af f61)))) ⟨[(0,.str s),(1,.str t),(4,.str []),(5,ω (x:Int)),(6,.bool false),(7,ω (y:Int)),(8,.bool false),(9,.sl (ag (ak (ae s))) (ak (ae s)).length false),(10,.sl (ag (ak (ae t))) (ak (ae t)).length false),(11,.nilS),(12,ω 0),(13,ω 0),(14,.dead),(28,.bool false),(50,.dead),(57,.dead),(67,.dead)],[],.dead,[]⟩ (.normal) ⟨[(11,.ref 0 0 0 w.length)],[(0,⟨(ag w),0,false,0,1,true⟩)],.dead,[]⟩):CO 61 [.str s,.str t] (.ret (.str (aa z))):=pK [0] 2 0 (.n 2 .nil) (.c h (.l g (.c e (.c f (.c c (.c d .nil))))))
theorem ac0 (s t:List UInt8) (x y z:Nat) (w:List Nat) (c:(decide ((ji (ae s) (ae t))<((0:Nat):Int)))=false) (e:CO 118 [.str s,.str t] (.ret (ω (ji (ae s) (ae t))))) (d:CO 78 [.str s] (.ret (.sl (ag (ak (ae s))) (ak (ae s)).length false))) (g:CO 78 [.str t] (.ret (.sl (ag (ak (ae t))) (ak (ae t)).length false))) (f:CO 111 [.sl (ag (ak (ae s))) (ak (ae s)).length false,.sl (ag (ak (ae t))) (ak (ae t)).length false] (.ret (.sl (ag (ak z)) (ak z).length false))) (h:CO 79 [.sl (ag (ak z)) (ak z).length false] (.ret (.str (aa z)))):CO 119 [.str s,.str t] (.ret (.tup [.str (aa z),.bool true])):=pK [] 1 0 (.c (ay c) .nil) (.c h (.c f (.c g (.c d (.c e .nil)))))
def apQ (o:List Nat):AV:=match o with| []=> .nilS|_::_=> .ref 0 0 0 o.length
def hpQ (o:List Nat):Hp:=match o with| []=> []|a::r=> [(0,⟨ag (a::r),0,false,0,1,true⟩)]
def vB (u v:List Nat) (p:List Nat × Nat):St:=⟨[(9,.sl (ag u) u.length false),(10,.sl (ag v) v.length false),(11,apQ p.1),(12,ω (p.2:Int)),(13,ω (p.1.length:Int))],hpQ p.1,.dead,[]⟩
def Jb (o:List Nat):St:=⟨[(11,apQ o)],hpQ o,.dead,[]⟩
theorem Dx {u r:List Nat} {x k:Nat} (h:ε k u=x::r):(ζ (ε ((δ (k:Int))*1) (ag u)) .dead)= ω (x:Int)∧k<u.length:=by
 refine ⟨?_, ?_⟩
 ·rw [av,Φ];have:ε k (ag u)=ag (ε k u):=by unfold ag;rw [Xjz]
  rw [this,h];rfl
 ·have:=congrArg η h;rw [Xx8,μ] at this;omega
theorem vz {u:List Nat} {k:Nat} (h:ε k u= []):u.length≤k:=by
 have:=congrArg η h;rw [Xx8,χ] at this;omega
theorem Ja (o:List Nat) (d:Nat):ο (o.length*1) (ag o)++ [ω (d:Int)]=ag (o++ [d]):=by
 rw [Φ,ct,Xqw,iD]
theorem Fl (S:Nat):ω (Xq4 (S:Int) ((16777216:Nat):Int))= ω (((S % 16777216):Nat):Int):=by rw [rR]
theorem Fj {S:Nat} (h:S<2^62):ω (γ .i64 (Xqs (S:Int) ((16777216:Nat):Int)))= ω (((S / 16777216):Nat):Int):=by rw [lL,aS (by omega)]
theorem acz {nt:Nat} (f:83≤nt) {u v o ru rv:List Nat} {c x y:Nat} (g:ε o.length u=x::ru) (i:ε o.length v=y::rv) (m:x<16777216) (n:y<16777216) (j:c<16777216) (k:o.length<2^39):
  ψ nt f61 (vB u v (o,c)) .normal (vB u v (o++ [(c+x+y) % 16777216],(c+x+y) / 16777216)):=by
 obtain ⟨e,k1⟩:=Dx g;obtain ⟨d,k2⟩:=Dx i;cases o with
 |nil=>
  have hs:=acF f u v [] ([]:List Nat).length c x y;rw [e,d] at hs;apply hs<;>first|exact rfl|exact JG (by omega)|exact Fl _|exact Fj (by omega)|exact bw _|exact aF k1|exact aF k2
 |cons a r=>
  have hs:=acA f u v (a::r) (a::r).length c x y;rw [e,d,Ja,show (a::r).length+1=((a::r)++ [(c+x+y) % 16777216]).length by simp] at hs;apply hs<;>first|exact rfl|exact JG (by omega)|exact Fl _|exact Fj (by omega)|exact bw _|exact aF k1|exact aF k2|(rw [Xxw];simp only [κ,τ,bK,Φ];omega)|(have h:=JG (a:=(a::r).length) (b:=1) (by omega);rw [show (a::r).length+1=((a::r)++ [(c+x+y) % 16777216]).length by simp] at h;exact h)
theorem acy {nt:Nat} (e:83≤nt) {u v o ru rv:List Nat} {c x y:Nat} (f:ε o.length u=x::ru) (g:ε o.length v= []) (k:x<16777216) (i:c<16777216) (j:o.length<2^39):
  ψ nt f61 (vB u v (o,c)) .normal (vB u v (o++ [(c+x) % 16777216],(c+x) / 16777216)):=by
 obtain ⟨d,k1⟩:=Dx f;have k2:=vz g;cases o with
 |nil=>
  have hs:=acG e u v [] ([]:List Nat).length c x y;rw [d] at hs;apply hs<;>first|exact rfl|exact JG (by omega)|exact Fl _|exact Fj (by omega)|exact bw _|exact aF k1|exact kQ k2
 |cons a r=>
  have hs:=acB e u v (a::r) (a::r).length c x y;rw [d,Ja,show (a::r).length+1=((a::r)++ [(c+x) % 16777216]).length by simp] at hs;apply hs<;>first|exact rfl|exact JG (by omega)|exact Fl _|exact Fj (by omega)|exact bw _|exact aF k1|exact kQ k2|(rw [Xxw];simp only [κ,τ,bK,Φ];omega)|(have h:=JG (a:=(a::r).length) (b:=1) (by omega);rw [show (a::r).length+1=((a::r)++ [(c+x) % 16777216]).length by simp] at h;exact h)
theorem acx {nt:Nat} (e:83≤nt) {u v o ru rv:List Nat} {c x y:Nat} (f:ε o.length u= []) (g:ε o.length v=y::rv) (k:y<16777216) (i:c<16777216) (j:o.length<2^39):
  ψ nt f61 (vB u v (o,c)) .normal (vB u v (o++ [(c+y) % 16777216],(c+y) / 16777216)):=by
 have k1:=vz f;obtain ⟨d,k2⟩:=Dx g;cases o with
 |nil=>
  have hs:=acH e u v [] ([]:List Nat).length c x y;rw [d] at hs;apply hs<;>first|exact rfl|exact JG (by omega)|exact Fl _|exact Fj (by omega)|exact bw _|exact kQ k1|exact aF k2
 |cons a r=>
  have hs:=acC e u v (a::r) (a::r).length c x y;rw [d,Ja,show (a::r).length+1=((a::r)++ [(c+y) % 16777216]).length by simp] at hs;apply hs<;>first|exact rfl|exact JG (by omega)|exact Fl _|exact Fj (by omega)|exact bw _|exact kQ k1|exact aF k2|(rw [Xxw];simp only [κ,τ,bK,Φ];omega)|(have h:=JG (a:=(a::r).length) (b:=1) (by omega);rw [show (a::r).length+1=((a::r)++ [(c+y) % 16777216]).length by simp] at h;exact h)
theorem acw {nt:Nat} (e:83≤nt) {u v o ru rv:List Nat} {c x y:Nat} (f:ε o.length u= []) (g:ε o.length v= []) (d:0<c) (i:c<16777216) (j:o.length<2^39):
  ψ nt f61 (vB u v (o,c)) .normal (vB u v (o++ [(c) % 16777216],(c) / 16777216)):=by
 have k1:=vz f;have k2:=vz g;cases o with
 |nil=>
  have hs:=acI e u v [] ([]:List Nat).length c x y;apply hs<;>first|exact rfl|exact JG (by omega)|exact Fl _|exact Fj (by omega)|exact bw _|exact kQ k1|exact kQ k2|exact aF d
 |cons a r=>
  have hs:=acD e u v (a::r) (a::r).length c x y;rw [Ja,show (a::r).length+1=((a::r)++ [(c) % 16777216]).length by simp] at hs;apply hs<;>first|exact rfl|exact JG (by omega)|exact Fl _|exact Fj (by omega)|exact bw _|exact kQ k1|exact kQ k2|exact aF d|(rw [Xxw];simp only [κ,τ,bK,Φ];omega)|(have h:=JG (a:=(a::r).length) (b:=1) (by omega);rw [show (a::r).length+1=((a::r)++ [(c) % 16777216]).length by simp] at h;exact h)
theorem Ou {nt:Nat} (c:83≤nt) {u v o:List Nat} (d:ε o.length u= []) (e:ε o.length v= []):ψ nt f61 (vB u v (o,0)) (.exit 0) (Jb o):=by
 have k1:=vz d;have k2:=vz e;cases o with
 |nil=>exact acJ c u v [] ([]:List Nat).length 0 0 0 rfl (kQ k2) (kQ k1)
 |cons a r=>exact acE c u v (a::r) (a::r).length 0 0 0 rfl (kQ k2) (kQ k1)
def D_:List Nat→List Nat→Nat→List Nat
 | [],[],c=>if 0<c then [c % 16777216] else []
 | [],y::v,c=>(c+y) % 16777216::D_ [] v ((c+y) / 16777216)
 |x::u,[],c=>(c+x) % 16777216::D_ u [] ((c+x) / 16777216)
 |x::u,y::v,c=>(c+x+y) % 16777216::D_ u v ((c+x+y) / 16777216)
theorem wT:∀ (u v:List Nat) (c:Nat),aV u→aV v→c≤1→bM (D_ u v c)=bM u+bM v+c∧aV (D_ u v c)∧(D_ u v c).length≤u.length+v.length+1∧u.length≤(D_ u v c).length∧v.length≤(D_ u v c).length
 | [],[],c,_,_,hc=>by
  simp only [D_];rcases Ξ c with h|h
  ·subst h;exact ⟨rfl,aV.nil,by simp,by simp,by simp⟩
  ·rw [if_pos h];exact ⟨by simp only [bM];omega,aV.cons (Xqh _ (by omega)) aV.nil,by simp,by simp,by simp⟩
 | [],y::v,c,hu,hv,hc=>by
  have k:=hv.head;obtain ⟨e,d,f,g,i⟩:=wT [] v ((c+y) / 16777216) hu hv.tail (by omega);simp only [D_];refine ⟨?_,aV.cons (Xqh _ (by omega)) d,by simp only [μ,χ] at*;omega,by simp,by simp only [μ];omega⟩;simp only [bM] at*
  rw [e];omega
 |x::u,[],c,hu,hv,hc=>by
  have j:=hu.head;obtain ⟨e,d,f,g,i⟩:=wT u [] ((c+x) / 16777216) hu.tail hv (by omega);simp only [D_];refine ⟨?_,aV.cons (Xqh _ (by omega)) d,by simp only [μ,χ] at*;omega,by simp only [μ];omega,by simp⟩;simp only [bM] at*
  rw [e];omega
 |x::u,y::v,c,hu,hv,hc=>by
  have j:=hu.head;have k:=hv.head;obtain ⟨e,d,f,g,i⟩:=wT u v ((c+x+y) / 16777216) hu.tail hv.tail (by omega);simp only [D_];refine ⟨?_,aV.cons (Xqh _ (by omega)) d,by simp only [μ] at*;omega,by simp only [μ];omega,by simp only [μ];omega⟩;simp only [bM] at*
  rw [e];omega
theorem Ii {u r:List Nat} {x d:Nat} {o:List Nat} (h:ε o.length u=x::r):ε (o++ [d]).length u=r:=by
 rw [κ,τ,← Xjl,h];rfl
theorem Ih {u:List Nat} {d:Nat} {o:List Nat} (h:ε o.length u= []):ε (o++ [d]).length u= []:=by
 rw [κ,τ,← Xjl,h];rfl
theorem xk {nt:Nat} (d:83≤nt) {u v:List Nat}:∀ (a b o:List Nat) (c:Nat),ε o.length u=a→ε o.length v=b→aV a→aV b→c≤1→o.length+a.length+b.length<2^38→
  az prog ap [] nt (ac 0 (af f61)) (fun _=> .exit 0) (vB u v) Jb (o,c) (o++D_ a b c)
 | [],[],o,c,hu,hv,_,_,hc,hl=>by
  simp only [χ] at hl;simp only [D_];rcases Ξ c with h|h
  ·subst h;rw [if_neg (by omega),Xqa];exact .done (Ou d hu hv)
  ·rw [if_pos h];have h0:c / 16777216=0:=by omega
   have i:=acw d (x:=0) (y:=0) (ru:= []) (rv:= []) hu hv h (by omega) (by omega);rw [h0] at i;exact .next i (.done (Ou d (Ih hu) (Ih hv)))
 | [],y::b,o,c,hu,hv,ha,hb,hc,hl=>by
  have g:=hb.head;simp only [χ,μ] at hl;have e:=xk d [] b (o++ [(c+y) % 16777216]) ((c+y) / 16777216) (Ih hu) (Ii hv) ha hb.tail (by omega) (by simp only [κ,τ,χ];omega);rw [Ψ,Xxl] at e;simp only [D_];exact .next (acx d (x:=0) (ru:= []) hu hv g (by omega) (by omega)) e
 |x::a,[],o,c,hu,hv,ha,hb,hc,hl=>by
  have f:=ha.head;simp only [χ,μ] at hl;have e:=xk d a [] (o++ [(c+x) % 16777216]) ((c+x) / 16777216) (Ii hu) (Ih hv) ha.tail hb (by omega) (by simp only [κ,τ,χ];omega);rw [Ψ,Xxl] at e;simp only [D_];exact .next (acy d (y:=0) (rv:= []) hu hv f (by omega) (by omega)) e
 |x::a,y::b,o,c,hu,hv,ha,hb,hc,hl=>by
  have f:=ha.head;have g:=hb.head;simp only [μ] at hl;have e:=xk d a b (o++ [(c+x+y) % 16777216]) ((c+x+y) / 16777216) (Ii hu) (Ii hv) ha.tail hb.tail (by omega) (by simp only [κ,τ];omega);rw [Ψ,Xxl] at e;simp only [D_];exact .next (acz d hu hv f g (by omega) (by omega)) e
theorem Ic (s:List UInt8):(ak (ae s)).length≤s.length:=ny (σ (gJ s) (by rw [Nat.pow_mul];exact Nat.pow_le_pow_left (by decide) _))
theorem Oo (s t:List UInt8) (hs:s.length<2^35) (m:t.length<2^35) (h:2^(8*7)≤ae s∨2^(8*7)≤ae t):∃ w:List Nat,w.length≤s.length+t.length+1∧aV w∧bM w=ae s+ae t∧w ≠ []∧∀ nt,83≤nt→az prog ap [] nt (ac 0 (af f61)) (fun _=> .exit 0) (vB (ak (ae s)) (ak (ae t))) Jb ([],0) w:=by
 have g:=Ic s;have k:=Ic t;obtain ⟨c,d,f,i,j⟩:=wT (ak (ae s)) (ak (ae t)) 0 (aV.dig _) (aV.dig _) (by omega);rw [dm,dm,Xq3] at c;refine ⟨_,by omega,d,c, ?_,fun nt e=>xk e (ak (ae s)) (ak (ae t)) [] 0 rfl rfl (aV.dig _) (aV.dig _) (by omega) (by simp only [χ];omega)⟩;intro h0;rw [h0] at c;simp only [bM] at c;omega
theorem KS (s t:List UInt8) (hs:s.length<2^34) (z:t.length<2^34):CO 61 [.str s,.str t] (.ret (.str (aa (ae s+ae t)))):=by
 have j:=wq s (by omega);have i:=wq t (by omega);have y:=rV (s:=s) (by omega);have A:=rV (s:=t) (by omega);have e:2^(8*7)≤ae s∨2^(8*7)≤ae t→∃ w:List Nat,CO 79 [.sl (ο (w.length*1) (ag w)) w.length true] (.ret (.str (aa (ae s+ae t))))∧aG prog ap [] 83 (.block 0 (.loop (ac 0 (af f61)))) (vB (ak (ae s)) (ak (ae t)) ([],0)) .normal ⟨[(11,.ref 0 0 0 w.length)],[(0,⟨ag w,0,false,0,1,true⟩)],.dead,[]⟩:=by
  intro h;obtain ⟨w,v,p,q,u,o⟩:=Oo s t (by omega) (by omega) h;have m:w.length<2^36:=by omega
  have c:=pH w true m p;rw [q] at c;have k:ο (w.length*1) (ag w)=ag w:=by rw [Φ,ct,Xqw]
  refine ⟨w,by rw [k];exact c, ?_⟩;have d:=az.blk (s:=vB (ak (ae s)) (ak (ae t)) ([],0)) (s':=Jb w) (id:=0) o (by simp) rfl (aJ.refl _) (aJ.refl _);cases w with
  |nil=>exact absurd rfl u
  |cons a r=>exact d
 rcases Xq8 (ae s) (2^(8*7)) with c1|c1
 ·have f:=gF s 7 (by omega) (by omega) c1;rcases Xq8 (ae t) (2^(8*7)) with c2|c2
  ·have n:=cH (ae s+ae t) (by omega);have m:γ .i64 (((ae s:Nat):Int)+((ae t:Nat):Int))=((ae s+ae t:Nat):Int):=by rw [bQ,aS (by omega)]
   rw [← m] at n;exact Xo s t _ _ _ [] f (gF t 7 (by omega) (by omega) c2) n
  ·obtain ⟨w,c,d⟩:=e (.inr c2);exact Xp s t _ 0 _ w f (iK t 7 (by omega) c2) j i c fun nt g=>(d nt g).weak (aJ.of ⟨rfl,rfl,rfl,rfl,rfl,trivial⟩) (aJ.refl _)
 ·have f:=iK s 7 (by omega) c1;obtain ⟨w,c,d⟩:=e (.inl c1);rcases Xq8 (ae t) (2^(8*7)) with c2|c2
  ·exact Xq s t 0 _ _ w f (gF t 7 (by omega) (by omega) c2) j i c fun nt g=>(d nt g).weak (aJ.of ⟨rfl,rfl,rfl,rfl,rfl,trivial⟩) (aJ.refl _)
  ·exact Xr s t 0 0 _ w f (iK t 7 (by omega) c2) j i c fun nt g=>(d nt g).weak (aJ.of ⟨rfl,rfl,rfl,rfl,rfl,trivial⟩) (aJ.refl _)
theorem OZ (x y:Nat):decide (ji x y<((0:Nat):Int))=decide (x<y):=by
 unfold ji;by_cases h:x<y
 ·rw [if_pos h,Yq0 h];rfl
 ·rw [if_neg h,Yq1 h];split<;>rfl
theorem Qx {x y:Nat} (h:y≤x) (d:(ak x).length<2^36):(ak y).length<2^36:=by
 have c:=uG (aV.dig x);rw [dm] at c;exact υ (ny (υ h c)) d
theorem KY (s t:List UInt8) (hs:s.length<2^35) (f:t.length<2^35) (h:ae t≤ae s):CO 119 [.str s,.str t] (.ret (.tup [.str (aa (ae s - ae t)),.bool true])):=by
 have e:=rV (s:=s) hs;have d:=Qx (Xwm (ae s) (ae t)) (by omega);have c:=pH (ak (ae s - ae t)) false d (aV.dig _);rw [dm] at c;exact ac0 s t 0 0 _ [] (by rw [OZ];exact Yq1 (by omega)) (Dy s t (by omega) (by omega)) (wq s (by omega)) (wq t (by omega)) (E4 _ _ false false h (by omega)) c
theorem ac5 (e k:Bool) (c d i j:List UInt8) (a b r:RQ) (f:(fu e c d)=false) (h:CO 115 [Ω e c d] (.ret (.bool (fu e c d)))) (g:CO 83 [ω 0] (.ret (Ω false (aa 0) (aa 1)))):CO 174 [Ω e c d] (.ret (Ω false (aa 0) (aa 1))):=pK [] 1 1 (.k 4 (bi f) (.n 3 .nil)) (.c g (.c h .nil))
theorem ac6 (e j:Bool) (c d h i:List UInt8) (a b r:RQ) (f:(fu e c d)=true) (g:CO 115 [Ω e c d] (.ret (.bool (fu e c d)))):CO 174 [Ω e c d] (.ret (Ω e c d)):=pK [] 1 0 (.k 7 (aA f) (.n 3 .nil)) (.c g .nil)
theorem acU (e j:Bool) (c d h i:List UInt8) (a b r:RQ) (f:a.neg=false) (g:CO 174 [Ω e c d] (.ret (.agg [.bool a.neg,.str (aa a.n),.str (aa a.d)]))):CO 182 [Ω e c d] (.ret (.agg [.bool (!((aa a.n)== [])),.str (aa a.n),.str (aa a.d)])):=pK [] 1 1 (.k 9 (bi f) (.n 5 .nil)) (.c g .nil)
theorem acV (e j:Bool) (c d h i:List UInt8) (a b r:RQ) (f:a.neg=true) (g:CO 174 [Ω e c d] (.ret (.agg [.bool a.neg,.str (aa a.n),.str (aa a.d)]))):CO 182 [Ω e c d] (.ret (Ω false (aa a.n) (aa a.d))):=pK [] 1 0 (.k 8 (aA f) (.n 5 .nil)) (.c g .nil)
theorem SI (h e:Bool) (f g c d:List UInt8) (a b r:RQ) (i:(a.neg==b.neg)=true) (m:CO 174 [Ω h f g] (.ret (.agg [.bool a.neg,.str (aa a.n),.str (aa a.d)]))) (j:CO 174 [Ω e c d] (.ret (.agg [.bool b.neg,.str (aa b.n),.str (aa b.d)]))) (o:CO 175 [.str (aa a.n),.str (aa b.d)] (.ret (.str (aa (a.n*b.d))))) (n:CO 175 [.str (aa b.n),.str (aa a.d)] (.ret (.str (aa (b.n*a.d))))) (q:CO 175 [.str (aa a.d),.str (aa b.d)] (.ret (.str (aa (a.d*b.d))))) (k:CO 113 [.str (aa (a.n*b.d)),.str (aa (b.n*a.d))] (.ret (.str (aa ((a.n*b.d)+(b.n*a.d)))))) (p:CO 139 [.bool a.neg,.str (aa ((a.n*b.d)+(b.n*a.d))),.str (aa (a.d*b.d))] (.ret (.agg [.bool r.neg,.str (aa r.n),.str (aa r.d)]))):CO 172 [Ω h f g,Ω e c d] (.ret (.agg [.bool r.neg,.str (aa r.n),.str (aa r.d)])):=pK [] 1 1 (.k 5 (aw i) (.n 16 .nil)) (.c p (.c k (.c q (.c n (.c o (.c j (.c m .nil)))))))
theorem SJ (h e:Bool) (f g c d:List UInt8) (a b r:RQ) (i:(a.neg==b.neg)=false) (m:CO 174 [Ω h f g] (.ret (.agg [.bool a.neg,.str (aa a.n),.str (aa a.d)]))) (j:CO 174 [Ω e c d] (.ret (.agg [.bool b.neg,.str (aa b.n),.str (aa b.d)]))) (o:CO 175 [.str (aa a.n),.str (aa b.d)] (.ret (.str (aa (a.n*b.d))))) (n:CO 175 [.str (aa b.n),.str (aa a.d)] (.ret (.str (aa (b.n*a.d))))) (q:CO 175 [.str (aa a.d),.str (aa b.d)] (.ret (.str (aa (a.d*b.d))))) (k:CO 188 [.str (aa (a.n*b.d)),.str (aa (b.n*a.d))] (.ret (.tup [.str (aa ((a.n*b.d) - (b.n*a.d))),.bool true]))) (p:CO 139 [.bool a.neg,.str (aa ((a.n*b.d) - (b.n*a.d))),.str (aa (a.d*b.d))] (.ret (.agg [.bool r.neg,.str (aa r.n),.str (aa r.d)]))):CO 172 [Ω h f g,Ω e c d] (.ret (.agg [.bool r.neg,.str (aa r.n),.str (aa r.d)])):=pK [] 2 2 (.k 6 (ay i) (.n 16 .nil)) (.c p (.c k (.c q (.c n (.c o (.c j (.c m .nil)))))))
theorem SH (h e:Bool) (f g c d:List UInt8) (a b r:RQ) (i:(a.neg==b.neg)=false) (m:CO 174 [Ω h f g] (.ret (.agg [.bool a.neg,.str (aa a.n),.str (aa a.d)]))) (j:CO 174 [Ω e c d] (.ret (.agg [.bool b.neg,.str (aa b.n),.str (aa b.d)]))) (o:CO 175 [.str (aa a.n),.str (aa b.d)] (.ret (.str (aa (a.n*b.d))))) (n:CO 175 [.str (aa b.n),.str (aa a.d)] (.ret (.str (aa (b.n*a.d))))) (t:CO 175 [.str (aa a.d),.str (aa b.d)] (.ret (.str (aa (a.d*b.d))))) (k:CO 188 [.str (aa (a.n*b.d)),.str (aa (b.n*a.d))] (.ret (.tup [.str [],.bool false]))) (q:CO 188 [.str (aa (b.n*a.d)),.str (aa (a.n*b.d))] (.ret (.tup [.str (aa ((b.n*a.d) - (a.n*b.d))),.bool true]))) (p:CO 139 [.bool b.neg,.str (aa ((b.n*a.d) - (a.n*b.d))),.str (aa (a.d*b.d))] (.ret (.agg [.bool r.neg,.str (aa r.n),.str (aa r.d)]))):CO 172 [Ω h f g,Ω e c d] (.ret (.agg [.bool r.neg,.str (aa r.n),.str (aa r.d)])):=pK [] 2 0 (.k 6 (ay i) (.n 16 .nil)) (.c p (.c q (.c k (.c t (.c n (.c o (.c j (.c m .nil))))))))
theorem ac1 (h e:Bool) (f g c d:List UInt8) (a b r:RQ) (j:CO 182 [Ω e c d] (.ret (.agg [.bool b.neg,.str (aa b.n),.str (aa b.d)]))) (i:CO 172 [Ω h f g,.agg [.bool b.neg,.str (aa b.n),.str (aa b.d)]] (.ret (.agg [.bool r.neg,.str (aa r.n),.str (aa r.d)]))):CO 158 [Ω h f g,Ω e c d] (.ret (.agg [.bool r.neg,.str (aa r.n),.str (aa r.d)])):=pK [] 0 0 (.n 10 .nil) (.c i (.c j .nil))
theorem acO (h e:Bool) (f g c d:List UInt8) (a b r:RQ) (j:CO 158 [Ω h f g,Ω e c d] (.ret (.agg [.bool r.neg,.str (aa r.n),.str (aa r.d)]))) (i:CO 85 [.agg [.bool r.neg,.str (aa r.n),.str (aa r.d)]] (.ret (ω (fZ r)))):CO 129 [Ω h f g,Ω e c d] (.ret (ω (fZ r))):=pK [] 0 0 (.n 6 .nil) (.c i (.c j .nil))
theorem acT (h e:Bool) (f g c d:List UInt8) (a b r:RQ) (j:CO 174 [Ω h f g] (.ret (.agg [.bool a.neg,.str (aa a.n),.str (aa a.d)]))) (i:CO 174 [Ω e c d] (.ret (.agg [.bool b.neg,.str (aa b.n),.str (aa b.d)]))) (m:CO 175 [.str (aa a.n),.str (aa b.n)] (.ret (.str (aa (a.n*b.n))))) (k:CO 175 [.str (aa a.d),.str (aa b.d)] (.ret (.str (aa (a.d*b.d))))) (n:CO 139 [.bool (!(a.neg==b.neg)),.str (aa (a.n*b.n)),.str (aa (a.d*b.d))] (.ret (.agg [.bool r.neg,.str (aa r.n),.str (aa r.d)]))):CO 173 [Ω h f g,Ω e c d] (.ret (.agg [.bool r.neg,.str (aa r.n),.str (aa r.d)])):=pK [] 0 0 (.n 18 .nil) (.c n (.c k (.c m (.c i (.c j .nil)))))
theorem acW (h e:Bool) (f g c d:List UInt8) (a b r:RQ) (i:((aa b.n)== [])=true) (k:CO 174 [Ω h f g] (.ret (.agg [.bool a.neg,.str (aa a.n),.str (aa a.d)]))) (j:CO 174 [Ω e c d] (.ret (.agg [.bool b.neg,.str (aa b.n),.str (aa b.d)]))):CO 150 [Ω h f g,Ω e c d] (.ret (.tup [Ω false [] [],.bool false])):=pK [] 1 1 (.k 4 (aw i) (.n 9 .nil)) (.c j (.c k .nil))
theorem acX (h e:Bool) (f g c d:List UInt8) (a b r:RQ) (i:((aa b.n)== [])=false) (k:CO 174 [Ω h f g] (.ret (.agg [.bool a.neg,.str (aa a.n),.str (aa a.d)]))) (j:CO 174 [Ω e c d] (.ret (.agg [.bool b.neg,.str (aa b.n),.str (aa b.d)]))) (n:CO 175 [.str (aa a.n),.str (aa b.d)] (.ret (.str (aa (a.n*b.d))))) (m:CO 175 [.str (aa a.d),.str (aa b.n)] (.ret (.str (aa (a.d*b.n))))) (o:CO 139 [.bool (!(a.neg==b.neg)),.str (aa (a.n*b.d)),.str (aa (a.d*b.n))] (.ret (.agg [.bool r.neg,.str (aa r.n),.str (aa r.d)]))):CO 150 [Ω h f g,Ω e c d] (.ret (.tup [.agg [.bool r.neg,.str (aa r.n),.str (aa r.d)],.bool true])):=pK [] 1 0 (.k 10 (ay i) (.n 9 .nil)) (.c o (.c m (.c n (.c j (.c k .nil)))))
theorem acq (e j:Bool) (c d h i:List UInt8) (a b r:RQ) (f:((aa a.n)== [])=false) (g:CO 70 [Ω e c d] (.ret (.agg [.bool a.neg,.str (aa a.n),.str (aa a.d)]))):CO 59 [Ω e c d] (.ret (Ω (!a.neg) (aa a.n) (aa a.d))):=pK [] 1 1 (.k 9 (bi f) (.n 5 .nil)) (.c g .nil)
theorem acr (e j:Bool) (c d h i:List UInt8) (a b r:RQ) (f:((aa a.n)== [])=true) (g:CO 70 [Ω e c d] (.ret (.agg [.bool a.neg,.str (aa a.n),.str (aa a.d)]))):CO 59 [Ω e c d] (.ret (.agg [.bool a.neg,.str (aa a.n),.str (aa a.d)])):=pK [] 1 0 (.k 7 (aA f) (.n 5 .nil)) (.c g .nil)
theorem Su (h e:Bool) (f g c d:List UInt8) (a b r:RQ) (i:(a.neg==b.neg)=true) (m:CO 70 [Ω h f g] (.ret (.agg [.bool a.neg,.str (aa a.n),.str (aa a.d)]))) (j:CO 70 [Ω e c d] (.ret (.agg [.bool b.neg,.str (aa b.n),.str (aa b.d)]))) (o:CO 50 [.str (aa a.n),.str (aa b.d)] (.ret (.str (aa (a.n*b.d))))) (n:CO 50 [.str (aa b.n),.str (aa a.d)] (.ret (.str (aa (b.n*a.d))))) (q:CO 50 [.str (aa a.d),.str (aa b.d)] (.ret (.str (aa (a.d*b.d))))) (k:CO 61 [.str (aa (a.n*b.d)),.str (aa (b.n*a.d))] (.ret (.str (aa ((a.n*b.d)+(b.n*a.d)))))) (p:CO 51 [.bool a.neg,.str (aa ((a.n*b.d)+(b.n*a.d))),.str (aa (a.d*b.d))] (.ret (.agg [.bool r.neg,.str (aa r.n),.str (aa r.d)]))):CO 87 [Ω h f g,Ω e c d] (.ret (.agg [.bool r.neg,.str (aa r.n),.str (aa r.d)])):=pK [] 1 1 (.k 5 (aw i) (.n 16 .nil)) (.c p (.c k (.c q (.c n (.c o (.c j (.c m .nil)))))))
theorem Sv (f h:Bool) (c d g e:List UInt8) (a b r:RQ) (i:(decide (((0:Nat):Int)≤(ji (a.n*b.d) (b.n*a.d))))=true) (n:(a.neg==b.neg)=false) (m:CO 70 [Ω f c d] (.ret (.agg [.bool a.neg,.str (aa a.n),.str (aa a.d)]))) (j:CO 70 [Ω h g e] (.ret (.agg [.bool b.neg,.str (aa b.n),.str (aa b.d)]))) (q:CO 50 [.str (aa a.n),.str (aa b.d)] (.ret (.str (aa (a.n*b.d))))) (p:CO 50 [.str (aa b.n),.str (aa a.d)] (.ret (.str (aa (b.n*a.d))))) (u:CO 50 [.str (aa a.d),.str (aa b.d)] (.ret (.str (aa (a.d*b.d))))) (k:CO 118 [.str (aa (a.n*b.d)),.str (aa (b.n*a.d))] (.ret (ω (ji (a.n*b.d) (b.n*a.d))))) (t:CO 119 [.str (aa (a.n*b.d)),.str (aa (b.n*a.d))] (.ret (.tup [.str (aa ((a.n*b.d) - (b.n*a.d))),.bool true]))) (o:CO 51 [.bool a.neg,.str (aa ((a.n*b.d) - (b.n*a.d))),.str (aa (a.d*b.d))] (.ret (.agg [.bool r.neg,.str (aa r.n),.str (aa r.d)]))):CO 87 [Ω f c d,Ω h g e] (.ret (.agg [.bool r.neg,.str (aa r.n),.str (aa r.d)])):=pK [] 2 2 (.k 5 (aw i) (.c (ay n) (.n 16 .nil))) (.c o (.c t (.c k (.c u (.c p (.c q (.c j (.c m .nil))))))))
theorem Sw (f h:Bool) (c d g e:List UInt8) (a b r:RQ) (i:(decide (((0:Nat):Int)≤(ji (a.n*b.d) (b.n*a.d))))=false) (n:(a.neg==b.neg)=false) (m:CO 70 [Ω f c d] (.ret (.agg [.bool a.neg,.str (aa a.n),.str (aa a.d)]))) (j:CO 70 [Ω h g e] (.ret (.agg [.bool b.neg,.str (aa b.n),.str (aa b.d)]))) (q:CO 50 [.str (aa a.n),.str (aa b.d)] (.ret (.str (aa (a.n*b.d))))) (p:CO 50 [.str (aa b.n),.str (aa a.d)] (.ret (.str (aa (b.n*a.d))))) (u:CO 50 [.str (aa a.d),.str (aa b.d)] (.ret (.str (aa (a.d*b.d))))) (k:CO 118 [.str (aa (a.n*b.d)),.str (aa (b.n*a.d))] (.ret (ω (ji (a.n*b.d) (b.n*a.d))))) (t:CO 119 [.str (aa (b.n*a.d)),.str (aa (a.n*b.d))] (.ret (.tup [.str (aa ((b.n*a.d) - (a.n*b.d))),.bool true]))) (o:CO 51 [.bool b.neg,.str (aa ((b.n*a.d) - (a.n*b.d))),.str (aa (a.d*b.d))] (.ret (.agg [.bool r.neg,.str (aa r.n),.str (aa r.d)]))):CO 87 [Ω f c d,Ω h g e] (.ret (.agg [.bool r.neg,.str (aa r.n),.str (aa r.d)])):=pK [] 2 0 (.k 5 (ay i) (.c (ay n) (.n 16 .nil))) (.c o (.c t (.c k (.c u (.c p (.c q (.c j (.c m .nil))))))))
theorem acs (h e:Bool) (f g c d:List UInt8) (a b r:RQ) (j:CO 59 [Ω e c d] (.ret (.agg [.bool b.neg,.str (aa b.n),.str (aa b.d)]))) (i:CO 87 [Ω h f g,.agg [.bool b.neg,.str (aa b.n),.str (aa b.d)]] (.ret (.agg [.bool r.neg,.str (aa r.n),.str (aa r.d)]))):CO 53 [Ω h f g,Ω e c d] (.ret (.agg [.bool r.neg,.str (aa r.n),.str (aa r.d)])):=pK [] 0 0 (.n 10 .nil) (.c i (.c j .nil))
theorem aco (h e:Bool) (f g c d:List UInt8) (a b r:RQ) (j:CO 53 [Ω h f g,Ω e c d] (.ret (.agg [.bool r.neg,.str (aa r.n),.str (aa r.d)]))) (i:CO 45 [.agg [.bool r.neg,.str (aa r.n),.str (aa r.d)]] (.ret (ω (fZ r)))):CO 24 [Ω h f g,Ω e c d] (.ret (ω (fZ r))):=pK [] 0 0 (.n 6 .nil) (.c i (.c j .nil))
def jH (q:RQ):RQ:=⟨!q.neg && decide (0<q.n),q.n,q.d⟩
def eu (a b:RQ):RQ:=if a.neg=b.neg then il a.neg (a.n*b.d+b.n*a.d) (a.d*b.d) else if b.n*a.d≤a.n*b.d then il a.neg (a.n*b.d - b.n*a.d) (a.d*b.d) else il b.neg (b.n*a.d - a.n*b.d) (a.d*b.d)
def cJ (a b:RQ):RQ:=eu a (jH b)
def dc (a b:RQ):Int:=fZ (cJ a b)
def eB (a b:RQ):RQ:=il (!(a.neg==b.neg)) (a.n*b.n) (a.d*b.d)
def da (a b:RQ):RQ:=il (!(a.neg==b.neg)) (a.n*b.d) (a.d*b.n)
theorem ij {q:RQ} (h:q.ok):vQ q.neg (aa q.n) (aa q.d)=q:=by
 unfold vQ;rw [if_pos (pu q h),aC,aC]
theorem kD {q:RQ} (h:q.ok):(jH q).ok:=by
 refine ⟨h.1,h.2.1,fun c=> ?_⟩;simp only [jH,π,decide_eq_true_eq] at c;exact c.2
theorem cU {a b:RQ} (d:a.ok) (c:b.ok):(eu a b).ok:=by
 have hd:0<a.d*b.d:=Xjb d.1 c.1;unfold eu;split
 ·exact lp hd
 ·split
  ·exact lp hd
  ·exact lp hd
theorem eK {a b:RQ} (d:a.ok) (c:b.ok):(eB a b).ok:=lp (Xjb d.1 c.1)
theorem qG {a b:RQ} (d:a.ok) (c:0<b.n):(da a b).ok:=lp (Xjb d.1 c)
theorem yK (x:Nat):x<2^(8*(aa x).length):=nI.1 (φ _)
theorem dq (x y:Nat):(aa (x*y)).length≤(aa x).length+(aa y).length:=by
 refine bC ?_;rw [Xq9,Xxo];exact Nat.mul_lt_mul'' (yK x) (yK y)
theorem kx {x y:Nat} (h:x≤y):(aa x).length≤(aa y).length:=bC (υ h (yK y))
theorem uf (x y:Nat):(aa (x+y)).length≤(aa x).length+(aa y).length+1:=by
 refine bC ?_;have d:=σ (yK x) (Xqf (n:=2) (by omega) (show 8*(aa x).length≤8*((aa x).length+(aa y).length) by omega));have c:=σ (yK y) (Xqf (n:=2) (by omega) (show 8*(aa y).length≤8*((aa x).length+(aa y).length) by omega));rw [show 8*((aa x).length+(aa y).length+1)=8*((aa x).length+(aa y).length)+8 by omega,Xxo];generalize 2^(8*((aa x).length+(aa y).length))=P at*
 omega
theorem UD (s:List UInt8):(aa (ae s)).length≤s.length:=bC (gJ s)
theorem iG (s:Bool) (n d:List UInt8):(aa (vQ s n d).n).length≤n.length∧(aa (vQ s n d).d).length≤d.length+1:=by
 unfold vQ;split
 ·exact ⟨UD n,Nat.le_succ_of_le (UD d)⟩
 ·refine ⟨by show (aa 0).length≤_;rw [b_];simp, ?_⟩;show (aa 1).length≤_;have:(aa 1).length≤1:=bC (by decide);omega
theorem nD (neg:Bool) (n d:Nat):(aa (il neg n d).n).length≤(aa n).length∧(aa (il neg n d).d).length≤(aa d).length:=
 ⟨kx (Xji _ _),kx (Xji _ _)⟩
theorem pA (a b:RQ) (L:Nat) (c:(aa a.n).length≤L) (i:(aa a.d).length≤L) (e:(aa b.n).length≤L) (h:(aa b.d).length≤L):(aa (eu a b).n).length≤4*L+1∧(aa (eu a b).d).length≤2*L:=by
 have j:=dq a.n b.d;have d:=dq b.n a.d;have f:=dq a.d b.d;have g:=uf (a.n*b.d) (b.n*a.d);unfold eu;split
 ·have:=nD a.neg (a.n*b.d+b.n*a.d) (a.d*b.d);omega
 ·split
  ·have:=nD a.neg (a.n*b.d - b.n*a.d) (a.d*b.d);have:=kx (Xwm (a.n*b.d) (b.n*a.d));omega
  ·have:=nD b.neg (b.n*a.d - a.n*b.d) (a.d*b.d);have:=kx (Xwm (b.n*a.d) (a.n*b.d));omega
theorem zm (x y:Nat) (c:(aa x).length<2^34) (d:(aa y).length<2^34):CO 175 [.str (aa x),.str (aa y)] (.ret (.str (aa (x*y)))):=by
 have h:=R5 (aa x) (aa y) (by omega) (by omega);rw [aC,aC] at h;exact h
theorem UI (x y:Nat) (c:(aa x).length<2^34) (d:(aa y).length<2^34):CO 113 [.str (aa x),.str (aa y)] (.ret (.str (aa (x+y)))):=by
 have h:=RW (aa x) (aa y) (by omega) (by omega);rw [aC,aC] at h;exact h
theorem UK (x y:Nat) (d:(aa x).length<2^34) (e:(aa y).length<2^34) (c:y≤x):CO 188 [.str (aa x),.str (aa y)] (.ret (.tup [.str (aa (x - y)),.bool true])):=by
 have h:=R9 (aa x) (aa y) (by omega) (by omega) (by rw [aC,aC];exact c);rw [aC,aC] at h;exact h
theorem abG (x y:Nat) (d:(aa x).length<2^34) (e:(aa y).length<2^34) (c:x<y):CO 188 [.str (aa x),.str (aa y)] (.ret (.tup [.str [],.bool false])):=
 R8 (aa x) (aa y) (by omega) (by omega) (by rw [aC,aC];exact c)
theorem Ol (x y:Nat) (c:(aa x).length<2^33) (d:(aa y).length<2^33):CO 50 [.str (aa x),.str (aa y)] (.ret (.str (aa (x*y)))):=by
 have h:=E6 (aa x) (aa y) (by omega) (by omega);rw [aC,aC] at h;exact h
theorem acm (x y:Nat) (c:(aa x).length<2^33) (d:(aa y).length<2^33):CO 61 [.str (aa x),.str (aa y)] (.ret (.str (aa (x+y)))):=by
 have h:=KS (aa x) (aa y) (by omega) (by omega);rw [aC,aC] at h;exact h
theorem UO (x y:Nat) (d:(aa x).length<2^33) (e:(aa y).length<2^33) (c:y≤x):CO 119 [.str (aa x),.str (aa y)] (.ret (.tup [.str (aa (x - y)),.bool true])):=by
 have h:=KY (aa x) (aa y) (by omega) (by omega) (by rw [aC,aC];exact c);rw [aC,aC] at h;exact h
theorem acn (x y:Nat) (c:(aa x).length<2^33) (d:(aa y).length<2^33):CO 118 [.str (aa x),.str (aa y)] (.ret (ω (ji x y))):=by
 have h:=Dy (aa x) (aa y) (by omega) (by omega);rw [aC,aC] at h;exact h
theorem Cb (neg:Bool) (n d:Nat) (c:(aa n).length<2^33) (hd:(aa d).length<2^33) (h0:0<d):CO 139 [.bool neg,.str (aa n),.str (aa d)] (.ret (qA (il neg n d))):=by
 have h:=NA neg (aa n) (aa d) (by omega) (by omega) (by rw [aC];exact h0);rw [aC,aC] at h;exact h
theorem OM (q:RQ) (c:q.ok) (d:(aa q.n).length<2^33) (hd:(aa q.d).length<2^33):CO 85 [.agg [.bool q.neg,.str (aa q.n),.str (aa q.d)]] (.ret (ω (fZ q))):=by
 have h:=gD q.neg (aa q.n) (aa q.d) (by omega) (by omega);rw [sK,ij c] at h;exact h
theorem acu (q:RQ) (c:q.ok) (d:(aa q.n).length<2^33) (hd:(aa q.d).length<2^33):CO 45 [.agg [.bool q.neg,.str (aa q.n),.str (aa q.d)]] (.ret (ω (fZ q))):=by
 have h:=vu q.neg (aa q.n) (aa q.d) (by omega) (by omega);rw [sK,ij c] at h;exact h
theorem jJ (neg:Bool) (n d:List UInt8) (f:n.length<2^33) (hd:d.length<2^33):CO 174 [Ω neg n d] (.ret (qA (vQ neg n d))):=by
 have e:=jp neg n d (by omega) (by omega);unfold vQ;cases c:fu neg n d with
 |false=>
  rw [c] at e;have h:=ac5 neg false n d [] [] q0 q0 q0 c (by rw [c];exact e) gq;rw [if_neg (by simp)];exact h
 |true=>
  rw [c] at e;have h:=ac6 neg false n d [] [] q0 q0 q0 c (by rw [c];exact e);rw [if_pos rfl,← IB c];exact h
theorem OI (neg:Bool) (n d:List UInt8) (g:n.length<2^33) (hd:d.length<2^33):CO 182 [Ω neg n d] (.ret (qA (jH (vQ neg n d)))):=by
 have f:=jJ neg n d g hd;generalize vQ neg n d=a at*
 have e:(!((aa a.n)== []))=decide (0<a.n):=by
  rcases Ξ a.n with h|h
  ·rw [h,b_];rfl
  ·rw [Yq0 h,Bool.not_eq_true',Yq2];intro h0;rw [dL] at h0;omega
 unfold jH qA;cases c:a.neg with
 |false=>
  have h:=acU neg false n d [] [] a q0 q0 c f;rw [e] at h;exact h
 |true=>exact acV neg false n d [] [] a q0 q0 c f
theorem SB (neg:Bool) (n d:List UInt8) (j:n.length<2^33) (hd:d.length<2^33):CO 59 [Ω neg n d] (.ret (qA (jH (vQ neg n d)))):=by
 have f:=eY neg n d j hd;have g:=fg neg n d;generalize vQ neg n d=a at*
 unfold jH qA;rcases Ξ a.n with h|h
 ·have e:a.neg=false:=by
   cases i:a.neg with
   |false=>rfl
   |true=>have:=g.2.2 i;omega
  have c:=acr neg false n d [] [] a q0 q0 (by rw [h,b_];rfl) f;rw [e,Yq1 (by omega)];rw [e] at c;exact c
 ·have c:=acq neg false n d [] [] a q0 q0 (by rw [Yq2];intro h0;rw [dL] at h0;omega) f;rw [Yq0 h,Xws];exact c
theorem zN (g h:Bool) (d f e c:List UInt8) (r:d.length<2^29) (w:f.length<2^29) (A:e.length<2^29) (E:c.length<2^29):CO 172 [Ω g d f,Ω h e c] (.ret (qA (eu (vQ g d f) (vQ h e c)))):=by
 have k:=jJ g d f (by omega) (by omega);have o:=jJ h e c (by omega) (by omega);obtain ⟨u,B⟩:=iG g d f;obtain ⟨C,t⟩:=iG h e c;have p:=fg g d f;have q:=fg h e c;generalize vQ g d f=a at*
 generalize vQ h e c=b at*
 have hd:0<a.d*b.d:=Xjb p.1 q.1;have G:=dq a.n b.d;have y:=dq b.n a.d;have v:=dq a.d b.d;have m:=zm a.n b.d (by omega) (by omega);have j:=zm b.n a.d (by omega) (by omega);have n:=zm a.d b.d (by omega) (by omega);have z:=uf (a.n*b.d) (b.n*a.d);have D:=kx (Xwm (a.n*b.d) (b.n*a.d));have F:=kx (Xwm (b.n*a.d) (a.n*b.d));unfold eu;by_cases hs:a.neg=b.neg
 ·rw [if_pos hs];exact SI g h d f e c a b _ (by rw [hs];exact beq_self_eq_true _) k o m j n (UI _ _ (by omega) (by omega)) (Cb a.neg _ _ (by omega) (by omega) hd)
 ·rw [if_neg hs];have i:(a.neg==b.neg)=false:=beq_eq_false_iff_ne.2 hs;by_cases hl:b.n*a.d≤a.n*b.d
  ·rw [if_pos hl];exact SJ g h d f e c a b _ i k o m j n (UK _ _ (by omega) (by omega) hl) (Cb a.neg _ _ (by omega) (by omega) hd)
  ·rw [if_neg hl];exact SH g h d f e c a b _ i k o m j n (abG _ _ (by omega) (by omega) (by omega)) (UK _ _ (by omega) (by omega) (by omega)) (Cb b.neg _ _ (by omega) (by omega) hd)
theorem zP (i e:Bool) (f g c d:List UInt8) (j:f.length<2^29) (p:g.length<2^29) (q:c.length<2^28) (r:d.length<2^28):CO 158 [Ω i f g,Ω e c d] (.ret (qA (cJ (vQ i f g) (vQ e c d)))):=by
 have n:=OI e c d (by omega) (by omega);obtain ⟨m,k⟩:=iG e c d;have o:=kD (fg e c d);unfold cJ;have h:=zN i (jH (vQ e c d)).neg f g (aa (jH (vQ e c d)).n) (aa (jH (vQ e c d)).d) j p (υ m (by omega)) (υ k (by omega));rw [ij o] at h;exact ac1 i e f g c d q0 _ _ n h
theorem uq (i g:Bool) (e f c d:List UInt8) (p:e.length<2^28) (u:f.length<2^28) (m:c.length<2^28) (o:d.length<2^28):CO 129 [Ω i e f,Ω g c d] (.ret (ω (dc (vQ i e f) (vQ g c d)))):=by
 have h:=zP i g e f c d (by omega) (by omega) m o;obtain ⟨r,q⟩:=iG i e f;obtain ⟨n,k⟩:=iG g c d;have j:(cJ (vQ i e f) (vQ g c d)).ok:=cU (fg _ _ _) (kD (fg _ _ _));have t:=pA (vQ i e f) (jH (vQ g c d)) (2^29) (by omega) (by omega) (Xxa n (by omega)) (Xxa k (by omega));exact acO i g e f c d q0 q0 _ h (OM _ j (by unfold cJ;omega) (by unfold cJ;omega))
theorem Fv (g i:Bool) (d f e c:List UInt8) (n:d.length<2^29) (r:f.length<2^29) (v:e.length<2^29) (y:c.length<2^29) (h0:0<(vQ i e c).n):CO 150 [Ω g d f,Ω i e c] (.ret (.tup [qA (da (vQ g d f) (vQ i e c)),.bool true])):=by
 have m:=jJ g d f (by omega) (by omega);have k:=jJ i e c (by omega) (by omega);obtain ⟨p,u⟩:=iG g d f;obtain ⟨w,o⟩:=iG i e c;have j:=fg g d f;generalize vQ g d f=a at*
 generalize vQ i e c=b at*
 have q:=dq a.n b.d;have t:=dq a.d b.n;exact acX g i d f e c a b (da a b) (by rw [Yq2];intro h;rw [dL] at h;omega) m k (zm a.n b.d (by omega) (by omega)) (zm a.d b.n (by omega) (by omega)) (Cb _ _ _ (by omega) (by omega) (Xjb j.1 h0))
theorem OJ (h e:Bool) (f g c d:List UInt8) (k:f.length<2^29) (o:g.length<2^29) (m:c.length<2^29) (n:d.length<2^29) (h0:(vQ e c d).n=0):CO 150 [Ω h f g,Ω e c d] (.ret (.tup [Ω false [] [],.bool false])):=by
 have i:=jJ h f g (by omega) (by omega);have j:=jJ e c d (by omega) (by omega);exact acW h e f g c d _ _ q0 (by rw [h0,b_];rfl) i j
theorem Ss (g h:Bool) (d f e c:List UInt8) (u:d.length<2^29) (z:f.length<2^29) (C:e.length<2^29) (G:c.length<2^29):CO 87 [Ω g d f,Ω h e c] (.ret (qA (eu (vQ g d f) (vQ h e c)))):=by
 have k:=eY g d f (by omega) (by omega);have o:=eY h e c (by omega) (by omega);obtain ⟨w,D⟩:=iG g d f;obtain ⟨E,v⟩:=iG h e c;have r:=fg g d f;have t:=fg h e c;generalize vQ g d f=a at*
 generalize vQ h e c=b at*
 have hd:0<a.d*b.d:=Xjb r.1 t.1;have I:=dq a.n b.d;have A:=dq b.n a.d;have y:=dq a.d b.d;have m:=Ol a.n b.d (by omega) (by omega);have j:=Ol b.n a.d (by omega) (by omega);have n:=Ol a.d b.d (by omega) (by omega);have B:=uf (a.n*b.d) (b.n*a.d);have F:=kx (Xwm (a.n*b.d) (b.n*a.d));have H:=kx (Xwm (b.n*a.d) (a.n*b.d));unfold eu;by_cases hs:a.neg=b.neg
 ·rw [if_pos hs];exact Su g h d f e c a b _ (by rw [hs];exact beq_self_eq_true _) k o m j n (acm _ _ (by omega) (by omega)) (dC a.neg _ _ (by omega) (by omega) hd)
 ·rw [if_neg hs];have i:(a.neg==b.neg)=false:=beq_eq_false_iff_ne.2 hs;have q:=acn (a.n*b.d) (b.n*a.d) (by omega) (by omega);by_cases hl:b.n*a.d≤a.n*b.d
  ·rw [if_pos hl];have p:decide (((0:Nat):Int)≤ji (a.n*b.d) (b.n*a.d))=true:=by unfold ji;rw [if_neg (by omega)];split<;>rfl
   exact Sv g h d f e c a b _ p i k o m j n q (UO _ _ (by omega) (by omega) hl) (dC a.neg _ _ (by omega) (by omega) hd)
  ·rw [if_neg hl];have p:decide (((0:Nat):Int)≤ji (a.n*b.d) (b.n*a.d))=false:=by unfold ji;rw [if_pos (by omega)];rfl
   exact Sw g h d f e c a b _ p i k o m j n q (UO _ _ (by omega) (by omega) (by omega)) (dC b.neg _ _ (by omega) (by omega) hd)
theorem SD (i e:Bool) (f g c d:List UInt8) (j:f.length<2^29) (p:g.length<2^29) (q:c.length<2^28) (r:d.length<2^28):CO 53 [Ω i f g,Ω e c d] (.ret (qA (cJ (vQ i f g) (vQ e c d)))):=by
 have n:=SB e c d (by omega) (by omega);obtain ⟨m,k⟩:=iG e c d;have o:=kD (fg e c d);unfold cJ;have h:=Ss i (jH (vQ e c d)).neg f g (aa (jH (vQ e c d)).n) (aa (jH (vQ e c d)).d) j p (υ m (by omega)) (υ k (by omega));rw [ij o] at h;exact acs i e f g c d q0 _ _ n h
theorem I9 (i g:Bool) (e f c d:List UInt8) (p:e.length<2^28) (u:f.length<2^28) (m:c.length<2^28) (o:d.length<2^28):CO 24 [Ω i e f,Ω g c d] (.ret (ω (dc (vQ i e f) (vQ g c d)))):=by
 have h:=SD i g e f c d (by omega) (by omega) m o;obtain ⟨r,q⟩:=iG i e f;obtain ⟨n,k⟩:=iG g c d;have j:(cJ (vQ i e f) (vQ g c d)).ok:=cU (fg _ _ _) (kD (fg _ _ _));have t:=pA (vQ i e f) (jH (vQ g c d)) (2^29) (by omega) (by omega) (Xxa n (by omega)) (Xxa k (by omega));exact aco i g e f c d q0 q0 _ h (acu _ j (by unfold cJ;omega) (by unfold cJ;omega))
theorem Jh (g h:Bool) (d f e c:List UInt8) (n:d.length<2^29) (r:f.length<2^29) (v:e.length<2^29) (y:c.length<2^29):CO 173 [Ω g d f,Ω h e c] (.ret (qA (eB (vQ g d f) (vQ h e c)))):=by
 have m:=jJ g d f (by omega) (by omega);have j:=jJ h e c (by omega) (by omega);obtain ⟨p,u⟩:=iG g d f;obtain ⟨w,o⟩:=iG h e c;have i:=fg g d f;have k:=fg h e c;generalize vQ g d f=a at*
 generalize vQ h e c=b at*
 have q:=dq a.n b.n;have t:=dq a.d b.d;exact acT g h d f e c a b (eB a b) m j (zm a.n b.n (by omega) (by omega)) (zm a.d b.d (by omega) (by omega)) (Cb _ _ _ (by omega) (by omega) (Xjb i.1 k.1))
def RQ.rt (q:RQ):Rat:=(if q.neg then -1 else 1)*(q.n:Rat) / (q.d:Rat)
theorem jd {x:Nat} (h:0<x):(x:Rat) ≠ 0:=by
 intro e;have:x=0:=by exact_mod_cast e
 omega
theorem zL (neg:Bool) (n d:Nat) (h:0<d):(il neg n d).rt=(if neg then -1 else 1)*(n:Rat) / (d:Rat):=by
 obtain ⟨a,f⟩:=Nat.gcd_dvd_left n d;obtain ⟨b,j⟩:=Nat.gcd_dvd_right n d;have c:0<Xxq n d:=Nat.gcd_pos_of_pos_right n h;unfold il RQ.rt;simp only;generalize Xxq n d=g at*
 subst f j;rw [Xwq _ c,Xwq _ c];have e:0<b:=Nat.pos_of_mul_pos_left h;have m:=jd c;have k:=jd e;have i:((if (neg && decide (0<g*a))=true then -1 else 1:Rat))*(a:Rat)=(if neg=true then -1 else 1)*(a:Rat):=by
  rcases Ξ a with h0|h0
  ·subst h0;simp
  ·rw [Yq0 (Xjb c h0),Xws]
 rw [i,Rat.natCast_mul,Rat.natCast_mul];grind
theorem pW (q:RQ):(jH q).rt= - q.rt:=by
 unfold jH RQ.rt;rcases Ξ q.n with h0|h0
 ·simp [h0];grind
 ·cases q.neg<;>simp [h0]<;>grind
theorem pV {a b:RQ} (i:a.ok) (j:b.ok):(eu a b).rt=a.rt+b.rt:=by
 have m:=jd i.1;have k:=jd j.1;have hd:0<a.d*b.d:=Xjb i.1 j.1;unfold eu;split
 ·rename_i hs;rw [zL _ _ _ hd,Rat.natCast_add,Rat.natCast_mul,Rat.natCast_mul,Rat.natCast_mul];unfold RQ.rt;rw [hs];cases b.neg<;>simp<;>grind
 ·rename_i hs;split
  ·rename_i g;obtain ⟨c,d⟩:=Xv3 g;have f:(a.n:Rat)*b.d=b.n*a.d+c:=by
    have:=congrArg (fun x:Nat=>(x:Rat)) d;simpa only [Rat.natCast_add,Rat.natCast_mul] using this
   rw [d,Xj2,zL _ _ _ hd,Rat.natCast_mul];unfold RQ.rt;cases e:a.neg<;>cases h:b.neg<;>simp [e,h] at hs ⊢ <;>grind
  ·rename_i g;obtain ⟨c,d⟩:=Xv3 (Nat.le_of_not_le g);have f:(b.n:Rat)*a.d=a.n*b.d+c:=by
    have:=congrArg (fun x:Nat=>(x:Rat)) d;simpa only [Rat.natCast_add,Rat.natCast_mul] using this
   rw [d,Xj2,zL _ _ _ hd,Rat.natCast_mul];unfold RQ.rt;cases e:a.neg<;>cases h:b.neg<;>simp [e,h] at hs ⊢ <;>grind
theorem lW {a b:RQ} (d:a.ok) (c:b.ok):(eB a b).rt=a.rt*b.rt:=by
 have f:=jd d.1;have e:=jd c.1;unfold eB;rw [zL _ _ _ (Xjb d.1 c.1),Rat.natCast_mul,Rat.natCast_mul];unfold RQ.rt;cases a.neg<;>cases b.neg<;>simp<;>grind
theorem DC {a b:RQ} (c:a.ok) (d:b.ok) (h0:0<b.n):(da a b).rt=a.rt / b.rt:=by
 have g:=jd c.1;have e:=jd d.1;have f:=jd h0;unfold da;rw [zL _ _ _ (Xjb c.1 h0),Rat.natCast_mul,Rat.natCast_mul];unfold RQ.rt;cases a.neg<;>cases b.neg<;>simp<;>grind
theorem nT {a b:RQ} (e:a.ok) (g:b.ok) (h:a.rt=b.rt):a=b:=by
 have key:∀ q:RQ,q.ok→∃ h1 h2,q.rt=(⟨if q.neg then -(q.n:Int) else q.n,q.d,h1,h2⟩:Rat):=by
  intro q d;refine ⟨Nat.pos_iff_ne_zero.1 d.1, ?_, ?_⟩
  ·show Xxq _ _=1;rw [← d.2.1];split<;>simp
  ·rw [Rat.mk_eq_mkRat];unfold RQ.rt;rw [Rat.mkRat_eq_div];cases q.neg<;>simp [Rat.intCast_natCast]<;>grind
 obtain ⟨_,_,n⟩:=key a e;obtain ⟨_,_,j⟩:=key b g;rw [n,j] at h;have c:=congrArg Rat.num h;have hd:=congrArg Rat.den h;simp only at c hd;obtain ⟨m,o,r⟩:=a;obtain ⟨k,p,t⟩:=b;simp only at c hd;have f:=e.2.2;have i:=g.2.2;simp only at f i;cases m<;>cases k<;>simp at c f i ⊢ <;>omega
theorem XR {a b:RQ} (d:a.ok) (c:(jH b).ok):(cJ a b).rt=a.rt - b.rt:=by
 unfold cJ;rw [pV d c,pW];grind
theorem nV {q:RQ} (h:q.ok):(fZ q<0↔q.rt<0)∧(fZ q=0↔q.rt=0)∧(0<fZ q↔0<q.rt):=by
 have d:=jd h.1;have hd:(0:Rat)<q.d:=by
  have:0<q.d:=h.1
  exact_mod_cast this
 unfold fZ RQ.rt;rcases Ξ q.n with h0|h0
 ·have:(0:Rat) / q.d=0:=by grind
  simp [h0,this]
 ·have c:(0:Rat)<q.n:=by exact_mod_cast h0
  have hp:(0:Rat)<(q.n:Rat) / q.d:=(by rw [Rat.div_def];exact Rat.mul_pos c (Rat.inv_pos.2 hd))
  rw [if_neg (by omega)];cases q.neg<;>simp<;>grind
theorem nH {a b c:Rat} (h:0<c):a*c<b*c↔a<b:=Rat.mul_lt_mul_right h
theorem sx {a b c:Rat} (h:0<c):a*c≤b*c↔a≤b:=⟨fun q=>Rat.le_of_mul_le_mul_right q h,fun q=>by
 by_cases e:a=b
 ·rw [e];exact Rat.le_refl
 ·have d:a<b:=by grind
  have f:=(nH h).2 d;grind⟩
def oG (q:RQ):Int:=if q.neg then -((q.n / q.d+(if q.n % q.d=0 then 0 else 1):Nat):Int) else ((q.n / q.d:Nat):Int)
def uc (k:Int):RQ:=⟨decide (k<0),k.natAbs,1⟩
theorem xd (k:Int):(uc k).ok:=⟨Nat.one_pos,Xvw _,fun h=>by
 have:k<0:=of_decide_eq_true h;show 0<k.natAbs;omega⟩
theorem OG (k:Int):(uc k).rt=(k:Rat):=by
 unfold uc RQ.rt;by_cases h:k<0
 ·have e:(k:Int)= -(k.natAbs:Int):=by omega
  have c:(k:Rat)= -((k.natAbs:Nat):Rat):=by
   rw [← Rat.intCast_natCast,← Rat.intCast_neg,← e]
  simp only [Yq0 h,if_true];rw [c];rw [show ((1:Nat):Rat)=1 from rfl];grind
 ·have e:(k:Int)=(k.natAbs:Int):=by omega
  have c:(k:Rat)=((k.natAbs:Nat):Rat):=by
   rw [← Rat.intCast_natCast,← e]
  simp only [Yq1 h];rw [c];rw [show ((1:Nat):Rat)=1 from rfl];grind
theorem MT {q:RQ} (h:q.ok):((oG q:Int):Rat)≤q.rt∧q.rt<((oG q:Int):Rat)+1:=by
 have hd:(0:Rat)<q.d:=by
  have:0<q.d:=h.1
  exact_mod_cast this
 have e:(q.n:Rat)=q.d*((q.n / q.d:Nat):Rat)+((q.n % q.d:Nat):Rat):=by
  rw [← Rat.natCast_mul,← Rat.natCast_add,Nat.div_add_mod]
 have f:(0:Rat)≤((q.n % q.d:Nat):Rat):=by
  have:0≤q.n % q.d:=Xxf _
  exact_mod_cast this
 have g:((q.n % q.d:Nat):Rat)<q.d:=by
  have:=Xqh q.n h.1
  exact_mod_cast this
 unfold oG RQ.rt;have c:∀ y:Rat,y / q.d*q.d=y:=fun y=>by grind
 cases hs:q.neg with
 |false=>
  simp only [Xjr,if_false,Rat.intCast_natCast];rw [← sx hd,← nH hd,c];constructor<;>grind
 | true=>
  simp only [if_true,Rat.intCast_neg,Rat.intCast_natCast];rw [← sx hd,← nH hd,c];split
  ·rename_i d;rw [d] at e f g;simp only [Xq3];constructor<;>grind
  ·rename_i d;have:(0:Rat)<((q.n % q.d:Nat):Rat):=by
    have:0<q.n % q.d:=by omega
    exact_mod_cast this
   rw [Rat.natCast_add];rw [show ((1:Nat):Rat)=1 from rfl];constructor<;>grind
theorem wZ {k m:Int} {x:Rat} (c:(k:Rat)≤x) (f:x<(k:Rat)+1) (d:(m:Rat)≤x) (e:x<(m:Rat)+1):k=m:=by
 have a:((k:Int):Rat)<((m+1:Int):Rat):=by rw [Rat.intCast_add,Rat.intCast_one];grind
 have b:((m:Int):Rat)<((k+1:Int):Rat):=by rw [Rat.intCast_add,Rat.intCast_one];grind
 rw [Rat.intCast_lt_intCast] at a b;omega
def qQ (a s:RQ):RQ:=eB (uc (oG (da a s))) s
def YQ (a b:RQ):Bool:=(a.neg==b.neg) && ((aa a.n==aa b.n) && (aa a.d==aa b.d))
theorem CT {a b:RQ}:YQ a b=true↔a=b:=by
 obtain ⟨s,n,d⟩:=a;obtain ⟨s',e,c⟩:=b;simp only [YQ,π,beq_iff_eq,RQ.mk.injEq];exact ⟨fun h=> ⟨h.1,zg h.2.1,zg h.2.2⟩,fun h=> ⟨h.1,by rw [h.2.1],by rw [h.2.2]⟩⟩
def Li (a s:RQ):RQ:=if YQ (qQ a s) a=true then a else eu (qQ a s) s
def KH (a s:RQ):RQ:=if 0≤dc (eu (cJ a (qQ a s)) (cJ a (qQ a s))) s then eu (qQ a s) s else qQ a s
theorem fq {a b:RQ} (d:a.ok) (c:b.ok):(cJ a b).ok:=cU d (kD c)
theorem qI {a b:RQ} (d:a.ok) (c:b.ok):(cJ a b).rt=a.rt - b.rt:=XR d (kD c)
theorem d_ {a b:RQ} (d:a.ok) (c:b.ok):(dc a b<0↔a.rt<b.rt)∧(dc a b=0↔a=b)∧(0<dc a b↔b.rt<a.rt):=by
 have h:=nV (fq d c);rw [qI d c] at h;unfold dc;refine ⟨h.1.trans ?_,h.2.1.trans ?_,h.2.2.trans ?_⟩
 ·constructor<;>intro _<;>grind
 ·constructor
  ·intro e;exact nT d c (by grind)
  ·intro e;rw [e];grind
 ·constructor<;>intro _<;>grind
theorem DB {s:RQ} (hs:s.ok) (h:0<fZ s):0<s.rt∧0<s.n:=by
 refine ⟨(nV hs).2.2.1 h, ?_⟩;unfold fZ at h;split at h<;>omega
theorem gT {a s:RQ} (hs:s.ok):(qQ a s).ok:=eK (xd _) hs
theorem Cd {a s:RQ} (c:a.ok) (hs:s.ok) (h0:0<s.n):(qQ a s).rt=((oG (da a s):Int):Rat)*s.rt∧((oG (da a s):Int):Rat)≤a.rt / s.rt∧a.rt / s.rt<((oG (da a s):Int):Rat)+1:=by
 have h:=MT (qG c h0);rw [DC c hs h0] at h;exact ⟨by unfold qQ;rw [lW (xd _) hs,OG],h⟩
theorem U5 {a s:RQ} (c:a.ok) (hs:s.ok) (hp:0<fZ s):jH (qQ (jH a) s)=Li a s:=by
 obtain ⟨p,h0⟩:=DB hs hp;obtain ⟨j,f,d⟩:=Cd (kD c) hs h0;obtain ⟨h,o,n⟩:=Cd c hs h0;rw [pW] at f d;have i:a.rt=a.rt / s.rt*s.rt:=by grind
 have m: -a.rt / s.rt= -(a.rt / s.rt):=by grind
 rw [m] at f d;generalize a.rt / s.rt=x at*
 unfold Li;split
 ·rename_i e;have e:=CT.1 e;refine nT (kD (gT hs)) c ?_;rw [e,i] at h;have g:x=((oG (da a s):Int):Rat):=by grind
  rw [pW,j,i];have:oG (da (jH a) s)= -oG (da a s):=wZ (x:= -x) f d (by rw [Rat.intCast_neg];grind) (by rw [Rat.intCast_neg];grind);rw [this,Rat.intCast_neg,← g];grind
 ·rename_i e;refine nT (kD (gT hs)) (cU (gT hs) hs) ?_;have k:((oG (da a s):Int):Rat) ≠ x:=by
   intro g;exact e (CT.2 (nT (gT hs) c (by rw [h,g,← i])))
  have:oG (da (jH a) s)= -(oG (da a s)+1):=wZ (x:= -x) f d (by rw [Rat.intCast_neg,Rat.intCast_add,Rat.intCast_one];grind) (by rw [Rat.intCast_neg,Rat.intCast_add,Rat.intCast_one];grind);rw [pW,j,pV (gT hs) hs,h,this,Rat.intCast_neg,Rat.intCast_add,Rat.intCast_one];grind
theorem UJ {a s:RQ} (c:a.ok) (hs:s.ok) (hp:0<fZ s):qQ (eu a (da s (uc 2))) s=KH a s:=by
 obtain ⟨p,h0⟩:=DB hs hp;have m:(da s (uc 2)).ok:=qG hs (by decide);have o:(da s (uc 2)).rt=s.rt / 2:=by rw [DC hs (xd 2) (by decide),OG];rfl
 obtain ⟨n,f,e⟩:=Cd (cU c m) hs h0;obtain ⟨j,u,t⟩:=Cd c hs h0;rw [pV c m,o] at f e;have hd:=gT (a:=a) hs;have g:(cJ a (qQ a s)).ok:=fq c hd;have d:=(d_ (cU g g) hs).1;rw [pV g g,qI c hd,j] at d;have q:a.rt=a.rt / s.rt*s.rt:=by grind
 have r:(a.rt+s.rt / 2) / s.rt=a.rt / s.rt+1 / 2:=by grind
 rw [r] at f e;generalize a.rt / s.rt=x at*
 have i:(x*s.rt - ↑(oG (da a s))*s.rt+(x*s.rt - ↑(oG (da a s))*s.rt))<s.rt↔(x - ↑(oG (da a s))+(x - ↑(oG (da a s))))<1:=by
  rw [← nH (a:=x - ↑(oG (da a s))+(x - ↑(oG (da a s)))) p];constructor<;>intro _<;>grind
 rw [q,i] at d;unfold KH;split
 ·rename_i k;refine nT (gT hs) (cU hd hs) ?_;have:¬ (x - ↑(oG (da a s))+(x - ↑(oG (da a s))))<1:=fun h=>by have:=d.2 h;omega
  have:oG (da (eu a (da s (uc 2))) s)=oG (da a s)+1:=wZ (x:=x+1 / 2) f e (by rw [Rat.intCast_add,Rat.intCast_one];grind) (by rw [Rat.intCast_add,Rat.intCast_one];grind);rw [n,pV hd hs,j,this,Rat.intCast_add,Rat.intCast_one];grind
 ·rename_i k;refine nT (gT hs) hd ?_;have:(x - ↑(oG (da a s))+(x - ↑(oG (da a s))))<1:=d.1 (by omega);have:oG (da (eu a (da s (uc 2))) s)=oG (da a s):=wZ (x:=x+1 / 2) f e (by grind) (by grind);rw [n,j,this]
def jz (f:RQ) (nx:Option RQ) (x:RQ):RQ:=
 let p:=cJ (match nx with|some y=>if dc y x<0 then y else x|none=>x) f
 if fZ p<0 then q0 else p
def Aj:RQ→List (RQ × RQ)→RQ→RQ
 |acc,[],_=>acc
 |acc,b::l,x=>Aj (eu acc (eB b.2 (jz b.1 (l.head?.map (·.1)) x))) l x
def fN:RQ→List (RQ × RQ)→List RQ
 |acc,b::b'::l=>acc::fN (eu acc (eB (cJ b'.1 b.1) b.2)) (b'::l)
 |acc,_=> [acc]
def eG (l:List (RQ × RQ)) (x:RQ):Nat:=(l.takeWhile fun b=> !(decide (0<dc b.1 x))).length
def Vt (l:List (RQ × RQ)) (x:RQ):RQ:=eu ((fN q0 l).getD (eG l x - 1) q0) (eB (l.getD (eG l x - 1) (q0,q0)).2 (cJ x (l.getD (eG l x - 1) (q0,q0)).1))
def wlR:RQ→RQ × RQ→List (RQ × RQ)→RQ→RQ
 |acc,b,[],x=>eu acc (eB b.2 (cJ x b.1))
 |acc,b,b'::l,x=>if 0<dc b'.1 x then eu acc (eB b.2 (cJ x b.1)) else wlR (eu acc (eB (cJ b'.1 b.1) b.2)) b' l x
def om:List (RQ × RQ)→Prop
 |b::b'::l=>b.1.rt<b'.1.rt∧om (b'::l)
 |_=>True
theorem om.all:∀ {b:RQ × RQ} {l:List (RQ × RQ)},om (b::l)→∀ y ∈ l,b.1.rt<y.1.rt
 |b,[],_,y,hy=>by cases hy
 | b,b'::l,h,y,hy=>by
  rcases List.mem_cons.1 hy with rfl|hy
  ·exact h.1
  ·have:=om.all h.2 y hy;have:=h.1;grind
theorem om.tail {b:RQ × RQ} {l:List (RQ × RQ)} (h:om (b::l)):om l:=by
 cases l with
 |nil=>exact True.intro
 |cons _ _=>exact h.2
def Y4 (l:List (RQ × RQ)):Prop:=∀ b ∈ l,b.1.ok∧b.2.ok
theorem UR:q0.rt=0:=by unfold q0 RQ.rt;grind
theorem I4 {f x:RQ} {c:Option RQ} (e:f.ok) (d:x.ok) (g:∀ y,c=some y→y.ok):(jz f c x).ok:=by
 unfold jz;have h:∀ p:RQ,p.ok→(if fZ p<0 then q0 else p).ok:=fun p hp=>by
  split
  ·exact pO
  ·exact hp
 refine h _ (fq ?_ e);cases c with
 |none=>exact d
 |some y=>
  show (if dc y x<0 then y else x).ok;split
  ·exact g _ rfl
  ·exact d
theorem Al {x:RQ} (g:x.ok):∀ {l:List (RQ × RQ)} {acc:RQ},acc.ok→Y4 l→(∀ b ∈ l,x.rt<b.1.rt)→Aj acc l x=acc
 | [],_,_,_,_=>rfl
 | b ::l,acc,ha,ho,hl=>by
  have c:=ho b (by simp);have hp:jz b.1 (l.head?.map (·.1)) x=q0:=by
   unfold jz;have e:(match l.head?.map (·.1) with|some y=>if dc y x<0 then y else x|none=>x)=x:=by
    cases l with
    |nil=>rfl
    |cons b' l=>
     have d:=(d_ (ho b' (by simp)).1 g).1;have j:=hl b' (by simp);simp only [List.head?_cons,Option.map_some];rw [if_neg];intro h;have:=d.1 h;grind
   simp only [e];have d:fZ (cJ x b.1)<0:=(d_ g c.1).1.2 (hl b (by simp));rw [if_pos d]
  have i:(eu acc (eB b.2 q0))=acc:=by
   refine nT (cU ha (eK c.2 pO)) ha ?_;rw [pV ha (eK c.2 pO),lW c.2 pO,UR];grind
  unfold Aj;rw [hp,i];exact Al g ha (fun y f=>ho y (by simp [f])) (fun y f=>hl y (by simp [f]))
theorem Pw {x:RQ} (i:x.ok):∀ {l:List (RQ × RQ)} {b:RQ × RQ} {acc:RQ},acc.ok→Y4 (b::l)→om (b::l)→b.1.rt≤x.rt→Aj acc (b::l) x=wlR acc b l x
 | [],b,acc,ha,ho,hs,hb=>by
  have c:=ho b (by simp);have hp:jz b.1 none x=cJ x b.1:=by
   unfold jz;simp only;rw [if_neg];intro h;have:=(d_ i c.1).1.1 h;grind
  show Aj (eu acc (eB b.2 (jz b.1 none x))) [] x=_;rw [hp];rfl
 | b' ::l,b,acc,ha,ho,hs,hb=>by
  have c:=ho b (by simp);have d:=ho b' (by simp);have k:=d_ d.1 i;show Aj (eu acc (eB b.2 (jz b.1 (some b'.1) x))) (b'::l) x=_;have j:Y4 (b'::l):=fun y g=>ho y (by simp at g ⊢;exact .inr g)
  unfold wlR;split
  ·rename_i h;have n:=k.2.2.1 h;have hp:jz b.1 (some b'.1) x=cJ x b.1:=by
    unfold jz;simp only;rw [if_neg (show ¬ dc b'.1 x<0 by omega),if_neg];intro h;have:=(d_ i c.1).1.1 h;grind
   rw [hp];refine Al i (cU ha (eK c.2 (fq i c.1))) j fun y g=> ?_
   rcases List.mem_cons.1 g with rfl|g
   ·exact n
   ·have:=hs.2.all y g;grind
  ·rename_i h;have m:b'.1.rt≤x.rt:=by
    have:=k.2.2;have u:¬ x.rt<b'.1.rt:=fun q=>h (this.2 q)
    grind
   have hp:jz b.1 (some b'.1) x=cJ b'.1 b.1:=by
    have o:=hs.1;have f:∀ y:RQ,y.ok→b'.1.rt≤y.rt→¬ fZ (cJ y b.1)<0:=fun y g t q=>by
     have:=(d_ g c.1).1.1 q;grind
    unfold jz;simp only;split
    ·rw [if_neg (f _ d.1 (by grind))]
    ·rename_i p;have:b'.1=x:=nT d.1 i (by
      have v:¬ b'.1.rt<x.rt:=fun q=>p (k.1.2 q)
      grind)
     rw [this,if_neg (f _ i (by rw [this];grind))]
   have r:eB b.2 (cJ b'.1 b.1)=eB (cJ b'.1 b.1) b.2:=by
    have e:=fq d.1 c.1;refine nT (eK c.2 e) (eK e c.2) ?_;rw [lW c.2 e,lW e c.2];grind
   rw [hp,r];exact Pw i (cU ha (eK (fq d.1 c.1) c.2)) j hs.2 m
theorem tG {b:RQ × RQ} {l:List (RQ × RQ)} {x:RQ} (h:¬ 0<dc b.1 x):eG (b::l) x=eG l x+1:=by
 unfold eG;rw [List.takeWhile_cons_of_pos (by simp at h ⊢;omega)];simp
theorem Ug {x:RQ}:∀ {l:List (RQ × RQ)} {b:RQ × RQ} {acc:RQ},¬ 0<dc b.1 x→eu ((fN acc (b::l)).getD (eG (b::l) x - 1) q0) (eB ((b::l).getD (eG (b::l) x - 1) (q0,q0)).2 (cJ x ((b::l).getD (eG (b::l) x - 1) (q0,q0)).1))=wlR acc b l x
 | [],b,acc,h=>by
  rw [tG h];rfl
 | b'::l,b,acc,h=>by
  rw [tG h,Xwp];unfold wlR;split
  ·rename_i c;have:eG (b'::l) x=0:=by
    unfold eG;rw [Xz9 (by simp;omega)];rfl
   rw [this];rfl
  ·rename_i c;rw [← Ug c,tG c,Xwp];rfl
theorem Vw {x:RQ} (d:x.ok) {l:List (RQ × RQ)} (f:Y4 l) (hs:om l):Aj q0 l x=if eG l x=0 then q0 else Vt l x:=by
 cases l with
 |nil=>rfl
 | cons b l=>
  have g:=f b (by simp);have c:=(d_ g.1 d).2.2;by_cases h:0<dc b.1 x
  ·have:eG (b::l) x=0:=by
    unfold eG;rw [Xz9 (by simp;omega)];rfl
   rw [this,if_pos rfl];refine Al d pO f fun y e=> ?_
   rcases List.mem_cons.1 e with rfl|e
   ·exact c.1 h
   ·have:=hs.all y e;have:=c.1 h;grind
  ·rw [if_neg (by rw [tG h];omega)];unfold Vt;rw [Ug h];exact Pw d pO f hs (by
    have:¬ x.rt<b.1.rt:=fun q=>h (c.2 q)
    grind)
inductive Oq where
 |err (e:Int)
 |val (q:RQ)
def Oq.n:Oq→Bool| .err _=>false| .val q=>q.neg
def Oq.a:Oq→List UInt8| .err _=> []| .val q=>aa q.n
def Oq.d:Oq→List UInt8| .err _=> []| .val q=>aa q.d
def Oq.e:Oq→Int| .err e=>e| .val _=>0
def Oq.q:Oq→RQ| .err _=>q0| .val q=>q
def Fc (o:Oq):List AV:= [.bool o.n,.str o.a,.str o.d,ω o.e]
abbrev dQ (o:Oq):AV:= .agg [.bool o.n,.str o.a,.str o.d,ω o.e]
noncomputable def IG (t:Nat):AV→Bool:=match ap.tyAt t with|some ti=>iF ti|none=>fun _=>false
theorem gM (e:Int):CO 55 [ω e] (.ret (.agg [.bool false,.str [],.str [],ω e])):=pK [] 0 0 (.n 5 .nil) (.nil)
theorem Wi (n:Bool) (a d:List UInt8) (e:Int) (h0:lit true (!(e==((0:Nat):Int)))=true) (c:CO 55 [ω e] (.ret (.agg [.bool false,.str [],.str [],ω e]))):CO 120 [.agg [.bool n,.str a,.str d,ω e]] (.ret (.agg [.bool false,.str [],.str [],ω e])):=pK [] 1 1 (.k 6 h0 (.n 1 .nil)) (.c c .nil)
theorem Wj (n:Bool) (a d:List UInt8) (e:Int) (h0:lit true (!(dK n a d))=true) (c:lit false (!(e==((0:Nat):Int)))=true) (g:CO 84 [Ω n a d] (.ret (.bool (dK n a d)))) (f:CO 55 [ω 3] (.ret (.agg [.bool false,.str [],.str [],ω 3]))):CO 120 [.agg [.bool n,.str a,.str d,ω e]] (.ret (.agg [.bool false,.str [],.str [],ω 3])):=pK [] 2 2 (.k 5 h0 (.k 3 c (.n 1 .nil))) (.c f (.c g .nil))
theorem Wk (n:Bool) (a d:List UInt8) (e:Int) (h0:lit false (!(dK n a d))=true) (c:lit false (!(e==((0:Nat):Int)))=true) (f:CO 84 [Ω n a d] (.ret (.bool (dK n a d)))):CO 120 [.agg [.bool n,.str a,.str d,ω e]] (.ret (.agg [.bool n,.str a,.str d,ω e])):=pK [] 2 0 (.k 9 h0 (.k 3 c (.n 1 .nil))) (.c f .nil)
theorem Wu (n:Bool) (a d:List UInt8) (o:Oq) (c:CO 120 [.agg [.bool n,.str a,.str d,ω 0]] (.ret (dQ o))):CO 149 [Ω n a d] (.ret (dQ o)):=pK [] 0 0 (.n 8 .nil) (.c c .nil)
theorem Wr (b:Bool) (o:Oq) (h0:lit true b=true) (d:CO 83 [ω 1] (.ret (Ω false (aa 1) (aa 1)))) (c:CO 149 [Ω false (aa 1) (aa 1)] (.ret (dQ o))):CO 151 [.bool b] (.ret (dQ o)):=pK [] 1 1 (.k 5 h0 .nil) (.c c (.c d .nil))
theorem Ws (b:Bool) (o:Oq) (h0:lit false b=true) (d:CO 83 [ω 0] (.ret (Ω false (aa 0) (aa 1)))) (c:CO 149 [Ω false (aa 0) (aa 1)] (.ret (dQ o))):CO 151 [.bool b] (.ret (dQ o)):=pK [] 1 0 (.k 5 h0 .nil) (.c c (.c d .nil))
theorem V2 (n:Bool) (a d:List UInt8) (h0:lit true ((n==false) && ((a==(aa 1)) && ((d==(aa 1)) && true)))=true) (c:CO 83 [ω 1] (.ret (Ω false (aa 1) (aa 1)))):CO 152 [Ω n a d] (.ret (.tup [.bool ((n==false) && ((a==(aa 1)) && ((d==(aa 1)) && true))),.bool true])):=pK [] 1 1 (.c h0 (.n 3 .nil)) (.c c .nil)
theorem V3 (n:Bool) (a d:List UInt8) (h0:lit false ((n==false) && ((a==(aa 1)) && ((d==(aa 1)) && true)))=true) (e:CO 83 [ω 1] (.ret (Ω false (aa 1) (aa 1)))) (c:CO 83 [ω 0] (.ret (Ω false (aa 0) (aa 1)))):CO 152 [Ω n a d] (.ret (.tup [.bool ((n==false) && ((a==(aa 1)) && ((d==(aa 1)) && true))),.bool ((n==false) && ((a==(aa 0)) && ((d==(aa 1)) && true)))])):=pK [] 1 0 (.k 3 h0 (.n 3 .nil)) (.c c (.c e .nil))
theorem V4 (d i:Bool) (c e name:List UInt8) (j:Int) (o:Oq) (ks vs f m h:List AV) (k:Nat) (g:CO 149 [Ω d c e] (.ret (dQ o))):CO 122 [.agg [.mp ks vs,.mp f m],.agg [ω j,.bool d,.str c,.str e,.str name],.sl h k i] (.ret (dQ o)):=pK [] 0 0 (.n 8 .nil) (.c g .nil)
theorem V5 (h j lb:Bool) (e o name:List UInt8) (c:Int) (m:Oq) (ks vs f p i:List AV) (k:Nat) (n:Yqy [(Xz2 (cE ks vs (.agg [ω c,.str name])) (.agg [.bool false,.str [],.str [],ω 0])),.bool (Xj3 (cE ks vs (.agg [ω c,.str name])))]= .tup [dQ m,.bool lb]) (h0:lit true (!lb)=true) (d:(Xzv ks (IG 158))=true) (g:CO 55 [ω 12] (.ret (.agg [.bool false,.str [],.str [],ω 12]))):CO 123 [.agg [.mp ks vs,.mp f p],.agg [ω c,.bool h,.str e,.str o,.str name],.sl i k j] (.ret (.agg [.bool false,.str [],.str [],ω 12])):=pK [] 1 1 (.k 5 h0 (.k 2 d (.n 3 .nil))) (.c g (.v 17 (.eq n) .nil))
theorem V6 (h j lb:Bool) (f n name:List UInt8) (c:Int) (d:Oq) (ks vs g o i:List AV) (k:Nat) (m:Yqy [(Xz2 (cE ks vs (.agg [ω c,.str name])) (.agg [.bool false,.str [],.str [],ω 0])),.bool (Xj3 (cE ks vs (.agg [ω c,.str name])))]= .tup [dQ d,.bool lb]) (h0:lit false (!lb)=true) (e:(Xzv ks (IG 158))=true):CO 123 [.agg [.mp ks vs,.mp g o],.agg [ω c,.bool h,.str f,.str n,.str name],.sl i k j] (.ret (dQ d)):=pK [] 1 0 (.k 9 h0 (.k 2 e (.n 3 .nil))) (.v 17 (.eq m) .nil)
theorem VW (j k n p:Bool) (f o name:List UInt8) (m:Int) (c e d:Oq) (ks vs h g:List AV) (h0:lit true (!(c.e==((0:Nat):Int)))=true) (i:CO 152 [.agg [.bool c.n,.str c.a,.str c.d]] (.ret (.tup [.bool n,.bool p]))):CO 124 [.agg [.mp ks vs,.mp h g],.agg [ω m,.bool j,.str f,.str o,.str name],.sl [.bool c.n,.str c.a,.str c.d,ω c.e,.bool e.n,.str e.a,.str e.d,ω e.e,.bool d.n,.str d.a,.str d.d,ω d.e] 3 k] (.ret (dQ c)):=pK [] 1 1 (.k 11 h0 (.n 8 .nil)) (.c i .nil)
theorem VX (n q j f:Bool) (m r name:List UInt8) (p:Int) (c d e:Oq) (ks vs h o:List AV) (h0:lit true (!f)=true) (k:lit false (!(c.e==((0:Nat):Int)))=true) (i:CO 152 [.agg [.bool c.n,.str c.a,.str c.d]] (.ret (.tup [.bool j,.bool f]))) (g:CO 55 [ω 13] (.ret (.agg [.bool false,.str [],.str [],ω 13]))):CO 124 [.agg [.mp ks vs,.mp h o],.agg [ω p,.bool n,.str m,.str r,.str name],.sl [.bool c.n,.str c.a,.str c.d,ω c.e,.bool d.n,.str d.a,.str d.d,ω d.e,.bool e.n,.str e.a,.str e.d,ω e.e] 3 q] (.ret (.agg [.bool false,.str [],.str [],ω 13])):=pK [] 2 2 (.k 5 h0 (.c k (.n 8 .nil))) (.c g (.c i .nil))
theorem VY (n q f g:Bool) (m r name:List UInt8) (p:Int) (c d e:Oq) (ks vs h o:List AV) (h0:lit true f=true) (k:lit false (!g)=true) (j:lit false (!(c.e==((0:Nat):Int)))=true) (i:CO 152 [.agg [.bool c.n,.str c.a,.str c.d]] (.ret (.tup [.bool f,.bool g]))):CO 124 [.agg [.mp ks vs,.mp h o],.agg [ω p,.bool n,.str m,.str r,.str name],.sl [.bool c.n,.str c.a,.str c.d,ω c.e,.bool d.n,.str d.a,.str d.d,ω d.e,.bool e.n,.str e.a,.str e.d,ω e.e] 3 q] (.ret (dQ d)):=pK [] 3 4 (.k 11 h0 (.c k (.c j (.n 8 .nil)))) (.c i .nil)
theorem VZ (n q f g:Bool) (m r name:List UInt8) (p:Int) (c e d:Oq) (ks vs h o:List AV) (h0:lit false f=true) (k:lit false (!g)=true) (j:lit false (!(c.e==((0:Nat):Int)))=true) (i:CO 152 [.agg [.bool c.n,.str c.a,.str c.d]] (.ret (.tup [.bool f,.bool g]))):CO 124 [.agg [.mp ks vs,.mp h o],.agg [ω p,.bool n,.str m,.str r,.str name],.sl [.bool c.n,.str c.a,.str c.d,ω c.e,.bool e.n,.str e.a,.str e.d,ω e.e,.bool d.n,.str d.a,.str d.d,ω d.e] 3 q] (.ret (dQ d)):=pK [] 3 0 (.k 11 h0 (.c k (.c j (.n 8 .nil)))) (.c i .nil)
theorem QN (j k:Bool) (e n name:List UInt8) (o c d:Oq) (r:RQ) (ks vs g f:List AV) (i:CO 148 [ω 9] (.ret (.fn 172 [] []))) (h:CO 172 [.agg [.bool c.n,.str c.a,.str c.d],.agg [.bool d.n,.str d.a,.str d.d]] (.ret (.agg [.bool r.neg,.str (aa r.n),.str (aa r.d)]))) (m:CO 149 [.agg [.bool r.neg,.str (aa r.n),.str (aa r.d)]] (.ret (dQ o))):CO 121 [.agg [.mp ks vs,.mp g f],.agg [ω 9,.bool j,.str e,.str n,.str name],.sl [.bool c.n,.str c.a,.str c.d,ω c.e,.bool d.n,.str d.a,.str d.d,ω d.e] 2 k] (.ret (dQ o)):=pK [] 1 1 (.n 25 .nil) (.c m (.c h (.c i .nil)))
theorem QI:CO 148 [ω 9] (.ret (.fn 172 [] [])):=pK [] 1 1 (.n 1 .nil) (.nil)
theorem MB (j k:Bool) (e n name:List UInt8) (o c d:Oq) (r:RQ) (ks vs g f:List AV) (i:CO 148 [ω 10] (.ret (.fn 158 [] []))) (h:CO 158 [.agg [.bool c.n,.str c.a,.str c.d],.agg [.bool d.n,.str d.a,.str d.d]] (.ret (.agg [.bool r.neg,.str (aa r.n),.str (aa r.d)]))) (m:CO 149 [.agg [.bool r.neg,.str (aa r.n),.str (aa r.d)]] (.ret (dQ o))):CO 121 [.agg [.mp ks vs,.mp g f],.agg [ω 10,.bool j,.str e,.str n,.str name],.sl [.bool c.n,.str c.a,.str c.d,ω c.e,.bool d.n,.str d.a,.str d.d,ω d.e] 2 k] (.ret (dQ o)):=pK [] 1 1 (.n 25 .nil) (.c m (.c h (.c i .nil)))
theorem Mt:CO 148 [ω 10] (.ret (.fn 158 [] [])):=pK [] 2 2 (.n 2 .nil) (.nil)
theorem MC (j k:Bool) (e n name:List UInt8) (o c d:Oq) (r:RQ) (ks vs g f:List AV) (i:CO 148 [ω 11] (.ret (.fn 173 [] []))) (h:CO 173 [.agg [.bool c.n,.str c.a,.str c.d],.agg [.bool d.n,.str d.a,.str d.d]] (.ret (.agg [.bool r.neg,.str (aa r.n),.str (aa r.d)]))) (m:CO 149 [.agg [.bool r.neg,.str (aa r.n),.str (aa r.d)]] (.ret (dQ o))):CO 121 [.agg [.mp ks vs,.mp g f],.agg [ω 11,.bool j,.str e,.str n,.str name],.sl [.bool c.n,.str c.a,.str c.d,ω c.e,.bool d.n,.str d.a,.str d.d,ω d.e] 2 k] (.ret (dQ o)):=pK [] 1 1 (.n 25 .nil) (.c m (.c h (.c i .nil)))
theorem Mu:CO 148 [ω 11] (.ret (.fn 173 [] [])):=pK [] 3 4 (.n 3 .nil) (.nil)
theorem MD (j k:Bool) (e n name:List UInt8) (o c d:Oq) (r:RQ) (ks vs g f:List AV) (i:CO 148 [ω 12] (.ret (.nilF))) (h:CO 150 [.agg [.bool c.n,.str c.a,.str c.d],.agg [.bool d.n,.str d.a,.str d.d]] (.ret (.tup [.agg [.bool r.neg,.str (aa r.n),.str (aa r.d)],.bool true]))) (m:CO 149 [.agg [.bool r.neg,.str (aa r.n),.str (aa r.d)]] (.ret (dQ o))):CO 121 [.agg [.mp ks vs,.mp g f],.agg [ω 12,.bool j,.str e,.str n,.str name],.sl [.bool c.n,.str c.a,.str c.d,ω c.e,.bool d.n,.str d.a,.str d.d,ω d.e] 2 k] (.ret (dQ o)):=pK [] 3 2 (.n 32 .nil) (.c m (.c h (.c i .nil)))
theorem Kg (j k:Bool) (e n name:List UInt8) (c d:Oq) (ks vs h f:List AV) (i:CO 148 [ω 12] (.ret (.nilF))) (g:CO 150 [.agg [.bool c.n,.str c.a,.str c.d],.agg [.bool d.n,.str d.a,.str d.d]] (.ret (.tup [Ω false [] [],.bool false]))) (m:CO 55 [ω 16] (.ret (.agg [.bool false,.str [],.str [],ω 16]))):CO 121 [.agg [.mp ks vs,.mp h f],.agg [ω 12,.bool j,.str e,.str n,.str name],.sl [.bool c.n,.str c.a,.str c.d,ω c.e,.bool d.n,.str d.a,.str d.d,ω d.e] 2 k] (.ret (.agg [.bool false,.str [],.str [],ω 16])):=pK [] 3 6 (.n 29 .nil) (.c m (.c g (.c i .nil)))
theorem Es:CO 148 [ω 12] (.ret (.nilF)):=pK [] 5 0 (.n 5 .nil) (.nil)
theorem Ex (n k m:Bool) (a d f q name:List UInt8) (o c e:Oq) (ks vs h g:List AV) (j:CO 148 [ω 13] (.ret (.fn 171 [] [.pp [ω 1] 0]))) (i:CO 171 [.agg [.bool c.n,.str c.a,.str c.d],.agg [.bool e.n,.str e.a,.str e.d],.pp [ω 1] 0] (.ret (Ω n a d))) (p:CO 149 [Ω n a d] (.ret (dQ o))):CO 121 [.agg [.mp ks vs,.mp h g],.agg [ω 13,.bool k,.str f,.str q,.str name],.sl [.bool c.n,.str c.a,.str c.d,ω c.e,.bool e.n,.str e.a,.str e.d,ω e.e] 2 m] (.ret (dQ o)):=pK [] 1 1 (.n 25 .nil) (.c p (.c i (.c j .nil)))
theorem Et (c:CO 170 [ω 1] (.ret (.fn 171 [] [.pp [ω 1] 0]))):CO 148 [ω 13] (.ret (.fn 171 [] [.pp [ω 1] 0])):=pK [] 4 8 (.n 4 .nil) (.c c .nil)
theorem Ey (n k m:Bool) (a d f q name:List UInt8) (o c e:Oq) (ks vs h g:List AV) (j:CO 148 [ω 14] (.ret (.fn 171 [] [.pp [ω (-1)] 0]))) (i:CO 171 [.agg [.bool c.n,.str c.a,.str c.d],.agg [.bool e.n,.str e.a,.str e.d],.pp [ω (-1)] 0] (.ret (Ω n a d))) (p:CO 149 [Ω n a d] (.ret (dQ o))):CO 121 [.agg [.mp ks vs,.mp h g],.agg [ω 14,.bool k,.str f,.str q,.str name],.sl [.bool c.n,.str c.a,.str c.d,ω c.e,.bool e.n,.str e.a,.str e.d,ω e.e] 2 m] (.ret (dQ o)):=pK [] 1 1 (.n 25 .nil) (.c p (.c i (.c j .nil)))
theorem Eu (c:CO 170 [ω (-1)] (.ret (.fn 171 [] [.pp [ω (-1)] 0]))):CO 148 [ω 14] (.ret (.fn 171 [] [.pp [ω (-1)] 0])):=pK [] 5 16 (.n 5 .nil) (.c c .nil)
theorem ME (k m:Bool) (e p name:List UInt8) (g:Int) (o c d:Oq) (ks vs i f:List AV) (j:CO 148 [ω 16] (.ret (.nilF))) (h:CO 129 [.agg [.bool c.n,.str c.a,.str c.d],.agg [.bool d.n,.str d.a,.str d.d]] (.ret (ω g))) (n:CO 151 [.bool (decide (g<((0:Nat):Int)))] (.ret (dQ o))):CO 121 [.agg [.mp ks vs,.mp i f],.agg [ω 16,.bool k,.str e,.str p,.str name],.sl [.bool c.n,.str c.a,.str c.d,ω c.e,.bool d.n,.str d.a,.str d.d,ω d.e] 2 m] (.ret (dQ o)):=pK [] 3 4 (.n 28 .nil) (.c n (.c h (.c j .nil)))
theorem Mv:CO 148 [ω 16] (.ret (.nilF)):=pK [] 5 0 (.n 5 .nil) (.nil)
theorem MF (j k:Bool) (e m name:List UInt8) (o c d:Oq) (ks vs h f:List AV) (i:CO 148 [ω 17] (.ret (.nilF))) (g:CO 151 [.bool ((c.n==d.n) && ((c.a==d.a) && ((c.d==d.d) && true)))] (.ret (dQ o))):CO 121 [.agg [.mp ks vs,.mp h f],.agg [ω 17,.bool j,.str e,.str m,.str name],.sl [.bool c.n,.str c.a,.str c.d,ω c.e,.bool d.n,.str d.a,.str d.d,ω d.e] 2 k] (.ret (dQ o)):=pK [] 4 8 (.n 29 .nil) (.c g (.c i .nil))
theorem Mw:CO 148 [ω 17] (.ret (.nilF)):=pK [] 5 0 (.n 5 .nil) (.nil)
theorem MG (n r i e k j:Bool) (m t name:List UInt8) (d c:Oq) (ks vs g q:List AV) (h0:lit true (!e)=true) (h:CO 148 [ω 18] (.ret (.nilF))) (f:CO 152 [.agg [.bool d.n,.str d.a,.str d.d]] (.ret (.tup [.bool i,.bool e]))) (p:CO 152 [.agg [.bool c.n,.str c.a,.str c.d]] (.ret (.tup [.bool k,.bool j]))) (o:CO 55 [ω 13] (.ret (.agg [.bool false,.str [],.str [],ω 13]))):CO 121 [.agg [.mp ks vs,.mp g q],.agg [ω 18,.bool n,.str m,.str t,.str name],.sl [.bool d.n,.str d.a,.str d.d,ω d.e,.bool c.n,.str c.a,.str c.d,ω c.e] 2 r] (.ret (.agg [.bool false,.str [],.str [],ω 13])):=pK [] 6 48 (.k 6 h0 (.n 24 .nil)) (.c o (.c p (.c f (.c h .nil))))
theorem MH (o t j e k f:Bool) (n u name:List UInt8) (d c:Oq) (ks vs h r:List AV) (h0:lit true (!f)=true) (m:lit false (!e)=true) (i:CO 148 [ω 18] (.ret (.nilF))) (g:CO 152 [.agg [.bool d.n,.str d.a,.str d.d]] (.ret (.tup [.bool j,.bool e]))) (q:CO 152 [.agg [.bool c.n,.str c.a,.str c.d]] (.ret (.tup [.bool k,.bool f]))) (p:CO 55 [ω 13] (.ret (.agg [.bool false,.str [],.str [],ω 13]))):CO 121 [.agg [.mp ks vs,.mp h r],.agg [ω 18,.bool o,.str n,.str u,.str name],.sl [.bool d.n,.str d.a,.str d.d,ω d.e,.bool c.n,.str c.a,.str c.d,ω c.e] 2 t] (.ret (.agg [.bool false,.str [],.str [],ω 13])):=pK [] 6 32 (.k 5 h0 (.c m (.n 24 .nil))) (.c p (.c q (.c g (.c i .nil))))
theorem MI (q v e f h g:Bool) (p w name:List UInt8) (o d c:Oq) (ks vs j u:List AV) (h0:lit true e=true) (n:lit false (!g)=true) (m:lit false (!f)=true) (k:CO 148 [ω 18] (.ret (.nilF))) (i:CO 152 [.agg [.bool d.n,.str d.a,.str d.d]] (.ret (.tup [.bool e,.bool f]))) (t:CO 152 [.agg [.bool c.n,.str c.a,.str c.d]] (.ret (.tup [.bool h,.bool g]))) (r:CO 151 [.bool h] (.ret (dQ o))):CO 121 [.agg [.mp ks vs,.mp j u],.agg [ω 18,.bool q,.str p,.str w,.str name],.sl [.bool d.n,.str d.a,.str d.d,ω d.e,.bool c.n,.str c.a,.str c.d,ω c.e] 2 v] (.ret (dQ o)):=pK [] 8 192 (.k 5 h0 (.k 2 n (.c m (.n 24 .nil)))) (.c r (.c t (.c i (.c k .nil))))
theorem MJ (q v e f m g:Bool) (p w name:List UInt8) (o d c:Oq) (ks vs i u:List AV) (h0:lit false e=true) (n:lit false (!g)=true) (k:lit false (!f)=true) (j:CO 148 [ω 18] (.ret (.nilF))) (h:CO 152 [.agg [.bool d.n,.str d.a,.str d.d]] (.ret (.tup [.bool e,.bool f]))) (t:CO 152 [.agg [.bool c.n,.str c.a,.str c.d]] (.ret (.tup [.bool m,.bool g]))) (r:CO 151 [.bool false] (.ret (dQ o))):CO 121 [.agg [.mp ks vs,.mp i u],.agg [ω 18,.bool q,.str p,.str w,.str name],.sl [.bool d.n,.str d.a,.str d.d,ω d.e,.bool c.n,.str c.a,.str c.d,ω c.e] 2 v] (.ret (dQ o)):=pK [] 8 64 (.k 5 h0 (.k 2 n (.c k (.n 24 .nil)))) (.c r (.c t (.c h (.c j .nil))))
theorem tN:CO 148 [ω 18] (.ret (.nilF)):=pK [] 5 0 (.n 5 .nil) (.nil)
theorem MK (n r i e k j:Bool) (m t name:List UInt8) (d c:Oq) (ks vs g q:List AV) (h0:lit true (!e)=true) (h:CO 148 [ω 19] (.ret (.nilF))) (f:CO 152 [.agg [.bool d.n,.str d.a,.str d.d]] (.ret (.tup [.bool i,.bool e]))) (p:CO 152 [.agg [.bool c.n,.str c.a,.str c.d]] (.ret (.tup [.bool k,.bool j]))) (o:CO 55 [ω 13] (.ret (.agg [.bool false,.str [],.str [],ω 13]))):CO 121 [.agg [.mp ks vs,.mp g q],.agg [ω 19,.bool n,.str m,.str t,.str name],.sl [.bool d.n,.str d.a,.str d.d,ω d.e,.bool c.n,.str c.a,.str c.d,ω c.e] 2 r] (.ret (.agg [.bool false,.str [],.str [],ω 13])):=pK [] 6 48 (.k 6 h0 (.n 24 .nil)) (.c o (.c p (.c f (.c h .nil))))
theorem ML (o t j e k f:Bool) (n u name:List UInt8) (d c:Oq) (ks vs h r:List AV) (h0:lit true (!f)=true) (m:lit false (!e)=true) (i:CO 148 [ω 19] (.ret (.nilF))) (g:CO 152 [.agg [.bool d.n,.str d.a,.str d.d]] (.ret (.tup [.bool j,.bool e]))) (q:CO 152 [.agg [.bool c.n,.str c.a,.str c.d]] (.ret (.tup [.bool k,.bool f]))) (p:CO 55 [ω 13] (.ret (.agg [.bool false,.str [],.str [],ω 13]))):CO 121 [.agg [.mp ks vs,.mp h r],.agg [ω 19,.bool o,.str n,.str u,.str name],.sl [.bool d.n,.str d.a,.str d.d,ω d.e,.bool c.n,.str c.a,.str c.d,ω c.e] 2 t] (.ret (.agg [.bool false,.str [],.str [],ω 13])):=pK [] 6 32 (.k 5 h0 (.c m (.n 24 .nil))) (.c p (.c q (.c g (.c i .nil))))
theorem MM (q v e f m g:Bool) (p w name:List UInt8) (o d c:Oq) (ks vs i u:List AV) (h0:lit true e=true) (n:lit false (!g)=true) (k:lit false (!f)=true) (j:CO 148 [ω 19] (.ret (.nilF))) (h:CO 152 [.agg [.bool d.n,.str d.a,.str d.d]] (.ret (.tup [.bool e,.bool f]))) (t:CO 152 [.agg [.bool c.n,.str c.a,.str c.d]] (.ret (.tup [.bool m,.bool g]))) (r:CO 151 [.bool true] (.ret (dQ o))):CO 121 [.agg [.mp ks vs,.mp i u],.agg [ω 19,.bool q,.str p,.str w,.str name],.sl [.bool d.n,.str d.a,.str d.d,ω d.e,.bool c.n,.str c.a,.str c.d,ω c.e] 2 v] (.ret (dQ o)):=pK [] 8 128 (.k 5 h0 (.k 2 n (.c k (.n 24 .nil)))) (.c r (.c t (.c h (.c j .nil))))
theorem MN (q v e f h g:Bool) (p w name:List UInt8) (o d c:Oq) (ks vs j u:List AV) (h0:lit false e=true) (n:lit false (!g)=true) (m:lit false (!f)=true) (k:CO 148 [ω 19] (.ret (.nilF))) (i:CO 152 [.agg [.bool d.n,.str d.a,.str d.d]] (.ret (.tup [.bool e,.bool f]))) (t:CO 152 [.agg [.bool c.n,.str c.a,.str c.d]] (.ret (.tup [.bool h,.bool g]))) (r:CO 151 [.bool h] (.ret (dQ o))):CO 121 [.agg [.mp ks vs,.mp j u],.agg [ω 19,.bool q,.str p,.str w,.str name],.sl [.bool d.n,.str d.a,.str d.d,ω d.e,.bool c.n,.str c.a,.str c.d,ω c.e] 2 v] (.ret (dQ o)):=pK [] 8 0 (.k 5 h0 (.k 2 n (.c m (.n 24 .nil)))) (.c r (.c t (.c i (.c k .nil))))
theorem tO:CO 148 [ω 19] (.ret (.nilF)):=pK [] 5 0 (.n 5 .nil) (.nil)
theorem Io:CO 170 [ω 1] (.ret (.fn 171 [] [.pp [ω 1] 0])):=pK [] 0 0 .nil (.nil)
theorem QQ (i e:Bool) (f h c d:List UInt8) (g:Int) (h0:lit true (decide (((0:Nat):Int)<(γ .i64 (g*((1:Nat):Int)))))=true) (j:CO 129 [Ω i f h,Ω e c d] (.ret (ω g))):CO 171 [Ω i f h,Ω e c d,.pp [ω 1] 0] (.ret (Ω e c d)):=pK [] 1 1 (.k 7 h0 (.n 7 .nil)) (.c j .nil)
theorem QR (e i:Bool) (c d f h:List UInt8) (g:Int) (h0:lit false (decide (((0:Nat):Int)<(γ .i64 (g*((1:Nat):Int)))))=true) (j:CO 129 [Ω e c d,Ω i f h] (.ret (ω g))):CO 171 [Ω e c d,Ω i f h,.pp [ω 1] 0] (.ret (Ω e c d)):=pK [] 1 0 (.k 7 h0 (.n 7 .nil)) (.c j .nil)
theorem Im:CO 170 [ω (-1)] (.ret (.fn 171 [] [.pp [ω (-1)] 0])):=pK [] 0 0 .nil (.nil)
theorem QO (i e:Bool) (f h c d:List UInt8) (g:Int) (h0:lit true (decide (((0:Nat):Int)<(γ .i64 (g*(-1:Int)))))=true) (j:CO 129 [Ω i f h,Ω e c d] (.ret (ω g))):CO 171 [Ω i f h,Ω e c d,.pp [ω (-1)] 0] (.ret (Ω e c d)):=pK [] 1 1 (.k 7 h0 (.n 7 .nil)) (.c j .nil)
theorem QP (e i:Bool) (c d f h:List UInt8) (g:Int) (h0:lit false (decide (((0:Nat):Int)<(γ .i64 (g*(-1:Int)))))=true) (j:CO 129 [Ω e c d,Ω i f h] (.ret (ω g))):CO 171 [Ω e c d,Ω i f h,.pp [ω (-1)] 0] (.ret (Ω e c d)):=pK [] 1 0 (.k 7 h0 (.n 7 .nil)) (.c j .nil)
def gU (q:RQ):Bool:=decide (cP q.n≤400) && decide (cP q.d≤400)
def Oq.ok:Oq→Prop| .err e=>e ≠ 0| .val q=>q.ok∧gU q=true
def wO (n:Bool) (a d:List UInt8) (e:Int):Oq:=if e=0 then (if dK n a d=true then .val ⟨n,ae a,ae d⟩ else .err 3) else .err e
def iP (q:RQ):Oq:=if gU q=true then .val q else .err 3
def bR (b:Bool):RQ:=if b then ⟨false,1,1⟩ else ⟨false,0,1⟩
def FV (b:Bool):Oq:= .val (bR b)
def Oq.one (o:Oq):Bool:=(o.n==false) && ((o.a==(aa 1)) && ((o.d==(aa 1)) && true))
def Oq.bit (o:Oq):Bool:=o.one||((o.n==false) && ((o.a==(aa 0)) && ((o.d==(aa 1)) && true)))
def eqO (a b:Oq):Bool:=(a.n==b.n) && ((a.a==b.a) && ((a.d==b.d) && true))
def Gt (a b c:Oq):Oq:=if a.e=0 then (if a.bit then (if a.one then b else c) else .err 13) else a
def lw (op:Int) (a b:Oq):Oq:=
 if op=9 then iP (eu a.q b.q) else if op=10 then iP (cJ a.q b.q) else if op=11 then iP (eB a.q b.q)
 else if op=12 then (if b.q.n=0 then .err 16 else iP (da a.q b.q))
 else if op=13 then (if 0<dc a.q b.q then b else a) else if op=14 then (if dc a.q b.q<0 then b else a)
 else if op=16 then FV (decide (dc a.q b.q<0)) else if op=17 then FV (eqO a b)
 else if a.bit && b.bit then FV (if op=18 then a.one && b.one else a.one||b.one) else .err 13
theorem mM {n:Bool} {a d:List UInt8} (h:dK n a d=true):fu n a d=true∧gU ⟨n,ae a,ae d⟩=true:=by
 unfold dK at h;simp only [π] at h;exact ⟨h.1.1,by unfold gU;simp only [π];exact ⟨h.1.2,h.2⟩⟩
theorem iW {n:Bool} {a d:List UInt8} (h:fu n a d=true):aa (ae a)=a∧aa (ae d)=d:=by
 rw [iE] at h;exact ⟨(kz a).1 h.1,(kz d).1 h.2.1⟩
theorem DG (n:Bool) (a d:List UInt8) (e:Int):(wO n a d e).ok:=by
 unfold wO;split
 ·split
  ·rename_i h;obtain ⟨c,f⟩:=mM h;have:=fg n a d;unfold vQ at this;rw [if_pos c] at this;exact ⟨this,f⟩
  ·exact (by decide:(3:Int) ≠ 0)
 ·assumption
theorem yl {q:RQ} (h:q.ok):dK q.neg (aa q.n) (aa q.d)=gU q:=by
 unfold dK gU;rw [pu q h,aC,aC,Xz4]
theorem uu {q:RQ} (h:q.ok):wO q.neg (aa q.n) (aa q.d) 0=iP q:=by
 unfold wO iP;rw [if_pos rfl,yl h,aC,aC]
theorem lH {q:RQ} (h:q.ok):(iP q).ok:=by
 rw [← uu h];exact DG _ _ _ _
theorem Zg (b:Bool):(bR b).ok:=by cases b<;>exact ⟨by decide,by decide,by decide⟩
theorem vT:cP 1≤400∧cP 0≤400:=⟨fk (k:=400) (Nat.one_lt_two_pow (n:=400) (by decide)),fk (k:=400) (Nat.two_pow_pos 400)⟩
theorem II {x:Nat} (h:cP x≤400):(aa x).length≤51:=by
 refine bC (k:=51) ?_;rcases Ξ x with h0|h0
 ·rw [h0];apply Nat.two_pow_pos
 ·obtain ⟨m,d,_,c⟩:=qy h0;refine σ c ?_;apply Xqf (by decide);omega
theorem uA (b:Bool):(FV b).ok:=by
 refine ⟨Zg b, ?_⟩;unfold gU bR;have:=vT;cases b<;>simp [this.1,this.2]
theorem bz {q:RQ} (h:gU q=true):(aa q.n).length≤51∧(aa q.d).length≤51:=by
 unfold gU at h;simp only [π,decide_eq_true_eq] at h;exact ⟨II h.1,II h.2⟩
theorem N9 {o:Oq} (h:o.ok):o.a.length≤51∧o.d.length≤51:=by
 cases o with
 |err e=>exact ⟨Xxf _,Xxf _⟩
 |val q=>exact bz h.2
theorem Cg (n:Bool) (a d:List UInt8) (e:Int) (i:a.length<2^36) (hd:d.length<2^36):CO 120 [.agg [.bool n,.str a,.str d,ω e]] (.ret (dQ (wO n a d e))):=by
 have f:=ef n a d i hd;unfold wO;by_cases h:e=0
 ·rw [if_pos h];have g:lit false (!(e==((0:Nat):Int)))=true:=by rw [h];rfl
  cases c:dK n a d with
  |true=>
   rw [c] at f;rw [if_pos rfl];have:=Wk n a d e (by rw [c];rfl) g (by rw [c];exact f);obtain ⟨j,k⟩:=iW (mM c).1;show CO 120 _ (.ret (.agg [.bool n,.str (aa (ae a)),.str (aa (ae d)),ω 0]));rw [j,k,← h];exact this
  |false=>
   rw [c] at f;rw [if_neg (by simp)];exact Wj n a d e (by rw [c];rfl) g (by rw [c];exact f) (gM 3)
 ·rw [if_neg h];exact Wi n a d e (by rw [show (e==((0:Nat):Int))=false from beq_eq_false_iff_ne.2 h];rfl) (gM e)
theorem Ez (n:Bool) (a d:List UInt8) (c:a.length<2^36) (hd:d.length<2^36):CO 149 [Ω n a d] (.ret (dQ (wO n a d 0))):=Wu n a d _ (Cg n a d 0 c hd)
theorem mI {q:RQ} (h:q.ok) (c:(aa q.n).length<2^36) (d:(aa q.d).length<2^36):CO 149 [qA q] (.ret (dQ (iP q))):=by
 rw [← uu h];exact Ez _ _ _ c d
theorem mH {o:Oq} (h:o.ok) (h0:o.e=0):CO 149 [.agg [.bool o.n,.str o.a,.str o.d]] (.ret (dQ o)):=by
 cases o with
 |err e=>exact absurd h0 h
 |val q=>
  have c:=mI h.1 (υ (bz h.2).1 (by decide)) (υ (bz h.2).2 (by decide));unfold iP at c;rw [if_pos h.2] at c;exact c
theorem iU (b:Bool):CO 151 [.bool b] (.ret (dQ (FV b))):=by
 cases b with
 |true=>exact Wr true _ rfl pQ (mH (uA true) rfl)
 |false=>exact Ws false _ rfl gq (mH (uA false) rfl)
theorem jM (o:Oq):CO 152 [.agg [.bool o.n,.str o.a,.str o.d]] (.ret (.tup [.bool o.one,.bool o.bit])):=by
 unfold Oq.bit;cases h:o.one with
 |true=>
  have:=V2 o.n o.a o.d h pQ;rw [show ((o.n==false) && ((o.a==(aa 1)) && ((o.d==(aa 1)) && true)))=true from h] at this;exact this
 |false=>
  have:=V3 o.n o.a o.d (by rw [show ((o.n==false) && ((o.a==(aa 1)) && ((o.d==(aa 1)) && true)))=false from h];rfl) pQ gq;rw [show ((o.n==false) && ((o.a==(aa 1)) && ((o.d==(aa 1)) && true)))=false from h] at this;rw [Xzk];exact this
section
variable (op:Int) (ng nn:Bool) (nu de name:List UInt8) (ks vs kt vt:List AV) (o0 o1 o2:Oq)
theorem GG:CO 124 [.agg [.mp ks vs,.mp kt vt],.agg [ω op,.bool ng,.str nu,.str de,.str name],.sl (Fc o0++(Fc o1++Fc o2)) 3 nn] (.ret (dQ (Gt o0 o1 o2))):=by
 have c:=jM o0;unfold Gt;by_cases h:o0.e=0
 ·rw [if_pos h];have d:lit false (!(o0.e==((0:Nat):Int)))=true:=by rw [h];rfl
  cases f:o0.bit with
  |false=>
   rw [f] at c;exact VX _ _ _ _ _ _ _ _ o0 o1 o2 ks vs kt vt rfl d c (gM 13)
  |true=>
   rw [f] at c;cases e:o0.one with
   |true=>rw [e] at c;exact VY _ _ _ _ _ _ _ _ o0 o1 o2 ks vs kt vt rfl rfl d c
   |false=>rw [e] at c;exact VZ _ _ _ _ _ _ _ _ o0 o1 o2 ks vs kt vt rfl rfl d c
 ·rw [if_neg h];exact VW _ _ _ _ _ _ _ _ o0 o1 o2 ks vs kt vt (by rw [show (o0.e==((0:Nat):Int))=false from beq_eq_false_iff_ne.2 h];rfl) c
theorem ad1 {g:Int} (h:g=0∨g=1∨g= -1):decide (((0:Nat):Int)<(γ .i64 (g*((1:Nat):Int))))=decide (0<g)∧decide (((0:Nat):Int)<(γ .i64 (g*(-1:Int))))=decide (g<0):=by
 rcases h with rfl|rfl|rfl<;>decide+kernel
theorem ae5 (a b:RQ):dc a b=0∨dc a b=1∨dc a b= -1:=by
 unfold dc fZ;split
 ·exact .inl rfl
 ·split
  ·exact .inr (.inr rfl)
  ·exact .inr (.inl rfl)
theorem qd {o:Oq} (h:o.ok) (h0:o.e=0):∃ q:RQ,o= .val q∧q.ok∧gU q=true:=by
 cases o with
 |err e=>exact absurd h0 h
 |val q=>exact ⟨q,rfl,h.1,h.2⟩
theorem MA (B:(9≤op∧op≤14)∨(16≤op∧op≤19)) (k0:o0.ok) (w:o0.e=0) (k1:o1.ok) (y:o1.e=0):CO 121 [.agg [.mp ks vs,.mp kt vt],.agg [ω op,.bool ng,.str nu,.str de,.str name],.sl (Fc o0++Fc o1) 2 nn] (.ret (dQ (lw op o0 o1))):=by
 obtain ⟨a,rfl,p,C⟩:=qd k0 w;obtain ⟨b,rfl,u,E⟩:=qd k1 y;obtain ⟨i,g⟩:=bz C;obtain ⟨lb,j⟩:=bz E;have t:=ij p;have m:=ij u;have d:∀ k:Nat,k≤51→k<2^28:=fun k h=>υ h (by decide)
 have c:∀ k:Nat,k≤51→k<2^29:=fun k h=>υ h (by decide)
 have r:CO 129 [qA a,qA b] (.ret (ω (dc a b))):=by
  have:=uq a.neg b.neg (aa a.n) (aa a.d) (aa b.n) (aa b.d) (d _ i) (d _ g) (d _ lb) (d _ j);rw [t,m] at this;exact this
 have F:=ae5 a b;obtain ⟨z,A⟩:=ad1 F;have D:op=9∨op=10∨op=11∨op=12∨op=13∨op=14∨op=16∨op=17∨op=18∨op=19:=by omega
 have v:∀ {q:RQ},(aa q.n).length≤4*51+1∧(aa q.d).length≤2*51→(aa q.n).length<2^36∧(aa q.d).length<2^36:=fun h=> ⟨υ h.1 (by decide),υ h.2 (by decide)⟩
 rcases D with rfl|rfl|rfl|rfl|rfl|rfl|rfl|rfl|rfl|rfl
 ·have:=zN a.neg b.neg (aa a.n) (aa a.d) (aa b.n) (aa b.d) (c _ i) (c _ g) (c _ lb) (c _ j);rw [t,m] at this;obtain ⟨o,n⟩:=v (pA a b 51 i g lb j);exact QN _ _ _ _ _ _ (.val a) (.val b) _ ks vs kt vt QI this (mI (cU p u) o n)
 ·have:=zP a.neg b.neg (aa a.n) (aa a.d) (aa b.n) (aa b.d) (c _ i) (c _ g) (d _ lb) (d _ j);rw [t,m] at this;obtain ⟨o,n⟩:=v (pA a (jH b) 51 i g lb j);exact MB _ _ _ _ _ _ (.val a) (.val b) _ ks vs kt vt Mt this (mI (fq p u) o n)
 ·have:=Jh a.neg b.neg (aa a.n) (aa a.d) (aa b.n) (aa b.d) (c _ i) (c _ g) (c _ lb) (c _ j);rw [t,m] at this;have:=dq a.n b.n;have:=dq a.d b.d;have:=nD (!(a.neg==b.neg)) (a.n*b.n) (a.d*b.d);obtain ⟨o,n⟩:=v (q:=eB a b) ⟨by unfold eB;omega,by unfold eB;omega⟩;exact MC _ _ _ _ _ _ (.val a) (.val b) _ ks vs kt vt Mu (by assumption) (mI (eK p u) o n)
 ·rcases Ξ b.n with h0|h0
  ·have:=OJ a.neg b.neg (aa a.n) (aa a.d) (aa b.n) (aa b.d) (c _ i) (c _ g) (c _ lb) (c _ j) (by rw [m];exact h0);show CO 121 _ (.ret (dQ (if b.n=0 then .err 16 else _)));rw [if_pos h0];exact Kg _ _ _ _ _ (.val a) (.val b) ks vs kt vt Es this (gM 16)
  ·have:=Fv a.neg b.neg (aa a.n) (aa a.d) (aa b.n) (aa b.d) (c _ i) (c _ g) (c _ lb) (c _ j) (by rw [m];exact h0);rw [t,m] at this;have:=dq a.n b.d;have:=dq a.d b.n;have:=nD (!(a.neg==b.neg)) (a.n*b.d) (a.d*b.n);obtain ⟨o,n⟩:=v (q:=da a b) ⟨by unfold da;omega,by unfold da;omega⟩;show CO 121 _ (.ret (dQ (if b.n=0 then .err 16 else iP (da a b))));rw [if_neg (by omega)];exact MD _ _ _ _ _ _ (.val a) (.val b) _ ks vs kt vt Es (by assumption) (mI (qG p h0) o n)
 ·show CO 121 _ (.ret (dQ (if 0<dc a b then .val b else .val a)));by_cases h:0<dc a b
  ·rw [if_pos h];exact Ex _ _ _ _ _ _ _ _ _ (.val a) (.val b) ks vs kt vt (Et Io) (QQ _ _ _ _ _ _ _ (by rw [z,Yq0 h];rfl) r) (mH k1 y)
  ·rw [if_neg h];exact Ex _ _ _ _ _ _ _ _ _ (.val a) (.val b) ks vs kt vt (Et Io) (QR _ _ _ _ _ _ _ (by rw [z,Yq1 h];rfl) r) (mH k0 w)
 ·show CO 121 _ (.ret (dQ (if dc a b<0 then .val b else .val a)));by_cases h:dc a b<0
  ·rw [if_pos h];exact Ey _ _ _ _ _ _ _ _ _ (.val a) (.val b) ks vs kt vt (Eu Im) (QO _ _ _ _ _ _ _ (by rw [A,Yq0 h];rfl) r) (mH k1 y)
  ·rw [if_neg h];exact Ey _ _ _ _ _ _ _ _ _ (.val a) (.val b) ks vs kt vt (Eu Im) (QP _ _ _ _ _ _ _ (by rw [A,Yq1 h];rfl) r) (mH k0 w)
 ·exact ME _ _ _ _ _ _ _ (.val a) (.val b) ks vs kt vt Mv r (iU _)
 ·exact MF _ _ _ _ _ _ (.val a) (.val b) ks vs kt vt Mw (iU _)
 ·have e:=jM (.val a);have f:=jM (.val b);show CO 121 _ (.ret (dQ (if Oq.bit (.val a) && Oq.bit (.val b) then FV (Oq.one (.val a) && Oq.one (.val b)) else .err 13)));generalize Oq.bit (.val a)=x2 at*
  generalize Oq.bit (.val b)=x4 at*
  generalize Oq.one (.val a)=x1 at*
  generalize Oq.one (.val b)=x3 at*
  cases x2 with
  |false=>exact MG _ _ x1 false x3 x4 _ _ _ (.val a) (.val b) ks vs kt vt rfl tN e f (gM 13)
  | true=>
   cases x4 with
   |false=>exact MH _ _ x1 true x3 false _ _ _ (.val a) (.val b) ks vs kt vt rfl rfl tN e f (gM 13)
   |true=>
    cases x1 with
    |true=>exact MI _ _ true true x3 true _ _ _ _ (.val a) (.val b) ks vs kt vt rfl rfl rfl tN e f (iU _)
    |false=>exact MJ _ _ false true x3 true _ _ _ _ (.val a) (.val b) ks vs kt vt rfl rfl rfl tN e f (iU _)
 ·have e:=jM (.val a);have f:=jM (.val b);show CO 121 _ (.ret (dQ (if Oq.bit (.val a) && Oq.bit (.val b) then FV (Oq.one (.val a)||Oq.one (.val b)) else .err 13)));generalize Oq.bit (.val a)=x2 at*
  generalize Oq.bit (.val b)=x4 at*
  generalize Oq.one (.val a)=x1 at*
  generalize Oq.one (.val b)=x3 at*
  cases x2 with
  |false=>exact MK _ _ x1 false x3 x4 _ _ _ (.val a) (.val b) ks vs kt vt rfl tO e f (gM 13)
  | true=>
   cases x4 with
   |false=>exact ML _ _ x1 true x3 false _ _ _ (.val a) (.val b) ks vs kt vt rfl rfl tO e f (gM 13)
   |true=>
    cases x1 with
    |true=>exact MM _ _ true true x3 true _ _ _ _ (.val a) (.val b) ks vs kt vt rfl rfl rfl tO e f (iU _)
    |false=>exact MN _ _ false true x3 true _ _ _ _ (.val a) (.val b) ks vs kt vt rfl rfl rfl tO e f (iU _)
end
theorem ZZ (r:RQ) (neg:Bool) (n:Nat) (d:CO 137 [.agg [.str []],.str (aa 1)] (.ret (.bool true))) (c:CO 138 [.str (aa n)] (.ret (.bool true))) (e:CO 139 [.bool neg,.str (aa n),.str (aa 1)] (.ret (qA r))):CO 192 [.bool neg,.str (aa n),.str (aa 1)] (.ret (.tup [qA r,.bool true])):=pK [] 2 0 (.n 6 .nil) (.c e (.c c (.c d .nil)))
theorem Wx (r:RQ) (n m y z:Nat) (d:CO 165 [.str (aa n),.str (aa m)] (.ret (.tup [.str (aa y),.str (aa z),.bool true]))) (c:CO 114 [ω 1] (.ret (.str (aa 1)))) (e:CO 192 [.bool false,.str (aa y),.str (aa 1)] (.ret (.tup [qA r,.bool true]))):CO 181 [Ω false (aa n) (aa m)] (.ret (qA r)):=pK [] 2 0 (.n 14 .nil) (.c e (.c c (.c d .nil)))
theorem Wv (r:RQ) (n m y z:Nat) (h0:lit true (!((aa z)== []))=true) (d:CO 165 [.str (aa n),.str (aa m)] (.ret (.tup [.str (aa y),.str (aa z),.bool true]))) (c:CO 114 [ω 1] (.ret (.str (aa 1)))) (f:CO 113 [.str (aa y),.str (aa 1)] (.ret (.str (aa (y+1))))) (e:CO 114 [ω 1] (.ret (.str (aa 1)))) (g:CO 192 [.bool true,.str (aa (y+1)),.str (aa 1)] (.ret (.tup [qA r,.bool true]))):CO 181 [Ω true (aa n) (aa m)] (.ret (qA r)):=pK [] 2 3 (.k 9 h0 (.n 4 .nil)) (.c g (.c e (.c f (.c c (.c d .nil)))))
theorem Ww (r:RQ) (n m y z:Nat) (h0:lit false (!((aa z)== []))=true) (d:CO 165 [.str (aa n),.str (aa m)] (.ret (.tup [.str (aa y),.str (aa z),.bool true]))) (c:CO 114 [ω 1] (.ret (.str (aa 1)))) (e:CO 192 [.bool true,.str (aa y),.str (aa 1)] (.ret (.tup [qA r,.bool true]))):CO 181 [Ω true (aa n) (aa m)] (.ret (qA r)):=pK [] 2 1 (.k 9 h0 (.n 4 .nil)) (.c e (.c c (.c d .nil)))
theorem Wl (a s:RQ) (g:Int) (d:CO 115 [qA a] (.ret (.bool true))) (c:CO 115 [qA s] (.ret (.bool true))) (e:CO 85 [qA s] (.ret (ω g))):CO 180 [qA a,qA s] (.ret (.bool (decide (((0:Nat):Int)<g)))):=pK [] 2 3 (.n 11 .nil) (.c e (.c c (.c d .nil)))
theorem ZU (a s q r w:RQ) (d:CO 180 [qA a,qA s] (.ret (.bool true))) (c:CO 150 [qA a,qA s] (.ret (.tup [qA q,.bool true]))) (f:CO 181 [qA q] (.ret (qA w))) (e:CO 173 [qA w,qA s] (.ret (qA r))):CO 155 [qA a,qA s] (.ret (.tup [qA r,.bool true])):=pK [] 1 0 (.n 24 .nil) (.c e (.c f (.c c (.c d .nil))))
theorem aai (a s r v:RQ) (h0:lit true (!((r.neg==a.neg) && (((aa r.n)==(aa a.n)) && (((aa r.d)==(aa a.d)) && true))))=true) (d:CO 155 [qA a,qA s] (.ret (.tup [qA r,.bool true]))) (c:CO 172 [qA r,qA s] (.ret (qA v))):CO 156 [qA a,qA s] (.ret (.tup [qA v,.bool true])):=pK [] 2 3 (.k 14 h0 (.n 14 .nil)) (.c c (.c d .nil))
theorem aaj (a s r:RQ) (h0:lit false (!((r.neg==a.neg) && (((aa r.n)==(aa a.n)) && (((aa r.d)==(aa a.d)) && true))))=true) (c:CO 155 [qA a,qA s] (.ret (.tup [qA r,.bool true]))):CO 156 [qA a,qA s] (.ret (.tup [qA r,.bool true])):=pK [] 2 1 (.k 7 h0 (.n 14 .nil)) (.c c .nil)
theorem Z0 (a s q r v w:RQ) (g:Int) (h0:lit true (decide (((0:Nat):Int)≤g))=true) (d:CO 155 [qA a,qA s] (.ret (.tup [qA r,.bool true]))) (c:CO 158 [qA a,qA r] (.ret (qA q))) (e:CO 172 [qA q,qA q] (.ret (qA w))) (f:CO 129 [qA w,qA s] (.ret (ω g))) (h:CO 172 [qA r,qA s] (.ret (qA v))):CO 153 [qA a,qA s] (.ret (.tup [qA v,.bool true])):=pK [] 2 2 (.k 14 h0 (.n 24 .nil)) (.c h (.c f (.c e (.c c (.c d .nil)))))
theorem Z1 (a s q r w:RQ) (g:Int) (h0:lit false (decide (((0:Nat):Int)≤g))=true) (d:CO 155 [qA a,qA s] (.ret (.tup [qA r,.bool true]))) (c:CO 158 [qA a,qA r] (.ret (qA q))) (f:CO 172 [qA q,qA q] (.ret (qA w))) (e:CO 129 [qA w,qA s] (.ret (ω g))):CO 153 [qA a,qA s] (.ret (.tup [qA r,.bool true])):=pK [] 2 0 (.k 7 h0 (.n 24 .nil)) (.c e (.c f (.c c (.c d .nil))))
theorem abD:nR (aa 1)=true:=qz 1
theorem ajv:vq (aa 1)=true:=by unfold vq;rw [abD,aC];rfl
theorem yc (neg:Bool) (n:Nat) (e:(aa n).length<2^33):CO 192 [.bool neg,.str (aa n),.str (aa 1)] (.ret (.tup [qA (il neg n 1),.bool true])):=by
 have c:(aa 1).length<2^33:=υ (bC (x:=1) (k:=1) (by decide)) (by decide);have hp:=Oi (aa 1) (σ c (by decide));rw [ajv] at hp;have d:=vh (aa n);rw [qz] at d;exact ZZ _ neg n hp d (Cb neg n 1 e c (by decide))
theorem Dc (neg:Bool) (x:Nat):il neg x 1=uc (if neg then -(x:Int) else (x:Int)):=by
 unfold il uc;rw [Xvw,Xwz,Xwz];cases neg with
 |true=>
  simp only [Xz4,if_true,Yxa,Xwv,RQ.mk.injEq,and_true];rcases Ξ x with h|h
  ·subst h;rfl
  ·rw [Yq0 h,Yq0 (by omega)]
 |false=>
  simp only [Xw6,Xjr,if_false,Xwv,RQ.mk.injEq,and_true];rw [Yq1 (by omega)]
theorem Kk {q:RQ} (h:q.ok) (f:(aa q.n).length<2^32) (g:(aa q.d).length<2^32):CO 181 [qA q] (.ret (qA (uc (oG q)))):=by
 have d:=Hl (aa q.n) (aa q.d) (σ f (by decide)) (σ g (by decide)) (by rw [aC];exact h.1);rw [aC,aC] at d;have o:=kx (Xji q.n q.d);have j:(aa 1).length≤1:=bC (x:=1) (k:=1) (by decide);have i:=uf (q.n / q.d) 1;have e:=zh 1 (by decide);obtain ⟨neg,n,m⟩:=q;unfold oG;simp only at*
 cases neg with
 |false=>
  rw [if_neg (by simp)];have c:=yc false (n / m) (by omega);rw [Dc,if_neg (by simp)] at c;exact Wx _ n m _ _ d e c
 | true=>
  rw [if_pos rfl];by_cases hr:n % m=0
  ·have c:=yc true (n / m) (by omega);rw [Dc,if_pos rfl] at c;rw [if_pos hr,Xq3];exact Ww _ n m _ _ (by rw [hr,b_];rfl) d e c
  ·have c:=yc true (n / m+1) (by omega);rw [Dc,if_pos rfl] at c;rw [if_neg hr];exact Wv _ n m _ _ (by
    rw [show ((aa (n % m))== [])=false from by rw [Yq2];intro h;rw [dL] at h;exact hr h];rfl) d e (UI _ _ (by omega) (by omega)) e c
def jw (L:Nat) (q:RQ):Prop:=(aa q.n).length≤L∧(aa q.d).length≤L
theorem jw.mono {L M:Nat} {q:RQ} (h:jw L q) (k:L≤M):jw M q:=⟨Xxa h.1 k,Xxa h.2 k⟩
theorem Ac {L:Nat} {a b:RQ} (c:jw L a) (d:jw L b):jw (4*L+1) (eu a b):=by
 have:=pA a b L c.1 c.2 d.1 d.2;exact ⟨this.1,by omega⟩
theorem Yn {L:Nat} {a:RQ} (c:jw L a):jw L (jH a):=c
theorem HI {L:Nat} {a b:RQ} (c:jw L a) (d:jw L b):jw (4*L+1) (cJ a b):=Ac c (Yn d)
theorem HH {L:Nat} {a b:RQ} (c:jw L a) (d:jw L b):jw (2*L) (eB a b):=by
 have k:=dq a.n b.n;have f:=dq a.d b.d;have h:=nD (!(a.neg==b.neg)) (a.n*b.n) (a.d*b.d);obtain ⟨e,j⟩:=c;obtain ⟨g,i⟩:=d;exact ⟨by unfold eB;omega,by unfold eB;omega⟩
theorem O_ {L:Nat} {a b:RQ} (c:jw L a) (d:jw L b):jw (2*L) (da a b):=by
 have k:=dq a.n b.d;have f:=dq a.d b.n;have h:=nD (!(a.neg==b.neg)) (a.n*b.d) (a.d*b.n);obtain ⟨e,j⟩:=c;obtain ⟨g,i⟩:=d;exact ⟨by unfold da;omega,by unfold da;omega⟩
theorem rJ {L:Nat} {a:RQ} (c:jw L a) (e:L<2^28):(aa a.n).length<2^28∧(aa a.d).length<2^28∧(aa a.n).length<2^29∧(aa a.d).length<2^29:=by
 obtain ⟨d,f⟩:=c;omega
section
variable {a b:RQ} {L:Nat} (ha:a.ok) (hb:b.ok) (sa:jw L a) (sb:jw L b) (hL:L<2^28)
include ha hb sa sb hL
theorem zM:CO 172 [qA a,qA b] (.ret (qA (eu a b))):=by
 obtain ⟨_,_,f,d⟩:=rJ sa hL;obtain ⟨_,_,e,c⟩:=rJ sb hL;have h:=zN a.neg b.neg (aa a.n) (aa a.d) (aa b.n) (aa b.d) f d e c;rw [ij ha,ij hb] at h;exact h
theorem Hs:CO 158 [qA a,qA b] (.ret (qA (cJ a b))):=by
 obtain ⟨_,_,f,d⟩:=rJ sa hL;obtain ⟨e,c,_,_⟩:=rJ sb hL;have h:=zP a.neg b.neg (aa a.n) (aa a.d) (aa b.n) (aa b.d) f d e c;rw [ij ha,ij hb] at h;exact h
theorem Hq:CO 173 [qA a,qA b] (.ret (qA (eB a b))):=by
 obtain ⟨_,_,f,d⟩:=rJ sa hL;obtain ⟨_,_,e,c⟩:=rJ sb hL;have h:=Jh a.neg b.neg (aa a.n) (aa a.d) (aa b.n) (aa b.d) f d e c;rw [ij ha,ij hb] at h;exact h
theorem OH:CO 129 [qA a,qA b] (.ret (ω (dc a b))):=by
 obtain ⟨f,d,_,_⟩:=rJ sa hL;obtain ⟨e,c,_,_⟩:=rJ sb hL;have h:=uq a.neg b.neg (aa a.n) (aa a.d) (aa b.n) (aa b.d) f d e c;rw [ij ha,ij hb] at h;exact h
theorem XW (h0:0<b.n):CO 150 [qA a,qA b] (.ret (.tup [qA (da a b),.bool true])):=by
 obtain ⟨_,_,f,d⟩:=rJ sa hL;obtain ⟨_,_,e,c⟩:=rJ sb hL;have h:=Fv a.neg b.neg (aa a.n) (aa a.d) (aa b.n) (aa b.d) f d e c (by rw [ij hb];exact h0);rw [ij ha,ij hb] at h;exact h
end
section
variable {a s:RQ} (ha:a.ok) (fa:gU a=true) (hs:s.ok) (fs:gU s=true) (hp:0<fZ s)
include ha fa hs fs hp
theorem Kh:CO 180 [qA a,qA s] (.ret (.bool true)):=by
 obtain ⟨j,f⟩:=bz fa;obtain ⟨i,e⟩:=bz fs;have d:=jp a.neg (aa a.n) (aa a.d) (by omega) (by omega);have c:=jp s.neg (aa s.n) (aa s.d) (by omega) (by omega);rw [pu a ha] at d;rw [pu s hs] at c;have g:=OM s hs (by omega) (by omega);have h:=Wl a s _ d c g;rw [Yq0 (show ((0:Nat):Int)<fZ s from hp)] at h;exact h
omit ha hs hp in
theorem MU:jw 104 (uc (oG (da a s))):=by
 obtain ⟨f,g⟩:=bz fa;obtain ⟨d,e⟩:=bz fs;have m:=(O_ (L:=51) ⟨f,g⟩ ⟨d,e⟩).1;generalize da a s=q at*
 have n:(aa 1).length≤1:=bC (x:=1) (k:=1) (by decide);have j:=kx (Xji q.n q.d);have i:=uf (q.n / q.d) 1;have c:(oG q).natAbs≤q.n / q.d+1:=by
  unfold oG;split
  ·rw [Yxa,Xwv];split<;>omega
  ·rw [Xwv];omega
 have h:=kx c;exact ⟨by show (aa (oG q).natAbs).length≤104;omega,by show (aa 1).length≤104;omega⟩
omit ha hs hp in
theorem GD:jw 208 (qQ a s):=HH (L:=104) (MU fa fs) ⟨by have:=(bz fs).1;omega,by have:=(bz fs).2;omega⟩
theorem x_:CO 155 [qA a,qA s] (.ret (.tup [qA (qQ a s),.bool true])):=by
 have h0:=(DB hs hp).2;have d:jw 51 a:=bz fa;have c:jw 51 s:=bz fs;have e:=O_ d c;refine ZU a s _ _ _ (Kh ha fa hs fs hp) (XW ha hs d c (by decide) h0) (Kk (qG ha h0) (υ e.1 (by decide)) (υ e.2 (by decide))) ?_;exact Hq (xd _) hs (MU fa fs) (c.mono (by decide)) (by decide)
theorem Wt:CO 156 [qA a,qA s] (.ret (.tup [qA (Li a s),.bool true])):=by
 have hd:=x_ ha fa hs fs hp;have c:=GD fa fs;have d:jw 51 s:=bz fs;have e:((qQ a s).neg==a.neg && ((aa (qQ a s).n==aa a.n) && ((aa (qQ a s).d==aa a.d) && true)))=YQ (qQ a s) a:=by unfold YQ;rw [Xws]
 unfold Li;cases h:YQ (qQ a s) a with
 |true=>
  rw [if_pos rfl];rw [h] at e;have:=aaj a s (qQ a s) (by rw [e];rfl) hd;rw [CT.1 h] at this;exact this
 |false=>
  rw [if_neg (by simp)];rw [h] at e;exact aai a s (qQ a s) _ (by rw [e];rfl) hd (zM (gT hs) hs c (d.mono (by decide)) (by decide))
theorem Mx:CO 153 [qA a,qA s] (.ret (.tup [qA (KH a s),.bool true])):=by
 have hd:=x_ ha fa hs fs hp;have e:=GD fa fs;have i:jw 51 a:=bz fa;have m:jw 51 s:=bz fs;have f:=gT (a:=a) hs;have c:=fq ha f;have d:=HI (i.mono (show 51≤208 by decide)) e;have g:=Hs ha f (i.mono (show 51≤208 by decide)) e (by decide);have j:=zM c c d d (by decide);have k:=OH (cU c c) hs (Ac d d) (m.mono (by decide)) (by decide);unfold KH;by_cases h:0≤dc (eu (cJ a (qQ a s)) (cJ a (qQ a s))) s
 ·rw [if_pos h];exact Z0 a s _ (qQ a s) _ _ _ (Yq0 h) hd g j k (zM f hs e (m.mono (by decide)) (by decide))
 ·rw [if_neg h];exact Z1 a s _ (qQ a s) _ _ (by
   rw [show decide (((0:Nat):Int)≤dc (eu (cJ a (qQ a s)) (cJ a (qQ a s))) s)=false from Yq1 h];rfl) hd g j k
end
structure Sc where
 name:List UInt8
 u1:Int
 u2:Int
 bx:List AV
 bn:Nat
def wM (x:Sc):List AV:= [.str x.name,ω x.u1,ω x.u2,.sl x.bx x.bn false]
def dB (l:List Sc):List AV:=l.flatMap wM
theorem kH (l:List Sc):(dB l).length=l.length*4:=by
 induction l with
 |nil=>rfl
 |cons x r ih=>simp only [dB,Xx2,κ,μ] at ih ⊢;rw [ih];simp [wM];omega
theorem zW {l:List Sc} {k:Nat} (h:k<l.length):ε (k*4) (dB l)=wM l[k]++dB (l.drop (k+1)):=by
 induction l generalizing k with
 |nil=>simp at h
 | cons x r ih=>
  cases k with
  |zero=>simp [dB]
  |succ k=>
   have c:k<r.length:=by simpa using h
   show ε ((k+1)*4) (wM x++dB r)=_;rw [show (k+1)*4=(wM x).length+k*4 by simp [wM];omega,Xvd,Xj2,ih c,Xxy (by omega)];rfl
def bW (a b:Nat):Nat:=if a=0 then b else if b=0∨a=b then a else 3
def gI (a:Nat):Nat:=if a=1∨a=2 then 3 - a else a
def eH (A:List (List Nat)) (ss:List Nat) (k i:Nat):Nat:=ss.getD ((A.getD k []).getD i 0) 0
def fP (A:List (List Nat)) (ss:List Nat) (k:Nat):Nat:=(A.getD k []).foldl (fun s i=>bW s (ss.getD i 0)) 0
abbrev wB (e:List Nd) (ne:Bool) (A:List (List Nat)) (sc:List Sc) (ns:Bool) (ss:List Nat):aR:=⟨[.sl (aP e) e.length ne,.sl (aX A) A.length true,.sl (dB sc) sc.length ns,.ref 1 0 0 ss.length],0,false,0,0,false⟩
abbrev sB (ss:List Nat):aR:=⟨ag ss,0,false,0,1,true⟩
abbrev wH (e:List Nd) (ne:Bool) (A:List (List Nat)) (sc:List Sc) (ns:Bool) (ss:List Nat):List aR:= [wB e ne A sc ns ss,sB ss]
theorem ni {A:List (List Nat)} {k:Nat} (h:k<A.length):ε (δ (k:Int)*1) (aX A)= [Cw (A.getD k [])]++aX (A.drop (k+1)):=by
 unfold aX;rw [av,Φ,← Xjz,Xxh h,ν,ξ h];rfl
theorem qw {a:List Nat} {k:Nat} (h:k<a.length):ε (δ (k:Int)*1) (ag a)= [ω ((a.getD k 0:Nat):Int)]++ag (a.drop (k+1)):=by
 unfold ag;rw [av,Φ,← Xjz,Xxh h,ν,ξ h];rfl
theorem fB (k:Nat):decide (((0:Nat):Int)≤(k:Int))=true:=Yq0 (by omega)
theorem l_ {k n:Nat} (h:k<n):decide ((k:Int)<(n:Int))=true:=Yq0 (by omega)
theorem abX (e:List Nd) (f:Bool) (A:List (List Nat)) (d:List Sc) (c:Bool) (ss:List Nat) (k i:Nat) (a:List Nat) (rA:List AV) (j:Nat) (o:List AV) (s:Nat) (n:List AV) (g:k<A.length) (q:(ε ((δ (k:Int))*1) (aX A))= [Cw a]++rA) (m:i<a.length) (h:(ε ((δ (i:Int))*1) (ag a))= [ω (j:Int)]++o) (p:j<ss.length) (hs:(ε ((0+(δ (j:Int)))*1) (ag ss))= [ω (s:Int)]++n):
  aj prog ap 69 [.ptr 0 0 0,ω (k:Int),ω (i:Int)] (wH e f A d c ss) (.ret (ω (s:Int))) (wH e f A d c ss):=pK [] 0 0 (.a (aD [.int .i64] hs rfl) (.c (fB j) (.c (l_ p) (.k 1 (fB i) (.c (l_ m) (.k 1 (fB k) (.c (l_ g) (.n 2 .nil)))))))) (.v 22 (.rd1 (.int .i64) hs rfl) (.v 19 (.ppt h) (.v 16 (.ppt q) .nil)))
theorem lS (e:List Nd) (c:Bool) (A:List (List Nat)) (f:List Sc) (d:Bool) (ss:List Nat) (k i:Nat) (g:k<A.length) (j:i<(A.getD k []).length) (h:(A.getD k []).getD i 0<ss.length):
  aj prog ap 69 [.ptr 0 0 0,ω (k:Int),ω (i:Int)] (wH e c A f d ss) (.ret (ω ((eH A ss k i:Nat):Int))) (wH e c A f d ss):=
 abX e c A f d ss k i _ _ _ _ _ _ g (ni g) j (qw j) h (by rw [Θ];exact qw h)
theorem jY (a b:Nat):((a:Int)==(b:Int))=decide (a=b):=by by_cases h:a=b<;>simp [h]<;>omega
theorem C_ (a b:Nat):CO 68 [ω (a:Int),ω (b:Int)] (.ret (ω ((bW a b:Nat):Int))):=by
 rcases tf ((a:Int)==((0:Nat):Int)) with b0|b0
 ·rw [show bW a b=b by unfold bW;simp only [jY,decide_eq_true_eq,decide_eq_false_iff_not] at b0;simp [*]];exact pK [] 1 1 (.c (aw b0) .nil) (.nil)
 ·rcases tf ((b:Int)==((0:Nat):Int)) with b1|b1
  ·rw [show bW a b=a by unfold bW;simp only [jY,decide_eq_true_eq,decide_eq_false_iff_not] at b0 b1;simp [*]];exact pK [] 3 6 (.k 1 (aw b1) (.c (ay b0) .nil)) (.nil)
  ·rcases tf ((a:Int)==(b:Int)) with b2|b2
   ·rw [show bW a b=a by unfold bW;simp only [jY,decide_eq_true_eq,decide_eq_false_iff_not] at b0 b1 b2;simp [*]];exact pK [] 3 4 (.c (aw b2) (.c (ay b1) (.c (ay b0) .nil))) (.nil)
   ·rw [show bW a b=3 by unfold bW;simp only [jY,decide_eq_true_eq,decide_eq_false_iff_not] at b0 b1 b2;simp [*]];exact pK [] 3 0 (.c (ay b2) (.c (ay b1) (.c (ay b0) .nil))) (.nil)
theorem JA (a:Nat):CO 97 [ω (a:Int)] (.ret (ω ((gI a:Nat):Int))):=by
 rcases tf ((a:Int)==((1:Nat):Int)) with b0|b0
 ·have e:((gI a:Nat):Int)=γ .i64 (((3:Nat):Int) - (a:Int)):=by
   simp only [jY,decide_eq_true_eq,decide_eq_false_iff_not] at b0;subst b0;decide
  rw [e];exact pK [] 2 3 (.k 1 (aw b0) .nil) (.nil)
 ·rcases tf ((a:Int)==((2:Nat):Int)) with b1|b1
  ·have e:((gI a:Nat):Int)=γ .i64 (((3:Nat):Int) - (a:Int)):=by
    simp only [jY,decide_eq_true_eq,decide_eq_false_iff_not] at b0 b1;subst b1;decide
   rw [e];exact pK [] 2 2 (.c (aw b1) (.c (ay b0) .nil)) (.nil)
  ·rw [show gI a=a by unfold gI;simp only [jY,decide_eq_true_eq,decide_eq_false_iff_not] at b0 b1;simp [*]];exact pK [] 2 0 (.c (ay b1) (.c (ay b0) .nil)) (.nil)
theorem CX {l:List Nat} {i:Nat} (h:i<l.length):l.getD i 0=l[i]:=by rw [ν,ξ h];rfl
def Y_ (e:List Nd) (ne:Bool) (A:List (List Nat)) (sc:List Sc) (ns:Bool) (ss:List Nat) (k n:Nat) (p:Nat × Nat):St:=⟨[(0,.ptr 0 0 0),(1,ω (k:Int)),(5,ω (p.2:Int)),(14,ω (n:Int)),(15,ω (p.1:Int))],[(0,⟨[.sl (aP e) e.length ne,.sl (aX A) A.length true,.sl (dB sc) sc.length ns,.ref 1 0 0 ss.length],0,false,0,0,false⟩),(1,⟨(ag ss),0,false,0,1,true⟩)],.dead,[]⟩
def Ue (e:List Nd) (ne:Bool) (A:List (List Nat)) (sc:List Sc) (ns:Bool) (ss:List Nat) (k:Nat) (acc:Nat):St:=⟨[(0,.ptr 0 0 0),(1,ω (k:Int)),(5,ω (acc:Int))],[(0,⟨[.sl (aP e) e.length ne,.sl (aX A) A.length true,.sl (dB sc) sc.length ns,.ref 1 0 0 ss.length],0,false,0,0,false⟩),(1,⟨(ag ss),0,false,0,1,true⟩)],.dead,[]⟩
theorem LX {nt:Nat} (r:26≤nt) (e:List Nd) (m:Bool) (A:List (List Nat)) (h:List Sc) (g:Bool) (ss:List Nat) (k n:Nat) (t:k<A.length) (B:n<2^40) (u:n=(A.getD k []).length) (y:∀ j ∈ A.getD k [],j<ss.length):∀ (d i c:Nat),i+d=n→
  az prog ap (wH e m A h g ss) nt (ac 0 (af f39)) (fun _=> .exit 0) (Y_ e m A h g ss k n) (Ue e m A h g ss k) (i,c) (((A.getD k []).drop i).foldl (fun s j=>bW s (ss.getD j 0)) c):=by
 intro d
 induction d with
 |zero=>
  intro i c v;have o:(decide ((i:Int)<(n:Int)))=false:=Yq1 (by omega);rw [Xxy (by omega)];exact .done (pN 39 [] 1 0 (.c (ay o) .nil) (.nil) r)
 | succ d ih=>
  intro i c v;have o:(decide ((i:Int)<(n:Int)))=true:=Yq0 (by omega);have f:i<(A.getD k []).length:=by omega
  have q:=f;have p:(A.getD k []).getD i 0<ss.length:=by
   rw [CX f];exact y _ (Xxe f)
  have z:i<2^62:=by omega
  rw [Xxh f];have w:(A.getD k [])[i]=(A.getD k []).getD i 0:=(CX f).symm;rw [w];exact .next (pN 39 [] 1 1 (.c (aw o) .nil) (.v 24 (.eq (oH z)) (.c (C_ c (eH A ss k i)) (.c (lS e m A h g ss k i t q p) .nil))) r) (ih (i+1) (bW c (eH A ss k i)) (by omega))
theorem Za (e:List Nd) (d:Bool) (A:List (List Nat)) (c:List Sc) (f:Bool) (ss:List Nat) (k:Nat) (a:List Nat) (rA:List AV) (z:Nat) (g:k<A.length) (h:(ε ((δ (k:Int))*1) (aX A))= [Cw a]++rA)
  (l0:aG prog ap (wH e d A c f ss) 26 (.block 0 (.loop (ac 0 (af f39)))) ⟨[(0,.ptr 0 0 0),(1,ω (k:Int)),(4,ω 0),(5,ω 0),(6,.dead),(14,ω (a.length:Int)),(15,ω 0),(16,.dead)],[(0,⟨[.sl (aP e) e.length d,.sl (aX A) A.length true,.sl (dB c) c.length f,.ref 1 0 0 ss.length],0,false,0,0,false⟩),(1,⟨(ag ss),0,false,0,1,true⟩)],.dead,[]⟩ (.normal) ⟨[(0,.ptr 0 0 0),(1,ω (k:Int)),(5,ω (z:Int))],[(0,⟨[.sl (aP e) e.length d,.sl (aX A) A.length true,.sl (dB c) c.length f,.ref 1 0 0 ss.length],0,false,0,0,false⟩),(1,⟨(ag ss),0,false,0,1,true⟩)],.dead,[]⟩):
  aj prog ap 39 [.ptr 0 0 0,ω (k:Int)] (wH e d A c f ss) (.ret (ω (z:Int))) (wH e d A c f ss):=pK [0] 0 0 (.k 1 (fB k) (.c (l_ g) (.n 1 .nil))) (.l l0 (.v 12 (.ppt h) .nil))
theorem Ve (e:List Nd) (c:Bool) (A:List (List Nat)) (f:List Sc) (d:Bool) (ss:List Nat) (k:Nat) (g:k<A.length) (n:(A.getD k []).length<2^40) (i:∀ j ∈ A.getD k [],j<ss.length):
  aj prog ap 39 [.ptr 0 0 0,ω (k:Int)] (wH e c A f d ss) (.ret (ω ((fP A ss k:Nat):Int))) (wH e c A f d ss):=
 have h:∀ nt,26≤nt→az prog ap (wH e c A f d ss) nt (ac 0 (af f39)) (fun _=> .exit 0) (Y_ e c A f d ss k (A.getD k []).length) (Ue e c A f d ss k) (0,0) (fP A ss k):=fun nt m=>LX m e c A f d ss k _ g n rfl i _ 0 0 (Θ _)
 Za e c A f d ss k _ _ (fP A ss k) g (ni g) (az.blk h (by simp) rfl (aJ.of ⟨rfl,rfl,rfl,rfl,rfl,trivial⟩) (aJ.of ⟨rfl,rfl,rfl,trivial⟩))
def iO:Nd:=⟨0,false,[],[],[]⟩
def nE (op:Int):Bool:=(op==1)||((op==2)||(op==3))
def qB (e:List Nd) (A:List (List Nat)) (k i:Nat):Nd:=e.getD ((A.getD k []).getD i 0) iO
theorem zi {e:List Nd} {j:Nat} (h:j<e.length):ε (δ (j:Int)*5) (aP e)=nJ (e.getD j iO)++aP (e.drop (j+1)):=by
 have c:e=e.take j++e[j]::e.drop (j+1):=by simp
 have d:e.getD j iO=e[j]:=by rw [ν,ξ h];rfl
 rw [d]
 conv=>lhs;rw [c]
 exact xh (by rw [Xq5];omega)
theorem fH {A:List (List Nat)} {k i m:Nat} (c:∀ j ∈ A.getD k [],j<m) (h:i<(A.getD k []).length):(A.getD k []).getD i 0<m:=by rw [CX h];exact c _ (Xxe h)
theorem aa_ (e:List Nd) (p:Bool) (A:List (List Nat)) (o:List Sc) (n:Bool) (ss:List Nat) (k i:Nat) (a:List Nat) (rA:List AV) (j:Nat) (q:List AV) (x:Nd) (r:List AV) (c:k<A.length) (h:(ε ((δ (k:Int))*1) (aX A))= [Cw a]++rA) (f:i<a.length) (d:(ε ((δ (i:Int))*1) (ag a))= [ω (j:Int)]++q) (g:j<e.length) (m:(ε ((δ (j:Int))*5) (aP e))=nJ x++r):
  aj prog ap 98 [.ptr 0 0 0,ω (k:Int),ω (i:Int)] (wH e p A o n ss) (.ret (.tup [.agg [.bool x.neg,.str x.num,.str x.den],.bool (nE x.op)])) (wH e p A o n ss):=by
 rcases tf (x.op==((1:Nat):Int)) with b0|b0
 ·rw [show nE x.op=true from by unfold nE;rw [show (x.op==1)=true from b0];rfl];exact pK [] 2 3 (.k 5 (aw b0) (.k 10 (fB j) (.c (l_ g) (.k 1 (fB i) (.c (l_ f) (.k 1 (fB k) (.c (l_ c) (.n 2 .nil)))))))) (.v 23 (.ppt m) (.v 21 (.ppt d) (.v 18 (.ppt h) .nil)))
 ·rcases tf (x.op==((2:Nat):Int)) with b1|b1
  ·rw [show nE x.op=true from by unfold nE;rw [show (x.op==1)=false from b0,show (x.op==2)=true from b1];rfl];exact pK [] 2 2 (.k 4 (aw b1) (.k 1 (ay b0) (.k 10 (fB j) (.c (l_ g) (.k 1 (fB i) (.c (l_ f) (.k 1 (fB k) (.c (l_ c) (.n 2 .nil))))))))) (.v 23 (.ppt m) (.v 21 (.ppt d) (.v 18 (.ppt h) .nil)))
  ·rw [show nE x.op=(x.op==((3:Nat):Int)) from by unfold nE;rw [show (x.op==1)=false from b0,show (x.op==2)=false from b1];rfl];exact pK [] 2 0 (.k 5 (ay b1) (.k 1 (ay b0) (.k 10 (fB j) (.c (l_ g) (.k 1 (fB i) (.c (l_ f) (.k 1 (fB k) (.c (l_ c) (.n 2 .nil))))))))) (.v 23 (.ppt m) (.v 21 (.ppt d) (.v 18 (.ppt h) .nil)))
theorem pD (e:List Nd) (c:Bool) (A:List (List Nat)) (f:List Sc) (d:Bool) (ss:List Nat) (k i:Nat) (g:k<A.length) (j:i<(A.getD k []).length) (h:(A.getD k []).getD i 0<e.length):
  aj prog ap 98 [.ptr 0 0 0,ω (k:Int),ω (i:Int)] (wH e c A f d ss) (.ret (.tup [.agg [.bool (qB e A k i).neg,.str (qB e A k i).num,.str (qB e A k i).den],.bool (nE (qB e A k i).op)])) (wH e c A f d ss):=
 aa_ e c A f d ss k i _ _ _ _ _ _ g (ni g) j (qw j) h (zi h)
def wN (neg:Bool) (s:Nat):Nat:=cond neg (gI s) s
theorem Ht (e:List Nd) (c:Bool) (A:List (List Nat)) (f:List Sc) (d:Bool) (ss:List Nat) (k i:Nat) (x:Nd) (g:k<A.length) (j:i<(A.getD k []).length) (h:(A.getD k []).getD i 0<ss.length):
  aj prog ap 99 [.ptr 0 0 0,ω (k:Int),ω (i:Int),.agg [.bool x.neg,.str x.num,.str x.den]] (wH e c A f d ss) (.ret (ω ((wN x.neg (eH A ss k i):Nat):Int))) (wH e c A f d ss):=by
 rcases tf x.neg with b0|b0
 ·rw [show wN x.neg (eH A ss k i)=gI (eH A ss k i) by unfold wN;rw [b0];rfl];exact pK [] 1 1 (.c (aw b0) (.n 1 .nil)) (.c (JA (eH A ss k i)) (.c (lS e c A f d ss k i g j h) .nil))
 ·rw [show wN x.neg (eH A ss k i)=eH A ss k i by unfold wN;rw [b0];rfl];exact pK [] 1 0 (.c (ay b0) (.n 1 .nil)) (.c (lS e c A f d ss k i g j h) .nil)
def zf (e:List Nd) (A:List (List Nat)) (ss:List Nat) (k:Nat):Nat:=cond (nE (qB e A k 0).op) (wN (qB e A k 0).neg (eH A ss k 1)) (cond (nE (qB e A k 1).op) (wN (qB e A k 1).neg (eH A ss k 0)) 3)
def xX (e:List Nd) (A:List (List Nat)) (ss:List Nat) (k:Nat):Nat:=cond (nE (qB e A k 1).op) (cond (jK (qB e A k 1).neg (qB e A k 1).num (qB e A k 1).den==((0:Nat):Int)) 3 (wN (qB e A k 1).neg (eH A ss k 0))) 3
def CH (A:List (List Nat)) (ss:List Nat) (k:Nat):Nat:=cond (((eH A ss k 0:Nat):Int)==((0:Nat):Int)) (bW (eH A ss k 1) (eH A ss k 2)) 3
theorem Xa (e:List Nd) (c:Bool) (A:List (List Nat)) (f:List Sc) (d:Bool) (ss:List Nat) (k:Nat) (g:k<A.length) (hs:∀ j ∈ A.getD k [],j<ss.length) (i:∀ j ∈ A.getD k [],j<e.length) (h0:0<(A.getD k []).length) (h:1<(A.getD k []).length):
  aj prog ap 64 [.ptr 0 0 0,ω (k:Int)] (wH e c A f d ss) (.ret (ω ((zf e A ss k:Nat):Int))) (wH e c A f d ss):=by
 rcases tf (nE (qB e A k 0).op) with b0|b0
 ·rw [show zf e A ss k=wN (qB e A k 0).neg (eH A ss k 1) by unfold zf;rw [b0];rfl];exact pK [] 1 1 (.k 3 (aw b0) (.n 1 .nil)) (.c (Ht e c A f d ss k 1 (qB e A k 0) g h (fH hs h)) (.c (pD e c A f d ss k 0 g h0 (fH i h0)) .nil))
 ·rcases tf (nE (qB e A k 1).op) with b1|b1
  ·rw [show zf e A ss k=wN (qB e A k 1).neg (eH A ss k 0) by unfold zf;rw [b0,b1];rfl];exact pK [] 2 2 (.k 3 (aw b1) (.k 1 (ay b0) (.n 1 .nil))) (.c (Ht e c A f d ss k 0 (qB e A k 1) g h0 (fH hs h0)) (.c (pD e c A f d ss k 1 g h (fH i h)) (.c (pD e c A f d ss k 0 g h0 (fH i h0)) .nil)))
  ·rw [show zf e A ss k=3 by unfold zf;rw [b0,b1];rfl];exact pK [] 2 0 (.c (ay b1) (.k 1 (ay b0) (.n 1 .nil))) (.c (pD e c A f d ss k 1 g h (fH i h)) (.c (pD e c A f d ss k 0 g h0 (fH i h0)) .nil))
theorem VN (e:List Nd) (d:Bool) (A:List (List Nat)) (g:List Sc) (f:Bool) (ss:List Nat) (k:Nat) (h:k<A.length) (hs:∀ j ∈ A.getD k [],j<ss.length) (m:∀ j ∈ A.getD k [],j<e.length) (h0:0<(A.getD k []).length) (c:1<(A.getD k []).length) (i:(qB e A k 1).num.length<2^36∧(qB e A k 1).den.length<2^36):
  aj prog ap 65 [.ptr 0 0 0,ω (k:Int)] (wH e d A g f ss) (.ret (ω ((xX e A ss k:Nat):Int))) (wH e d A g f ss):=by
 rcases tf (nE (qB e A k 1).op) with b0|b0
 ·rcases tf ((jK (qB e A k 1).neg (qB e A k 1).num (qB e A k 1).den)==((0:Nat):Int)) with b1|b1
  ·rw [show xX e A ss k=3 by unfold xX;rw [b0,b1];rfl];exact pK [] 2 1 (.c (aA b1) (.k 3 (aw b0) (.n 1 .nil))) (.c (gD (qB e A k 1).neg (qB e A k 1).num (qB e A k 1).den i.1 i.2) (.c (pD e d A g f ss k 1 h c (fH m c)) .nil))
  ·rw [show xX e A ss k=wN (qB e A k 1).neg (eH A ss k 0) by unfold xX;rw [b0,b1];rfl];exact pK [] 2 3 (.k 3 (bi b1) (.k 3 (aw b0) (.n 1 .nil))) (.c (Ht e d A g f ss k 0 (qB e A k 1) h h0 (fH hs h0)) (.c (gD (qB e A k 1).neg (qB e A k 1).num (qB e A k 1).den i.1 i.2) (.c (pD e d A g f ss k 1 h c (fH m c)) .nil)))
 ·rw [show xX e A ss k=3 by unfold xX;rw [b0];rfl];exact pK [] 2 0 (.k 1 (ay b0) (.n 1 .nil)) (.c (pD e d A g f ss k 1 h c (fH m c)) .nil)
theorem VF (e:List Nd) (c:Bool) (A:List (List Nat)) (f:List Sc) (d:Bool) (ss:List Nat) (k:Nat) (g:k<A.length) (hs:∀ j ∈ A.getD k [],j<ss.length) (m:∀ j ∈ A.getD k [],j<e.length) (h0:0<(A.getD k []).length) (h:1<(A.getD k []).length) (i:2<(A.getD k []).length):
  aj prog ap 66 [.ptr 0 0 0,ω (k:Int)] (wH e c A f d ss) (.ret (ω ((CH A ss k:Nat):Int))) (wH e c A f d ss):=by
 rcases tf ((((eH A ss k 0):Nat):Int)==((0:Nat):Int)) with b0|b0
 ·rw [show CH A ss k=bW (eH A ss k 1) (eH A ss k 2) by unfold CH;rw [b0];rfl];exact pK [] 1 0 (.c (aA b0) .nil) (.c (C_ (eH A ss k 1) (eH A ss k 2)) (.c (lS e c A f d ss k 2 g i (fH hs i)) (.c (lS e c A f d ss k 1 g h (fH hs h)) (.c (lS e c A f d ss k 0 g h0 (fH hs h0)) .nil))))
 ·rw [show CH A ss k=3 by unfold CH;rw [b0];rfl];exact pK [] 1 1 (.c (bi b0) .nil) (.c (lS e c A f d ss k 0 g h0 (fH hs h0)) .nil)
theorem Yj (e:List Nd) (c:Bool) (A:List (List Nat)) (f:List Sc) (d:Bool) (ss:List Nat) (k:Nat) (h:k<A.length) (hs:∀ j ∈ A.getD k [],j<ss.length) (i:∀ j ∈ A.getD k [],j<e.length) (h0:0<(A.getD k []).length) (g:1<(A.getD k []).length):
  aj prog ap 63 [.ptr 0 0 0,ω (k:Int)] (wH e c A f d ss) (.ret (ω ((bW (eH A ss k 0) (gI (eH A ss k 1)):Nat):Int))) (wH e c A f d ss):=by
 exact pK [] 0 0 .nil (.c (C_ (eH A ss k 0) (gI (eH A ss k 1))) (.c (JA (eH A ss k 1)) (.c (lS e c A f d ss k 1 h g (fH hs g)) (.c (lS e c A f d ss k 0 h h0 (fH hs h0)) .nil))))
abbrev rH (e:List Nd) (ne:Bool) (A:List (List Nat)) (sc:List Sc) (ns:Bool) (ss:List Nat) (k:Nat):List aR:= [⟨[.ptr 2 0 0],0,false,0,0,false⟩,⟨[ω (k:Int)],0,false,0,0,true⟩,⟨[.sl (aP e) e.length ne,.sl (aX A) A.length true,.sl (dB sc) sc.length ns,.ref 3 0 0 ss.length],0,false,0,0,false⟩,⟨(ag ss),0,false,0,1,true⟩]
theorem Um (e:List Nd) (c:Bool) (A:List (List Nat)) (f:List Sc) (d:Bool) (ss:List Nat) (k:Nat) (x:Sc) (y:Nd) (h:List AV) (g:k<e.length) (i:(ε ((δ (k:Int))*5) (aP e))=nJ y++h):
  aj prog ap 101 [.agg (wM x),.ptr 0 0 0,.ptr 1 0 0] (rH e c A f d ss k) (.ret (.bool (x.name==y.name))) (rH e c A f d ss k):=pK [] 0 0 (.k 1 (fB k) (.c (l_ g) (.n 4 .nil))) (.v 12 (.ppt i) .nil)
def aau (e:List Nd) (ne:Bool) (A:List (List Nat)) (sc:List Sc) (ns:Bool) (ss:List Nat) (k:Nat) (p:Nat × Unit):St:=⟨[(0,.sl (dB sc) sc.length ns),(1,.fn 101 [] [.ptr 0 0 0,.ptr 1 0 0]),(7,ω (sc.length:Int)),(8,ω (p.1:Int))],[(0,⟨[.ptr 2 0 0],0,false,0,0,false⟩),(1,⟨[ω (k:Int)],0,false,0,0,true⟩),(2,⟨[.sl (aP e) e.length ne,.sl (aX A) A.length true,.sl (dB sc) sc.length ns,.ref 3 0 0 ss.length],0,false,0,0,false⟩),(3,⟨(ag ss),0,false,0,1,true⟩)],.dead,[]⟩
def UA (e:List Nd) (ne:Bool) (A:List (List Nat)) (sc:List Sc) (ns:Bool) (ss:List Nat) (k:Nat):Option Nat→St
 |none=> ⟨[(0,.sl (dB sc) sc.length ns)],[(0,⟨[.ptr 2 0 0],0,false,0,0,false⟩),(1,⟨[.int .i64 (k:Int)],0,false,0,0,true⟩),(2,⟨[.sl (aP e) e.length ne,.sl (aX A) A.length true,.sl (dB sc) sc.length ns,.ref 3 0 0 ss.length],0,false,0,0,false⟩),(3,⟨(ag ss),0,false,0,1,true⟩)],.dead,[]⟩
 |some i=> ⟨[(4,.int .i64 (i:Int))],[(0,⟨[.ptr 2 0 0],0,false,0,0,false⟩),(1,⟨[.int .i64 (k:Int)],0,false,0,0,true⟩),(2,⟨[.sl (aP e) e.length ne,.sl (aX A) A.length true,.sl (dB sc) sc.length ns,.ref 3 0 0 ss.length],0,false,0,0,false⟩),(3,⟨(ag ss),0,false,0,1,true⟩)],.dead,[]⟩
def LJ:Option Nat→br
 |none=> .exit 0
 |some _=> .ret
def C5 (nm:List UInt8):List Sc→Nat→Option Nat
 | [],_=>none
 |x::r,i=>if x.name==nm then some i else C5 nm r (i+1)
theorem Rf {nt:Nat} (n:19≤nt) (e:List Nd) (h:Bool) (A:List (List Nat)) (c:List Sc) (g:Bool) (ss:List Nat) (k:Nat) (y:Nd) (j:List AV) (o:k<e.length) (t:(ε ((δ (k:Int))*5) (aP e))=nJ y++j) (v:c.length<2^40):∀ (r p:List Sc),p++r=c→
  az prog ap (rH e h A c g ss k) nt (ac 0 (af f100)) LJ (aau e h A c g ss k) (UA e h A c g ss k) (p.length,()) (C5 y.name r p.length):=by
 intro r
 induction r with
 |nil=>
  intro p hp;rw [Xqa] at hp;subst hp;generalize w:p.length=i;have d:(decide ((i:Int)<(p.length:Int)))=false:=Yq1 (by omega);exact .done (pN 100 [] 1 0 (.c (ay d) .nil) (.nil) n)
 | cons x r ih=>
  intro p hp;have m:(ε ((δ (p.length:Int))*4) (dB c))=wM x++dB r:=by
   have q:p.length<c.length:=by rw [← hp];simp
   rw [av,zW q];have u:c[p.length]=x:=by subst hp;simp
   have z:c.drop (p.length+1)=r:=by rw [← hp];simp
   rw [u,z]
  have q:p.length<c.length:=by rw [← hp];simp
  have f:=ih (p++ [x]) (by rw [← hp];simp);rw [κ,τ] at f;unfold C5;generalize w:p.length=i at*
  generalize dB r=rS at m;have d:(decide ((i:Int)<(c.length:Int)))=true:=Yq0 (by omega);have B:i<2^62:=by omega
  rcases tf (x.name==y.name) with b1|b1
  ·rw [if_pos b1];exact .done (pN 100 [] 2 3 (.c (aw b1) (.k 4 (fB i) (.c d (.c (aw d) .nil)))) (.c (Um e h A c g ss k x y j o t) (.v 14 (.ppt m) .nil)) n)
  ·rw [if_neg (by rw [b1];decide)];exact .next (pN 100 [] 2 1 (.c (ay b1) (.k 4 (fB i) (.c d (.c (aw d) .nil)))) (.v 18 (.eq (oH B)) (.c (Um e h A c g ss k x y j o t) (.v 14 (.ppt m) .nil))) n) f
theorem aaw (e:List Nd) (f:Bool) (A:List (List Nat)) (c:List Sc) (d:Bool) (ss:List Nat) (k:Nat) (g:aG prog ap (rH e f A c d ss k) 19 (.block 0 (.loop (ac 0 (af f100)))) ⟨[(0,.sl (dB c) c.length d),(1,.fn 101 [] [.ptr 0 0 0,.ptr 1 0 0]),(4,ω 0),(5,.dead),(7,ω (c.length:Int)),(8,ω 0),(9,.dead),(16,.dead)],[(0,⟨[.ptr 2 0 0],0,false,0,0,false⟩),(1,⟨[ω (k:Int)],0,false,0,0,true⟩),(2,⟨[.sl (aP e) e.length f,.sl (aX A) A.length true,.sl (dB c) c.length d,.ref 3 0 0 ss.length],0,false,0,0,false⟩),(3,⟨(ag ss),0,false,0,1,true⟩)],.dead,[]⟩ (.normal) ⟨[(0,.sl (dB c) c.length d)],[(0,⟨[.ptr 2 0 0],0,false,0,0,false⟩),(1,⟨[ω (k:Int)],0,false,0,0,true⟩),(2,⟨[.sl (aP e) e.length f,.sl (aX A) A.length true,.sl (dB c) c.length d,.ref 3 0 0 ss.length],0,false,0,0,false⟩),(3,⟨(ag ss),0,false,0,1,true⟩)],.dead,[]⟩):
  aj prog ap 100 [.sl (dB c) c.length d,(.fn 101 [] [.ptr 0 0 0,.ptr 1 0 0])] (rH e f A c d ss k) (.ret (ω (-1))) (rH e f A c d ss k):=pK [0] 0 0 .nil (.l g .nil)
theorem aax (e:List Nd) (f:Bool) (A:List (List Nat)) (c:List Sc) (d:Bool) (ss:List Nat) (k i:Nat) (g:aG prog ap (rH e f A c d ss k) 19 (.block 0 (.loop (ac 0 (af f100)))) ⟨[(0,.sl (dB c) c.length d),(1,.fn 101 [] [.ptr 0 0 0,.ptr 1 0 0]),(4,ω 0),(5,.dead),(7,ω (c.length:Int)),(8,ω 0),(9,.dead),(16,.dead)],[(0,⟨[.ptr 2 0 0],0,false,0,0,false⟩),(1,⟨[ω (k:Int)],0,false,0,0,true⟩),(2,⟨[.sl (aP e) e.length f,.sl (aX A) A.length true,.sl (dB c) c.length d,.ref 3 0 0 ss.length],0,false,0,0,false⟩),(3,⟨(ag ss),0,false,0,1,true⟩)],.dead,[]⟩ (.ret) ⟨[(4,ω (i:Int))],[(0,⟨[.ptr 2 0 0],0,false,0,0,false⟩),(1,⟨[ω (k:Int)],0,false,0,0,true⟩),(2,⟨[.sl (aP e) e.length f,.sl (aX A) A.length true,.sl (dB c) c.length d,.ref 3 0 0 ss.length],0,false,0,0,false⟩),(3,⟨(ag ss),0,false,0,1,true⟩)],.dead,[]⟩):
  aj prog ap 100 [.sl (dB c) c.length d,(.fn 101 [] [.ptr 0 0 0,.ptr 1 0 0])] (rH e f A c d ss k) (.ret (ω (i:Int))) (rH e f A c d ss k):=pK [0] 0 0 .nil (.l g .nil)
def ixI:Option Nat→Int
 |none=> -1
 |some i=>(i:Int)
theorem aav (e:List Nd) (f:Bool) (A:List (List Nat)) (c:List Sc) (d:Bool) (ss:List Nat) (k:Nat) (j:k<e.length) (g:c.length<2^40):
  aj prog ap 100 [.sl (dB c) c.length d,(.fn 101 [] [.ptr 0 0 0,.ptr 1 0 0])] (rH e f A c d ss k) (.ret (ω (ixI (C5 (e.getD k iO).name c 0)))) (rH e f A c d ss k):=by
 have h:∀ nt,19≤nt→az prog ap (rH e f A c d ss k) nt (ac 0 (af f100)) LJ (aau e f A c d ss k) (UA e f A c d ss k) (0,()) (C5 (e.getD k iO).name c 0):=fun nt n=>Rf n e f A c d ss k (e.getD k iO) _ j (zi j) g c [] rfl
 cases m:C5 (e.getD k iO).name c 0 with
 |none=>
  rw [m] at h;exact aaw e f A c d ss k (az.blk h (by simp [LJ]) rfl (aJ.of ⟨rfl,rfl,rfl,rfl,trivial⟩) (aJ.of ⟨rfl,trivial⟩))
 |some i=>
  rw [m] at h;exact aax e f A c d ss k i (az.blk h (by simp [LJ]) rfl (aJ.of ⟨rfl,rfl,rfl,rfl,trivial⟩) (aJ.of ⟨rfl,trivial⟩))
def zE (ck:Sc→Int) (up:Sc→Bool) (nm:List UInt8) (sc:List Sc) (s:Nat):Nat:=match sc.find? (fun x=>x.name==nm) with
 |none=>3
 |some x=>cond (ck x==0) (cond (up x) s 3) 3
theorem BJ (c:List UInt8):∀ (r:List Sc) (i:Nat),(C5 c r i=none∧r.find? (fun x=>x.name==c)=none)∨∃ j x,C5 c r i=some (i+j)∧r[j]? =some x∧r.find? (fun x=>x.name==c)=some x
 | [],_=> .inl ⟨rfl,rfl⟩
 | x::r,i=>by
  unfold C5;rw [List.find?_cons];rcases tf (x.name==c) with h|h
  ·rw [if_pos h,h];exact .inr ⟨0,x,rfl,rfl,rfl⟩
  ·rw [if_neg (by rw [h];decide),h];rcases BJ c r (i+1) with ⟨d,e⟩|⟨j,y,d,e,f⟩
   ·exact .inl ⟨d,e⟩
   ·exact .inr ⟨j+1,y,by rw [d];congr 1;omega,e,f⟩
theorem Xt (e:List Nd) (f:Bool) (A:List (List Nat)) (c:List Sc) (d:Bool) (ss:List Nat) (k:Nat) (g:aj prog ap 100 [.sl (dB c) c.length d,(.fn 101 [] [.ptr 0 0 0,.ptr 1 0 0])] (rH e f A c d ss k) (.ret (ω (-1))) (rH e f A c d ss k)):
  aj prog ap 67 [.ptr 0 0 0,ω (k:Int)] (wH e f A c d ss) (.ret (ω ((3:Nat):Int))) (wH e f A c d ss):=pK [] 3 7 (.n 5 .nil) (.c g .nil)
theorem Xu (e:List Nd) (i:Bool) (A:List (List Nat)) (c:List Sc) (g:Bool) (ss:List Nat) (ck:Sc→Int) (h:Sc→Bool) (k p:Nat) (x:Sc) (t:List AV) (hp:p<c.length) (d:x ∈ c) (n:(ε ((δ (p:Int))*4) (dB c))=wM x++t) (r:k<A.length) (hs:∀ j ∈ A.getD k [],j<ss.length) (h0:0<(A.getD k []).length) (m:∀ x ∈ c,CO 102 [.agg (wM x)] (.ret (ω (ck x)))∧(ck x=0→CO 103 [.agg (wM x)] (.ret (.bool (h x))))) (o:aj prog ap 100 [.sl (dB c) c.length g,(.fn 101 [] [.ptr 0 0 0,.ptr 1 0 0])] (rH e i A c g ss k) (.ret (ω (p:Int))) (rH e i A c g ss k)):
  aj prog ap 67 [.ptr 0 0 0,ω (k:Int)] (wH e i A c g ss) (.ret (ω ((cond (ck x==0) (cond (h x) (eH A ss k 0) 3) 3:Nat):Int))) (wH e i A c g ss):=by
 have q:(decide ((p:Int)<((0:Nat):Int)))=false:=Yq1 (by omega);rcases tf ((ck x)==((0:Nat):Int)) with b0|b0
 ·rcases tf (h x) with b1|b1
  ·have f:ck x=0:=by simpa using b0
   rw [show cond (ck x==0) (cond (h x) (eH A ss k 0) 3) 3=eH A ss k 0 by rw [show (ck x==0)=true from b0];rw [b1];rfl];exact pK [] 3 0 (.k 2 (aA b1) (.k 4 (fB p) (.c (l_ hp) (.k 2 (aA b0) (.k 4 (fB p) (.c (l_ hp) (.k 2 (ay q) (.n 2 .nil)))))))) (.c (lS e i A c g ss k 0 r h0 (fH hs h0)) (.c ((m x d).2 f) (.v 31 (.ppt n) (.c (m x d).1 (.v 20 (.ppt n) (.c o .nil))))))
  ·have f:ck x=0:=by simpa using b0
   rw [show cond (ck x==0) (cond (h x) (eH A ss k 0) 3) 3=3 by rw [show (ck x==0)=true from b0];rw [b1];rfl];exact pK [] 3 4 (.c (bi b1) (.k 4 (fB p) (.c (l_ hp) (.k 2 (aA b0) (.k 4 (fB p) (.c (l_ hp) (.k 2 (ay q) (.n 2 .nil)))))))) (.c ((m x d).2 f) (.v 31 (.ppt n) (.c (m x d).1 (.v 20 (.ppt n) (.c o .nil)))))
 ·rw [show cond (ck x==0) (cond (h x) (eH A ss k 0) 3) 3=3 by rw [show (ck x==0)=false from b0];rfl];exact pK [] 3 6 (.k 1 (bi b0) (.k 4 (fB p) (.c (l_ hp) (.k 2 (ay q) (.n 2 .nil))))) (.c (m x d).1 (.v 20 (.ppt n) (.c o .nil)))
theorem SK (e:List Nd) (f:Bool) (A:List (List Nat)) (c:List Sc) (d:Bool) (ss:List Nat) (ck:Sc→Int) (m:Sc→Bool) (k:Nat) (q:k<A.length) (o:k<e.length) (n:c.length<2^40) (hs:∀ j ∈ A.getD k [],j<ss.length) (h0:0<(A.getD k []).length) (r:∀ x ∈ c,CO 102 [.agg (wM x)] (.ret (ω (ck x)))∧(ck x=0→CO 103 [.agg (wM x)] (.ret (.bool (m x))))):
  aj prog ap 67 [.ptr 0 0 0,ω (k:Int)] (wH e f A c d ss) (.ret (ω ((zE ck m (e.getD k iO).name c (eH A ss k 0):Nat):Int))) (wH e f A c d ss):=by
 have h:=aav e f A c d ss k o n;unfold zE;rcases BJ (e.getD k iO).name c 0 with ⟨i,g⟩|⟨j,x,i,g,t⟩
 ·rw [g];rw [i] at h;exact Xt e f A c d ss k h
 ·rw [t];rw [i,Θ] at h;obtain ⟨p,u⟩:=List.getElem?_eq_some_iff.1 g;exact Xu e f A c d ss ck m k j x _ p (List.mem_of_getElem? g) (by rw [av,zW p,u]) q hs h0 r h
def eM (e:List Nd) (ne:Bool) (A:List (List Nat)) (sc:List Sc) (ns:Bool) (op:Int) (name:List UInt8) (p:Nat × List Nat):St:=⟨[(0,.sl (aP e) e.length ne),(2,ω op),(3,.str name),(11,.ptr 0 0 0),(12,.mp zcc3_0 [.fn 39 [] [],.fn 39 [] [],.fn 39 [] [],.fn 39 [] [],.fn 39 [] [],.fn 39 [] [],.fn 63 [] [],.fn 64 [] [],.fn 65 [] [],.fn 66 [] [],.fn 67 [] []]),(41,.sl (aP e) e.length ne),(42,ω (e.length:Int)),(43,ω (p.1:Int))],[(0,⟨[.sl (aP e) e.length ne,.sl (aX A) A.length true,.sl (dB sc) sc.length ns,.ref 1 0 0 p.2.length],0,false,0,0,false⟩),(1,⟨(ag p.2),0,false,0,1,true⟩)],.dead,[]⟩
def OU (e:List Nd) (ne:Bool) (A:List (List Nat)) (sc:List Sc) (ns:Bool) (ss:List Nat):St:=⟨[(0,.sl (aP e) e.length ne),(11,.ptr 0 0 0)],[(0,⟨[.sl (aP e) e.length ne,.sl (aX A) A.length true,.sl (dB sc) sc.length ns,.ref 1 0 0 ss.length],0,false,0,0,false⟩),(1,⟨(ag ss),0,false,0,1,true⟩)],.dead,[]⟩
def Jk (ck:Sc→Int) (up:Sc→Bool) (e:List Nd) (A:List (List Nat)) (sc:List Sc) (ss:List Nat) (k:Nat) (x:Nd):Nat:=
 if x.op=9∨x.op=13∨x.op=14∨x.op=21∨x.op=22∨x.op=23 then fP A ss k else if x.op=10 then bW (eH A ss k 0) (gI (eH A ss k 1)) else if x.op=11 then zf e A ss k else if x.op=12 then xX e A ss k else if x.op=15 then CH A ss k else if x.op=24 then zE ck up x.name sc (eH A ss k 0) else 3
def Aa (ck:Sc→Int) (up:Sc→Bool) (e:List Nd) (A:List (List Nat)) (sc:List Sc) (op:Int) (name:List UInt8) (ss:List Nat) (k:Nat) (x:Nd):Nat:=
 cond (x.op==op && x.name==name) 1 (cond (((fP A ss k:Nat):Int)==((0:Nat):Int)) 0 (Jk ck up e A sc ss k x))
theorem uH (e:List Nd) (d:Bool) (A:List (List Nat)) (c:List Sc) (f:Bool) (ss:List Nat):([some ⟨[.sl (aP e) e.length d,.sl (aX A) A.length true,.sl (dB c) c.length f,.ref 2 0 0 ss.length],0,false,0,0,false⟩,some (sB ss)]:List (Option aR))= [some ⟨[.sl (aP e) e.length d,.sl (aX A) A.length true,.sl (dB c) c.length f,.ref 2 0 0 ss.length],0,false,0,0,false⟩,some (sB ss)]:=rfl
abbrev yP (o:Int):AV:=EU true (cE zcc3_0 [.fn 39 [] [],.fn 39 [] [],.fn 39 [] [],.fn 39 [] [],.fn 39 [] [],.fn 39 [] [],.fn 63 [] [],.fn 64 [] [],.fn 65 [] [],.fn 66 [] [],.fn 67 [] []] (ω o)) .nilF
theorem gj {ss:List Nat} {k v:Nat} (h:k<ss.length):ο ((0+(δ (k:Int)))*1) (ag ss)++ [ω (v:Int)]++ε (((0+(δ (k:Int)))*1)+1) (ag ss)=ag (ss.set k v):=by
 rw [av,Θ,Φ];unfold ag;rw [← List.map_take,← Xjz,List.set_eq_take_append_cons_drop,if_pos h,List.map_append,List.map_cons,Ψ];rfl
theorem Nt {x:Nd} (h:x.op=9∨x.op=13∨x.op=14∨x.op=21∨x.op=22∨x.op=23):yP x.op= .tup [.fn 39 [] [],.bool true]:=by rcases x with ⟨o,b,n,d,c⟩;dsimp only at h ⊢;rcases h with h|h|h|h|h|h<;>subst h<;>rfl
theorem Ny {x:Nd} (h:x.op=10):yP x.op= .tup [.fn 63 [] [],.bool true]:=by rcases x with ⟨o,b,n,d,c⟩;dsimp only at h ⊢;subst h;rfl
theorem Nw {x:Nd} (h:x.op=11):yP x.op= .tup [.fn 64 [] [],.bool true]:=by rcases x with ⟨o,b,n,d,c⟩;dsimp only at h ⊢;subst h;rfl
theorem Nv {x:Nd} (h:x.op=12):yP x.op= .tup [.fn 65 [] [],.bool true]:=by rcases x with ⟨o,b,n,d,c⟩;dsimp only at h ⊢;subst h;rfl
theorem Nu {x:Nd} (h:x.op=15):yP x.op= .tup [.fn 66 [] [],.bool true]:=by rcases x with ⟨o,b,n,d,c⟩;dsimp only at h ⊢;subst h;rfl
theorem IL {x:Nd} (h:x.op=24):yP x.op= .tup [.fn 67 [] [],.bool true]:=by rcases x with ⟨o,b,n,d,c⟩;dsimp only at h ⊢;subst h;rfl
theorem Nx {x:Nd} (h:¬ ((x.op=9∨x.op=13∨x.op=14∨x.op=21∨x.op=22∨x.op=23)∨(x.op=10)∨(x.op=11)∨(x.op=12)∨(x.op=15)∨(x.op=24))):yP x.op= .tup [.nilF,.bool false]:=by
 rcases x with ⟨o,b,n,d,g⟩
 dsimp only at h ⊢;have e:∀ c:Int,o ≠ c→(o==c)=false:=fun c f=>beq_eq_false_iff_ne.2 f
 simp only [yP,cE,q_];rw [e 9 (by intro q;exact h (by omega)),e 13 (by intro q;exact h (by omega)),e 14 (by intro q;exact h (by omega)),e 21 (by intro q;exact h (by omega)),e 22 (by intro q;exact h (by omega)),e 23 (by intro q;exact h (by omega)),e 10 (by intro q;exact h (by omega)),e 11 (by intro q;exact h (by omega)),e 12 (by intro q;exact h (by omega)),e 15 (by intro q;exact h (by omega)),e 24 (by intro q;exact h (by omega))];rfl
theorem ada {nt:Nat} (m:111≤nt) (e:List Nd) (i:Bool) (A:List (List Nat)) (h:List Sc) (g:Bool) (ss:List Nat) (f:Int) (name:List UInt8) (k:Nat) (x:Nd) (o:List AV) (y:e.getD k iO=x) (q:(ε ((δ (k:Int))*5) (aP e))=nJ x++o) (u:k<e.length) (r:e.length<2^40) (w:A.length=e.length) (v:ss.length=e.length) (d:yP x.op= .tup [.nilF,.bool false]) (j:(x.op==f)=true) (p:(x.name==name)=true):ψ nt f14 (eM e i A h g f name (k,ss)) .normal (eM e i A h g f name (k+1,ss.set k 1)):=by
 have c:k<ss.length:=by omega
 have n:k<2^62:=by omega
 have h0:(decide ((k:Int)<(e.length:Int)))=true:=Yq0 (by omega);have t:Xqk (((0+(δ (k:Int)))*1)+1) (η (ag ss))=true:=by rw [Xxw,av];simp [ag];omega
 unfold eM;dsimp only;rw [Xxc,← gj c];exact pN 14 [] 3 7 (.c t (.c (fB k) (.c (l_ c) (.k 1 (aw p) (.k 1 (aw j) (.k 10 (fB k) (.c h0 (.c (aw h0) .nil)))))))) (.v 101 (.eq (oH n)) (.v 52 (.eq d) (.v 46 (.ppt q) .nil))) m
theorem adc {nt:Nat} (m:111≤nt) (e:List Nd) (g:Bool) (A:List (List Nat)) (f:List Sc) (d:Bool) (ss:List Nat) (i:Int) (name:List UInt8) (k:Nat) (x:Nd) (p:List AV) (z:e.getD k iO=x) (r:(ε ((δ (k:Int))*5) (aP e))=nJ x++p) (v:k<e.length) (t:e.length<2^40) (y:A.length=e.length) (w:ss.length=e.length) (h:yP x.op= .tup [.nilF,.bool false]) (j:(x.op==i)=true) (q:(x.name==name)=false) (o:((((fP A ss k):Nat):Int)==((0:Nat):Int))=true) (call_:aj prog ap 39 [.ptr 0 0 0,ω (k:Int)] (wH e g A f d ss) (.ret (ω ((fP A ss k:Nat):Int))) (wH e g A f d ss)):ψ nt f14 (eM e g A f d i name (k,ss)) .normal (eM e g A f d i name (k+1,ss.set k 0)):=by
 have c:k<ss.length:=by omega
 have n:k<2^62:=by omega
 have h0:(decide ((k:Int)<(e.length:Int)))=true:=Yq0 (by omega);have u:Xqk (((0+(δ (k:Int)))*1)+1) (η (ag ss))=true:=by rw [Xxw,av];simp [ag];omega
 unfold eM;dsimp only;rw [Xxc,← gj c];exact pN 14 [] 4 11 (.c u (.c (fB k) (.c (l_ c) (.k 1 (aw o) (.c (ay q) (.k 1 (aw j) (.k 10 (fB k) (.c h0 (.c (aw h0) .nil))))))))) (.v 101 (.eq (oH n)) (.c call_ (.v 52 (.eq h) (.v 46 (.ppt r) .nil)))) m
theorem adf {nt:Nat} (m:111≤nt) (e:List Nd) (g:Bool) (A:List (List Nat)) (f:List Sc) (d:Bool) (ss:List Nat) (i:Int) (name:List UInt8) (k:Nat) (x:Nd) (p:List AV) (y:e.getD k iO=x) (q:(ε ((δ (k:Int))*5) (aP e))=nJ x++p) (u:k<e.length) (r:e.length<2^40) (w:A.length=e.length) (v:ss.length=e.length) (h:yP x.op= .tup [.nilF,.bool false]) (j:(x.op==i)=false) (o:((((fP A ss k):Nat):Int)==((0:Nat):Int))=true) (call_:aj prog ap 39 [.ptr 0 0 0,ω (k:Int)] (wH e g A f d ss) (.ret (ω ((fP A ss k:Nat):Int))) (wH e g A f d ss)):ψ nt f14 (eM e g A f d i name (k,ss)) .normal (eM e g A f d i name (k+1,ss.set k 0)):=by
 have c:k<ss.length:=by omega
 have n:k<2^62:=by omega
 have h0:(decide ((k:Int)<(e.length:Int)))=true:=Yq0 (by omega);have t:Xqk (((0+(δ (k:Int)))*1)+1) (η (ag ss))=true:=by rw [Xxw,av];simp [ag];omega
 unfold eM;dsimp only;rw [Xxc,← gj c];exact pN 14 [] 4 9 (.c t (.c (fB k) (.c (l_ c) (.k 1 (aw o) (.k 1 (ay j) (.k 10 (fB k) (.c h0 (.c (aw h0) .nil)))))))) (.v 101 (.eq (oH n)) (.c call_ (.v 52 (.eq h) (.v 46 (.ppt q) .nil)))) m
theorem ac_ {nt:Nat} (n:111≤nt) (e:List Nd) (j:Bool) (A:List (List Nat)) (i:List Sc) (h:Bool) (ss:List Nat) (g:Int) (name:List UInt8) (k:Nat) (x:Nd) (p:List AV) (z:e.getD k iO=x) (r:(ε ((δ (k:Int))*5) (aP e))=nJ x++p) (v:k<e.length) (t:e.length<2^40) (y:A.length=e.length) (w:ss.length=e.length) (f:Nat) (d:yP x.op= .tup [.fn f [] [],.bool true]) (m:(x.op==g)=true) (q:(x.name==name)=true):ψ nt f14 (eM e j A i h g name (k,ss)) .normal (eM e j A i h g name (k+1,ss.set k 1)):=by
 have c:k<ss.length:=by omega
 have o:k<2^62:=by omega
 have h0:(decide ((k:Int)<(e.length:Int)))=true:=Yq0 (by omega);have u:Xqk (((0+(δ (k:Int)))*1)+1) (η (ag ss))=true:=by rw [Xxw,av];simp [ag];omega
 unfold eM;dsimp only;rw [Xxc,← gj c];exact pN 14 [] 3 7 (.c u (.c (fB k) (.c (l_ c) (.k 1 (aw q) (.k 1 (aw m) (.k 10 (fB k) (.c h0 (.c (aw h0) .nil)))))))) (.v 101 (.eq (oH o)) (.v 52 (.eq d) (.v 46 (.ppt r) .nil))) n
theorem adb {nt:Nat} (n:111≤nt) (e:List Nd) (h:Bool) (A:List (List Nat)) (g:List Sc) (d:Bool) (ss:List Nat) (j:Int) (name:List UInt8) (k:Nat) (x:Nd) (q:List AV) (B:e.getD k iO=x) (t:(ε ((δ (k:Int))*5) (aP e))=nJ x++q) (w:k<e.length) (u:e.length<2^40) (z:A.length=e.length) (y:ss.length=e.length) (f:Nat) (i:yP x.op= .tup [.fn f [] [],.bool true]) (m:(x.op==j)=true) (r:(x.name==name)=false) (p:((((fP A ss k):Nat):Int)==((0:Nat):Int))=true) (call_:aj prog ap 39 [.ptr 0 0 0,ω (k:Int)] (wH e h A g d ss) (.ret (ω ((fP A ss k:Nat):Int))) (wH e h A g d ss)):ψ nt f14 (eM e h A g d j name (k,ss)) .normal (eM e h A g d j name (k+1,ss.set k 0)):=by
 have c:k<ss.length:=by omega
 have o:k<2^62:=by omega
 have h0:(decide ((k:Int)<(e.length:Int)))=true:=Yq0 (by omega);have v:Xqk (((0+(δ (k:Int)))*1)+1) (η (ag ss))=true:=by rw [Xxw,av];simp [ag];omega
 unfold eM;dsimp only;rw [Xxc,← gj c];exact pN 14 [] 4 11 (.c v (.c (fB k) (.c (l_ c) (.k 1 (aw p) (.c (ay r) (.k 1 (aw m) (.k 10 (fB k) (.c h0 (.c (aw h0) .nil))))))))) (.v 101 (.eq (oH o)) (.c call_ (.v 52 (.eq i) (.v 46 (.ppt t) .nil)))) n
theorem ade {nt:Nat} (n:111≤nt) (e:List Nd) (h:Bool) (A:List (List Nat)) (g:List Sc) (d:Bool) (ss:List Nat) (j:Int) (name:List UInt8) (k:Nat) (x:Nd) (q:List AV) (z:e.getD k iO=x) (r:(ε ((δ (k:Int))*5) (aP e))=nJ x++q) (v:k<e.length) (t:e.length<2^40) (y:A.length=e.length) (w:ss.length=e.length) (f:Nat) (i:yP x.op= .tup [.fn f [] [],.bool true]) (m:(x.op==j)=false) (p:((((fP A ss k):Nat):Int)==((0:Nat):Int))=true) (call_:aj prog ap 39 [.ptr 0 0 0,ω (k:Int)] (wH e h A g d ss) (.ret (ω ((fP A ss k:Nat):Int))) (wH e h A g d ss)):ψ nt f14 (eM e h A g d j name (k,ss)) .normal (eM e h A g d j name (k+1,ss.set k 0)):=by
 have c:k<ss.length:=by omega
 have o:k<2^62:=by omega
 have h0:(decide ((k:Int)<(e.length:Int)))=true:=Yq0 (by omega);have u:Xqk (((0+(δ (k:Int)))*1)+1) (η (ag ss))=true:=by rw [Xxw,av];simp [ag];omega
 unfold eM;dsimp only;rw [Xxc,← gj c];exact pN 14 [] 4 9 (.c u (.c (fB k) (.c (l_ c) (.k 1 (aw p) (.k 1 (ay m) (.k 10 (fB k) (.c h0 (.c (aw h0) .nil)))))))) (.v 101 (.eq (oH o)) (.c call_ (.v 52 (.eq i) (.v 46 (.ppt r) .nil)))) n
theorem X5 {nt:Nat} (m:111≤nt) (e:List Nd) (i:Bool) (A:List (List Nat)) (g:List Sc) (f:Bool) (ss:List Nat) (j:Int) (name:List UInt8) (k:Nat) (x:Nd) (r:List AV) (z:e.getD k iO=x) (p:(ε ((δ (k:Int))*5) (aP e))=nJ x++r) (v:k<e.length) (u:e.length<2^40) (y:A.length=e.length) (w:ss.length=e.length) (d:yP x.op= .tup [.nilF,.bool false]) (hit:(x.op==j)=false∨(x.name==name)=false) (o:((((fP A ss k):Nat):Int)==((0:Nat):Int))=false) (call_:aj prog ap 39 [.ptr 0 0 0,ω (k:Int)] (wH e i A g f ss) (.ret (ω ((fP A ss k:Nat):Int))) (wH e i A g f ss)):ψ nt f14 (eM e i A g f j name (k,ss)) .normal (eM e i A g f j name (k+1,ss.set k (3))):=by
 have c:k<ss.length:=by omega
 have n:k<2^62:=by omega
 have h0:(decide ((k:Int)<(e.length:Int)))=true:=Yq0 (by omega);have q:Xqk (((0+(δ (k:Int)))*1)+1) (η (ag ss))=true:=by rw [Xxw,av];simp [ag];omega
 unfold eM;dsimp only;rw [Xxc,← gj c];rcases tf (x.op==j) with b1|b1
 ·have t:(x.name==name)=false:=by rcases hit with h|h;rw [h] at b1;cases b1;exact h
  exact pN 14 [] 5 3 (.c q (.c (fB k) (.c (l_ c) (.k 2 (ay o) (.c (ay t) (.k 1 (aw b1) (.k 10 (fB k) (.c h0 (.c (aw h0) .nil))))))))) (.v 101 (.eq (oH n)) (.c call_ (.v 52 (.eq d) (.v 46 (.ppt p) .nil)))) m
 ·exact pN 14 [] 5 1 (.c q (.c (fB k) (.c (l_ c) (.k 2 (ay o) (.k 1 (ay b1) (.k 10 (fB k) (.c h0 (.c (aw h0) .nil)))))))) (.v 101 (.eq (oH n)) (.c call_ (.v 52 (.eq d) (.v 46 (.ppt p) .nil)))) m
theorem XZ {nt:Nat} (m:111≤nt) (e:List Nd) (g:Bool) (A:List (List Nat)) (f:List Sc) (d:Bool) (ss:List Nat) (j:Int) (name:List UInt8) (k:Nat) (x:Nd) (r:List AV) (z:e.getD k iO=x) (p:(ε ((δ (k:Int))*5) (aP e))=nJ x++r) (v:k<e.length) (u:e.length<2^40) (y:A.length=e.length) (w:ss.length=e.length) (i:yP x.op= .tup [.fn 39 [] [],.bool true]) (hit:(x.op==j)=false∨(x.name==name)=false) (o:((((fP A ss k):Nat):Int)==((0:Nat):Int))=false) (call_:aj prog ap 39 [.ptr 0 0 0,ω (k:Int)] (wH e g A f d ss) (.ret (ω ((fP A ss k:Nat):Int))) (wH e g A f d ss)):ψ nt f14 (eM e g A f d j name (k,ss)) .normal (eM e g A f d j name (k+1,ss.set k (fP A ss k))):=by
 have c:k<ss.length:=by omega
 have n:k<2^62:=by omega
 have h0:(decide ((k:Int)<(e.length:Int)))=true:=Yq0 (by omega);have q:Xqk (((0+(δ (k:Int)))*1)+1) (η (ag ss))=true:=by rw [Xxw,av];simp [ag];omega
 unfold eM;dsimp only;rw [Xxc,← gj c];rcases tf (x.op==j) with b1|b1
 ·have t:(x.name==name)=false:=by rcases hit with h|h;rw [h] at b1;cases b1;exact h
  exact pN 14 [] 5 19 (.c q (.c (fB k) (.c (l_ c) (.k 2 (ay o) (.c (ay t) (.k 1 (aw b1) (.k 10 (fB k) (.c h0 (.c (aw h0) .nil))))))))) (.v 101 (.eq (oH n)) (.u 99 (uH e g A f d ss) (.c call_ (.c call_ (.v 52 (.eq i) (.v 46 (.ppt p) .nil)))))) m
 ·exact pN 14 [] 5 17 (.c q (.c (fB k) (.c (l_ c) (.k 2 (ay o) (.k 1 (ay b1) (.k 10 (fB k) (.c h0 (.c (aw h0) .nil)))))))) (.v 101 (.eq (oH n)) (.u 99 (uH e g A f d ss) (.c call_ (.c call_ (.v 52 (.eq i) (.v 46 (.ppt p) .nil)))))) m
theorem X6 {nt:Nat} (m:111≤nt) (e:List Nd) (f:Bool) (A:List (List Nat)) (d:List Sc) (c:Bool) (ss:List Nat) (j:Int) (name:List UInt8) (k:Nat) (x:Nd) (r:List AV) (z:e.getD k iO=x) (p:(ε ((δ (k:Int))*5) (aP e))=nJ x++r) (v:k<e.length) (u:e.length<2^40) (y:A.length=e.length) (w:ss.length=e.length) (i:yP x.op= .tup [.fn 63 [] [],.bool true]) (hit:(x.op==j)=false∨(x.name==name)=false) (o:((((fP A ss k):Nat):Int)==((0:Nat):Int))=false) (call_:aj prog ap 39 [.ptr 0 0 0,ω (k:Int)] (wH e f A d c ss) (.ret (ω ((fP A ss k:Nat):Int))) (wH e f A d c ss)) (crule:aj prog ap 63 [.ptr 0 0 0,ω (k:Int)] (wH e f A d c ss) (.ret (ω (((bW (eH A ss k 0) (gI (eH A ss k 1))):Nat):Int))) (wH e f A d c ss)):ψ nt f14 (eM e f A d c j name (k,ss)) .normal (eM e f A d c j name (k+1,ss.set k (bW (eH A ss k 0) (gI (eH A ss k 1))))):=by
 have g:k<ss.length:=by omega
 have n:k<2^62:=by omega
 have h0:(decide ((k:Int)<(e.length:Int)))=true:=Yq0 (by omega);have q:Xqk (((0+(δ (k:Int)))*1)+1) (η (ag ss))=true:=by rw [Xxw,av];simp [ag];omega
 unfold eM;dsimp only;rw [Xxc,← gj g];rcases tf (x.op==j) with b1|b1
 ·have t:(x.name==name)=false:=by rcases hit with h|h;rw [h] at b1;cases b1;exact h
  exact pN 14 [] 5 19 (.c q (.c (fB k) (.c (l_ g) (.k 2 (ay o) (.c (ay t) (.k 1 (aw b1) (.k 10 (fB k) (.c h0 (.c (aw h0) .nil))))))))) (.v 101 (.eq (oH n)) (.u 99 (uH e f A d c ss) (.c crule (.c call_ (.v 52 (.eq i) (.v 46 (.ppt p) .nil)))))) m
 ·exact pN 14 [] 5 17 (.c q (.c (fB k) (.c (l_ g) (.k 2 (ay o) (.k 1 (ay b1) (.k 10 (fB k) (.c h0 (.c (aw h0) .nil)))))))) (.v 101 (.eq (oH n)) (.u 99 (uH e f A d c ss) (.c crule (.c call_ (.v 52 (.eq i) (.v 46 (.ppt p) .nil)))))) m
theorem X4 {nt:Nat} (m:111≤nt) (e:List Nd) (f:Bool) (A:List (List Nat)) (d:List Sc) (c:Bool) (ss:List Nat) (j:Int) (name:List UInt8) (k:Nat) (x:Nd) (r:List AV) (z:e.getD k iO=x) (p:(ε ((δ (k:Int))*5) (aP e))=nJ x++r) (v:k<e.length) (u:e.length<2^40) (y:A.length=e.length) (w:ss.length=e.length) (i:yP x.op= .tup [.fn 64 [] [],.bool true]) (hit:(x.op==j)=false∨(x.name==name)=false) (o:((((fP A ss k):Nat):Int)==((0:Nat):Int))=false) (call_:aj prog ap 39 [.ptr 0 0 0,ω (k:Int)] (wH e f A d c ss) (.ret (ω ((fP A ss k:Nat):Int))) (wH e f A d c ss)) (crule:aj prog ap 64 [.ptr 0 0 0,ω (k:Int)] (wH e f A d c ss) (.ret (ω (((zf e A ss k):Nat):Int))) (wH e f A d c ss)):ψ nt f14 (eM e f A d c j name (k,ss)) .normal (eM e f A d c j name (k+1,ss.set k (zf e A ss k))):=by
 have g:k<ss.length:=by omega
 have n:k<2^62:=by omega
 have h0:(decide ((k:Int)<(e.length:Int)))=true:=Yq0 (by omega);have q:Xqk (((0+(δ (k:Int)))*1)+1) (η (ag ss))=true:=by rw [Xxw,av];simp [ag];omega
 unfold eM;dsimp only;rw [Xxc,← gj g];rcases tf (x.op==j) with b1|b1
 ·have t:(x.name==name)=false:=by rcases hit with h|h;rw [h] at b1;cases b1;exact h
  exact pN 14 [] 5 19 (.c q (.c (fB k) (.c (l_ g) (.k 2 (ay o) (.c (ay t) (.k 1 (aw b1) (.k 10 (fB k) (.c h0 (.c (aw h0) .nil))))))))) (.v 101 (.eq (oH n)) (.u 99 (uH e f A d c ss) (.c crule (.c call_ (.v 52 (.eq i) (.v 46 (.ppt p) .nil)))))) m
 ·exact pN 14 [] 5 17 (.c q (.c (fB k) (.c (l_ g) (.k 2 (ay o) (.k 1 (ay b1) (.k 10 (fB k) (.c h0 (.c (aw h0) .nil)))))))) (.v 101 (.eq (oH n)) (.u 99 (uH e f A d c ss) (.c crule (.c call_ (.v 52 (.eq i) (.v 46 (.ppt p) .nil)))))) m
theorem X2 {nt:Nat} (m:111≤nt) (e:List Nd) (f:Bool) (A:List (List Nat)) (d:List Sc) (c:Bool) (ss:List Nat) (j:Int) (name:List UInt8) (k:Nat) (x:Nd) (r:List AV) (z:e.getD k iO=x) (p:(ε ((δ (k:Int))*5) (aP e))=nJ x++r) (v:k<e.length) (u:e.length<2^40) (y:A.length=e.length) (w:ss.length=e.length) (i:yP x.op= .tup [.fn 65 [] [],.bool true]) (hit:(x.op==j)=false∨(x.name==name)=false) (o:((((fP A ss k):Nat):Int)==((0:Nat):Int))=false) (call_:aj prog ap 39 [.ptr 0 0 0,ω (k:Int)] (wH e f A d c ss) (.ret (ω ((fP A ss k:Nat):Int))) (wH e f A d c ss)) (crule:aj prog ap 65 [.ptr 0 0 0,ω (k:Int)] (wH e f A d c ss) (.ret (ω (((xX e A ss k):Nat):Int))) (wH e f A d c ss)):ψ nt f14 (eM e f A d c j name (k,ss)) .normal (eM e f A d c j name (k+1,ss.set k (xX e A ss k))):=by
 have g:k<ss.length:=by omega
 have n:k<2^62:=by omega
 have h0:(decide ((k:Int)<(e.length:Int)))=true:=Yq0 (by omega);have q:Xqk (((0+(δ (k:Int)))*1)+1) (η (ag ss))=true:=by rw [Xxw,av];simp [ag];omega
 unfold eM;dsimp only;rw [Xxc,← gj g];rcases tf (x.op==j) with b1|b1
 ·have t:(x.name==name)=false:=by rcases hit with h|h;rw [h] at b1;cases b1;exact h
  exact pN 14 [] 5 19 (.c q (.c (fB k) (.c (l_ g) (.k 2 (ay o) (.c (ay t) (.k 1 (aw b1) (.k 10 (fB k) (.c h0 (.c (aw h0) .nil))))))))) (.v 101 (.eq (oH n)) (.u 99 (uH e f A d c ss) (.c crule (.c call_ (.v 52 (.eq i) (.v 46 (.ppt p) .nil)))))) m
 ·exact pN 14 [] 5 17 (.c q (.c (fB k) (.c (l_ g) (.k 2 (ay o) (.k 1 (ay b1) (.k 10 (fB k) (.c h0 (.c (aw h0) .nil)))))))) (.v 101 (.eq (oH n)) (.u 99 (uH e f A d c ss) (.c crule (.c call_ (.v 52 (.eq i) (.v 46 (.ppt p) .nil)))))) m
theorem X0 {nt:Nat} (m:111≤nt) (e:List Nd) (f:Bool) (A:List (List Nat)) (d:List Sc) (c:Bool) (ss:List Nat) (j:Int) (name:List UInt8) (k:Nat) (x:Nd) (r:List AV) (z:e.getD k iO=x) (p:(ε ((δ (k:Int))*5) (aP e))=nJ x++r) (v:k<e.length) (u:e.length<2^40) (y:A.length=e.length) (w:ss.length=e.length) (i:yP x.op= .tup [.fn 66 [] [],.bool true]) (hit:(x.op==j)=false∨(x.name==name)=false) (o:((((fP A ss k):Nat):Int)==((0:Nat):Int))=false) (call_:aj prog ap 39 [.ptr 0 0 0,ω (k:Int)] (wH e f A d c ss) (.ret (ω ((fP A ss k:Nat):Int))) (wH e f A d c ss)) (crule:aj prog ap 66 [.ptr 0 0 0,ω (k:Int)] (wH e f A d c ss) (.ret (ω (((CH A ss k):Nat):Int))) (wH e f A d c ss)):ψ nt f14 (eM e f A d c j name (k,ss)) .normal (eM e f A d c j name (k+1,ss.set k (CH A ss k))):=by
 have g:k<ss.length:=by omega
 have n:k<2^62:=by omega
 have h0:(decide ((k:Int)<(e.length:Int)))=true:=Yq0 (by omega);have q:Xqk (((0+(δ (k:Int)))*1)+1) (η (ag ss))=true:=by rw [Xxw,av];simp [ag];omega
 unfold eM;dsimp only;rw [Xxc,← gj g];rcases tf (x.op==j) with b1|b1
 ·have t:(x.name==name)=false:=by rcases hit with h|h;rw [h] at b1;cases b1;exact h
  exact pN 14 [] 5 19 (.c q (.c (fB k) (.c (l_ g) (.k 2 (ay o) (.c (ay t) (.k 1 (aw b1) (.k 10 (fB k) (.c h0 (.c (aw h0) .nil))))))))) (.v 101 (.eq (oH n)) (.u 99 (uH e f A d c ss) (.c crule (.c call_ (.v 52 (.eq i) (.v 46 (.ppt p) .nil)))))) m
 ·exact pN 14 [] 5 17 (.c q (.c (fB k) (.c (l_ g) (.k 2 (ay o) (.k 1 (ay b1) (.k 10 (fB k) (.c h0 (.c (aw h0) .nil)))))))) (.v 101 (.eq (oH n)) (.u 99 (uH e f A d c ss) (.c crule (.c call_ (.v 52 (.eq i) (.v 46 (.ppt p) .nil)))))) m
theorem Td {nt:Nat} (m:111≤nt) (e:List Nd) (f:Bool) (A:List (List Nat)) (c:List Sc) (d:Bool) (ss:List Nat) (j:Int) (name:List UInt8) (k:Nat) (x:Nd) (t:List AV) (B:e.getD k iO=x) (q:(ε ((δ (k:Int))*5) (aP e))=nJ x++t) (w:k<e.length) (v:e.length<2^40) (z:A.length=e.length) (y:ss.length=e.length) (ck:Sc→Int) (p:Sc→Bool) (i:yP x.op= .tup [.fn 67 [] [],.bool true]) (hit:(x.op==j)=false∨(x.name==name)=false) (o:((((fP A ss k):Nat):Int)==((0:Nat):Int))=false) (call_:aj prog ap 39 [.ptr 0 0 0,ω (k:Int)] (wH e f A c d ss) (.ret (ω ((fP A ss k:Nat):Int))) (wH e f A c d ss)) (crule:aj prog ap 67 [.ptr 0 0 0,ω (k:Int)] (wH e f A c d ss) (.ret (ω (((zE ck p x.name c (eH A ss k 0)):Nat):Int))) (wH e f A c d ss)):ψ nt f14 (eM e f A c d j name (k,ss)) .normal (eM e f A c d j name (k+1,ss.set k (zE ck p x.name c (eH A ss k 0)))):=by
 have g:k<ss.length:=by omega
 have n:k<2^62:=by omega
 have h0:(decide ((k:Int)<(e.length:Int)))=true:=Yq0 (by omega);have r:Xqk (((0+(δ (k:Int)))*1)+1) (η (ag ss))=true:=by rw [Xxw,av];simp [ag];omega
 unfold eM;dsimp only;rw [Xxc,← gj g];rcases tf (x.op==j) with b1|b1
 ·have u:(x.name==name)=false:=by rcases hit with h|h;rw [h] at b1;cases b1;exact h
  exact pN 14 [] 5 19 (.c r (.c (fB k) (.c (l_ g) (.k 2 (ay o) (.c (ay u) (.k 1 (aw b1) (.k 10 (fB k) (.c h0 (.c (aw h0) .nil))))))))) (.v 101 (.eq (oH n)) (.u 99 (uH e f A c d ss) (.c crule (.c call_ (.v 52 (.eq i) (.v 46 (.ppt q) .nil)))))) m
 ·exact pN 14 [] 5 17 (.c r (.c (fB k) (.c (l_ g) (.k 2 (ay o) (.k 1 (ay b1) (.k 10 (fB k) (.c h0 (.c (aw h0) .nil)))))))) (.v 101 (.eq (oH n)) (.u 99 (uH e f A c d ss) (.c crule (.c call_ (.v 52 (.eq i) (.v 46 (.ppt q) .nil)))))) m
theorem X3 {nt:Nat} (g:111≤nt) (e:List Nd) (c:Bool) (A:List (List Nat)) (d:List Sc) (f:Bool) (ss:List Nat) (h:Int) (name:List UInt8):ψ nt f14 (eM e c A d f h name (e.length,ss)) (.exit 0) (OU e c A d f ss):=by
 have h0:(decide ((e.length:Int)<(e.length:Int)))=false:=Yq1 (by omega);exact pN 14 [] 1 0 (.c (ay h0) .nil) (.nil) g
theorem Bl:∀ (r:List Nd) (k:Nat) (c:List Nat),(∀ j ∈ c,j<k)→(∃ e,fj r c.length= .inl e)→(uM r k c).length=r.length∧∀ i x,r[i]? =some x→((uM r k c).getD i []).length=cT x.op∧∀ j ∈ (uM r k c).getD i [],j<k+i
 | [],k,c,_,_=> ⟨rfl,fun i x h=>by simp at h⟩
 | x ::r,k,c,hst,⟨e,he⟩=>by
  simp only [fj] at he;split at he
  ·split at he
   ·cases he
   ·rename_i p q;have m:(c.take (c.length - cT x.op)++ [k]).length=c.length - cT x.op+1:=by rw [κ,Xq5,τ];omega
    have g:=Bl r (k+1) (c.take (c.length - cT x.op)++ [k]) (by
     intro j d;rcases List.mem_append.1 d with d|d
     ·have:=hst j (List.mem_of_mem_take d);omega
     ·rw [List.mem_singleton.1 d];omega) ⟨e,by rw [m];exact he⟩
    refine ⟨by simp only [uM,μ,g.1], ?_⟩;intro i y f;cases i with
    |zero=>
     simp only [List.getElem?_cons_zero,Option.some.injEq] at f;subst f;simp only [uM,List.getD_cons_zero];refine ⟨by rw [Xx8];omega,fun j d=> ?_⟩;have:=hst j (List.mem_of_mem_drop d);omega
    |succ i=>
     simp only [List.getElem?_cons_succ] at f;obtain ⟨o,n⟩:=g.2 i y f;simp only [uM,List.getD_cons_succ];exact ⟨o,fun j d=>by have:=n j d;omega⟩
  ·cases he
theorem CG:∀ (r:List Nd) (d:Nat) (w:Int),fj r d= .inr w→w ≠ 0
 | [],d,w,h=>by simp [fj] at h
 | x::r,d,w,h=>by
  simp only [fj] at h;split at h
  ·split at h
   ·cases h;decide
   ·exact CG r _ w h
  ·rename_i c;cases h;exact c
theorem jX {e:List Nd} (c:bT e=0):(bh e).length=e.length∧∀ i x,e[i]? =some x→((bh e).getD i []).length=cT x.op∧∀ j ∈ (bh e).getD i [],j<i:=by
 have h:∃ d,fj e ([]:List Nat).length= .inl d:=by
  unfold bT at c;split at c
  ·cases c
  ·split at c
   ·rename_i d hd;exact ⟨d,hd⟩
   ·rename_i w m;exact absurd c (CG _ _ _ m)
 obtain ⟨f,g⟩:=Bl e 0 [] (by simp) h;exact ⟨f,fun i x k=>by have:=g i x k;rw [Θ] at this;exact this⟩
theorem wkn {n c:Nat} (h:n=c+1) (d:n<2^40):ω (γ .i64 ((n:Int) - ((1:Nat):Int)))= ω (c:Int):=by rw [bU]<;>first|(congr 1;omega)|omega
theorem deq (n:Nat):decide ((n:Int)=(n:Int))=true:=Yq0 rfl
theorem dle {n:Nat} (h:n<2^40):decide ((n:Int)≤((1099511627776:Nat):Int))=true:=Yq0 (by omega)
theorem OO:CO 38 [] (.ret (.mp zcc3_0 [.fn 39 [] [],.fn 39 [] [],.fn 39 [] [],.fn 39 [] [],.fn 39 [] [],.fn 39 [] [],.fn 63 [] [],.fn 64 [] [],.fn 65 [] [],.fn 66 [] [],.fn 67 [] []])):=cK .nil
theorem xL (l:List Nd) (d:Bool) (c:∀ x ∈ l,x.sm) (e:bT l=0):CO 37 [.sl (aP l) l.length d] (.ret (.tup [.sl (aX (bh l)) (bh l).length true,.bool true])):=by
 rw [(jX e).1];exact P4 l d c e
theorem adg (e:List Nd) (c:Bool) (A:List (List Nat)) (d:List Sc) (f:Bool) (ss:List Nat) (h:Int) (name:List UInt8) (g:CO 37 [.sl (aP e) e.length c] (.ret (.tup [.nilS,.bool false]))):CO 14 [.sl (aP e) e.length c,.sl (dB d) d.length f,ω h,.str name] (.ret (ω ((3:Nat):Int))):=pK [] 3 7 (.n 3 .nil) (.c g .nil)
theorem X7 (e:List Nd) (d:Bool) (A:List (List Nat)) (f:List Sc) (i:Bool) (ss:List Nat) (c:Int) (name:List UInt8) (g:CO 37 [.sl (aP e) e.length d] (.ret (.tup [.sl (aX A) A.length true,.bool true]))) (j:c<5∨8<c):CO 14 [.sl (aP e) e.length d,.sl (dB f) f.length i,ω c,.str name] (.ret (ω ((3:Nat):Int))):=by
 rcases tf (decide (c<((5:Nat):Int))) with b0|b0
 ·exact pK [] 3 6 (.k 1 (aw b0) (.n 1 .nil)) (.c g .nil)
 ·have h:(decide (((8:Nat):Int)<c))=true:=Yq0 (by have:=of_decide_eq_false b0;omega);exact pK [] 3 4 (.c (aw h) (.c (ay b0) (.n 1 .nil))) (.c g .nil)
theorem adh (e:List Nd) (d:Bool) (A:List (List Nat)) (c:List Sc) (i:Bool) (ss:List Nat) (g:Int) (name:List UInt8) (h s:Nat) (o:List AV) (p:CO 37 [.sl (aP e) e.length d] (.ret (.tup [.sl (aX A) A.length true,.bool true]))) (m:(decide (g<((5:Nat):Int)))=false) (n:(decide (((8:Nat):Int)<g))=false) (j:e.length=h+1) (f:e.length<2^40) (k:h<ss.length) (hs:(ε ((0+(δ (h:Int)))*1) (ag ss))= [ω (s:Int)]++o)
  (m0:Nat) (Z:List AV) (hm0:m0=δ (e.length:Int)) (hZ:Z=dX (δ (e.length:Int)) [ω 0])
  (l0:aG prog ap [] 111 (.block 0 (.loop (ac 0 (af f14)))) ⟨[(0,.sl (aP e) e.length d),(1,.sl (dB c) c.length i),(2,ω g),(3,.str name),(8,ω 0),(9,.sl (aX A) A.length true),(10,.bool true),(11,.ptr 0 0 0),(12,.mp zcc3_0 [.fn 39 [] [],.fn 39 [] [],.fn 39 [] [],.fn 39 [] [],.fn 39 [] [],.fn 39 [] [],.fn 63 [] [],.fn 64 [] [],.fn 65 [] [],.fn 66 [] [],.fn 67 [] []]),(13,.dead),(14,.dead),(15,.dead),(16,.dead),(31,.bool (decide (((8:Nat):Int)<g))),(41,.sl (aP e) e.length d),(42,ω (e.length:Int)),(43,ω 0),(44,.dead),(61,.dead),(78,.dead),(89,.dead)],[(0,⟨[.sl (aP e) e.length d,.sl (aX A) A.length true,.sl (dB c) c.length i,.ref 1 0 0 m0],0,false,0,0,false⟩),(1,⟨Z,0,false,0,1,true⟩)],.dead,[]⟩ (.normal) ⟨[(0,.sl (aP e) e.length d),(11,.ptr 0 0 0)],[(0,⟨[.sl (aP e) e.length d,.sl (aX A) A.length true,.sl (dB c) c.length i,.ref 1 0 0 ss.length],0,false,0,0,false⟩),(1,⟨(ag ss),0,false,0,1,true⟩)],.dead,[]⟩):CO 14 [.sl (aP e) e.length d,.sl (dB c) c.length i,ω g,.str name] (.ret (ω (s:Int))):=by
 subst hm0 hZ;exact pK [0] 3 0 (.a (aD [.int .i64] hs rfl) (.c (fB h) (.c (l_ k) (.k 1 (fB e.length) (.c (deq e.length) (.c (dle f) (.c (ay n) (.c (ay m) (.n 1 .nil))))))))) (.v 110 (.rd1 (.int .i64) hs rfl) (.v 108 (.eq (wkn j f)) (.l l0 (.c OO (.c p .nil)))))
def rI (ck:Sc→Int) (up:Sc→Bool) (e:List Nd) (A:List (List Nat)) (sc:List Sc) (op:Int) (name:List UInt8):List Nd→Nat→List Nat→List Nat
 | [],_,ss=>ss
 |x::r,k,ss=>rI ck up e A sc op name r (k+1) (ss.set k (Aa ck up e A sc op name ss k x))
theorem Cf (ck:Sc→Int) (c:Sc→Bool) (e:List Nd) (A:List (List Nat)) (d:List Sc) (f:Int) (name:List UInt8):∀ (r:List Nd) (k:Nat) (ss:List Nat),(rI ck c e A d f name r k ss).length=ss.length
 | [],_,_=>rfl
 |x::r,k,ss=>by simp only [rI,Cf ck c e A d f name r,Xxc]
def i_ (ck:Sc→Int) (up:Sc→Bool) (e:List Nd) (sc:List Sc) (op:Int) (name:List UInt8):Nat:=
 if bT e=0∧5≤op∧op≤8 then (rI ck up e (bh e) sc op name e 0 (θ e.length 0)).getD (e.length - 1) 0 else 3
theorem Te {nt:Nat} (t:111≤nt) (e:List Nd) (p:Bool) (m:List Sc) (o:Bool) (ss:List Nat) (ck:Sc→Int) (K:Sc→Bool) (q:Int) (name:List UInt8) (k:Nat) (x:Nd) (O:∀ y ∈ e,y.sm) (V:bT e=0) (P:e[k]? =some x) (d:e.length<2^40) (z:ss.length=e.length) (M:m.length<2^40) (X:∀ x ∈ m,CO 102 [.agg (wM x)] (.ret (ω (ck x)))∧(ck x=0→CO 103 [.agg (wM x)] (.ret (.bool (K x))))):
  ψ nt f14 (eM e p (bh e) m o q name (k,ss)) .normal (eM e p (bh e) m o q name (k+1,ss.set k (Aa ck K e (bh e) m q name ss k x))):=by
 obtain ⟨B,N⟩:=jX V;obtain ⟨G,J⟩:=N k x P;obtain ⟨r,T⟩:=List.getElem?_eq_some_iff.1 P;have c:e.getD k iO=x:=by rw [ν,P];rfl
 generalize U:bh e=A at*
 have v:k<A.length:=by omega
 have w:∀ j ∈ A.getD k [],j<ss.length:=fun j F=>by have:=J j F;omega
 have D:∀ j ∈ A.getD k [],j<e.length:=fun j F=>by have:=J j F;omega
 have I:(A.getD k []).length<2^40:=by rw [G];unfold cT;split<;>(try split)<;>(try split)<;>omega
 have C:(ε ((δ (k:Int))*5) (aP e))=nJ x++aP (e.drop (k+1)):=by rw [zi r,c]
 have call_:=Ve e p A m o ss k v I w;have Q:∀ j,(e.getD j iO).num.length<2^36∧(e.getD j iO).den.length<2^36:=by
  intro j;by_cases F:j<e.length
  ·have Y:e.getD j iO ∈ e:=by rw [ν,ξ F];exact Xxe F
   have:=O _ Y;exact ⟨Xq6 this.1 (by decide),Xq6 this.2 (by decide)⟩
  ·rw [ν,List.getElem?_eq_none (by omega)];decide
 have E:(yP x.op= .tup [.nilF,.bool false])∨∃ f,yP x.op= .tup [.fn f [] [],.bool true]:=by
  by_cases h1:(x.op=9∨x.op=13∨x.op=14∨x.op=21∨x.op=22∨x.op=23)∨(x.op=10)∨(x.op=11)∨(x.op=12)∨(x.op=15)∨(x.op=24)
  ·rcases h1 with h|h|h|h|h|h
   ·exact .inr ⟨_,Nt h⟩
   ·exact .inr ⟨_,Ny h⟩
   ·exact .inr ⟨_,Nw h⟩
   ·exact .inr ⟨_,Nv h⟩
   ·exact .inr ⟨_,Nu h⟩
   ·exact .inr ⟨_,IL h⟩
  ·exact .inl (Nx h1)
 unfold Aa;by_cases hit:(x.op==q && x.name==name)=true
 ·rw [hit];rw [π] at hit;rcases E with h|⟨f,h⟩
  ·exact ada t e p A m o ss q name k x _ c C r d B z h hit.1 hit.2
  ·exact ac_ t e p A m o ss q name k x _ c C r d B z f h hit.1 hit.2
 ·rw [Bool.not_eq_true] at hit;rw [hit];have g:(x.op==q)=false∨(x.name==name)=false:=Bool.and_eq_false_iff.1 hit;rcases tf ((((fP A ss k):Nat):Int)==((0:Nat):Int)) with b3|b3
  ·rw [b3];rcases tf (x.op==q) with b1|b1
   ·have S:(x.name==name)=false:=by rcases g with h|h;rw [h] at b1;cases b1;exact h
    rcases E with h|⟨f,h⟩
    ·exact adc t e p A m o ss q name k x _ c C r d B z h b1 S b3 call_
    ·exact adb t e p A m o ss q name k x _ c C r d B z f h b1 S b3 call_
   ·rcases E with h|⟨f,h⟩
    ·exact adf t e p A m o ss q name k x _ c C r d B z h b1 b3 call_
    ·exact ade t e p A m o ss q name k x _ c C r d B z f h b1 b3 call_
  ·rw [b3];dsimp only [cond];unfold Jk;have H:∀ n,cT x.op=n→∀ i,i<n→i<(A.getD k []).length:=fun n t i W=>by rw [G,t];exact W
   by_cases g1:x.op=9∨x.op=13∨x.op=14∨x.op=21∨x.op=22∨x.op=23
   ·rw [if_pos g1];exact XZ t e p A m o ss q name k x _ c C r d B z (Nt g1) g b3 call_
   rw [if_neg g1];by_cases g2:x.op=10
   ·rw [if_pos g2];have u:=H 2 (by rw [g2];rfl);exact X6 t e p A m o ss q name k x _ c C r d B z (Ny g2) g b3 call_ (Yj e p A m o ss k v w D (u 0 (by omega)) (u 1 (by omega)))
   rw [if_neg g2];by_cases g3:x.op=11
   ·rw [if_pos g3];have u:=H 2 (by rw [g3];rfl);exact X4 t e p A m o ss q name k x _ c C r d B z (Nw g3) g b3 call_ (Xa e p A m o ss k v w D (u 0 (by omega)) (u 1 (by omega)))
   rw [if_neg g3];by_cases g4:x.op=12
   ·rw [if_pos g4];have u:=H 2 (by rw [g4];rfl);exact X2 t e p A m o ss q name k x _ c C r d B z (Nv g4) g b3 call_ (VN e p A m o ss k v w D (u 0 (by omega)) (u 1 (by omega)) (Q _))
   rw [if_neg g4];by_cases g5:x.op=15
   ·rw [if_pos g5];have u:=H 3 (by rw [g5];rfl);exact X0 t e p A m o ss q name k x _ c C r d B z (Nu g5) g b3 call_ (VF e p A m o ss k v w D (u 0 (by omega)) (u 1 (by omega)) (u 2 (by omega)))
   rw [if_neg g5];by_cases g6:x.op=24
   ·rw [if_pos g6];have u:=H 1 (by rw [g6];rfl);have R:=SK e p A m o ss ck K k v r M w (u 0 (by omega)) X;rw [c] at R;exact Td t e p A m o ss q name k x _ c C r d B z ck K (IL g6) g b3 call_ R
   rw [if_neg g6];exact X5 t e p A m o ss q name k x _ c C r d B z (Nx (by rintro (h|h|h|h|h|h);exact g1 h;exact g2 h;exact g3 h;exact g4 h;exact g5 h;exact g6 h)) g b3 call_
theorem Tc {nt:Nat} (o:111≤nt) (e:List Nd) (i:Bool) (c:List Sc) (g:Bool) (ck:Sc→Int) (f:Sc→Bool) (d:Int) (name:List UInt8) (n:∀ y ∈ e,y.sm) (t:bT e=0) (m:e.length<2^40) (j:c.length<2^40) (q:∀ x ∈ c,CO 102 [.agg (wM x)] (.ret (ω (ck x)))∧(ck x=0→CO 103 [.agg (wM x)] (.ret (.bool (f x))))):∀ (r p:List Nd) (ss:List Nat),p++r=e→ss.length=e.length→
  az prog ap [] nt (ac 0 (af f14)) (fun _=> .exit 0) (eM e i (bh e) c g d name) (OU e i (bh e) c g) (p.length,ss) (rI ck f e (bh e) c d name r p.length ss):=by
 intro r
 induction r with
 |nil=>
  intro p ss hp k;rw [Xqa] at hp;rw [hp];exact .done (X3 o e i (bh e) c g ss d name)
 |cons x r ih=>
  intro p ss hp k;have u:e[p.length]? =some x:=by rw [← hp];simp
  have h:=ih (p++ [x]) (ss.set p.length (Aa ck f e (bh e) c d name ss p.length x)) (by rw [← hp];simp) (by rw [Xxc];exact k);rw [κ,τ] at h;exact .next (Te o e i c g ss ck f d name p.length x n t u m k j q) h
theorem OV (e:List Nd) (f:Bool) (c:List Sc) (g:Bool) (ck:Sc→Int) (j:Sc→Bool) (d:Int) (name:List UInt8) (i:∀ y ∈ e,y.sm) (m:e.length<2^40) (o:c.length<2^40) (t:∀ x ∈ c,CO 102 [.agg (wM x)] (.ret (ω (ck x)))∧(ck x=0→CO 103 [.agg (wM x)] (.ret (.bool (j x))))) (q:bT e ≠ 0→CO 37 [.sl (aP e) e.length f] (.ret (.tup [.nilS,.bool false]))):
  CO 14 [.sl (aP e) e.length f,.sl (dB c) c.length g,ω d,.str name] (.ret (ω ((i_ ck j e c d name:Nat):Int))):=by
 unfold i_;by_cases hq:bT e=0
 ·by_cases ho:5≤d∧d≤8
  ·rw [if_pos ⟨hq,ho⟩];have h0:e ≠ []:=by intro h;rw [h] at hq;exact absurd hq (by decide)
   obtain ⟨k,p⟩:∃ k,e.length=k+1:=⟨e.length - 1,by have:=List.length_pos_iff.2 h0;omega⟩
   have r:(rI ck j e (bh e) c d name e 0 (θ e.length 0)).length=e.length:=by rw [Cf,Xxi]
   have h:∀ nt,111≤nt→az prog ap [] nt (ac 0 (af f14)) (fun _=> .exit 0) (eM e f (bh e) c g d name) (OU e f (bh e) c g) (0,θ e.length 0) (rI ck j e (bh e) c d name e 0 (θ e.length 0)):=fun nt v=>Tc v e f c g ck j d name i hq m o t e [] _ rfl (Xxi ..)
   generalize rI ck j e (bh e) c d name e 0 (θ e.length 0)=ss at*
   rw [show e.length - 1=k by omega];have n:k<ss.length:=by omega
   refine adh e f (bh e) c g ss d name k (ss.getD k 0) _ (xL e f i hq) (Yq1 (by omega)) (Yq1 (by omega)) p m n (by rw [Θ];exact qw n) (θ e.length 0).length (ag (θ e.length 0)) (by rw [Xxi,av]) (by rw [av,xm]) ?_;have u:(decide (((8:Nat):Int)<d))=false:=Yq1 (by omega);rw [u];exact az.blk h (by simp) rfl (aJ.of ⟨rfl,rfl,rfl,rfl,rfl,rfl,rfl,rfl,trivial⟩) (aJ.of ⟨rfl,rfl,trivial⟩)
  ·rw [if_neg (fun h=>ho h.2)];exact X7 e f (bh e) c g [] d name (xL e f i hq) (by omega)
 ·rw [if_neg (fun h=>hq h.1)];exact adg e f [] c g [] d name (q hq)
structure Br where
 fn:Bool
 fa:List UInt8
 fd:List UInt8
 rn:Bool
 ra:List UInt8
 rd:List UInt8
def DT (x:Br):List AV:= [.bool x.fn,.str x.fa,.str x.fd,.bool x.rn,.str x.ra,.str x.rd]
def gK (l:List Br):List AV:=l.flatMap DT
def Br.sm (x:Br):Prop:=(x.fa.length<2^33∧x.fd.length<2^33)∧(x.ra.length<2^33∧x.rd.length<2^33)
abbrev Uk (x:Br):AV:= .agg [.bool x.fn,.str x.fa,.str x.fd]
abbrev brR (x:Br):AV:= .agg [.bool x.rn,.str x.ra,.str x.rd]
theorem tv {l:List Br} {k:Nat} (h:k<l.length):ε (δ (k:Int)*6) (gK l)=DT l[k]++gK (l.drop (k+1)):=by
 rw [av]
 induction l generalizing k with
 |nil=>simp at h
 | cons x r ih=>
  cases k with
  |zero=>simp [gK]
  |succ k=>
   have c:k<r.length:=by simpa using h
   show ε ((k+1)*6) (DT x++gK r)=_;rw [show (k+1)*6=(DT x).length+k*6 by simp [DT];omega,Xvd,Xj2,ih c,Xxy (by omega)];rfl
def CB (cmp:Br→Br→Int):Option Br→List Br→Bool
 |_,[]=>true
 |none,x::r=>cond (fu x.fn x.fa x.fd) (cond (fu x.rn x.ra x.rd) (cond (jK x.fn x.fa x.fd==((0:Nat):Int)) (CB cmp (some x) r) false) false) false
 |some y,x::r=>cond (fu x.fn x.fa x.fd) (cond (fu x.rn x.ra x.rd) (cond (decide (((0:Nat):Int)≤cmp y x)) false (CB cmp (some x) r)) false) false
def Zj (nm:List UInt8) (u1 u2:Int) (l:List Br) (k:Nat):St:=⟨[(1,.ptr 0 0 0),(3,.sl (gK l) l.length false),(16,.sl (gK l) l.length false),(17,ω (l.length:Int)),(18,ω (k:Int))],[(0,⟨[.str nm,ω u1,ω u2,.sl (gK l) l.length false],0,false,0,0,true⟩)],.dead,[]⟩
def Uj (l:List Br):Bool→St
 |true=> ⟨[(3,.sl (gK l) l.length false)],[],.dead,[]⟩
 |false=> ⟨[(2,.int .i64 11)],[],.dead,[]⟩
def bkE:Bool→br
 |true=> .exit 1
 |false=> .ret
def sP (f:Nat) (cmp:Br→Br→Int) (l:List Br):Prop:=∀ i y x,l[i]? =some y→l[i+1]? =some x→fu x.fn x.fa x.fd=true→fu x.rn x.ra x.rd=true→CO f [Uk y,Uk x] (.ret (ω (cmp y x)))
theorem Qg {nt:Nat} (i:60≤nt) (J:List UInt8) (u1 u2:Int) (l:List Br) (cmp:Br→Br→Int) (H:l.length<2^40) (A:∀ x ∈ l,x.sm) (K:sP 129 cmp l):∀ (r p:List Br),p++r=l→
  az prog ap [] nt (ac 1 (af f102)) bkE (Zj J u1 u2 l) (Uj l) p.length (CB cmp p.getLast? r):=by
 intro r
 induction r with
 |nil=>
  intro p hp;rw [Xqa] at hp;subst hp;have h0:(decide ((p.length:Int)<(p.length:Int)))=false:=Yq1 (by omega);rw [show CB cmp p.getLast? []=true by cases p.getLast? <;>rfl];exact .done (pN 102 [] 1 0 (.c (ay h0) .nil) (.nil) i)
 | cons x r ih=>
  intro p hp;have E:p.length<l.length:=by rw [← hp];simp
  have u:l[p.length]=x:=by subst hp;simp
  have f:=tv E;rw [u] at f;have g:=ih (p++ [x]) (by rw [← hp];simp);rw [List.getLast?_append,List.getLast?_singleton,κ,τ] at g;simp only [Option.some_or] at g;have hs:=A x (by rw [← hp];simp);have c:CO 115 [Uk x] (.ret (.bool (fu x.fn x.fa x.fd))):=jp x.fn x.fa x.fd (Xq6 hs.1.1 (by decide)) (Xq6 hs.1.2 (by decide));have e:CO 115 [brR x] (.ret (.bool (fu x.rn x.ra x.rd))):=jp x.rn x.ra x.rd (Xq6 hs.2.1 (by decide)) (Xq6 hs.2.2 (by decide));have G:CO 85 [Uk x] (.ret (ω (jK x.fn x.fa x.fd))):=gD x.fn x.fa x.fd (Xq6 hs.1.1 (by decide)) (Xq6 hs.1.2 (by decide));cases m:p.getLast? with
  | none=>
   have D:p= []:=List.getLast?_eq_none_iff.1 m;subst D;generalize I:([]:List Br).length=k at*
   have C:k=0:=by rw [← I];rfl
   generalize gK (l.drop (k+1))=rB at f;have h0:(decide ((k:Int)<(l.length:Int)))=true:=Yq0 (by omega);have t:((k:Int)==((0:Nat):Int))=true:=by rw [C];rfl
   have w:(decide (((0:Nat):Int)<(k:Int)))=false:=Yq1 (by omega);have B:k<2^62:=by omega
   rcases tf (fu x.fn x.fa x.fd) with d0|d0
   ·rcases tf (fu x.rn x.ra x.rd) with d1|d1
    ·rcases tf ((jK x.fn x.fa x.fd)==((0:Nat):Int)) with d2|d2
     ·simp only [CB,d0,d1,d2,cond_true,cond_false];exact .next (pN 102 [] 7 9 (.k 1 (ay w) (.c (aA d2) (.k 3 (aw t) (.c (aA d1) (.k 3 (aA d0) (.k 10 (fB k) (.c h0 (.c (aw h0) .nil)))))))) (.v 57 (.eq (oH B)) (.c G (.c e (.c c (.v 21 (.ppt f) .nil))))) i) g
     ·simp only [CB,d0,d1,d2,cond_true,cond_false];exact .done (pN 102 [] 6 57 (.k 1 (bi d2) (.k 3 (aw t) (.c (aA d1) (.k 3 (aA d0) (.k 10 (fB k) (.c h0 (.c (aw h0) .nil))))))) (.c G (.c e (.c c (.v 21 (.ppt f) .nil)))) i)
    ·simp only [CB,d0,d1,cond_true,cond_false];exact .done (pN 102 [] 3 5 (.c (bi d1) (.k 3 (aA d0) (.k 10 (fB k) (.c h0 (.c (aw h0) .nil))))) (.c e (.c c (.v 21 (.ppt f) .nil))) i)
   ·simp only [CB,d0,cond_true,cond_false];exact .done (pN 102 [] 3 7 (.k 1 (bi d0) (.k 10 (fB k) (.c h0 (.c (aw h0) .nil)))) (.c c (.v 21 (.ppt f) .nil)) i)
  | some y=>
   obtain ⟨q,z⟩:∃ q,p=q++ [y]:=by
    obtain ⟨q,h⟩:=List.getLast?_eq_some_iff.1 m;exact ⟨q,h⟩
   have j:p.length=q.length+1:=by rw [z];simp
   have d:q.length<l.length:=by omega
   have v:=tv d;have n:l[q.length]=y:=by subst hp z;simp
   rw [n] at v;have F:=K q.length y x (by rw [ξ d,n]) (by rw [← j,ξ E,u]);clear z;generalize p.length=k at*
   generalize q.length=k1 at*
   generalize gK (l.drop (k+1))=rB at f;generalize gK (l.drop (k1+1))=rC at v;have h0:(decide ((k:Int)<(l.length:Int)))=true:=Yq0 (by omega);have t:((k:Int)==((0:Nat):Int))=false:=beq_eq_false_iff_ne.2 (by omega);have w:(decide (((0:Nat):Int)<(k:Int)))=true:=Yq0 (by omega);have B:k<2^62:=by omega
   have o:k<2^40:=by omega
   rcases tf (fu x.fn x.fa x.fd) with d0|d0
   ·rcases tf (fu x.rn x.ra x.rd) with d1|d1
    ·rcases tf (decide (((0:Nat):Int)≤(cmp y x))) with d2|d2
     ·simp only [CB,d0,d1,d2,cond_true,cond_false];exact .done (pN 102 [] 7 97 (.c (aw d2) (.k 6 (fB k1) (.c (l_ d) (.c (aw w) (.k 1 (ay t) (.c (aA d1) (.k 3 (aA d0) (.k 10 (fB k) (.c h0 (.c (aw h0) .nil)))))))))) (.c (F d0 d1) (.v 48 (.ppt v) (.v 47 (.eq (wkn j o)) (.c e (.c c (.v 21 (.ppt f) .nil)))))) i)
     ·simp only [CB,d0,d1,d2,cond_true,cond_false];exact .next (pN 102 [] 7 33 (.c (ay d2) (.k 6 (fB k1) (.c (l_ d) (.c (aw w) (.k 1 (ay t) (.c (aA d1) (.k 3 (aA d0) (.k 10 (fB k) (.c h0 (.c (aw h0) .nil)))))))))) (.v 57 (.eq (oH B)) (.c (F d0 d1) (.v 48 (.ppt v) (.v 47 (.eq (wkn j o)) (.c e (.c c (.v 21 (.ppt f) .nil))))))) i) g
    ·simp only [CB,d0,d1,cond_true,cond_false];exact .done (pN 102 [] 3 5 (.c (bi d1) (.k 3 (aA d0) (.k 10 (fB k) (.c h0 (.c (aw h0) .nil))))) (.c e (.c c (.v 21 (.ppt f) .nil))) i)
   ·simp only [CB,d0,cond_true,cond_false];exact .done (pN 102 [] 3 7 (.k 1 (bi d0) (.k 10 (fB k) (.c h0 (.c (aw h0) .nil)))) (.c c (.v 21 (.ppt f) .nil)) i)
def r_ (P:Br→Bool):List Br→Nat→Option Nat
 | [],_=>none
 |x::r,i=>if P x then some i else r_ P r (i+1)
theorem yA (P:Br→Bool):∀ (r:List Br) (i:Nat),(r_ P r i).isSome=r.any P
 | [],_=>rfl
 |x::r,i=>by
  unfold r_;rw [Xwu];rcases tf (P x) with h|h
  ·rw [if_pos h,h];rfl
  ·rw [if_neg (by rw [h];decide),h,Xzk];exact yA P r (i+1)
def Ux (l:List Br) (k:Nat):St:=⟨[(0,.sl (gK l) l.length false),(1,.fn 131 [] []),(7,ω (l.length:Int)),(8,ω (k:Int))],[],.dead,[]⟩
def M8 (l:List Br):Option Nat→St
 |none=> ⟨[(0,.sl (gK l) l.length false)],[],.dead,[]⟩
 |some i=> ⟨[(4,.int .i64 (i:Int))],[],.dead,[]⟩
theorem M_ {nt:Nat} (f:19≤nt) (l:List Br) (P:Br→Bool) (h:l.length<2^40) (i:∀ x ∈ l,CO 131 [.agg (DT x)] (.ret (.bool (P x)))):∀ (r p:List Br),p++r=l→
  az prog ap [] nt (ac 0 (af f159)) LJ (Ux l) (M8 l) p.length (r_ P r p.length):=by
 intro r
 induction r with
 |nil=>
  intro p hp;rw [Xqa] at hp;subst hp;have h0:(decide ((p.length:Int)<(p.length:Int)))=false:=Yq1 (by omega);exact .done (pN 159 [] 1 0 (.c (ay h0) .nil) (.nil) f)
 | cons x r ih=>
  intro p hp;have j:p.length<l.length:=by rw [← hp];simp
  have e:l[p.length]=x:=by subst hp;simp
  have d:=tv j;rw [e] at d;have c:=ih (p++ [x]) (by rw [← hp];simp);rw [κ,τ] at c;have g:=i x (by rw [← hp];simp);unfold r_;generalize p.length=k at*
  generalize gK (l.drop (k+1))=rB at d;have h0:(decide ((k:Int)<(l.length:Int)))=true:=Yq0 (by omega);have m:k<2^62:=by omega
  rcases tf (P x) with d0|d0
  ·rw [if_pos d0];exact .done (pN 159 [] 2 3 (.c (aw d0) (.k 6 (fB k) (.c h0 (.c (aw h0) .nil)))) (.c g (.v 14 (.ppt d) .nil)) f)
  ·rw [if_neg (by rw [d0];decide)];exact .next (pN 159 [] 2 1 (.c (ay d0) (.k 6 (fB k) (.c h0 (.c (aw h0) .nil)))) (.v 18 (.eq (oH m)) (.c g (.v 14 (.ppt d) .nil))) f) c
theorem WJ (l:List Br) (i:Nat) (c:aG prog ap [] 19 (.block 0 (.loop (ac 0 (af f159)))) ⟨[(0,.sl (gK l) l.length false),(1,.fn 131 [] []),(4,ω 0),(5,.dead),(7,ω (l.length:Int)),(8,ω 0),(9,.dead),(16,.dead)],[],.dead,[]⟩ (.ret) ⟨[(4,ω (i:Int))],[],.dead,[]⟩):CO 159 [.sl (gK l) l.length false,.fn 131 [] []] (.ret (ω (i:Int))):=pK [0] 0 0 .nil (.l c .nil)
theorem WH (l:List Br) (c:aG prog ap [] 19 (.block 0 (.loop (ac 0 (af f159)))) ⟨[(0,.sl (gK l) l.length false),(1,.fn 131 [] []),(4,ω 0),(5,.dead),(7,ω (l.length:Int)),(8,ω 0),(9,.dead),(16,.dead)],[],.dead,[]⟩ (.normal) ⟨[(0,.sl (gK l) l.length false)],[],.dead,[]⟩):CO 159 [.sl (gK l) l.length false,.fn 131 [] []] (.ret (ω (-1))):=pK [0] 0 0 .nil (.l c .nil)
theorem WF (l:List Br) (P:Br→Bool) (c:l.length<2^40) (f:∀ x ∈ l,CO 131 [.agg (DT x)] (.ret (.bool (P x)))):CO 159 [.sl (gK l) l.length false,.fn 131 [] []] (.ret (ω (ixI (r_ P l 0)))):=by
 have h:∀ nt,19≤nt→az prog ap [] nt (ac 0 (af f159)) LJ (Ux l) (M8 l) 0 (r_ P l 0):=fun nt e=>M_ e l P c f l [] rfl
 cases d:r_ P l 0 with
 |none=>
  rw [d] at h;exact WH l (az.blk h (by simp [LJ]) rfl (aJ.of ⟨rfl,rfl,rfl,rfl,trivial⟩) (aJ.of ⟨rfl,trivial⟩))
 |some i=>
  rw [d] at h;exact WJ l i (az.blk h (by simp [LJ]) rfl (aJ.of ⟨rfl,rfl,rfl,rfl,trivial⟩) (aJ.of ⟨rfl,trivial⟩))
theorem Qo (l:List Br) (c:Int) (d:CO 159 [.sl (gK l) l.length false,.fn 131 [] []] (.ret (ω c))):CO 130 [.sl (gK l) l.length false,.fn 131 [] []] (.ret (.bool (decide (((0:Nat):Int)≤c)))):=pK [] 0 0 .nil (.c d .nil)
theorem Mi (l:List Br) (P:Br→Bool) (c:l.length<2^40) (e:∀ x ∈ l,CO 131 [.agg (DT x)] (.ret (.bool (P x)))):CO 130 [.sl (gK l) l.length false,.fn 131 [] []] (.ret (.bool (l.any P))):=by
 have h:=Qo l _ (WF l P c e);rw [← yA P l 0];cases d:r_ P l 0 with
 |none=>rw [d] at h;exact h
 |some i=>
  rw [d] at h;rw [show (some i).isSome=decide (((0:Nat):Int)≤ixI (some i)) from (Yq0 (show ((0:Nat):Int)≤(i:Int) by omega)).symm];exact h
def Uy (l:List Br) (k:Nat):St:=⟨[(0,.sl (gK l) l.length false),(1,.fn 160 [] []),(7,ω (l.length:Int)),(8,ω (k:Int))],[],.dead,[]⟩
def M9 (l:List Br):Option Nat→St
 |none=> ⟨[(0,.sl (gK l) l.length false)],[],.dead,[]⟩
 |some i=> ⟨[(4,.int .i64 (i:Int))],[],.dead,[]⟩
theorem Na {nt:Nat} (f:19≤nt) (l:List Br) (P:Br→Bool) (h:l.length<2^40) (i:∀ x ∈ l,CO 160 [.agg (DT x)] (.ret (.bool (P x)))):∀ (r p:List Br),p++r=l→
  az prog ap [] nt (ac 0 (af f159)) LJ (Uy l) (M9 l) p.length (r_ P r p.length):=by
 intro r
 induction r with
 |nil=>
  intro p hp;rw [Xqa] at hp;subst hp;have h0:(decide ((p.length:Int)<(p.length:Int)))=false:=Yq1 (by omega);exact .done (pN 159 [] 1 0 (.c (ay h0) .nil) (.nil) f)
 | cons x r ih=>
  intro p hp;have j:p.length<l.length:=by rw [← hp];simp
  have e:l[p.length]=x:=by subst hp;simp
  have d:=tv j;rw [e] at d;have c:=ih (p++ [x]) (by rw [← hp];simp);rw [κ,τ] at c;have g:=i x (by rw [← hp];simp);unfold r_;generalize p.length=k at*
  generalize gK (l.drop (k+1))=rB at d;have h0:(decide ((k:Int)<(l.length:Int)))=true:=Yq0 (by omega);have m:k<2^62:=by omega
  rcases tf (P x) with d0|d0
  ·rw [if_pos d0];exact .done (pN 159 [] 2 3 (.c (aw d0) (.k 6 (fB k) (.c h0 (.c (aw h0) .nil)))) (.c g (.v 14 (.ppt d) .nil)) f)
  ·rw [if_neg (by rw [d0];decide)];exact .next (pN 159 [] 2 1 (.c (ay d0) (.k 6 (fB k) (.c h0 (.c (aw h0) .nil)))) (.v 18 (.eq (oH m)) (.c g (.v 14 (.ppt d) .nil))) f) c
theorem WK (l:List Br) (i:Nat) (c:aG prog ap [] 19 (.block 0 (.loop (ac 0 (af f159)))) ⟨[(0,.sl (gK l) l.length false),(1,.fn 160 [] []),(4,ω 0),(5,.dead),(7,ω (l.length:Int)),(8,ω 0),(9,.dead),(16,.dead)],[],.dead,[]⟩ (.ret) ⟨[(4,ω (i:Int))],[],.dead,[]⟩):CO 159 [.sl (gK l) l.length false,.fn 160 [] []] (.ret (ω (i:Int))):=pK [0] 0 0 .nil (.l c .nil)
theorem WI (l:List Br) (c:aG prog ap [] 19 (.block 0 (.loop (ac 0 (af f159)))) ⟨[(0,.sl (gK l) l.length false),(1,.fn 160 [] []),(4,ω 0),(5,.dead),(7,ω (l.length:Int)),(8,ω 0),(9,.dead),(16,.dead)],[],.dead,[]⟩ (.normal) ⟨[(0,.sl (gK l) l.length false)],[],.dead,[]⟩):CO 159 [.sl (gK l) l.length false,.fn 160 [] []] (.ret (ω (-1))):=pK [0] 0 0 .nil (.l c .nil)
theorem WG (l:List Br) (P:Br→Bool) (c:l.length<2^40) (f:∀ x ∈ l,CO 160 [.agg (DT x)] (.ret (.bool (P x)))):CO 159 [.sl (gK l) l.length false,.fn 160 [] []] (.ret (ω (ixI (r_ P l 0)))):=by
 have h:∀ nt,19≤nt→az prog ap [] nt (ac 0 (af f159)) LJ (Uy l) (M9 l) 0 (r_ P l 0):=fun nt e=>Na e l P c f l [] rfl
 cases d:r_ P l 0 with
 |none=>
  rw [d] at h;exact WI l (az.blk h (by simp [LJ]) rfl (aJ.of ⟨rfl,rfl,rfl,rfl,trivial⟩) (aJ.of ⟨rfl,trivial⟩))
 |some i=>
  rw [d] at h;exact WK l i (az.blk h (by simp [LJ]) rfl (aJ.of ⟨rfl,rfl,rfl,rfl,trivial⟩) (aJ.of ⟨rfl,trivial⟩))
theorem Qp (l:List Br) (c:Int) (d:CO 159 [.sl (gK l) l.length false,.fn 160 [] []] (.ret (ω c))):CO 130 [.sl (gK l) l.length false,.fn 160 [] []] (.ret (.bool (decide (((0:Nat):Int)≤c)))):=pK [] 0 0 .nil (.c d .nil)
theorem Mj (l:List Br) (P:Br→Bool) (c:l.length<2^40) (e:∀ x ∈ l,CO 160 [.agg (DT x)] (.ret (.bool (P x)))):CO 130 [.sl (gK l) l.length false,.fn 160 [] []] (.ret (.bool (l.any P))):=by
 have h:=Qp l _ (WG l P c e);rw [← yA P l 0];cases d:r_ P l 0 with
 |none=>rw [d] at h;exact h
 |some i=>
  rw [d] at h;rw [show (some i).isSome=decide (((0:Nat):Int)≤ixI (some i)) from (Yq0 (show ((0:Nat):Int)≤(i:Int) by omega)).symm];exact h
def AR (x:Br):Bool:= !(dK x.fn x.fa x.fd)|| !(dK x.rn x.ra x.rd)
def rm (x:Br):Bool:=decide (jK x.rn x.ra x.rd<((0:Nat):Int))
theorem Vx (x:Br) (hs:x.sm):CO 131 [.agg (DT x)] (.ret (.bool (AR x))):=by
 rcases tf (dK x.fn x.fa x.fd) with b0|b0
 ·rw [show AR x= !(dK x.rn x.ra x.rd) by unfold AR;rw [b0];rfl];exact pK [] 1 0 (.k 3 (aA b0) (.n 3 .nil)) (.c (ef x.rn x.ra x.rd (Xq6 hs.2.1 (by decide)) (Xq6 hs.2.2 (by decide))) (.c (ef x.fn x.fa x.fd (Xq6 hs.1.1 (by decide)) (Xq6 hs.1.2 (by decide))) .nil))
 ·rw [show AR x=true by unfold AR;rw [b0];rfl];exact pK [] 1 1 (.c (bi b0) (.n 3 .nil)) (.c (ef x.fn x.fa x.fd (Xq6 hs.1.1 (by decide)) (Xq6 hs.1.2 (by decide))) .nil)
theorem Q5 (x:Br) (hs:x.sm):CO 160 [.agg (DT x)] (.ret (.bool (rm x))):=pK [] 0 0 (.n 3 .nil) (.c (gD x.rn x.ra x.rd (Xq6 hs.2.1 (by decide)) (Xq6 hs.2.2 (by decide))) .nil)
def JW (cmp:Br→Br→Int) (l:List Br):Int:=cond (decide (((8:Nat):Int)<(l.length:Int))) 2 (cond ((l.length:Int)==((0:Nat):Int)) 11 (cond (CB cmp none l) (cond (l.any AR) 3 0) 11))
theorem ae3 (d:List UInt8) (u1 u2:Int) (l:List Br) (c:Bool) (f:(decide (((8:Nat):Int)<(l.length:Int)))=false) (e:((l.length:Int)==((0:Nat):Int))=false) (g:CO 130 [.sl (gK l) l.length false,.fn 131 [] []] (.ret (.bool c)))
  (l0:aG prog ap [] 60 (.block 1 (.loop (ac 1 (af f102)))) ⟨[(0,.agg [.str d,ω u1,ω u2,.sl (gK l) l.length false]),(1,.ptr 0 0 0),(2,ω 0),(3,.sl (gK l) l.length false),(4,.dead),(5,.dead),(8,.bool (decide (((8:Nat):Int)<(l.length:Int)))),(12,.bool ((l.length:Int)==((0:Nat):Int))),(16,.sl (gK l) l.length false),(17,ω (l.length:Int)),(18,ω 0),(19,.dead),(32,.dead),(56,.dead),(59,.dead)],[(0,⟨[.str d,ω u1,ω u2,.sl (gK l) l.length false],0,false,0,0,true⟩)],.dead,[]⟩ (.normal) ⟨[(3,.sl (gK l) l.length false)],[],.dead,[]⟩):CO 102 [.agg [.str d,ω u1,ω u2,.sl (gK l) l.length false]] (.ret (ω (cond c 3 0))):=by
 rcases tf c with b2|b2
 ·rw [show (cond c 3 0:Int)=3 by rw [b2];rfl];exact pK [1] 3 4 (.c (aw b2) (.c (ay e) (.c (ay f) (.n 1 .nil)))) (.c g (.l l0 .nil))
 ·rw [show (cond c 3 0:Int)=0 by rw [b2];rfl];exact pK [1] 3 0 (.c (ay b2) (.c (ay e) (.c (ay f) (.n 1 .nil)))) (.c g (.l l0 .nil))
theorem ae2 (c:List UInt8) (u1 u2:Int) (l:List Br) (e:(decide (((8:Nat):Int)<(l.length:Int)))=false) (d:((l.length:Int)==((0:Nat):Int))=false)
  (l0:aG prog ap [] 60 (.block 1 (.loop (ac 1 (af f102)))) ⟨[(0,.agg [.str c,ω u1,ω u2,.sl (gK l) l.length false]),(1,.ptr 0 0 0),(2,ω 0),(3,.sl (gK l) l.length false),(4,.dead),(5,.dead),(8,.bool (decide (((8:Nat):Int)<(l.length:Int)))),(12,.bool ((l.length:Int)==((0:Nat):Int))),(16,.sl (gK l) l.length false),(17,ω (l.length:Int)),(18,ω 0),(19,.dead),(32,.dead),(56,.dead),(59,.dead)],[(0,⟨[.str c,ω u1,ω u2,.sl (gK l) l.length false],0,false,0,0,true⟩)],.dead,[]⟩ (.ret) ⟨[(2,ω 11)],[],.dead,[]⟩):CO 102 [.agg [.str c,ω u1,ω u2,.sl (gK l) l.length false]] (.ret (ω 11)):=pK [1] 2 0 (.c (ay d) (.c (ay e) (.n 1 .nil))) (.l l0 .nil)
theorem sI (e:List UInt8) (u1 u2:Int) (l:List Br) (cmp:Br→Br→Int) (c:l.length<2^40) (d:∀ x ∈ l,x.sm) (g:sP 129 cmp l):CO 102 [.agg [.str e,ω u1,ω u2,.sl (gK l) l.length false]] (.ret (ω (JW cmp l))):=by
 unfold JW;rcases tf (decide (((8:Nat):Int)<(l.length:Int))) with d0|d0
 ·rw [d0];exact pK [] 1 1 (.c (aw d0) (.n 1 .nil)) (.nil)
 ·rw [d0];rcases tf ((l.length:Int)==((0:Nat):Int)) with d1|d1
  ·rw [d1];exact pK [] 2 2 (.c (aw d1) (.c (ay d0) (.n 1 .nil))) (.nil)
  ·rw [d1];have h:∀ nt,60≤nt→az prog ap [] nt (ac 1 (af f102)) bkE (Zj e u1 u2 l) (Uj l) 0 (CB cmp none l):=fun nt i=>Qg i e u1 u2 l cmp c d g l [] rfl
   cases f:CB cmp none l with
   |true=>
    rw [f] at h;exact ae3 e u1 u2 l _ d0 d1 (Mi l AR c fun x j=>Vx x (d x j)) (az.blk h (by simp [bkE]) rfl (aJ.of ⟨rfl,rfl,rfl,rfl,rfl,trivial⟩) (aJ.of ⟨rfl,trivial⟩))
   |false=>
    rw [f] at h;exact ae2 e u1 u2 l d0 d1 (az.blk h (by simp [bkE]) rfl (aJ.of ⟨rfl,rfl,rfl,rfl,rfl,trivial⟩) (aJ.of ⟨rfl,trivial⟩))
theorem Q6 (e:List UInt8) (u1 u2:Int) (l:List Br) (c:Bool) (d:CO 130 [.sl (gK l) l.length false,.fn 160 [] []] (.ret (.bool c))):CO 132 [.agg [.str e,ω u1,ω u2,.sl (gK l) l.length false]] (.ret (.bool c)):=pK [] 0 0 (.n 1 .nil) (.c d .nil)
theorem MS (e:List UInt8) (u1 u2:Int) (l:List Br) (c:l.length<2^40) (d:∀ x ∈ l,x.sm):CO 132 [.agg [.str e,ω u1,ω u2,.sl (gK l) l.length false]] (.ret (.bool (l.any rm))):=Q6 e u1 u2 l _ (Mj l rm c fun x f=>Q5 x (d x f))
theorem Hr (e:List UInt8) (u1 u2:Int) (l:List Br) (c:Int) (d:Bool) (cK_:CO 102 [.agg [.str e,ω u1,ω u2,.sl (gK l) l.length false]] (.ret (ω c))) (f:CO 132 [.agg [.str e,ω u1,ω u2,.sl (gK l) l.length false]] (.ret (.bool d))):CO 103 [.agg [.str e,ω u1,ω u2,.sl (gK l) l.length false]] (.ret (.bool (c==((0:Nat):Int) && !d))):=by
 rcases tf (c==((0:Nat):Int)) with b0|b0
 ·rw [b0,Xz4];exact pK [] 1 1 (.k 4 (aw b0) (.n 4 .nil)) (.c f (.c cK_ .nil))
 ·rw [b0,Xw6];exact pK [] 1 0 (.c (ay b0) (.n 4 .nil)) (.c cK_ .nil)
theorem A0 (e:List UInt8) (u1 u2:Int) (l:List Br) (cmp:Br→Br→Int) (c:l.length<2^40) (d:∀ x ∈ l,x.sm) (f:sP 129 cmp l):CO 103 [.agg [.str e,ω u1,ω u2,.sl (gK l) l.length false]] (.ret (.bool (JW cmp l==((0:Nat):Int) && !(l.any rm)))):=Hr e u1 u2 l _ _ (sI e u1 u2 l cmp c d f) (MS e u1 u2 l c d)
def LI (b:RQ × RQ):List AV:= [.bool b.1.neg,.str (aa b.1.n),.str (aa b.1.d),.bool b.2.neg,.str (aa b.2.n),.str (aa b.2.d)]
def DS (l:List (RQ × RQ)):List AV:=l.flatMap LI
def YX (q:RQ):List AV:= [.bool q.neg,.str (aa q.n),.str (aa q.d)]
def Ba (l:List RQ):List AV:=l.flatMap YX
abbrev DU (nm:List UInt8) (u1 u2:Int) (l:List (RQ × RQ)):AV:= .agg [.str nm,ω u1,ω u2,.sl (DS l) l.length false]
abbrev Jm (nm:List UInt8) (u1 u2:Int) (l:List (RQ × RQ)):AV:= .pp [.str nm,ω u1,ω u2,.sl (DS l) l.length false] 0
abbrev Ji (x:RQ):AV:= .pp [.bool x.neg,.str (aa x.n),.str (aa x.d)] 0
theorem ZR (x:RQ) (c:Int) (d:List UInt8) (u1 u2:Int) (l:List (RQ × RQ)) (h0:lit false (!(c==((0:Nat):Int)))=true) (f:CO 102 [DU d u1 u2 l] (.ret (ω c))) (e:CO 115 [qA x] (.ret (.bool true))) (g:CO 84 [qA x] (.ret (.bool true))):CO 176 [DU d u1 u2 l,qA x] (.ret (ω 0)):=pK [] 3 0 (.k 8 h0 (.n 4 .nil)) (.c g (.c e (.c f .nil)))
theorem ZT (x:RQ) (c:Nat) (d:List UInt8) (u1 u2:Int) (l:List (RQ × RQ)) (e:CO 190 [ω (l.length:Int),.fn 191 [] [Jm d u1 u2 l,Ji x]] (.ret (ω (c:Int)))):CO 177 [DU d u1 u2 l,qA x] (.ret (ω (c:Int))):=pK [] 0 0 (.n 1 .nil) (.c e .nil)
theorem ZS (x:RQ) (k:Nat) (g:Int) (f:List UInt8) (u1 u2:Int) (l:List (RQ × RQ)) (b:RQ × RQ) (rb:List AV) (e:(ε ((δ (k:Int))*6) (DS l))=LI b++rb) (h0:(decide (((0:Nat):Int)≤(k:Int)))=true) (c:(decide ((k:Int)<(l.length:Int)))=true) (d:CO 129 [qA b.1,qA x] (.ret (ω g))):CO 191 [ω (k:Int),Jm f u1 u2 l,Ji x] (.ret (.bool (decide (((0:Nat):Int)<g)))):=pK [] 0 0 (.k 6 h0 (.c c (.n 1 .nil))) (.c d (.v 8 (.ppt e) .nil))
theorem ZX (x:RQ) (h0:lit true (!(gU x))=true) (c:CO 84 [qA x] (.ret (.bool (gU x)))):CO 178 [qA x] (.ret (.tup [Ω false [] [],ω 3])):=pK [] 1 1 (.k 4 h0 (.n 3 .nil)) (.c c .nil)
theorem ZY (x:RQ) (h0:lit false (!(gU x))=true) (c:CO 84 [qA x] (.ret (.bool (gU x)))):CO 178 [qA x] (.ret (.tup [qA x,ω 0])):=pK [] 1 0 (.k 7 h0 (.n 3 .nil)) (.c c .nil)
theorem aab (x:RQ) (p:Bool) (i j c:Nat) (d:List UInt8) (u1 u2:Int) (l:List (RQ × RQ)) {nt:Nat} (g:26≤nt) (k:ω (γ .i64 (Xqv (γ .u64 (γ .i64 ((i:Int)+(j:Int)))) (2^(min 1 64))))=ω (c:Int)) (h:ω (γ .i64 ((c:Int)+((1:Nat):Int)))=ω ((c+1:Nat):Int)) (h0:lit true (!p)=true) (e:lit true (decide ((i:Int)<(j:Int)))=true) (f:CO 191 [ω (c:Int),Jm d u1 u2 l,Ji x] (.ret (.bool p))):ψ nt f190 ⟨[(1,.fn 191 [] [Jm d u1 u2 l,Ji x]),(5,ω (i:Int)),(6,ω (j:Int))],[],.dead,[]⟩ (.normal) ⟨[(1,.fn 191 [] [Jm d u1 u2 l,Ji x]),(5,ω ((c+1:Nat):Int)),(6,ω (j:Int))],[],.dead,[]⟩:=pN 190 [] 2 3 (.c h0 (.k 1 e .nil)) (.v 23 (.eq h) (.c f (.v 17 (.eq k) .nil))) g
theorem aac (x:RQ) (p:Bool) (i j c:Nat) (d:List UInt8) (u1 u2:Int) (l:List (RQ × RQ)) {nt:Nat} (g:26≤nt) (h:ω (γ .i64 (Xqv (γ .u64 (γ .i64 ((i:Int)+(j:Int)))) (2^(min 1 64))))=ω (c:Int)) (h0:lit false (!p)=true) (e:lit true (decide ((i:Int)<(j:Int)))=true) (f:CO 191 [ω (c:Int),Jm d u1 u2 l,Ji x] (.ret (.bool p))):ψ nt f190 ⟨[(1,.fn 191 [] [Jm d u1 u2 l,Ji x]),(5,ω (i:Int)),(6,ω (j:Int))],[],.dead,[]⟩ (.normal) ⟨[(1,.fn 191 [] [Jm d u1 u2 l,Ji x]),(5,ω (i:Int)),(6,ω (c:Int))],[],.dead,[]⟩:=pN 190 [] 2 1 (.c h0 (.k 1 e .nil)) (.c f (.v 17 (.eq h) .nil)) g
theorem Ur (x:RQ) (i j:Nat) (d:List UInt8) (u1 u2:Int) (l:List (RQ × RQ)) {nt:Nat} (c:26≤nt) (h0:lit false (decide ((i:Int)<(j:Int)))=true):ψ nt f190 ⟨[(1,.fn 191 [] [Jm d u1 u2 l,Ji x]),(5,ω (i:Int)),(6,ω (j:Int))],[],.dead,[]⟩ (.exit 0) ⟨[(5,ω (i:Int))],[],.dead,[]⟩:=pN 190 [] 1 0 (.c h0 .nil) (.nil) c
theorem Z9 (x:RQ) (c n:Nat) (d:List UInt8) (u1 u2:Int) (l:List (RQ × RQ)) (e:aG prog ap [] 26 (.block 0 (.loop (ac 0 (af f190)))) ⟨[(0,ω (n:Int)),(1,.fn 191 [] [Jm d u1 u2 l,Ji x]),(4,ω 0),(5,ω 0),(6,ω (n:Int)),(7,.dead),(11,.dead),(21,.dead)],[],.dead,[]⟩ (.normal) ⟨[(5,ω (c:Int))],[],.dead,[]⟩):CO 190 [ω (n:Int),.fn 191 [] [Jm d u1 u2 l,Ji x]] (.ret (ω (c:Int))):=pK [0] 0 0 .nil (.l e .nil)
theorem aaf (c:List UInt8) (u1 u2:Int) (l:List (RQ × RQ)) (ss:List RQ) (g:AV.sl (ε 6 (ο ((δ (l.length:Int))*6) (DS l))) ((δ (l.length:Int)) - 1) false=AV.sl (DS l.tail) l.tail.length false) (h0:(decide (((1:Nat):Int)≤(l.length:Int)))=true) (d:(decide ((l.length:Int)≤(l.length:Int)))=true) (e:CO 83 [ω 0] (.ret (qA q0))) (f:aG prog ap [] 47 (.block 0 (.loop (ac 0 (af f179)))) ⟨[(0,DU c u1 u2 l),(1,.ptr 0 0 0),(2,.nilS),(3,.ref 1 0 0 1),(4,.dead),(5,.dead),(11,ω (l.tail.length:Int)),(12,ω 0),(13,.dead)],[(0,⟨[.str c,ω u1,ω u2,.sl (DS l) l.length false],0,false,0,0,true⟩),(1,⟨[.bool q0.neg,.str (aa q0.n),.str (aa q0.d)],0,false,0,3,true⟩)],.dead,[]⟩ (.normal) ⟨[(3,.ref 0 0 0 ss.length)],[(0,⟨(Ba ss),0,false,0,3,true⟩)],.dead,[]⟩):CO 179 [DU c u1 u2 l] (.ret (.own (ο (ss.length*3) (Ba ss)) ss.length 3)):=pK [0] 0 0 (.k 1 h0 (.c d (.n 1 .nil))) (.l f (.v 10 (.eq g) (.c e .nil)))
theorem Z_ (o r v w:RQ) (k:Nat) (g:List UInt8) (u1 u2:Int) (l:List (RQ × RQ)) (os:List RQ) (b j:RQ × RQ) (rb d t:List AV) {nt:Nat} (z:47≤nt) (m:(ε ((δ (k:Int))*6) (DS l))=LI b++rb) (c:(ε ((δ ((k+1:Nat):Int))*6) (DS l))=LI j++d) (n:(ε ((0+(δ (k:Int)))*3) (Ba os))=YX o++t) (h:ω (γ .i64 ((k:Int)+((1:Nat):Int)))=ω ((k+1:Nat):Int)) (f:((ο (os.length*3) (Ba os))++ [.bool r.neg,.str (aa r.n),.str (aa r.d)])=(Ba (os++ [r]))) (h0:(Xqk (os.length+1) 1099511627776)=true) (B:(Xqk (os.length*3) (η (Ba os)))=true) (e:(decide (((0:Nat):Int)≤(k:Int)))=true) (i:(decide ((k:Int)<(l.length:Int)))=true) (D:(decide ((k:Int)<(os.length:Int)))=true) (u:(decide (((0:Nat):Int)≤((k+1:Nat):Int)))=true) (y:(decide (((k+1:Nat):Int)<(l.length:Int)))=true) (A:lit true (decide ((k:Int)<(l.tail.length:Int)))=true) (q:CO 158 [qA j.1,qA b.1] (.ret (qA v))) (p:CO 173 [qA v,qA b.2] (.ret (qA w))) (C:CO 172 [qA o,qA w] (.ret (qA r))):ψ nt f179 ⟨[(1,.ptr 0 0 0),(3,.ref 1 0 0 os.length),(11,ω (l.tail.length:Int)),(12,ω (k:Int))],[(0,⟨[.str g,ω u1,ω u2,.sl (DS l) l.length false],0,false,0,0,true⟩),(1,⟨(Ba os),0,false,0,3,true⟩)],.dead,[]⟩ (.normal) ⟨[(1,.ptr 0 0 0),(3,.ref 1 0 0 (os.length+1)),(11,ω (l.tail.length:Int)),(12,ω ((k+1:Nat):Int))],[(0,⟨[.str g,ω u1,ω u2,.sl (DS l) l.length false],0,false,0,0,true⟩),(1,⟨(Ba (os++ [r])),0,false,0,3,true⟩)],.dead,[]⟩:=pN 179 [] 1 1 (.k 1 h0 (.c B (.k 4 e (.c i (.n 4 (.a (aD [.bool,.str,.str] n rfl) (.c e (.c D (.k 4 e (.c i (.k 4 u (.c y (.k 1 A .nil))))))))))))) (.v 45 (.eq h) (.b 44 f (.c C (.c p (.v 38 (.ppt m) (.v 33 (.rd [.bool,.str,.str] n rfl) (.c q (.v 25 (.ppt m) (.v 19 (.ppt c) (.v 18 (.eq h) .nil)))))))))) z
theorem aaa (k:Nat) (d:List UInt8) (u1 u2:Int) (l:List (RQ × RQ)) (os:List RQ) {nt:Nat} (c:47≤nt) (h0:lit false (decide ((k:Int)<(l.tail.length:Int)))=true):ψ nt f179 ⟨[(1,.ptr 0 0 0),(3,.ref 1 0 0 os.length),(11,ω (l.tail.length:Int)),(12,ω (k:Int))],[(0,⟨[.str d,ω u1,ω u2,.sl (DS l) l.length false],0,false,0,0,true⟩),(1,⟨(Ba os),0,false,0,3,true⟩)],.dead,[]⟩ (.exit 0) ⟨[(3,.ref 0 0 0 os.length)],[(0,⟨(Ba os),0,false,0,3,true⟩)],.dead,[]⟩:=pN 179 [] 1 0 (.c h0 .nil) (.nil) c
theorem VT (x:RQ) (e:Nat) (c:Int) (d:List UInt8) (u1 u2:Int) (l:List (RQ × RQ)) (i:ω (γ .i64 ((e:Int) - ((1:Nat):Int)))=ω (-1)) (h0:lit false (!(c==((0:Nat):Int)))=true) (g:CO 176 [DU d u1 u2 l,qA x] (.ret (ω c))) (f:CO 177 [DU d u1 u2 l,qA x] (.ret (ω (e:Int)))) (h:CO 83 [ω 0] (.ret (qA q0))):CO 154 [DU d u1 u2 l,qA x] (.ret (.tup [qA q0,ω 0])):=pK [] 2 2 (.k 12 h0 (.n 7 .nil)) (.c h (.v 19 (.eq i) (.c f (.c g .nil))))
theorem VU (x o r v w:RQ) (y:Oq) (c f:Nat) (d:Int) (e:List UInt8) (u1 u2:Int) (l:List (RQ × RQ)) (ss:List RQ) (b:RQ × RQ) (rb k:List AV) (z:(ε ((δ (c:Int))*6) (DS l))=LI b++rb) (g:(ε ((0+(δ (c:Int)))*3) (Ba ss))=YX o++k) (n:ω (γ .i64 ((f:Int) - ((1:Nat):Int)))=ω (c:Int)) (h0:(decide (((0:Nat):Int)≤(c:Int)))=true) (p:(decide ((c:Int)<(ss.length:Int)))=true) (m:(decide ((c:Int)<(l.length:Int)))=true) (u:lit false (decide ((c:Int)<((0:Nat):Int)))=true) (A:lit false (!(d==((0:Nat):Int)))=true) (j:CO 176 [DU e u1 u2 l,qA x] (.ret (ω d))) (h:CO 177 [DU e u1 u2 l,qA x] (.ret (ω (f:Int)))) (q:CO 179 [DU e u1 u2 l] (.ret (.own (Ba ss) ss.length 3))) (t:CO 158 [qA x,qA b.1] (.ret (qA v))) (C:CO 173 [qA b.2,qA v] (.ret (qA w))) (i:CO 172 [qA o,qA w] (.ret (qA r))) (B:CO 178 [qA r] (.ret (.tup [.agg [.bool y.n,.str y.a,.str y.d],ω y.e]))):CO 154 [DU e u1 u2 l,qA x] (.ret (.tup [.agg [.bool y.n,.str y.a,.str y.d],ω y.e])):=pK [] 2 0 (.n 13 (.a (aD [.bool,.str,.str] g rfl) (.c h0 (.c p (.k 11 h0 (.c m (.k 1 u (.k 7 A (.n 7 .nil))))))))) (.c B (.c i (.c C (.c t (.v 32 (.rd [.bool,.str,.str] g rfl) (.c q (.v 26 (.ppt z) (.v 19 (.eq n) (.c h (.c j .nil))))))))))
theorem VQ (x:RQ) (e:Nat) (c:Int) (f:List UInt8) (u1 u2:Int) (d:List AV) (h0:lit true (!(c==((0:Nat):Int)))=true) (g:CO 102 [.agg [.str f,ω u1,ω u2,.sl d e false]] (.ret (ω c))):CO 176 [.agg [.str f,ω u1,ω u2,.sl d e false],qA x] (.ret (ω c)):=pK [] 1 1 (.c h0 (.n 4 .nil)) (.c g .nil)
theorem VV (x:RQ) (e:Nat) (c:Int) (f:List UInt8) (u1 u2:Int) (d:List AV) (h0:lit true (!(c==((0:Nat):Int)))=true) (g:CO 176 [.agg [.str f,ω u1,ω u2,.sl d e false],qA x] (.ret (ω c))):CO 154 [.agg [.str f,ω u1,ω u2,.sl d e false],qA x] (.ret (.tup [Ω false [] [],ω c])):=pK [] 1 1 (.k 4 h0 (.n 7 .nil)) (.c g .nil)
theorem tV {α:Type} (f:α→List AV) (m:Nat) (c:∀ a,(f a).length=m):∀ {l:List α} {k:Nat} (h:k<l.length),ε (k*m) (l.flatMap f)=f l[k]++(l.drop (k+1)).flatMap f
 | [],_,h=>by simp at h
 |x::r,0,_=>by simp
 |x::r,k+1,h=>by
  have d:k<r.length:=by simpa using h
  have:=tV f m c d;rw [Xx2,Xkl,Xxr,← Xjl];have e:ε m (f x++r.flatMap f)=r.flatMap f:=by rw [← c x];exact List.drop_left
  rw [e,this];simp
theorem rY {α:Type} (f:α→List AV) (m:Nat) (c:∀ a,(f a).length=m):∀ l:List α,(l.flatMap f).length=l.length*m
 | []=>by simp
 |x::r=>by rw [Xx2,κ,c,rY f m c r,μ,Xkl,Xxr]
theorem tu {l:List (RQ × RQ)} {k:Nat} (h:k<l.length):ε (δ (k:Int)*6) (DS l)=LI l[k]++DS (l.drop (k+1)):=by
 rw [av];exact tV LI 6 (fun _=>rfl) h
theorem Fx {l:List RQ} {k:Nat} (h:k<l.length):ε ((0+δ (k:Int))*3) (Ba l)=YX l[k]++Ba (l.drop (k+1)):=by
 rw [av,Θ];exact tV YX 3 (fun _=>rfl) h
theorem DE (l:List RQ):(Ba l).length=l.length*3:=rY YX 3 (fun _=>rfl) l
theorem OP (l:List RQ) (r:RQ):ο (l.length*3) (Ba l)++ [.bool r.neg,.str (aa r.n),.str (aa r.d)]=Ba (l++ [r]):=by
 rw [Xqi (by rw [DE];exact φ _)];unfold Ba;rw [List.flatMap_append];rfl
abbrev srS (nm:List UInt8) (u1 u2:Int) (l:List (RQ × RQ)) (x:RQ) (p:Nat × Nat):St:=⟨[(1,.fn 191 [] [Jm nm u1 u2 l,Ji x]),(5,ω (p.1:Int)),(6,ω (p.2:Int))],[],.dead,[]⟩
abbrev srO (c:Nat):St:=⟨[(5,ω (c:Int))],[],.dead,[]⟩
theorem abl {i j:Nat} (h:i+j<2^62):ω (γ .i64 (Xqv (γ .u64 (γ .i64 ((i:Int)+(j:Int)))) (2^(min 1 64))))=ω (((i+j) / 2:Nat):Int):=by
 congr 1;rw [show (i:Int)+(j:Int)=((i+j:Nat):Int) from rfl,aS (by omega),kL,Δ (show i+j<18446744073709551616 by omega),show (2:Int)^(min 1 64)=((2:Nat):Int) from rfl];rw [show Xqv ((i+j:Nat):Int) ((2:Nat):Int)=(((i+j) / 2:Nat):Int) from by rw [Int.fdiv_eq_ediv_of_nonneg _ (by omega)];rfl,aS (by omega)]
theorem Tk {nt:Nat} (r:26≤nt) (f:List UInt8) (u1 u2:Int) (l:List (RQ × RQ)) (x:RQ) (P:Nat→Bool) (C:l.length<2^60)
  (hP:∀ k,k<l.length→CO 191 [ω (k:Int),Jm f u1 u2 l,Ji x] (.ret (.bool (P k)))) (hM:∀ i j,i≤j→j<l.length→P i=true→P j=true):
  ∀ (d i j:Nat),j - i≤d→i≤j→j≤l.length→(∀ k,k<i→P k=false)→(∀ k,j≤k→k<l.length→P k=true)→∀ c,c≤l.length→(∀ k,k<c→P k=false)→(∀ k,c≤k→k<l.length→P k=true)→
   az prog ap [] nt (ac 0 (af f190)) (fun _=> .exit 0) (srS f u1 u2 l x) srO (i,j) c:=by
 intro d
 induction d with
 | zero=>
  intro i j hd v z t p c w m n;have:i=j:=by omega
  subst this;have:i=c:=by
   rcases Xjy i c with h|h|h
   ·have a:=m i h;rw [p i (φ _) (by omega)] at a;cases a
   ·exact h
   ·have a:=t c h;rw [n c (φ _) (by omega)] at a;cases a
  subst this;exact .done (Ur x i i f u1 u2 l r (ay (Yq1 (by omega))))
 | succ d ih=>
  intro i j hd v z t p c w m n;by_cases hlt:i<j
  ·have A:=abl (i:=i) (j:=j) (by omega);have B:(i+j) / 2<j:=by omega
   have u:i≤(i+j) / 2:=by omega
   generalize (i+j) / 2=q at*
   have o:=hP q (by omega);have g:lit true (decide ((i:Int)<(j:Int)))=true:=Yq0 (by omega);cases hp:P q with
   |false=>
    rw [hp] at o;refine .next (aab x false i j q f u1 u2 l r A (oH (by omega)) rfl g o) (ih (q+1) j (by omega) (by omega) z (fun k y=> ?_) p c w m n)
    cases e:P k with
    |false=>rfl
    |true=>rw [hM k q (by omega) (by omega) e] at hp;cases hp
   |true=>
    rw [hp] at o;exact .next (aac x true i j q f u1 u2 l r A rfl g o) (ih i q (by omega) u (by omega) t (fun k y e=>hM q k y e hp) c w m n)
  ·have:i=j:=by omega
   subst this;have:i=c:=by
    rcases Xjy i c with h|h|h
    ·have a:=m i h;rw [p i (φ _) (by omega)] at a;cases a
    ·exact h
    ·have a:=t c h;rw [n c (φ _) (by omega)] at a;cases a
   subst this;exact .done (Ur x i i f u1 u2 l r (ay (Yq1 (by omega))))
structure PQ (l:List (RQ × RQ)):Prop where
 len:l.length≤8
 pos:0<l.length
 ok:∀ b ∈ l,b.1.ok∧b.2.ok
 fit:∀ b ∈ l,gU b.1=true∧gU b.2=true
 srt:om l
theorem Jq:∀ {l:List (RQ × RQ)},om l→∀ i j (hi:i<j) (hj:j<l.length),(l[i]'(by omega)).1.rt<l[j].1.rt
 | [],_,_,_,_,hj=>by simp at hj
 |b::l,h,0,j+1,_,hj=>h.all _ (Xxe (by simpa using hj))
 |b::l,h,i+1,j+1,hi,hj=>Jq h.tail i j (by omega) (by simpa using hj)
def pS (l:List (RQ × RQ)) (x:RQ) (k:Nat):Bool:=match l[k]? with|some b=>decide (0<dc b.1 x)|none=>true
theorem tH (x:RQ):∀ l:List (RQ × RQ),eG l x≤l.length∧(∀ k,k<eG l x→pS l x k=false)∧(eG l x<l.length→pS l x (eG l x)=true)
 | []=> ⟨φ _,fun k h=>absurd h (Xww _),fun h=>absurd h (Xww _)⟩
 | b::l=>by
  obtain ⟨g,f,d⟩:=tH x l;by_cases h:0<dc b.1 x
  ·have e:eG (b::l) x=0:=by
    unfold eG;rw [Xz9 (by simp;omega)];rfl
   rw [e];exact ⟨Xxf _,fun k c=>absurd c (Xww _),fun _=>Yq0 h⟩
  ·rw [tG h];refine ⟨by simp only [μ];omega,fun k c=> ?_,fun c=>d (by simpa using c)⟩;cases k with
   |zero=>exact Yq1 h
   |succ k=>exact f k (by omega)
section
variable (nm:List UInt8) (u1 u2:Int) {l:List (RQ × RQ)} (hR:PQ l) {x:RQ} (hx:x.ok) (fx:gU x=true)
include hR hx fx
omit fx in
theorem Sl:∀ i j,i≤j→j<l.length→pS l x i=true→pS l x j=true:=by
 intro i j f c h;rcases Xq8 i j with h1|h1
 ·have hs:=Jq hR.srt i j h1 c;unfold pS at h ⊢;rw [ξ (by omega)] at h ⊢;simp only [decide_eq_true_eq] at h ⊢;have d:=(d_ (hR.ok _ (Xxe (show i<l.length by omega))).1 hx).2.2;have e:=(d_ (hR.ok _ (Xxe c)).1 hx).2.2;have:=d.1 h;exact e.2 (by grind)
 ·rw [show i=j by omega] at h;exact h
theorem QK (k:Nat) (c:k<l.length):CO 191 [ω (k:Int),Jm nm u1 u2 l,Ji x] (.ret (.bool (pS l x k))):=by
 unfold pS;rw [ξ c];exact ZS x k _ nm u1 u2 l l[k] _ (tu c) (Yq0 (by omega)) (Yq0 (by omega))
  (OH (hR.ok _ (Xxe c)).1 hx (bz (hR.fit _ (Xxe c)).1) (bz fx) (by decide))
theorem Ev:CO 177 [DU nm u1 u2 l,qA x] (.ret (ω ((eG l x:Nat):Int))):=by
 obtain ⟨g,j,h⟩:=tH x l;have e:=hR.len;have f:=Sl hR hx;refine ZT x _ nm u1 u2 l (Z9 x _ _ nm u1 u2 l (az.blk (id:=0) (e':= .normal) (s:=⟨_,_,_,_⟩) (s':=srO (eG l x)) (fun nt i=>Tk i nm u1 u2 l x (pS l x) (by omega) (QK nm u1 u2 hR hx fx) f l.length 0 l.length (by omega) (Xxf _) (φ _) (fun k d=>absurd d (Xww _)) (fun k d c=>by omega) (eG l x) g j (fun k d c=>f _ k d c (h (by omega)))) (by simp) rfl (aJ.of ⟨rfl,rfl,rfl,trivial⟩) (aJ.refl _)))
end
abbrev smS (nm:List UInt8) (u1 u2:Int) (l:List (RQ × RQ)) (p:Nat × List RQ):St:=⟨[(1,.ptr 0 0 0),(3,.ref 1 0 0 p.2.length),(11,ω (l.tail.length:Int)),(12,ω (p.1:Int))],[(0,⟨[.str nm,ω u1,ω u2,.sl (DS l) l.length false],0,false,0,0,true⟩),(1,⟨(Ba p.2),0,false,0,3,true⟩)],.dead,[]⟩
abbrev smO (os:List RQ):St:=⟨[(3,.ref 0 0 0 os.length)],[(0,⟨(Ba os),0,false,0,3,true⟩)],.dead,[]⟩
theorem UW {k:Nat} {a w:RQ} (c:jw (410*5^k) a) (d:jw 410 w):jw (410*5^(k+1)) (eu a w):=by
 have hp:1≤5^k:=Yxb _ _ (by decide);refine (Ac c (d.mono (by omega))).mono ?_;rw [Xq2];generalize 5^k=M at*
 omega
theorem aak {k:Nat} (h:k≤8):410*5^k<2^28:=υ (Xq0 410 (Xqf (by decide) h)) (by decide)
theorem adC {l:List (RQ × RQ)} (e:PQ l) {b c:RQ × RQ} (g:b ∈ l) (d:c ∈ l):jw 205 (cJ c.1 b.1)∧jw 410 (eB (cJ c.1 b.1) b.2):=by
 have f:jw 205 (cJ c.1 b.1):=HI (L:=51) (bz (e.fit _ d).1) (bz (e.fit _ g).1);exact ⟨f,HH f (jw.mono (L:=51) (bz (e.fit _ g).2) (by decide))⟩
theorem O4 {nt:Nat} (o:47≤nt) (j:List UInt8) (u1 u2:Int) {l:List (RQ × RQ)} (d:PQ l):∀ (r p:List (RQ × RQ)) (b:RQ × RQ) (os:List RQ) (c:RQ),l=p++b::r→os.length=p.length→c.ok→jw (410*5^p.length) c→
  az prog ap [] nt (ac 0 (af f179)) (fun _=> .exit 0) (smS j u1 u2 l) smO (p.length,os++ [c]) (os++fN c (b::r)):=by
 intro r
 induction r with
 |nil=>
  intro p b os c g z m hs;exact .done (aaa p.length j u1 u2 l (os++ [c]) o (ay (Yq1 (by rw [g];simp))))
 |cons b2 r ih=>
  intro p b os c g z m hs;have v:=d.len;have i:p.length+1<l.length:=by rw [g];simp
  have h:b ∈ l:=by rw [g];simp
  have f:b2 ∈ l:=by rw [g];simp
  have F:l[p.length]'(by omega)=b:=by subst g;simp
  have D:l[p.length+1]'i=b2:=by subst g;simp
  have u:=tu (l:=l) (k:=p.length) (by omega);have w:=tu (l:=l) (k:=p.length+1) i;rw [F] at u;rw [D] at w;have n:=Fx (l:=os++ [c]) (k:=p.length) (by simp;omega);rw [show (os++ [c])[p.length]'(by simp;omega)=c by simp [← z]] at n;have A:=fq (d.ok _ f).1 (d.ok _ h).1;have t:=eK A (d.ok _ h).2;obtain ⟨K,q⟩:=adC d h f;have I:=aak (k:=p.length) (by omega);have H:1≤5^p.length:=Yxb _ _ (by decide);have C:=Hs (d.ok _ f).1 (d.ok _ h).1 (bz (d.fit _ f).1) (bz (d.fit _ h).1) (by decide);have B:=Hq A (d.ok _ h).2 K (jw.mono (L:=51) (bz (d.fit _ h).2) (by decide)) (by decide);have J:=zM m t hs (q.mono (by omega)) I;have E:(os++ [c]).length=p.length+1:=by simp;omega
  have G:=Z_ c (eu c (eB (cJ b2.1 b.1) b.2)) _ _ p.length j u1 u2 l (os++ [c]) b b2 _ _ _ o u w n (oH (by omega)) (OP _ _) (Xqg (by omega)) (Xqg (by rw [DE];exact φ _)) (Yq0 (by omega)) (Yq0 (by omega)) (Yq0 (by omega)) (Yq0 (by omega)) (Yq0 (by omega)) (aw (Yq0 (by rw [List.length_tail];omega))) C B J;have y:=ih (p++ [b]) b2 (os++ [c]) (eu c (eB (cJ b2.1 b.1) b.2)) (by rw [g];simp) (by simp;omega) (cU m t) (by rw [κ];exact UW hs q);rw [κ,τ] at y;rw [show os++fN c (b::b2::r)=(os++ [c])++fN (eu c (eB (cJ b2.1 b.1) b.2)) (b2::r) by simp [fN]];refine .next ?_ y
  have e:(os++ [c]++ [eu c (eB (cJ b2.1 b.1) b.2)]).length=(os++ [c]).length+1:=by simp
  show ai _ _ _ _ _ _ _ (smS j u1 u2 l (p.length+1,os++ [c]++ [eu c (eB (cJ b2.1 b.1) b.2)]));unfold smS;rw [e];exact G
theorem Ab:∀ (l:List (RQ × RQ)) (c:RQ),0<l.length→(fN c l).length=l.length
 | [_],_,_=>rfl
 |b::b2::l,c,_=>by show (fN _ (b2::l)).length+1=_;rw [Ab (b2::l) _ (by simp)];rfl
theorem UN:jw 410 q0:=⟨Xxa (bC (x:=0) (k:=1) (by decide)) (by decide),Xxa (bC (x:=1) (k:=1) (by decide)) (by decide)⟩
theorem MR (d:List UInt8) (u1 u2:Int) {l:List (RQ × RQ)} (e:PQ l):CO 179 [DU d u1 u2 l] (.ret (.own (Ba (fN q0 l)) (fN q0 l).length 3)):=by
 have f:=e.len;have c:=e.pos;have g:∀ nt,47≤nt→az prog ap [] nt (ac 0 (af f179)) (fun _=> .exit 0) (smS d u1 u2 l) smO (0,[q0]) (fN q0 l):=fun nt i=>by
  cases l with
  |nil=>simp at c
  |cons b r=>exact O4 i d u1 u2 e r [] b [] q0 rfl rfl pO (UN.mono (by decide))
 have h:=aaf d u1 u2 l (fN q0 l) (by
  cases l with
  |nil=>simp at c
  |cons b r=>
   rw [av,Xqi (by show ((b::r).flatMap LI).length≤_;rw [rY LI 6 (fun _=>rfl)];exact φ _)];rfl) (Yq0 (by omega)) (Yq0 (by omega)) gq (az.blk (id:=0) (e':= .normal) (s:=⟨_,_,_,_⟩) (s':=smO (fN q0 l)) g (by simp) rfl (aJ.of ⟨rfl,rfl,rfl,rfl,trivial⟩) (aJ.refl _))
 rw [Xqi (by rw [DE];exact φ _)] at h;exact h
theorem Tp {l:List (RQ × RQ)} (f:PQ l):∀ (r p:List (RQ × RQ)) (b:RQ × RQ) (c:RQ),l=p++b::r→c.ok→jw (410*5^p.length) c→∀ q ∈ fN c (b::r),q.ok∧jw (410*5^8) q:=by
 intro r
 induction r with
 |nil=>
  intro p b c e h hs q d;have d:q ∈ [c]:=d;rw [Xjc] at d;subst d;have:=f.len;exact ⟨h,hs.mono (Xq0 410 (Xqf (by decide) (by rw [e] at this;simp at this;omega)))⟩
 | cons b2 r ih=>
  intro p b c e h hs q d;have i:b ∈ l:=by rw [e];simp
  have g:b2 ∈ l:=by rw [e];simp
  have d:q ∈ c::fN (eu c (eB (cJ b2.1 b.1) b.2)) (b2::r):=d;rcases List.mem_cons.1 d with rfl|d
  ·have:=f.len;exact ⟨h,hs.mono (Xq0 410 (Xqf (by decide) (by rw [e] at this;simp at this;omega)))⟩
  ·have j:=eK (fq (f.ok _ g).1 (f.ok _ i).1) (f.ok _ i).2;exact ih (p++ [b]) b2 _ (by rw [e];simp) (cU h j) (by rw [κ];exact UW hs (adC f i g).2) q d
theorem FK {l:List (RQ × RQ)} (c:PQ l):∀ q ∈ fN q0 l,q.ok∧jw (410*5^8) q:=by
 cases l with
 |nil=>have:=c.pos;simp at this
 |cons b r=>exact Tp c r [] b q0 rfl pO (UN.mono (by decide))
def Qc (l:List (RQ × RQ)) (x:RQ):Oq:=if eG l x=0 then .val q0 else iP (Vt l x)
theorem QL {q:RQ} (h:q.ok) (e:(aa q.n).length<2^36) (f:(aa q.d).length<2^36):CO 178 [qA q] (.ret (.tup [.agg [.bool (iP q).n,.str (iP q).a,.str (iP q).d],ω (iP q).e])):=by
 have c:=ef q.neg (aa q.n) (aa q.d) e f;rw [yl h] at c;unfold iP;cases d:gU q with
 |true=>
  rw [if_pos rfl];exact ZY q (by rw [d];rfl) c
 |false=>
  rw [if_neg (by simp)];exact ZX q (by rw [d];rfl) c
theorem VS (d:List UInt8) (u1 u2:Int) {l:List (RQ × RQ)} (c:PQ l) {x:RQ} (j:x.ok) (m:gU x=true) (n:CO 102 [DU d u1 u2 l] (.ret (ω 0))):
  CO 154 [DU d u1 u2 l,qA x] (.ret (.tup [.agg [.bool (Qc l x).n,.str (Qc l x).a,.str (Qc l x).d],ω (Qc l x).e])):=by
 obtain ⟨w,u⟩:=bz m;have q:=jp x.neg (aa x.n) (aa x.d) (by omega) (by omega);rw [pu x j] at q;have p:=ef x.neg (aa x.n) (aa x.d) (by omega) (by omega);rw [yl j,m] at p;have i:CO 176 [DU d u1 u2 l,qA x] (.ret (ω 0)):=ZR x 0 d u1 u2 l rfl n q p;have g:=Ev d u1 u2 c j m;have A:=(tH x l).1;have o:=c.len;unfold Qc;by_cases hc:eG l x=0
 ·rw [if_pos hc];rw [hc] at g;exact VT x 0 0 d u1 u2 l rfl rfl i g gq
 ·rw [if_neg hc];have k:eG l x - 1<l.length:=by omega
  have f:=Xxe k;have D:(fN q0 l).length=l.length:=Ab l q0 c.pos;have h:eG l x - 1<(fN q0 l).length:=by omega
  obtain ⟨r,y⟩:(fN q0 l)[eG l x - 1].ok∧jw (410*5^8) (fN q0 l)[eG l x - 1]:=by
   exact FK c _ (Xxe h)
  have t:jw 205 (cJ x l[eG l x - 1].1):=HI (L:=51) ⟨w,u⟩ (bz (c.fit _ f).1);have v:jw 410 (eB l[eG l x - 1].2 (cJ x l[eG l x - 1].1)):=HH (L:=205) (jw.mono (L:=51) (bz (c.fit _ f).2) (by decide)) t;have k3:=fq j (c.ok _ f).1;have k4:=eK (c.ok _ f).2 k3;have C:=Hs j (c.ok _ f).1 ⟨w,u⟩ (bz (c.fit _ f).1) (by decide);have F:=Hq (c.ok _ f).2 k3 (jw.mono (L:=51) (bz (c.fit _ f).2) (by decide)) t (by decide);have B:=zM r k4 y (v.mono (by decide)) (by decide);have z:=Ac y (v.mono (by decide));have e:Vt l x=eu (fN q0 l)[eG l x - 1] (eB l[eG l x - 1].2 (cJ x l[eG l x - 1].1)):=by
   unfold Vt;rw [ν,ν,ξ k,ξ h];rfl
  rw [e];have E:=QL (cU r k4) (υ z.1 (by decide)) (υ z.2 (by decide));refine VU x _ _ _ _ _ (eG l x - 1) (eG l x) 0 d u1 u2 l _ l[eG l x - 1] _ _ (tu k) (Fx h) ?_ (Yq0 (by omega)) (Yq0 (by omega)) (Yq0 (by omega)) (ay (Yq1 (by omega))) rfl i g (MR d u1 u2 c) C F B E;congr 1;rw [show ((eG l x:Nat):Int) - ((1:Nat):Int)=((eG l x - 1:Nat):Int) by omega];exact aS (by omega)
def lV (x:Br):Bool:=fu x.fn x.fa x.fd && fu x.rn x.ra x.rd
def Ip (x:Br):Bool:=dK x.fn x.fa x.fd && dK x.rn x.ra x.rd
def Gh (cmp:Br→Br→Int):Br→List Br→Bool
 |_,[]=>true
 |y,x::r=>cond (decide (((0:Nat):Int)≤cmp y x)) false (Gh cmp x r)
theorem Ed (cmp:Br→Br→Int):∀ (r:List Br) (y:Br),CB cmp (some y) r=(r.all lV && Gh cmp y r)
 | [],_=>rfl
 |x::r,y=>by
  simp only [CB,Xj5,Gh,lV,Ed cmp r x];cases fu x.fn x.fa x.fd<;>cases fu x.rn x.ra x.rd<;>cases decide (((0:Nat):Int)≤cmp y x)<;>cases r.all lV<;>simp
theorem LZ (cmp:Br→Br→Int) (x:Br) (r:List Br):CB cmp none (x::r)=((x::r).all lV && ((jK x.fn x.fa x.fd==((0:Nat):Int)) && Gh cmp x r)):=by
 simp only [CB,Xj5,lV,Ed cmp r x];cases fu x.fn x.fa x.fd<;>cases fu x.rn x.ra x.rd<;>cases (jK x.fn x.fa x.fd==((0:Nat):Int))<;>cases r.all lV<;>simp
theorem HY:∀ l:List Br,l.any AR= !(l.all Ip)
 | []=>rfl
 |x::r=>by
  rw [Xwu,Xj5,HY r];simp only [AR,Ip];cases dK x.fn x.fa x.fd<;>cases dK x.rn x.ra x.rd<;>simp
structure Lk where
 op:Int
 nm:List UInt8
 n:Bool
 a:List UInt8
 d:List UInt8
 e:Int
def AG (x:Lk):List AV:= [ω x.op,.str x.nm,.bool x.n,.str x.a,.str x.d,ω x.e]
def fK (l:List Lk):List AV:=l.flatMap AG
abbrev Dq (ls:List Lk) (cs:List Sc) (nl ns:Bool) (a b c d:List AV):Hp:= [(0,⟨[.sl (fK ls) ls.length nl,.sl (dB cs) cs.length ns],0,false,0,0,true⟩),(1,⟨[.mp [] [],.mp [] []],0,false,0,0,true⟩),(2,⟨[.mr 3 0,.mr 4 0],0,false,0,0,false⟩),(3,⟨[.agg a,.agg b],0,false,0,4611686018427387904,true⟩),(4,⟨[.agg c,.agg d],0,false,0,4611686018427387904,true⟩)]
theorem QT (c:Oq) (i j k d:Bool) (e m name:List UInt8) (ks vs g n:List AV) (h0:lit true (!d)=true) (h:CO 152 [.agg [.bool c.n,.str c.a,.str c.d]] (.ret (.tup [.bool k,.bool d]))) (f:CO 55 [ω 13] (.ret (.agg [.bool false,.str [],.str [],ω 13]))):CO 125 [.agg [.mp ks vs,.mp g n],.agg [ω 20,.bool i,.str e,.str m,.str name],.sl [.bool c.n,.str c.a,.str c.d,ω c.e] 1 j] (.ret (.agg [.bool false,.str [],.str [],ω 13])):=pK [] 2 3 (.k 5 h0 (.n 11 .nil)) (.c f (.c h .nil))
theorem QU (c o:Oq) (j k d e:Bool) (f m name:List UInt8) (ks vs h n:List AV) (h0:lit false (!e)=true) (i:CO 152 [.agg [.bool c.n,.str c.a,.str c.d]] (.ret (.tup [.bool d,.bool e]))) (g:CO 151 [.bool (!d)] (.ret (dQ o))):CO 125 [.agg [.mp ks vs,.mp h n],.agg [ω 20,.bool j,.str f,.str m,.str name],.sl [.bool c.n,.str c.a,.str c.d,ω c.e] 1 k] (.ret (dQ o)):=pK [] 2 1 (.k 5 h0 (.n 11 .nil)) (.c g (.c i .nil))
theorem QV (c o:Oq) (q d:RQ) (h:Bool) (name:List UInt8) (ks vs f i:List AV) (g:CO 155 [.agg [.bool c.n,.str c.a,.str c.d],qA d] (.ret (.tup [qA q,.bool true]))) (e:CO 149 [qA q] (.ret (dQ o))):CO 125 [.agg [.mp ks vs,.mp f i],.agg [ω 21,.bool d.neg,.str (aa d.n),.str (aa d.d),.str name],.sl [.bool c.n,.str c.a,.str c.d,ω c.e] 1 h] (.ret (dQ o)):=pK [] 3 4 (.n 25 .nil) (.c e (.c g .nil))
theorem QW (c o:Oq) (q d:RQ) (h:Bool) (name:List UInt8) (ks vs f i:List AV) (g:CO 156 [.agg [.bool c.n,.str c.a,.str c.d],qA d] (.ret (.tup [qA q,.bool true]))) (e:CO 149 [qA q] (.ret (dQ o))):CO 125 [.agg [.mp ks vs,.mp f i],.agg [ω 22,.bool d.neg,.str (aa d.n),.str (aa d.d),.str name],.sl [.bool c.n,.str c.a,.str c.d,ω c.e] 1 h] (.ret (dQ o)):=pK [] 4 8 (.n 26 .nil) (.c e (.c g .nil))
theorem QX (c o:Oq) (q d:RQ) (h:Bool) (name:List UInt8) (ks vs f i:List AV) (g:CO 153 [.agg [.bool c.n,.str c.a,.str c.d],qA d] (.ret (.tup [qA q,.bool true]))) (e:CO 149 [qA q] (.ret (dQ o))):CO 125 [.agg [.mp ks vs,.mp f i],.agg [ω 23,.bool d.neg,.str (aa d.n),.str (aa d.d),.str name],.sl [.bool c.n,.str c.a,.str c.d,ω c.e] 1 h] (.ret (dQ o)):=pK [] 4 0 (.n 26 .nil) (.c e (.c g .nil))
theorem QY (d:Oq) (m o lb:Bool) (k p name h:List UInt8) (u1 u2:Int) (ks vs c e i:List AV) (n:Nat) (g:aN (.tup [(Xz2 (cE c e (.str name)) (.agg [.str [],ω 0,ω 0,.nilS])),.bool (Xj3 (cE c e (.str name)))]) (.tup [.agg [.str h,ω u1,ω u2,.sl i n false],.bool lb])) (h0:lit true (!lb)=true) (j:(Xzv c (IG 9))=true) (f:CO 55 [ω 12] (.ret (.agg [.bool false,.str [],.str [],ω 12]))):CO 125 [.agg [.mp ks vs,.mp c e],.agg [ω 24,.bool m,.str k,.str p,.str name],.sl [.bool d.n,.str d.a,.str d.d,ω d.e] 1 o] (.ret (.agg [.bool false,.str [],.str [],ω 12])):=pK [] 3 6 (.k 5 h0 (.k 2 j (.n 11 .nil))) (.c f (.v 43 g .nil))
theorem QZ (c o:Oq) (n p lb:Bool) (m q name f:List UInt8) (u1 u2:Int) (ks vs d e g:List AV) (h:Nat) (j:aN (.tup [(Xz2 (cE d e (.str name)) (.agg [.str [],ω 0,ω 0,.nilS])),.bool (Xj3 (cE d e (.str name)))]) (.tup [.agg [.str f,ω u1,ω u2,.sl g h false],.bool lb])) (h0:lit false (!lb)=true) (k:(Xzv d (IG 9))=true) (i:CO 154 [.agg [.str f,ω u1,ω u2,.sl g h false],.agg [.bool c.n,.str c.a,.str c.d]] (.ret (.tup [.agg [.bool o.n,.str o.a,.str o.d],ω o.e]))):CO 125 [.agg [.mp ks vs,.mp d e],.agg [ω 24,.bool n,.str m,.str q,.str name],.sl [.bool c.n,.str c.a,.str c.d,ω c.e] 1 p] (.ret (dQ o)):=pK [] 3 2 (.k 16 h0 (.k 2 k (.n 11 .nil))) (.c i (.v 43 j .nil))
theorem Z3 (ks vs:List AV) (k:Nat) (c:List Lk) (h:List Sc) (x:Lk) (d f e:Bool) (p:List AV) (g n:Oq) {nt:Nat} (o:68≤nt) (u:(ε ((δ (k:Int))*6) (fK c))=AG x++p) (j:Yqy [(Xz2 (cE ks vs (.agg [ω x.op,.str x.nm])) (.agg [.bool false,.str [],.str [],ω 0])),.bool (Xj3 (cE ks vs (.agg [ω x.op,.str x.nm])))]=Yqy [dQ n,.bool e]) (q:ω (γ .i64 ((k:Int)+((1:Nat):Int)))=ω ((k+1:Nat):Int)) (h0:(Xzv ks (IG 158))=true) (r:lit true (!e)=true) (m:(decide (((0:Nat):Int)≤(k:Int)))=true) (t:(decide ((k:Int)<(c.length:Int)))=true) (v:lit true (decide ((k:Int)<(c.length:Int)))=true) (i:CO 120 [.agg [.bool x.n,.str x.a,.str x.d,ω x.e]] (.ret (dQ g))):ψ nt f88 ⟨[(1,.ptr 0 0 0),(2,.ptr 1 0 0),(3,.ptr 2 0 0),(17,.sl (fK c) c.length d),(18,ω (c.length:Int)),(19,ω (k:Int))],(Dq c h d f ks vs [] []),.dead,[]⟩ (.normal) ⟨[(1,.ptr 0 0 0),(2,.ptr 1 0 0),(3,.ptr 2 0 0),(17,.sl (fK c) c.length d),(18,ω (c.length:Int)),(19,ω ((k+1:Nat):Int))],(Dq c h d f (sA ks (.agg [ω x.op,.str x.nm])) (kU ks vs (.agg [ω x.op,.str x.nm]) (dQ g)) [] []),.dead,[]⟩:=pN 88 [] 2 3 (.k 1 h0 (.k 7 r (.k 2 h0 (.k 13 m (.c t (.c v .nil)))))) (.v 43 (.eq q) (.c i (.v 32 (.eq j) (.v 21 (.ppt u) .nil)))) o
theorem Z4 (ks vs:List AV) (k:Nat) (c:List Lk) (g:List Sc) (x:Lk) (d f e:Bool) (n:List AV) (j:Oq) {nt:Nat} (m:68≤nt) (r:(ε ((δ (k:Int))*6) (fK c))=AG x++n) (h:Yqy [(Xz2 (cE ks vs (.agg [ω x.op,.str x.nm])) (.agg [.bool false,.str [],.str [],ω 0])),.bool (Xj3 (cE ks vs (.agg [ω x.op,.str x.nm])))]=Yqy [dQ j,.bool e]) (o:ω (γ .i64 ((k:Int)+((1:Nat):Int)))=ω ((k+1:Nat):Int)) (h0:lit false (!e)=true) (p:(Xzv ks (IG 158))=true) (i:(decide (((0:Nat):Int)≤(k:Int)))=true) (q:(decide ((k:Int)<(c.length:Int)))=true) (t:lit true (decide ((k:Int)<(c.length:Int)))=true):ψ nt f88 ⟨[(1,.ptr 0 0 0),(2,.ptr 1 0 0),(3,.ptr 2 0 0),(17,.sl (fK c) c.length d),(18,ω (c.length:Int)),(19,ω (k:Int))],(Dq c g d f ks vs [] []),.dead,[]⟩ (.normal) ⟨[(1,.ptr 0 0 0),(2,.ptr 1 0 0),(3,.ptr 2 0 0),(17,.sl (fK c) c.length d),(18,ω (c.length:Int)),(19,ω ((k+1:Nat):Int))],(Dq c g d f ks vs [] []),.dead,[]⟩:=pN 88 [] 2 1 (.c h0 (.k 2 p (.k 13 i (.c q (.c t .nil))))) (.v 43 (.eq o) (.v 32 (.eq h) (.v 21 (.ppt r) .nil))) m
theorem Z5 (ks vs:List AV) (k:Nat) (c:List Lk) (f:List Sc) (d e:Bool) {nt:Nat} (g:68≤nt) (h0:lit false (decide ((k:Int)<(c.length:Int)))=true):ψ nt f88 ⟨[(1,.ptr 0 0 0),(2,.ptr 1 0 0),(3,.ptr 2 0 0),(17,.sl (fK c) c.length d),(18,ω (c.length:Int)),(19,ω (k:Int))],(Dq c f d e ks vs [] []),.dead,[]⟩ (.exit 0) ⟨[(1,.ptr 0 0 0),(2,.ptr 1 0 0),(3,.ptr 2 0 0)],(Dq c f d e ks vs [] []),.dead,[]⟩:=pN 88 [] 1 0 (.c h0 .nil) (.nil) g
theorem Z6 (o:List UInt8) (u1 u2:Int) (ks vs e g p:List AV) (v k:Nat) (i:List Lk) (d:List Sc) (c:Sc) (j f h:Bool) (r:List AV) {nt:Nat} (q:68≤nt) (y:(ε ((δ (k:Int))*4) (dB d))=wM c++r) (m:aN (.tup [(Xz2 (cE e g (.str c.name)) (.agg [.str [],ω 0,ω 0,.nilS])),.bool (Xj3 (cE e g (.str c.name)))]) (.tup [.agg [.str o,ω u1,ω u2,.sl p v false],.bool h])) (t:ω (γ .i64 ((k:Int)+((1:Nat):Int)))=ω ((k+1:Nat):Int)) (h0:(Xzv e (IG 9))=true) (u:lit true (!h)=true) (n:(decide (((0:Nat):Int)≤(k:Int)))=true) (w:(decide ((k:Int)<(d.length:Int)))=true) (z:lit true (decide ((k:Int)<(d.length:Int)))=true):ai prog ap [] nt (ac 2 (af f88)) ⟨[(1,.ptr 0 0 0),(2,.ptr 1 0 0),(3,.ptr 2 0 0),(45,.sl (dB d) d.length f),(46,ω (d.length:Int)),(47,ω (k:Int))],(Dq i d j f ks vs e g),.dead,[]⟩ (.normal) ⟨[(1,.ptr 0 0 0),(2,.ptr 1 0 0),(3,.ptr 2 0 0),(45,.sl (dB d) d.length f),(46,ω (d.length:Int)),(47,ω ((k+1:Nat):Int))],(Dq i d j f ks vs (sA e (.str c.name)) (kU e g (.str c.name) (.agg [.str c.name,ω c.u1,ω c.u2,.sl c.bx c.bn false]))),.dead,[]⟩:=pN 88 [] 2 3 (.k 1 h0 (.k 6 u (.k 2 h0 (.k 7 n (.c w (.c z .nil)))))) (.v 66 (.eq t) (.v 56 m (.v 49 (.ppt y) .nil))) q
theorem Z7 (o:List UInt8) (u1 u2:Int) (ks vs e g p:List AV) (v k:Nat) (i:List Lk) (d:List Sc) (c:Sc) (j f h:Bool) (r:List AV) {nt:Nat} (q:68≤nt) (y:(ε ((δ (k:Int))*4) (dB d))=wM c++r) (m:aN (.tup [(Xz2 (cE e g (.str c.name)) (.agg [.str [],ω 0,ω 0,.nilS])),.bool (Xj3 (cE e g (.str c.name)))]) (.tup [.agg [.str o,ω u1,ω u2,.sl p v false],.bool h])) (t:ω (γ .i64 ((k:Int)+((1:Nat):Int)))=ω ((k+1:Nat):Int)) (h0:lit false (!h)=true) (u:(Xzv e (IG 9))=true) (n:(decide (((0:Nat):Int)≤(k:Int)))=true) (w:(decide ((k:Int)<(d.length:Int)))=true) (z:lit true (decide ((k:Int)<(d.length:Int)))=true):ai prog ap [] nt (ac 2 (af f88)) ⟨[(1,.ptr 0 0 0),(2,.ptr 1 0 0),(3,.ptr 2 0 0),(45,.sl (dB d) d.length f),(46,ω (d.length:Int)),(47,ω (k:Int))],(Dq i d j f ks vs e g),.dead,[]⟩ (.normal) ⟨[(1,.ptr 0 0 0),(2,.ptr 1 0 0),(3,.ptr 2 0 0),(45,.sl (dB d) d.length f),(46,ω (d.length:Int)),(47,ω ((k+1:Nat):Int))],(Dq i d j f ks vs e g),.dead,[]⟩:=pN 88 [] 2 1 (.c h0 (.k 2 u (.k 7 n (.c w (.c z .nil))))) (.v 66 (.eq t) (.v 56 m (.v 49 (.ppt y) .nil))) q
theorem Z8 (ks vs e h:List AV) (k:Nat) (g:List Lk) (c:List Sc) (f d:Bool) {nt:Nat} (i:68≤nt) (h0:lit false (decide ((k:Int)<(c.length:Int)))=true):ai prog ap [] nt (ac 2 (af f88)) ⟨[(1,.ptr 0 0 0),(2,.ptr 1 0 0),(3,.ptr 2 0 0),(45,.sl (dB c) c.length d),(46,ω (c.length:Int)),(47,ω (k:Int))],(Dq g c f d ks vs e h),.dead,[]⟩ (.exit 2) ⟨[(1,.ptr 0 0 0),(2,.ptr 1 0 0),(3,.ptr 2 0 0)],(Dq g c f d ks vs e h),.dead,[]⟩:=pN 88 [] 1 0 (.c h0 .nil) (.nil) i
theorem Wg (ks vs g h:List AV) (c:List Lk) (d:List Sc) (e f:Bool) (j:aG prog ap [] 68 (.block 0 (.loop (ac 0 (af f88)))) ⟨[(0,.agg [.sl (fK c) c.length e,.sl (dB d) d.length f]),(1,.ptr 0 0 0),(2,.ptr 1 0 0),(3,.ptr 2 0 0),(5,.dead),(6,.dead),(8,.dead),(10,.dead),(12,.dead),(17,.sl (fK c) c.length e),(18,ω (c.length:Int)),(19,ω 0),(20,.dead),(36,.dead),(45,.dead),(46,.dead),(47,.dead),(48,.dead),(60,.dead)],(Dq c d e f [] [] [] []),.dead,[]⟩ (.normal) ⟨[(1,.ptr 0 0 0),(2,.ptr 1 0 0),(3,.ptr 2 0 0)],(Dq c d e f ks vs [] []),.dead,[]⟩) (i:aG prog ap [] 68 (.block 2 (.loop (ac 2 (af f88)))) ⟨[(0,.dead),(1,.ptr 0 0 0),(2,.ptr 1 0 0),(3,.ptr 2 0 0),(5,.dead),(6,.dead),(8,.dead),(10,.dead),(12,.dead),(17,.dead),(18,.dead),(19,.dead),(20,.dead),(36,.dead),(45,.sl (dB d) d.length f),(46,ω (d.length:Int)),(47,ω 0),(48,.dead),(60,.dead)],(Dq c d e f ks vs [] []),.dead,[]⟩ (.normal) ⟨[(1,.ptr 0 0 0),(2,.ptr 1 0 0),(3,.ptr 2 0 0)],(Dq c d e f ks vs g h),.dead,[]⟩):CO 88 [.agg [.sl (fK c) c.length e,.sl (dB d) d.length f]] (.ret (.agg [.mp ks vs,.mp g h])):=pK [0,2] 0 0 (.n 8 .nil) (.l i (.l j .nil))
theorem V7 (o:Oq) (f g:Bool) (d h name:List UInt8) (c:Int) (ks vs e i:List AV) (h0:lit true (decide (c≤((4:Nat):Int)))=true) (j:CO 122 [.agg [.mp ks vs,.mp e i],.agg [ω c,.bool f,.str d,.str h,.str name],.sl [] 0 g] (.ret (dQ o))):CO 89 [.agg [.mp ks vs,.mp e i],.agg [ω c,.bool f,.str d,.str h,.str name],.sl [] 0 g] (.ret (dQ o)):=pK [] 2 1 (.k 13 h0 (.n 3 .nil)) (.c j .nil)
theorem V8 (o:Oq) (f g:Bool) (d h name:List UInt8) (c:Int) (ks vs e i:List AV) (h0:lit true (decide (c≤((8:Nat):Int)))=true) (j:lit false (decide (c≤((4:Nat):Int)))=true) (k:CO 123 [.agg [.mp ks vs,.mp e i],.agg [ω c,.bool f,.str d,.str h,.str name],.sl [] 0 g] (.ret (dQ o))):CO 89 [.agg [.mp ks vs,.mp e i],.agg [ω c,.bool f,.str d,.str h,.str name],.sl [] 0 g] (.ret (dQ o)):=pK [] 3 2 (.k 13 h0 (.k 1 j (.n 3 .nil))) (.c k .nil)
theorem V9 (c:Oq) (i j:Bool) (f m name:List UInt8) (d:Int) (ks vs h n:List AV) (h0:lit true (!(c.e==((0:Nat):Int)))=true) (e:lit false (d==((15:Nat):Int))=true) (k:lit false (decide (d≤((8:Nat):Int)))=true) (g:lit false (decide (d≤((4:Nat):Int)))=true):CO 89 [.agg [.mp ks vs,.mp h n],.agg [ω d,.bool i,.str f,.str m,.str name],.sl [.bool c.n,.str c.a,.str c.d,ω c.e] 1 j] (.ret (dQ c)):=pK [] 6 56 (.k 9 h0 (.k 12 e (.k 1 k (.k 1 g (.n 3 .nil))))) (.nil)
theorem V_ (c o:Oq) (g h:Bool) (e i name:List UInt8) (d:Int) (ks vs f j:List AV) (h0:lit false (!(c.e==((0:Nat):Int)))=true) (k:lit false (d==((15:Nat):Int))=true) (p:lit false (decide (d≤((8:Nat):Int)))=true) (m:lit false (decide (d≤((4:Nat):Int)))=true) (n:CO 125 [.agg [.mp ks vs,.mp f j],.agg [ω d,.bool g,.str e,.str i,.str name],.sl [.bool c.n,.str c.a,.str c.d,ω c.e] 1 h] (.ret (dQ o))):CO 89 [.agg [.mp ks vs,.mp f j],.agg [ω d,.bool g,.str e,.str i,.str name],.sl [.bool c.n,.str c.a,.str c.d,ω c.e] 1 h] (.ret (dQ o)):=pK [] 7 24 (.k 11 h0 (.k 12 k (.k 1 p (.k 1 m (.n 3 .nil))))) (.c n .nil)
theorem Wc (c e:Oq) (k m:Bool) (g o name:List UInt8) (d:Int) (ks vs j h:List AV) (h0:lit true (!(c.e==((0:Nat):Int)))=true) (f:lit false (d==((15:Nat):Int))=true) (n:lit false (decide (d≤((8:Nat):Int)))=true) (i:lit false (decide (d≤((4:Nat):Int)))=true):CO 89 [.agg [.mp ks vs,.mp j h],.agg [ω d,.bool k,.str g,.str o,.str name],.sl [.bool c.n,.str c.a,.str c.d,ω c.e,.bool e.n,.str e.a,.str e.d,ω e.e] 2 m] (.ret (dQ c)):=pK [] 6 48 (.k 9 h0 (.k 10 f (.k 1 n (.k 1 i (.n 3 .nil))))) (.nil)
theorem Wd (d c:Oq) (k m:Bool) (g p name:List UInt8) (e:Int) (ks vs j h:List AV) (h0:lit true (!(c.e==((0:Nat):Int)))=true) (f:lit false (!(d.e==((0:Nat):Int)))=true) (n:lit false (e==((15:Nat):Int))=true) (i:lit false (decide (e≤((8:Nat):Int)))=true) (o:lit false (decide (e≤((4:Nat):Int)))=true):CO 89 [.agg [.mp ks vs,.mp j h],.agg [ω e,.bool k,.str g,.str p,.str name],.sl [.bool d.n,.str d.a,.str d.d,ω d.e,.bool c.n,.str c.a,.str c.d,ω c.e] 2 m] (.ret (dQ c)):=pK [] 8 208 (.k 9 h0 (.k 9 f (.k 10 n (.k 1 i (.k 1 o (.n 3 .nil)))))) (.nil)
theorem We (d c o:Oq) (h j:Bool) (g k name:List UInt8) (e:Int) (ks vs f i:List AV) (h0:lit false (!(c.e==((0:Nat):Int)))=true) (p:lit false (!(d.e==((0:Nat):Int)))=true) (n:lit false (e==((15:Nat):Int))=true) (q:lit false (decide (e≤((8:Nat):Int)))=true) (r:lit false (decide (e≤((4:Nat):Int)))=true) (m:CO 121 [.agg [.mp ks vs,.mp f i],.agg [ω e,.bool h,.str g,.str k,.str name],.sl [.bool d.n,.str d.a,.str d.d,ω d.e,.bool c.n,.str c.a,.str c.d,ω c.e] 2 j] (.ret (dQ o))):CO 89 [.agg [.mp ks vs,.mp f i],.agg [ω e,.bool h,.str g,.str k,.str name],.sl [.bool d.n,.str d.a,.str d.d,ω d.e,.bool c.n,.str c.a,.str c.d,ω c.e] 2 j] (.ret (dQ o)):=pK [] 9 80 (.k 11 h0 (.k 9 p (.k 10 n (.k 1 q (.k 1 r (.n 3 .nil)))))) (.c m .nil)
theorem Wf (c e d o:Oq) (j k:Bool) (g m name:List UInt8) (f:Int) (ks vs i h:List AV) (h0:lit true (f==((15:Nat):Int))=true) (n:lit false (decide (f≤((8:Nat):Int)))=true) (q:lit false (decide (f≤((4:Nat):Int)))=true) (p:CO 124 [.agg [.mp ks vs,.mp i h],.agg [ω f,.bool j,.str g,.str m,.str name],.sl [.bool c.n,.str c.a,.str c.d,ω c.e,.bool e.n,.str e.a,.str e.d,ω e.e,.bool d.n,.str d.a,.str d.d,ω d.e] 3 k] (.ret (dQ o))):CO 89 [.agg [.mp ks vs,.mp i h],.agg [ω f,.bool j,.str g,.str m,.str name],.sl [.bool c.n,.str c.a,.str c.d,ω c.e,.bool e.n,.str e.a,.str e.d,ω e.e,.bool d.n,.str d.a,.str d.d,ω d.e] 3 k] (.ret (dQ o)):=pK [] 3 4 (.k 12 h0 (.k 1 n (.k 1 q (.n 3 .nil)))) (.c p .nil)
def AO (m:List AV × List AV) (k v:AV):List AV × List AV:=if (cE m.1 m.2 k).isSome then m else (sA m.1 k,kU m.1 m.2 k v)
theorem yj (k v q:AV):∀ (ks vs:List AV),ks.length=vs.length→cE (ks++ [k]) (vs++ [v]) q=(cE ks vs q).or (if q_ q k then some v else none)
 | [],[],_=>by simp [cE];cases q_ q k<;>rfl
 |a::ks,b::vs,h=>by
  simp only [List.cons_append,cE];cases q_ q a with
  |true=>rfl
  |false=>exact yj k v q ks vs (by simpa using h)
 | [],_::_,h=>by simp at h
 |_::_,[],h=>by simp at h
theorem BD (q v:AV):∀ (ks vs:List AV),ks.length=vs.length→cE ks vs q=none→ks.any (q_ q)=false∧kU ks vs q v=vs++ [v]
 | [],[],_,_=> ⟨rfl,rfl⟩
 | a::ks,b::vs,h,hf=>by
  simp only [cE] at hf;cases c:q_ q a with
  |true=>rw [c] at hf;cases hf
  |false=>
   rw [c] at hf;obtain ⟨d,e⟩:=BD q v ks vs (by simpa using h) hf;exact ⟨by simp [c,d],by simp [kU,c,e]⟩
 | [],_::_,h,_=>by simp at h
 |_::_,[],h,_=>by simp at h
structure JL {α:Type} (kf vf:α→AV) (p:List α) (m:List AV × List AV):Prop where
 len:m.1.length=m.2.length
 find:∀ y,cE m.1 m.2 (kf y)=(p.find? fun x=>q_ (kf y) (kf x)).map vf
 keys:∀ k ∈ m.1,∃ x,k=kf x
theorem JL.step {α:Type} {c vf:α→AV} (j:∀ x y,q_ (c x) (c y)=true→c x=c y) {p:List α} {m:List AV × List AV} (h:JL c vf p m) (x:α):JL c vf (p++ [x]) (AO m (c x) (vf x)):=by
 unfold AO;cases hs:cE m.1 m.2 (c x) with
 | some v=>
  rw [if_pos (by rfl)];refine ⟨h.len,fun y=> ?_,h.keys⟩;rw [h.find y,Xk8];cases hp:p.find? (fun x=>q_ (c y) (c x)) with
  |some z=>rfl
  | none=>
   have g:=h.find x;rw [hs] at g;cases f:q_ (c y) (c x) with
   |false=>simp [f]
   |true=>
    rw [← j y x f,hp] at g;cases g
 | none=>
  obtain ⟨i,n⟩:=BD (c x) (vf x) m.1 m.2 h.len hs;have e:sA m.1 (c x)=m.1++ [c x]:=by unfold sA;rw [i]
  rw [if_neg (by simp),e,n];refine ⟨by simp [h.len],fun y=> ?_,fun k d=> ?_⟩
  ·rw [yj _ _ _ _ _ h.len,h.find y,Xk8];cases hp:p.find? (fun x=>q_ (c y) (c x)) with
   |some z=>rfl
   |none=>cases f:q_ (c y) (c x)<;>simp [f]
  ·rcases List.mem_append.1 d with d|d
   ·exact h.keys k d
   ·rw [Xjc] at d;exact ⟨x,d⟩
def AZ {α:Type} (kf vf:α→AV) (p:List α):List AV × List AV:=p.foldl (fun m x=>AO m (kf x) (vf x)) ([],[])
theorem ve {α:Type} (c vf:α→AV) (p:List α) (x:α):AZ c vf (p++ [x])=AO (AZ c vf p) (c x) (vf x):=by unfold AZ;rw [List.foldl_append];rfl
theorem yV {α:Type} {c vf:α→AV} (d:∀ x y,q_ (c x) (c y)=true→c x=c y) (l:List α):JL c vf l (AZ c vf l):=by
 have key:∀ (r p:List α),JL c vf p (AZ c vf p)→JL c vf (p++r) (AZ c vf (p++r)):=by
  intro r
  induction r with
  |nil=>intro p h;simpa using h
  |cons x r ih=>
   intro p h;have e:=h.step d x;rw [← ve] at e;have:=ih (p++ [x]) e;simpa using this
 exact key l [] ⟨rfl,fun y=>rfl,fun k d=>by simp [AZ] at d⟩
def LN (x:Lk):AV:= .agg [ω x.op,.str x.nm]
def RC (x:Lk):Oq:=wO x.n x.a x.d x.e
def uV (ls:List Lk):List AV × List AV:=AZ LN (fun x=>dQ (RC x)) ls
theorem IK (x y:Lk) (h:q_ (LN x) (LN y)=true):LN x=LN y:=by
 simp only [LN,q_,CS,yf,Xws,π,beq_iff_eq] at h;unfold LN;rw [h.1,h.2]
def OQ (c:Sc):AV:= .str c.name
def xn (cs:List Sc):List AV × List AV:=AZ OQ (fun c=> .agg (wM c)) cs
theorem Jl (x y:Sc) (h:q_ (OQ x) (OQ y)=true):OQ x=OQ y:=by
 simp only [OQ,q_,beq_iff_eq] at h;unfold OQ;rw [h]
def AW (ls:List Lk) (op:Int) (nm:List UInt8):Option Oq:=(ls.find? fun y=>(op==y.op) && (nm==y.nm)).map RC
def scO (cs:List Sc) (nm:List UInt8):Option Sc:=cs.find? fun c=>nm==c.name
theorem ES (c:List Lk) (d:Int) (e:List UInt8):cE (uV c).1 (uV c).2 (.agg [ω d,.str e])=(AW c d e).map (fun o=>dQ o):=by
 have h:=(yV (vf:=fun x=>dQ (RC x)) IK c).find ⟨d,e,false,[],[],0⟩;unfold uV AW;rw [Option.map_map];refine h.trans ?_;congr 1;congr 1;funext y;simp [LN,q_,CS,yf]
theorem Fy (d:List Sc) (e:List UInt8):cE (xn d).1 (xn d).2 (.str e)=(scO d e).map (fun c=> .agg (wM c)):=by
 have h:=(yV (vf:=fun c=>AV.agg (wM c)) Jl d).find ⟨e,0,0,[],0⟩;exact h
theorem Uf {α:Type} {c vf:α→AV} (d:∀ x y,q_ (c x) (c y)=true→c x=c y) (t:Nat) (f:∀ x,IG t (c x)=true) (l:List α):Xzv (AZ c vf l).1 (IG t)=true:=by
 rw [List.all_eq_true];intro k e;obtain ⟨x,rfl⟩:=(yV (vf:=vf) d l).keys k e;exact f x
theorem WT (x:Lk):IG 158 (LN x)=true:=by kernel_rfl
theorem WU (c:Sc):IG 9 (OQ c)=true:=by kernel_rfl
theorem xf (c:List Lk):Xzv (uV c).1 (IG 158)=true:=Uf IK 158 WT c
theorem xo (c:List Sc):Xzv (xn c).1 (IG 9)=true:=Uf Jl 9 WU c
def zO:Oq:= .val ⟨false,0,0⟩
theorem ajY:dQ zO= .agg [.bool false,.str [],.str [],ω 0]:=by
 show AV.agg [.bool false,.str (aa 0),.str (aa 0),ω 0]=_;rw [b_]
theorem UF (c:List Lk) (d:Int) (e:List UInt8):Yqy [(Xz2 (cE (uV c).1 (uV c).2 (.agg [ω d,.str e])) (.agg [.bool false,.str [],.str [],ω 0])),.bool (Xj3 (cE (uV c).1 (uV c).2 (.agg [ω d,.str e])))]=Yqy [dQ ((AW c d e).getD zO),.bool (AW c d e).isSome]:=by
 rw [ES];cases AW c d e with
 |none=>simp only [Option.map_none,Option.getD_none,Option.isSome_none];rw [ajY]
 |some x=>rfl
theorem ET {l:List Lk} {k:Nat} (h:k<l.length):ε (δ (k:Int)*6) (fK l)=AG l[k]++fK (l.drop (k+1)):=by
 rw [av];exact tV AG 6 (fun _=>rfl) h
theorem aN.tupL {l r:List AV} (h:fI l r):aN (.tup l) (.tup r):=by
 intro g m S v c;simp only [VR] at c ⊢;obtain ⟨vs,e,c⟩:=c;exact ⟨vs,e,h g m S vs c⟩
theorem aN.zsc:aN (.tup [.agg [.str [],ω 0,ω 0,.nilS],.bool false]) (.tup [.agg [.str [],ω 0,ω 0,.sl [] 0 false],.bool false]):=
 aN.tupL (fI.cons (aN.agg (fI.cons (aN.refl _) (fI.cons (aN.refl _) (fI.cons (aN.refl _) (fI.cons (aN.nilS false rfl) (fI.refl _)))))) (fI.refl _))
abbrev ajp (ls:List Lk) (cs:List Sc) (nl ns:Bool) (p:Nat × (List AV × List AV)):St:=⟨[(1,.ptr 0 0 0),(2,.ptr 1 0 0),(3,.ptr 2 0 0),(17,.sl (fK ls) ls.length nl),(18,ω (ls.length:Int)),(19,ω (p.1:Int))],Dq ls cs nl ns p.2.1 p.2.2 [] [],.dead,[]⟩
abbrev opO (ls:List Lk) (cs:List Sc) (nl ns:Bool) (a b:List AV × List AV):St:=⟨[(1,.ptr 0 0 0),(2,.ptr 1 0 0),(3,.ptr 2 0 0)],Dq ls cs nl ns a.1 a.2 b.1 b.2,.dead,[]⟩
abbrev ajq (ls:List Lk) (cs:List Sc) (nl ns:Bool) (a:List AV × List AV) (p:Nat × (List AV × List AV)):St:=⟨[(1,.ptr 0 0 0),(2,.ptr 1 0 0),(3,.ptr 2 0 0),(45,.sl (dB cs) cs.length ns),(46,ω (cs.length:Int)),(47,ω (p.1:Int))],Dq ls cs nl ns a.1 a.2 p.2.1 p.2.2,.dead,[]⟩
theorem LW {m:List AV × List AV} {k v:AV} (h:(cE m.1 m.2 k).isSome=true):AO m k v=m:=by unfold AO;rw [if_pos h]
theorem LV {m:List AV × List AV} {k v:AV} (h:(cE m.1 m.2 k).isSome=false):AO m k v=(sA m.1 k,kU m.1 m.2 k v):=by unfold AO;rw [if_neg (by rw [h];simp)]
theorem Sj {nt:Nat} (o:68≤nt) (c:List Lk) (j:List Sc) (f g:Bool) (y:c.length<2^60) (hs:∀ x ∈ c,x.a.length<2^36∧x.d.length<2^36):∀ (r p:List Lk),c=p++r→
  az prog ap [] nt (ac 0 (af f88)) (fun _=> .exit 0) (ajp c j f g) (fun q:List AV × List AV=>opO c j f g q ([],[])) (p.length,uV p) (uV c):=by
 intro r
 induction r with
 |nil=>
  intro p hp;rw [Xqa] at hp;subst hp;exact .done (Z5 _ _ _ c j f g o (ay (Yq1 (by omega))))
 | cons x r ih=>
  intro p hp;have u:p.length<c.length:=by rw [hp];simp
  have t:=ET u;rw [show c[p.length]=x by subst hp;simp] at t;have d:=ih (p++ [x]) (by rw [hp];simp);rw [κ,τ] at d;have e:uV (p++ [x])=AO (uV p) (LN x) (dQ (RC x)):=ve _ _ p x;rw [e] at d;have m:=UF p x.op x.nm;have h:=congrArg Xj3 (ES p x.op x.nm);rw [Option.isSome_map] at h;have w:decide (((0:Nat):Int)≤(p.length:Int))=true:=Yq0 (by omega);have n:decide ((p.length:Int)<(c.length:Int))=true:=Yq0 (by omega);have i:=hs x (by rw [hp];simp);cases v:(AW p x.op x.nm).isSome with
  |true=>
   rw [v] at m h;rw [LW (k:=LN x) h] at d;exact .next (Z4 _ _ p.length c j x f g true _ _ o t m (oH (by omega)) rfl (xf p) w n (aw n)) d
  |false=>
   rw [v] at m h;rw [LV (k:=LN x) h] at d;exact .next (Z3 _ _ p.length c j x f g false _ (RC x) _ o t m (oH (by omega)) (xf p) rfl w n (aw n) (Cg x.n x.a x.d x.e i.1 i.2)) d
theorem Sk {nt:Nat} (o:68≤nt) (j:List Lk) (d:List Sc) (h i:Bool) (a:List AV × List AV) (w:d.length<2^60):∀ (r p:List Sc),d=p++r→
  az prog ap [] nt (ac 2 (af f88)) (fun _=> .exit 2) (ajq j d h i a) (fun q:List AV × List AV=>opO j d h i a q) (p.length,xn p) (xn d):=by
 intro r
 induction r with
 |nil=>
  intro p hp;rw [Xqa] at hp;subst hp;exact .done (Z8 _ _ _ _ _ j d h i o (ay (Yq1 (by omega))))
 | cons x r ih=>
  intro p hp;have t:p.length<d.length:=by rw [hp];simp
  have n:=zW t;rw [show d[p.length]=x by subst hp;simp] at n;have g:=ih (p++ [x]) (by rw [hp];simp);rw [κ,τ] at g;have e:xn (p++ [x])=AO (xn p) (OQ x) (.agg (wM x)):=ve _ _ p x;rw [e] at g;have f:=Fy p x.name;have v:decide (((0:Nat):Int)≤(p.length:Int))=true:=Yq0 (by omega);have m:decide ((p.length:Int)<(d.length:Int))=true:=Yq0 (by omega);cases u:scO p x.name with
  |some c=>
   rw [u] at f;rw [LW (k:=OQ x) (show (cE (xn p).1 (xn p).2 (.str x.name)).isSome=true by rw [f];rfl)] at g;exact .next (Z7 _ _ _ a.1 a.2 _ _ _ _ p.length j d x h i true _ o n (by rw [f];exact aN.refl _) (oH (by omega)) rfl (xo p) v m (aw m)) g
  |none=>
   rw [u] at f;rw [LV (k:=OQ x) (show (cE (xn p).1 (xn p).2 (.str x.name)).isSome=false by rw [f];rfl)] at g;exact .next (Z6 [] 0 0 a.1 a.2 _ _ [] 0 p.length j d x h i false _ o n (by rw [f];exact aN.zsc) (oH (by omega)) (xo p) rfl v m (aw m)) g
theorem Mz (c:List Lk) (d:List Sc) (e f:Bool) (i:c.length<2^60) (h:d.length<2^60) (hs:∀ x ∈ c,x.a.length<2^36∧x.d.length<2^36):CO 88 [.agg [.sl (fK c) c.length e,.sl (dB d) d.length f]] (.ret (.agg [.mp (uV c).1 (uV c).2,.mp (xn d).1 (xn d).2])):=
 Wg _ _ _ _ c d e f
  (az.blk (id:=0) (e':= .normal) (s:=⟨_,_,_,_⟩) (s':=opO c d e f (uV c) ([],[])) (fun nt g=>Sj g c d e f i hs c [] rfl) (by simp) rfl (aJ.of ⟨rfl,rfl,rfl,rfl,rfl,rfl,trivial⟩) (aJ.refl _))
  (az.blk (id:=2) (e':= .normal) (s:=⟨_,_,_,_⟩) (s':=opO c d e f (uV c) (xn d)) (fun nt g=>Sk g c d e f (uV c) h d [] rfl) (by simp) rfl (aJ.of ⟨rfl,rfl,rfl,rfl,rfl,rfl,trivial⟩) (aJ.refl _))
end Go.Proofs.Tryz
