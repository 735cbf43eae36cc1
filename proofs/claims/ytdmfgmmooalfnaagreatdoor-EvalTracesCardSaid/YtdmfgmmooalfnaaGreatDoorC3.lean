/- Contracts of functions; joined by a program of mine. -/
import Derived.Test.YtdmfgmmooalfnaaGreatDoorC2
import Derived.Test.YtdmfgmmooalfnaaGreatDoorC1
import Derived.Test.YtdmfgmmooalfnaaGreatDoorM5
set_option linter.unusedSimpArgs false
set_option linter.unusedVariables false
set_option maxRecDepth 100000
set_option linter.unusedVariables false
open Go AM
open AV renaming toInt->Γ,int->Xxx,tup->Yqp
open List renaming headD->θ,drop->ε,length->ζ,take->κ,length_cons->ν,headD_cons->Xjm,tail_cons->Xzl,length_append->η,length_singleton->τ,replicate->μ,length_nil->Xqf,replicate_zero->Xwg,append_nil->Δ,replicate_succ->Xxi,append_assoc->υ,singleton_append->Xqt,nil_append->Xqi,replicate_append_replicate->Xwy,take_length->Xqz,length_replicate->Xx7,map_drop->Xj9,length_drop->Xx0,drop_drop->Xjw,takeWhile_cons_of_neg->Xwa,all->Xzy,drop_append->Xzh,drop_of_length_le->Xxv,drop_eq_getElem_cons->Xxs,getD_eq_getElem?_getD->ξ,getElem?_eq_getElem->π,any_cons->Xv5,flatMap_cons->Xxk,drop_left->Xzm,take_of_length_le->ο,flatMap_append->Xq9,getElem_mem->Xxp,mem_singleton->Xx6,all_cons->Xx5,find?_append->Xk5,mem_of_getElem?->Xql,length_eq_zero_iff->Xv6
open Int renaming toNat->δ,tmod->Xxd,tdiv->Xxl,fdiv->Xq0,natAbs_neg->Xvr,natAbs_natCast->Xjr
open IntKind renaming wrap->γ
open Nat renaming ble->Φ,mul_le_mul->Xw1,mod_lt->Xqy,pow_succ->Xq3,mul_comm->Xqh,mul_assoc->Xqr,mul_add->Xxe,mul_left_comm->Xwu,add_mul->Xxt,zero_add->Ψ,mul_one->Θ,ble_eq->Xzp,lt_of_lt_of_le->Xqa,pow_mul->Xjf,pow_le_pow_left->Xku,add_comm->Xx1,lt_or_ge->Xq2,lt_of_le_of_lt->Xqj,mod_eq_of_lt->Ξ,eq_zero_or_pos->Xqb,add_zero->Xq1,sub_le->Xww,mul_pos->Xjg,le_refl->χ,pow_add->Xxo,pow_le_pow_right->Xqc,div_le_self->Xjn,le_trans->Xxg,gcd->Xxy,mul_div_cancel_left->Xwn,exists_eq_add_of_le->Xv4,add_sub_cancel_left->Xjp,gcd_one_right->Xvx,zero_le->Xxr,add_sub_cancel->Xwm,two_pow_pos->Xqu,div_one->Xz3,lt_trans->Xq8,succ_mul->Xkk,lt_trichotomy->Xze,not_lt_zero->Xz5,one_le_pow->Xkq,mul_le_mul_left->Xqx,ble_eq_true_of_le->Xqe,le_of_ble_eq_true->Xz2
open Bool renaming and_eq_true->φ,and_true->Xjz,false_eq_true->Xji,true_and->Xjh,false_or->Xwp,false_and->Xjs,and_false->Xzv,eq_iff_iff->Xxj
open Option renaming getD->Xz4,isSome->Xza
namespace Go.Proofs.Tryz
theorem ap0 {nt:Nat} (F:92<=nt) (u v o:List Nat) (i j c a x y:Nat) (k:ω (Γ (θ (ε ((0+(δ (((i+j):Nat):Int)))*1) (ai o)) .dead))= ω (x:Int)) (g:ω (Γ (θ (ε ((δ (i:Int))*1) (ai u)) .dead))= ω (a:Int)) (h:ω (Γ (θ (ε ((δ (j:Int))*1) (ai v)) .dead))= ω (y:Int)) (q:ω (γ .i64 ((a:Int)*(y:Int)))= ω (((a*y):Nat):Int)) (r:ω (γ .i64 ((x:Int)+(((a*y):Nat):Int)))= ω (((x+a*y):Nat):Int)) (f:ω (γ .i64 ((((x+a*y):Nat):Int)+(c:Int)))= ω (((x+a*y+c):Nat):Int)) (d:ω (γ .i64 ((i:Int)+(j:Int)))= ω (((i+j):Nat):Int)) (p:ω (Xxd (((x+a*y+c):Nat):Int) ((16777216:Nat):Int))= ω ((((x+a*y+c) % 16777216):Nat):Int)) (m:ω (γ .i64 (Xxl (((x+a*y+c):Nat):Int) ((16777216:Nat):Int)))= ω ((((x+a*y+c) / 16777216):Nat):Int)) (n:ω (γ .i64 ((j:Int)+((1:Nat):Int)))= ω (((j+1):Nat):Int)) (C:(Φ (((0+(δ (((i+j):Nat):Int)))*1)+1) (ζ (ai o)))=true) (t:(decide (((0:Nat):Int)<=(((i+j):Nat):Int)))=true) (w:(decide ((((i+j):Nat):Int)<(o.length:Int)))=true) (B:(chk (.int .i64) (θ (ε ((δ (j:Int))*1) (ai v)) .dead))=true) (G:(decide (((0:Nat):Int)<=(j:Int)))=true) (z:(chk (.int .i64) (θ (ε ((δ (i:Int))*1) (ai u)) .dead))=true) (E:(decide (((0:Nat):Int)<=(i:Int)))=true) (D:(decide ((i:Int)<(u.length:Int)))=true) (A:(chk (.int .i64) (θ (ε ((0+(δ (((i+j):Nat):Int)))*1) (ai o)) .dead))=true) (e:(decide ((j:Int)<(v.length:Int)))=true):aj prog ap [] nt (af 2 (ah f100)) ⟨[(9,.sl (ai u) u.length false),(10,.sl (ai v) v.length false),(11,.ref 0 0 0 o.length),(12,ω (i:Int)),(13,ω (c:Int)),(14,ω (j:Int))],[(0,⟨(ai o),0,false,0,1,true⟩)],.dead,[]⟩ (.normal) ⟨[(9,.sl (ai u) u.length false),(10,.sl (ai v) v.length false),(11,.ref 0 0 0 o.length),(12,ω (i:Int)),(13,ω ((((x+a*y+c) / 16777216):Nat):Int)),(14,ω (((j+1):Nat):Int))],[(0,⟨(κ ((0+(δ (((i+j):Nat):Int)))*1) (ai o)++ [ω ((((x+a*y+c) % 16777216):Nat):Int)]++ε (((0+(δ (((i+j):Nat):Int)))*1)+1) (ai o)),0,false,0,1,true⟩)],.dead,[]⟩:=pN 100 [] 1 1 (.k 1 C (.c t (.c w (.k 1 B (.c G (.c e (.c z (.c E (.c D (.c A (.c t (.c w (.c (aA e) .nil))))))))))))) (.v 55 (.eq n) (.v 82 (.eq m) (.v 79 (.eq p) (.v 77 (.eq d) (.v 73 (.eq f) (.v 71 (.eq r) (.v 70 (.eq q) (.v 69 (.eq h) (.v 65 (.eq g) (.v 61 (.eq k) (.v 59 (.eq d) .nil))))))))))) F
theorem ap1 {nt:Nat} (e:92<=nt) (u v o:List Nat) (i j c a x y:Nat) (d:(decide ((j:Int)<(v.length:Int)))=false):aj prog ap [] nt (af 2 (ah f100)) ⟨[(9,.sl (ai u) u.length false),(10,.sl (ai v) v.length false),(11,.ref 0 0 0 o.length),(12,ω (i:Int)),(13,ω (c:Int)),(14,ω (j:Int))],[(0,⟨(ai o),0,false,0,1,true⟩)],.dead,[]⟩ (.exit 2) ⟨[(9,.sl (ai u) u.length false),(10,.sl (ai v) v.length false),(11,.ref 0 0 0 o.length),(12,ω (i:Int)),(13,ω (c:Int))],[(0,⟨(ai o),0,false,0,1,true⟩)],.dead,[]⟩:=pN 100 [] 1 0 (.c (aB d) .nil) (.nil) e
abbrev VaD (a:Nat) (b:List Nat):Bool:=decide ((a:Int)<(b.length:Int))
abbrev VaR (a:List Nat) (b:List Nat) (c:List Nat) (d:Nat) (e:Nat):St:=⟨[(9,.sl (ai a) a.length false),(10,.sl (ai b) b.length false),(11,.ref 0 0 0 c.length),(12,ω (d:Int)),(13,ω (e:Int))],[(0,⟨(ai c),0,false,0,1,true⟩)],.dead,[]⟩
abbrev Vb4 (a:Nat):Prop:=ω (γ .i64 ((a:Int)+((1:Nat):Int)))= ω (((a+1):Nat):Int)
abbrev VbR (a:List Nat) (b:List Nat) (c:List Nat) (d:Nat):St:=⟨[(9,.sl (ai a) a.length false),(10,.sl (ai b) b.length false),(11,.ref 0 0 0 c.length),(12,ω (d:Int))],[(0,⟨(ai c),0,false,0,1,true⟩)],.dead,[]⟩
theorem ap2 {nt:Nat} (m:92<=nt) (u v o c:List Nat) (i f:Nat) (d:ω (γ .i64 ((i:Int)+(v.length:Int)))= ω (((i+v.length):Nat):Int)) (e:Vb4 i) (j:(Φ (((0+(δ (((i+v.length):Nat):Int)))*1)+1) (ζ (ai c)))=true) (k:(decide (((0:Nat):Int)<=(((i+v.length):Nat):Int)))=true) (g:(decide ((((i+v.length):Nat):Int)<(c.length:Int)))=true) (n:(VaD i u)=true) (h:aK prog ap [] 92 (.block 2 (.loop (af 2 (ah f100)))) ⟨[(0,.dead),(1,.dead),(4,.dead),(5,.dead),(6,.dead),(7,.dead),(8,.dead),(9,.sl (ai u) u.length false),(10,.sl (ai v) v.length false),(11,.ref 0 0 0 o.length),(12,ω (i:Int)),(13,ω 0),(14,ω 0),(15,.dead),(29,.dead),(47,.bool (VaD i u)),(53,.dead)],[(0,⟨(ai o),0,false,0,1,true⟩)],.dead,[]⟩ (.normal) (VaR u v c i f)):ψ nt f100 (VbR u v o i) (.normal) ⟨[(9,.sl (ai u) u.length false),(10,.sl (ai v) v.length false),(11,.ref 0 0 0 c.length),(12,ω (((i+1):Nat):Int))],[(0,⟨(κ ((0+(δ (((i+v.length):Nat):Int)))*1) (ai c)++ [ω (f:Int)]++ε (((0+(δ (((i+v.length):Nat):Int)))*1)+1) (ai c)),0,false,0,1,true⟩)],.dead,[]⟩:=pN 100 [2] 1 1 (.c j (.c k (.c g (.c (aA n) .nil)))) (.v 49 (.eq e) (.v 87 (.eq d) (.l h .nil))) m
abbrev VaP (a:List Nat):St:=⟨[(11,.ref 0 0 0 a.length)],[(0,⟨(ai a),0,false,0,1,true⟩)],.dead,[]⟩
theorem ap3 {nt:Nat} (d:92<=nt) (u v o e:List Nat) (i f:Nat) (c:(VaD i u)=false):ψ nt f100 (VbR u v o i) (.exit 0) (VaP o):=pN 100 [] 1 0 (.c (aB c) .nil) (.nil) d
theorem apX (s t:List UInt8) (x y z:Nat) (c:List Nat) (f:(decide (((0:Nat):Int)<=(γ .i64 ((((ax (ag s)).length:Nat):Int)+(((ax (ag t)).length:Nat):Int)))))=true) (g:(decide ((γ .i64 ((((ax (ag s)).length:Nat):Int)+(((ax (ag t)).length:Nat):Int)))=(γ .i64 ((((ax (ag s)).length:Nat):Int)+(((ax (ag t)).length:Nat):Int)))))=true) (d:(decide ((γ .i64 ((((ax (ag s)).length:Nat):Int)+(((ax (ag t)).length:Nat):Int)))<=((1099511627776:Nat):Int)))=true) (h:CO 134 [.str s,ω 3] (.ret (.tup [ω (x:Int),.bool true]))) (i:CO 134 [.str t,ω 4] (.ret (.tup [ω (y:Int),.bool false]))) (e:CO 135 [.str s] (.ret (.sl (ai (ax (ag s))) (ax (ag s)).length false))) (j:CO 135 [.str t] (.ret (.sl (ai (ax (ag t))) (ax (ag t)).length false))) (k:CO 136 [.sl (κ (c.length*1) (ai c)) c.length true] (.ret (.str (ae z)))) (m:aK prog ap [] 92 (.block 0 (.loop (af 0 (ah f100)))) ⟨[(0,.str s),(1,.str t),(4,.str []),(5,ω (x:Int)),(6,.bool true),(7,ω (y:Int)),(8,.bool false),(9,.sl (ai (ax (ag s))) (ax (ag s)).length false),(10,.sl (ai (ax (ag t))) (ax (ag t)).length false),(11,.ref 0 0 0 (δ (γ .i64 ((((ax (ag s)).length:Nat):Int)+(((ax (ag t)).length:Nat):Int))))),(12,ω 0),(13,.dead),(14,.dead),(15,.dead),(29,.bool false),(47,.dead),(53,.dead)],[(0,⟨(g_ (δ (γ .i64 ((((ax (ag s)).length:Nat):Int)+(((ax (ag t)).length:Nat):Int)))) [ω 0]),0,false,0,1,true⟩)],.dead,[]⟩ (.normal) ⟨[(11,.ref 0 0 0 c.length)],[(0,⟨(ai c),0,false,0,1,true⟩)],.dead,[]⟩):CO 100 [.str s,.str t] (.ret (.str (ae z))):=pK [0] 2 1 (.c f (.c g (.c d (.n 2 .nil)))) (.c k (.l m (.c j (.c e (.c i (.c h .nil))))))
theorem apY (s t:List UInt8) (x y z:Nat) (c:List Nat) (f:(decide (((0:Nat):Int)<=(γ .i64 ((((ax (ag s)).length:Nat):Int)+(((ax (ag t)).length:Nat):Int)))))=true) (g:(decide ((γ .i64 ((((ax (ag s)).length:Nat):Int)+(((ax (ag t)).length:Nat):Int)))=(γ .i64 ((((ax (ag s)).length:Nat):Int)+(((ax (ag t)).length:Nat):Int)))))=true) (d:(decide ((γ .i64 ((((ax (ag s)).length:Nat):Int)+(((ax (ag t)).length:Nat):Int)))<=((1099511627776:Nat):Int)))=true) (h:CO 134 [.str s,ω 3] (.ret (.tup [ω (x:Int),.bool false]))) (i:CO 134 [.str t,ω 4] (.ret (.tup [ω (y:Int),.bool true]))) (e:CO 135 [.str s] (.ret (.sl (ai (ax (ag s))) (ax (ag s)).length false))) (j:CO 135 [.str t] (.ret (.sl (ai (ax (ag t))) (ax (ag t)).length false))) (k:CO 136 [.sl (κ (c.length*1) (ai c)) c.length true] (.ret (.str (ae z)))) (m:aK prog ap [] 92 (.block 0 (.loop (af 0 (ah f100)))) ⟨[(0,.str s),(1,.str t),(4,.str []),(5,ω (x:Int)),(6,.bool false),(7,ω (y:Int)),(8,.bool true),(9,.sl (ai (ax (ag s))) (ax (ag s)).length false),(10,.sl (ai (ax (ag t))) (ax (ag t)).length false),(11,.ref 0 0 0 (δ (γ .i64 ((((ax (ag s)).length:Nat):Int)+(((ax (ag t)).length:Nat):Int))))),(12,ω 0),(13,.dead),(14,.dead),(15,.dead),(29,.bool false),(47,.dead),(53,.dead)],[(0,⟨(g_ (δ (γ .i64 ((((ax (ag s)).length:Nat):Int)+(((ax (ag t)).length:Nat):Int)))) [ω 0]),0,false,0,1,true⟩)],.dead,[]⟩ (.normal) ⟨[(11,.ref 0 0 0 c.length)],[(0,⟨(ai c),0,false,0,1,true⟩)],.dead,[]⟩):CO 100 [.str s,.str t] (.ret (.str (ae z))):=pK [0] 2 0 (.c f (.c g (.c d (.n 2 .nil)))) (.c k (.l m (.c j (.c e (.c i (.c h .nil))))))
theorem apZ (s t:List UInt8) (x y z:Nat) (c:List Nat) (f:(decide (((0:Nat):Int)<=(γ .i64 ((((ax (ag s)).length:Nat):Int)+(((ax (ag t)).length:Nat):Int)))))=true) (g:(decide ((γ .i64 ((((ax (ag s)).length:Nat):Int)+(((ax (ag t)).length:Nat):Int)))=(γ .i64 ((((ax (ag s)).length:Nat):Int)+(((ax (ag t)).length:Nat):Int)))))=true) (d:(decide ((γ .i64 ((((ax (ag s)).length:Nat):Int)+(((ax (ag t)).length:Nat):Int)))<=((1099511627776:Nat):Int)))=true) (h:CO 134 [.str s,ω 3] (.ret (.tup [ω (x:Int),.bool false]))) (i:CO 134 [.str t,ω 4] (.ret (.tup [ω (y:Int),.bool false]))) (e:CO 135 [.str s] (.ret (.sl (ai (ax (ag s))) (ax (ag s)).length false))) (j:CO 135 [.str t] (.ret (.sl (ai (ax (ag t))) (ax (ag t)).length false))) (k:CO 136 [.sl (κ (c.length*1) (ai c)) c.length true] (.ret (.str (ae z)))) (m:aK prog ap [] 92 (.block 0 (.loop (af 0 (ah f100)))) ⟨[(0,.str s),(1,.str t),(4,.str []),(5,ω (x:Int)),(6,.bool false),(7,ω (y:Int)),(8,.bool false),(9,.sl (ai (ax (ag s))) (ax (ag s)).length false),(10,.sl (ai (ax (ag t))) (ax (ag t)).length false),(11,.ref 0 0 0 (δ (γ .i64 ((((ax (ag s)).length:Nat):Int)+(((ax (ag t)).length:Nat):Int))))),(12,ω 0),(13,.dead),(14,.dead),(15,.dead),(29,.bool false),(47,.dead),(53,.dead)],[(0,⟨(g_ (δ (γ .i64 ((((ax (ag s)).length:Nat):Int)+(((ax (ag t)).length:Nat):Int)))) [ω 0]),0,false,0,1,true⟩)],.dead,[]⟩ (.normal) ⟨[(11,.ref 0 0 0 c.length)],[(0,⟨(ai c),0,false,0,1,true⟩)],.dead,[]⟩):CO 100 [.str s,.str t] (.ret (.str (ae z))):=pK [0] 2 0 (.c f (.c g (.c d (.n 2 .nil)))) (.c k (.l m (.c j (.c e (.c i (.c h .nil))))))
def Ig (a:Nat):List Nat->List Nat->Nat->List Nat × Nat
 |x::m,y::v,c=>((x+a*y+c) % 16777216::(Ig a m v ((x+a*y+c) / 16777216)).1,(Ig a m v ((x+a*y+c) / 16777216)).2)
 |_,_,c=>([],c)
theorem NR {a x y c:Nat} (h:a<16777216) (d:x<16777216) (e:y<16777216) (g:c<16777216):a*y<281474976710656/\x+a*y+c<281474976710656/\(x+a*y+c) / 16777216<16777216:=by
 have f:a*y<=16777215*16777215:=Xw1 (by omega) (by omega);omega
theorem KJ {a:Nat} (d:a<16777216):∀ (m v:List Nat) (c:Nat),m.length=v.length->c<16777216->bz m->bz v->(Ig a m v c).2<16777216/\bz (Ig a m v c).1/\(Ig a m v c).1.length=v.length/\dn (Ig a m v c).1+16777216^v.length*(Ig a m v c).2=dn m+a*dn v+c
 | [],[],c,_,hc,_,_=> ⟨hc,bz.nil,rfl,by simp [Ig,dn]⟩
 |x::m,y::v,c,hl,hc,hm,hv=>by
  obtain ⟨_,_,e⟩:=NR d hm.head hv.head hc;obtain ⟨f,g,i,j⟩:=KJ d m v _ (by simpa using hl) e hm.tail hv.tail;simp only [Ig];refine ⟨f,bz.cons (Xqy _ (by omega)) g,by simp [i], ?_⟩;simp only [dn,ν,Xq3];rw [Xqh (16777216^v.length),Xqr,Xxe,Xwu a];omega
 | [],_::_,_,h,_,_,_=>by simp at h
 |_::_,[],_,h,_,_,_=>by simp at h
def V_ (v:List Nat):List Nat->List Nat->List Nat
 | [],m=>m
 |a::u,m=>((Ig a m v 0).1++ [(Ig a m v 0).2]).headD 0::V_ v u ((Ig a m v 0).1++ [(Ig a m v 0).2]).tail
theorem Kt (l:List Nat) (y:Nat):∃ z m,l++ [y]=z::m/\m.length=l.length:=by
 cases l with
 |nil=>exact ⟨y,[],rfl,rfl⟩
 |cons b l=>exact ⟨b,l++ [y],rfl,by simp⟩
theorem SK {v:List Nat} (f:bz v):∀ (u m:List Nat),bz u->bz m->m.length=v.length->bz (V_ v u m)/\(V_ v u m).length=u.length+v.length/\dn (V_ v u m)=dn m+dn u*dn v
 | [],m,_,hm,hl=> ⟨hm,by simp [V_,hl],by simp [V_,dn]⟩
 | a::u,m,hu,hm,hl=>by
  obtain ⟨n,g,j,q⟩:=KJ hu.head m v 0 hl (by omega) hm f;obtain ⟨z,d,c,p⟩:=Kt (Ig a m v 0).1 (Ig a m v 0).2;have e:bz (z::d):=by rw [<- c];exact bz.app g (bz.cons n bz.nil)
  have k:dn (z::d)=dn m+a*dn v:=by
   rw [<- c,AO,j];simp only [dn];omega
  simp only [V_,c,Xjm,Xzl];obtain ⟨h,i,o⟩:=SK f u d hu.tail e.tail (by omega);refine ⟨bz.cons e.head h,by simp [i];omega, ?_⟩;simp only [dn] at k ⊢;rw [o,Xxt,Xxe,Xqr];omega
def alJ (u v:List Nat) (i:Nat) (p:Nat × List Nat × Nat):St:=⟨[(9,.sl (ai u) u.length false),(10,.sl (ai v) v.length false),(11,.ref 0 0 0 p.2.1.length),(12,ω (i:Int)),(13,ω (p.2.2:Int)),(14,ω (p.1:Int))],[(0,⟨ai p.2.1,0,false,0,1,true⟩)],.dead,[]⟩
def aqd (u v:List Nat) (i:Nat) (p:List Nat × Nat):St:=⟨[(9,.sl (ai u) u.length false),(10,.sl (ai v) v.length false),(11,.ref 0 0 0 p.1.length),(12,ω (i:Int)),(13,ω (p.2:Int))],[(0,⟨ai p.1,0,false,0,1,true⟩)],.dead,[]⟩
theorem ZA {p s:List Nat} {x y k:Nat} (h:k=p.length):κ ((0+(δ (k:Int)))*1) (ai (p++x::s))++ [ω (y:Int)]++ε (((0+(δ (k:Int)))*1)+1) (ai (p++x::s))=ai (p++y::s):=by
 rw [Ψ,Θ,aC,RZ (by rw [h];simp)];subst h;simp
theorem agW {p s:List Nat} {x k:Nat} (h:k=p.length):(θ (ε ((0+(δ (k:Int)))*1) (ai (p++x::s))) .dead)= ω (x:Int):=by
 rw [Ψ,Θ,aC];exact RY h
theorem RU {p s:List Nat} {x k:Nat} (h:k=p.length):(θ (ε ((δ (k:Int))*1) (ai (p++x::s))) .dead)= ω (x:Int):=by
 rw [Θ,aC];exact RY h
theorem Ue {a b:Nat} (h:a+b<9223372036854775808):ω (γ .i64 ((a:Int)+(b:Int)))= ω ((a+b:Nat):Int):=by
 rw [bQ,aS h]
theorem abN {nt:Nat} (D:92<=nt) (u u1 u2 v:List Nat) (a:Nat) (q:u=u1++a::u2) (N:a<16777216) (X:bz v) (E:u.length<2^36) (T:v.length<2^36):∀ (w m e d pp z:List Nat) (c:Nat),e++w=v->m.length=w.length->d.length=e.length->pp.length=u1.length->bz m->c<16777216->
  az prog ap [] nt (af 2 (ah f100)) (λ_=> .exit 2) (alJ u v u1.length) (aqd u v u1.length) (e.length,pp++d++m++z,c) (pp++d++(Ig a m w c).1++z,(Ig a m w c).2):=by
 intro w
 induction w with
 |nil=>
  intro m e d pp z c g h r t j A;have V:m= []:=List.length_eq_zero_iff.1 (by simpa using h);subst V;have i:e=v:=by simpa using g
  simp only [Ig];exact .done (ap1 D u v _ _ _ _ 0 0 0 (by rw [i];exact Yq1 (by omega)))
 | cons y w ih=>
  intro m e d pp z c g h r t j A;cases m with
  |nil=>simp at h
  | cons x m=>
   have Y:e.length+(w.length+1)=v.length:=by rw [<- g];simp
   have U:u1.length+(u2.length+1)=u.length:=by rw [q];simp
   have S:y<16777216:=X y (by rw [<- g];simp);obtain ⟨Z,b2,M⟩:=NR N j.head S A;have f:=ih m (e++ [y]) (d++ [(x+a*y+c) % 16777216]) pp z ((x+a*y+c) / 16777216) (by simp [g]) (by simpa using h) (by simp [r]) t j.tail M;simp only [Ig];rw [η,τ] at f;have P:pp++d++x::m++z=(pp++d)++x::(m++z):=by simp
   have I:pp++(d++ [(x+a*y+c) % 16777216])++m++z=(pp++d)++(x+a*y+c) % 16777216::(m++z):=by simp
   have J:pp++(d++ [(x+a*y+c) % 16777216])++(Ig a m w ((x+a*y+c) / 16777216)).1++z=pp++d++(x+a*y+c) % 16777216::(Ig a m w ((x+a*y+c) / 16777216)).1++z:=by simp
   rw [J] at f;refine .next ?_ f
   have C:u1.length+e.length=(pp++d).length:=by rw [η];omega
   have B:((pp++d)++x::(m++z)).length=(pp++d).length+(m++z).length+1:=by simp;omega
   have hlen2:((pp++d)++(x+a*y+c) % 16777216::(m++z)).length=((pp++d)++x::(m++z)).length:=by simp
   have O:=agW (p:=pp++d) (s:=m++z) (x:=x) C;have Q:(θ (ε ((δ (u1.length:Int))*1) (ai u)) .dead)= ω (a:Int):=by rw [q];exact RU rfl
   have W:(θ (ε ((δ (e.length:Int))*1) (ai v)) .dead)= ω (y:Int):=by rw [<- g];exact RU rfl
   have G:=ZA (p:=pp++d) (s:=m++z) (x:=x) (y:=(x+a*y+c) % 16777216) C;unfold alJ;simp only [P,I,hlen2];have hs:=ap0 D u v ((pp++d)++x::(m++z)) u1.length e.length c a x y;rw [G,O,Q,W] at hs;have n:u1.length<u.length:=by omega
   have k:e.length<v.length:=by omega
   have o:u1.length+e.length<((pp++d)++x::(m++z)).length:=by omega
   have H:ω (Xxd (((x+a*y+c):Nat):Int) ((16777216:Nat):Int))= ω ((((x+a*y+c) % 16777216):Nat):Int):=by rw [uV]
   have R:ω (γ .i64 (Xxl (((x+a*y+c):Nat):Int) ((16777216:Nat):Int)))= ω ((((x+a*y+c) / 16777216):Nat):Int):=by rw [qV,aS (by omega)]
   have F:ω (γ .i64 ((a:Int)*(y:Int)))= ω ((a*y:Nat):Int):=by rw [Ud (by omega)]
   have K:Φ (((0+(δ (((u1.length+e.length):Nat):Int)))*1)+1) (ζ (ai ((pp++d)++x::(m++z))))=true:=by
    rw [Xzp,aC,bM];omega
   apply hs<;>first|exact rfl|exact Ue (by omega)|exact H|exact R|exact F|exact K|exact oN _|exact lW n|exact lW k|exact lW o
def Yu (u v:List Nat) (p:Nat × List Nat):St:=⟨[(9,.sl (ai u) u.length false),(10,.sl (ai v) v.length false),(11,.ref 0 0 0 p.2.length),(12,ω (p.1:Int))],[(0,⟨ai p.2,0,false,0,1,true⟩)],.dead,[]⟩
def ahm (o:List Nat):St:=⟨[(11,.ref 0 0 0 o.length)],[(0,⟨ai o,0,false,0,1,true⟩)],.dead,[]⟩
theorem YR {nt:Nat} (h:92<=nt) (u v:List Nat) (e:bz u) (D:bz v) (k:u.length<2^36) (q:v.length<2^36):∀ (u2 u1 m pp:List Nat),u1++u2=u->m.length=v.length->pp.length=u1.length->bz m->
  az prog ap [] nt (af 0 (ah f100)) (λ_=> .exit 0) (Yu u v) ahm (u1.length,pp++m++μ u2.length 0) (pp++V_ v u2 m):=by
 intro u2
 induction u2 with
 |nil=>
  intro u1 m pp d i j n;have t:u1=u:=by simpa using d
  simp only [V_,Xqf,Xwg,Δ];exact .done (ap3 h u v _ [] _ 0 (by rw [t];exact Yq1 (by omega)))
 | cons a u2 ih=>
  intro u1 m pp d i j n;have O:u1.length+(u2.length+1)=u.length:=by rw [<- d];simp
  have C:a<16777216:=e a (by rw [<- d];simp);obtain ⟨I,J,R,Q⟩:=KJ C m v 0 i (by omega) n D;have B:=λnt (h:92<=nt)=>abN h u u1 u2 v a d.symm C D k q v m [] [] pp (μ (u2.length+1) 0) 0 rfl i rfl j n (by omega)
  simp only [V_];generalize Ig a m v 0=r at*
  obtain ⟨z,g,o,P⟩:=Kt r.1 r.2;have N:bz (z::g):=by rw [<- o];exact bz.app J (bz.cons I bz.nil)
  have c:=ih (u1++ [a]) g (pp++ [z]) (by simp [d]) (by omega) (by simp [j]) N.tail;simp only [o,Xjm,Xzl];rw [η,τ] at c;have G:pp++ [z]++V_ v u2 g=pp++z::V_ v u2 g:=by simp
  rw [G] at c;refine .next ?_ c
  rw [Δ] at B;have K:u1.length+v.length=(pp++r.1).length:=by rw [η];omega
  have M:pp++r.1++μ (u2.length+1) 0=(pp++r.1)++0::μ u2.length 0:=by rw [Xxi]
  have F:pp++ [z]++g++μ u2.length 0=(pp++r.1)++r.2::μ u2.length 0:=by
   rw [υ pp,Xqt,<- o];simp
  have E:=ZA (p:=pp++r.1) (s:=μ u2.length 0) (x:=0) (y:=r.2) K;rw [M] at B;have f:((pp++r.1)++0::μ u2.length 0).length=((pp++r.1)++r.2::μ u2.length 0).length:=by simp
  have hlen2:((pp++r.1)++0::μ u2.length 0).length=(pp++r.1).length+u2.length+1:=by simp;omega
  have hs:=ap2 h u v (pp++m++μ (u2.length+1) 0) ((pp++r.1)++0::μ u2.length 0) u1.length r.2;rw [E] at hs;have w:u1.length<u.length:=by omega
  have A:u1.length+v.length<((pp++r.1)++0::μ u2.length 0).length:=by omega
  have H:Φ (((0+(δ (((u1.length+v.length):Nat):Int)))*1)+1) (ζ (ai ((pp++r.1)++0::μ u2.length 0)))=true:=by
   rw [Xzp,aC,bM];omega
  unfold Yu;simp only [F,ν];rw [<- f];apply hs<;>first|exact Ue (by omega)|exact H|exact oN _|exact lW w|exact lW A|skip
  exact az.blk B (by simp) rfl (aN.of ⟨rfl,rfl,rfl,rfl,rfl,rfl,trivial⟩) (aN.refl _)
theorem yw {s:List UInt8} (h:s.length<2^35):(ax (ag s)).length<2^35:=by
 have c:(ax (ag s)).length<=s.length:=tV (Xqa (kD s) (by rw [Xjf];exact Xku (by decide) _));omega
theorem U9 (s t:List UInt8) (hs:s.length<2^35) (f:t.length<2^35):∃ o3:List Nat,o3.length<2^36/\bz o3/\dn o3=ag s*ag t/\∀ nt,92<=nt->az prog ap [] nt (af 0 (ah f100)) (λ_=> .exit 0) (Yu (ax (ag s)) (ax (ag t))) ahm (0,μ ((ax (ag s)).length+(ax (ag t)).length) 0) o3:=by
 have i:=yw hs;have h:=yw f;obtain ⟨e,d,c⟩:=SK (bz.dig (ag t)) (ax (ag s)) (μ (ax (ag t)).length 0) (bz.dig _) (bz.zeros _) (by simp);refine ⟨_,by rw [d];omega,e, ?_,λnt g=> ?_⟩
 .rw [c,QW,fG,fG,Ψ]
 .have:=YR g (ax (ag s)) (ax (ag t)) (bz.dig _) (bz.dig _) (by omega) (by omega) (ax (ag s)) [] (μ (ax (ag t)).length 0) [] rfl (by simp) rfl (bz.zeros _);rw [Xqi,Xqi,Xwy,Xx1] at this;exact this
theorem Yt (s t:List UInt8) (hs:s.length<2^35) (r:t.length<2^35):CO 100 [.str s,.str t] (.ret (.str (ae (ag s*ag t)))):=by
 obtain ⟨c,D,z,B,C⟩:=U9 s t hs r;have F:=yw hs;have G:=yw r;have i:=Dw s (by omega);have k:=Dw t (by omega);have g:=vT c true D z;rw [B] at g;have m:κ (c.length*1) (ai c)=ai c:=by rw [Θ,dA,Xqz]
 rw [<- m] at g;have A:γ .i64 ((((ax (ag s)).length:Nat):Int)+(((ax (ag t)).length:Nat):Int))=(((ax (ag s)).length+(ax (ag t)).length:Nat):Int):=by
  rw [bQ,aS (by omega)]
 have v:=apX s t (ag s) 0 (ag s*ag t) c;have y:=apY s t 0 (ag t) (ag s*ag t) c;have w:=apZ s t 0 0 (ag s*ag t) c;rw [A,aC,Ll] at v y w;have j:=Yq0 (p:=((0:Nat):Int)<=(((ax (ag s)).length+(ax (ag t)).length:Nat):Int)) (by omega);have n:=Yq0 (p:=(((ax (ag s)).length+(ax (ag t)).length:Nat):Int)=(((ax (ag s)).length+(ax (ag t)).length:Nat):Int)) rfl;have o:=Yq0 (p:=(((ax (ag s)).length+(ax (ag t)).length:Nat):Int)<=((1099511627776:Nat):Int)) (by omega);have e:=az.blk (s:=Yu (ax (ag s)) (ax (ag t)) (0,μ ((ax (ag s)).length+(ax (ag t)).length) 0)) (s':=ahm c) (id:=0) C (by simp) rfl (aN.refl _) (aN.refl _);have E:((ax (ag s)).length+(ax (ag t)).length)=(μ ((ax (ag s)).length+(ax (ag t)).length) 0).length:=by rw [Xx7]
 unfold Yu at e;simp only [<- E] at e;rcases Xq2 (ag s) (2^(8*3)) with c1|c1
 .have f:=iE s 3 (by omega) (by omega) c1;rcases Xq2 (ag t) (2^(8*4)) with c2|c2
  .have d:=iE t 4 (by omega) (by omega) c2;have u:ag s*ag t<9223372036854775808:=Xqj (Xw1 (show ag s<=16777215 by omega) (show ag t<=4294967295 by omega)) (by omega);have q:=lQ (ag s*ag t) u;rw [<- Ud u] at q;exact aiK s t _ _ _ f d q
  .have d:=lT t 4 (by omega) c2;exact v j n o f d i k g λnt h=>(e nt h).weak (aN.of ⟨rfl,rfl,rfl,rfl,trivial⟩) (aN.refl _)
 .have f:=lT s 3 (by omega) c1;rcases Xq2 (ag t) (2^(8*4)) with c2|c2
  .have d:=iE t 4 (by omega) (by omega) c2;exact y j n o f d i k g λnt h=>(e nt h).weak (aN.of ⟨rfl,rfl,rfl,rfl,trivial⟩) (aN.refl _)
  .have d:=lT t 4 (by omega) c2;exact w j n o f d i k g λnt h=>(e nt h).weak (aN.of ⟨rfl,rfl,rfl,rfl,trivial⟩) (aN.refl _)
abbrev Va4 (a:Nat):Prop:=(decide (((0:Nat):Int)<=(a:Int)))=true
abbrev Vb3 (a:List Nat):Hp:=[(0,⟨(ak a),0,false,0,1,true⟩)]
abbrev Vbq (a:List Nat) (b:Bool) (c:List Nat) (d:Nat) (e:Nat) (f:Nat) (g:List Nat) (h:Bool) (i:Nat):St:=⟨[(1,.sl (ak a) a.length b),(5,.ref 0 0 0 c.length),(6,ω (d:Int)),(7,.int .u32 (e:Int)),(8,.int .u64 (f:Int)),(18,.sl (ak g) g.length h),(19,ω (g.length:Int)),(20,ω (d:Int)),(25,.sl (ak a) a.length b),(26,ω (a.length:Int)),(27,ω (i:Int))],(Vb3 c),.dead,[]⟩
theorem aqk {nt:Nat} (F:68<=nt) (u v o:List Nat) (C e:Bool) (i j c a x y:Nat) (h:Xxx .u32 (Γ (θ (ε ((δ (j:Int))*1) (ak v)) .dead))= .int .u32 (y:Int)) (g:Xxx .u64 (γ .u64 (a:Int))= .int .u64 (a:Int)) (k:Xxx .u64 (γ .u64 (y:Int))= .int .u64 (y:Int)) (p:Xxx .u64 (γ .u64 ((a:Int)*(y:Int)))= .int .u64 (((a*y):Nat):Int)) (q:Xxx .u32 (Γ (θ (ε ((0+(δ (((i+j):Nat):Int)))*1) (ak o)) .dead))= .int .u32 (x:Int)) (r:Xxx .u64 (γ .u64 (x:Int))= .int .u64 (x:Int)) (f:Xxx .u64 (γ .u64 ((((a*y):Nat):Int)+(x:Int)))= .int .u64 (((a*y+x):Nat):Int)) (n:Xxx .u64 (γ .u64 ((((a*y+x):Nat):Int)+(c:Int)))= .int .u64 (((a*y+x+c):Nat):Int)) (d:ω (γ .i64 ((i:Int)+(j:Int)))= ω (((i+j):Nat):Int)) (w:Xxx .u32 (γ .u32 (((a*y+x+c):Nat):Int))= .int .u32 ((((a*y+x+c) % 4294967296):Nat):Int)) (m:Xxx .u64 (Xq0 (((a*y+x+c):Nat):Int) (2^(min 32 64)))= .int .u64 ((((a*y+x+c) / 4294967296):Nat):Int)) (t:Vb4 j) (E:(Φ (((0+(δ (((i+j):Nat):Int)))*1)+1) (ζ (ak o)))=true) (z:(decide (((0:Nat):Int)<=(((i+j):Nat):Int)))=true) (A:(decide ((((i+j):Nat):Int)<(o.length:Int)))=true) (D:(chk (.int .u32) (θ (ε ((0+(δ (((i+j):Nat):Int)))*1) (ak o)) .dead))=true) (H:(chk (.int .u32) (θ (ε ((δ (j:Int))*1) (ak v)) .dead))=true) (G:Va4 j) (B:(VaD j v)=true):aj prog ap [] nt (af 2 (ah f201)) (Vbq v e o i a c u C j) (.normal) ⟨[(1,.sl (ak v) v.length e),(5,.ref 0 0 0 o.length),(6,ω (i:Int)),(7,.int .u32 (a:Int)),(8,.int .u64 ((((a*y+x+c) / 4294967296):Nat):Int)),(18,.sl (ak u) u.length C),(19,ω (u.length:Int)),(20,ω (i:Int)),(25,.sl (ak v) v.length e),(26,ω (v.length:Int)),(27,ω (((j+1):Nat):Int))],[(0,⟨(κ ((0+(δ (((i+j):Nat):Int)))*1) (ak o)++ [.int .u32 ((((a*y+x+c) % 4294967296):Nat):Int)]++ε (((0+(δ (((i+j):Nat):Int)))*1)+1) (ak o)),0,false,0,1,true⟩)],.dead,[]⟩:=pN 201 [] 1 1 (.c E (.c z (.c A (.k 1 D (.c z (.c A (.c H (.c G (.c B (.c (aA B) .nil)))))))))) (.v 56 (.eq t) (.v 54 (.eq m) (.v 52 (.eq w) (.v 50 (.eq d) (.v 46 (.eq n) (.v 44 (.eq f) (.v 43 (.eq r) (.v 42 (.eq q) (.v 40 (.eq d) (.v 36 (.eq p) (.v 35 (.eq k) (.v 33 (.eq g) (.v 31 (.eq h) .nil))))))))))))) F
theorem aql {nt:Nat} (g:68<=nt) (u v o:List Nat) (e d:Bool) (i j c a x y:Nat) (f:(VaD j v)=false):aj prog ap [] nt (af 2 (ah f201)) (Vbq v d o i a c u e j) (.exit 2) ⟨[(1,.sl (ak v) v.length d),(5,.ref 0 0 0 o.length),(6,ω (i:Int)),(8,.int .u64 (c:Int)),(18,.sl (ak u) u.length e),(19,ω (u.length:Int)),(20,ω (i:Int))],(Vb3 o),.dead,[]⟩:=pN 201 [] 1 0 (.c (aB f) .nil) (.nil) g
theorem aqm {nt:Nat} (w:68<=nt) (u v o c:List Nat) (f d:Bool) (i a e:Nat) (g:Xxx .u32 (Γ (θ (ε ((δ (i:Int))*1) (ak u)) .dead))= .int .u32 (a:Int)) (h:ω (γ .i64 ((i:Int)+(v.length:Int)))= ω (((i+v.length):Nat):Int)) (k:Xxx .u32 (γ .u32 (e:Int))= .int .u32 (e:Int)) (j:Vb4 i) (t:(Φ (((0+(δ (((i+v.length):Nat):Int)))*1)+1) (ζ (ak c)))=true) (n:(decide (((0:Nat):Int)<=(((i+v.length):Nat):Int)))=true) (p:(decide ((((i+v.length):Nat):Int)<(c.length:Int)))=true) (q:(chk (.int .u32) (θ (ε ((δ (i:Int))*1) (ak u)) .dead))=true) (y:Va4 i) (m:(VaD i u)=true) (r:aK prog ap [] 68 (.block 2 (.loop (af 2 (ah f201)))) ⟨[(0,.dead),(1,.sl (ak v) v.length d),(4,.dead),(5,.ref 0 0 0 o.length),(6,ω (i:Int)),(7,.int .u32 (a:Int)),(8,.int .u64 0),(9,.dead),(10,.dead),(11,.dead),(18,.sl (ak u) u.length f),(19,ω (u.length:Int)),(20,ω (i:Int)),(21,.bool (VaD i u)),(25,.sl (ak v) v.length d),(26,ω (v.length:Int)),(27,ω 0),(28,.dead)],(Vb3 o),.dead,[]⟩ (.normal) ⟨[(1,.sl (ak v) v.length d),(5,.ref 0 0 0 c.length),(6,ω (i:Int)),(8,.int .u64 (e:Int)),(18,.sl (ak u) u.length f),(19,ω (u.length:Int)),(20,ω (i:Int))],(Vb3 c),.dead,[]⟩):ψ nt f201 ⟨[(1,.sl (ak v) v.length d),(5,.ref 0 0 0 o.length),(18,.sl (ak u) u.length f),(19,ω (u.length:Int)),(20,ω (i:Int))],(Vb3 o),.dead,[]⟩ (.normal) ⟨[(1,.sl (ak v) v.length d),(5,.ref 0 0 0 c.length),(18,.sl (ak u) u.length f),(19,ω (u.length:Int)),(20,ω (((i+1):Nat):Int))],[(0,⟨(κ ((0+(δ (((i+v.length):Nat):Int)))*1) (ak c)++ [.int .u32 (e:Int)]++ε (((0+(δ (((i+v.length):Nat):Int)))*1)+1) (ak c)),0,false,0,1,true⟩)],.dead,[]⟩:=pN 201 [2] 1 1 (.c t (.c n (.c p (.c q (.c y (.c m (.c (aA m) .nil))))))) (.v 65 (.eq j) (.v 63 (.eq k) (.v 61 (.eq h) (.l r (.v 24 (.eq g) .nil))))) w
theorem aqn {nt:Nat} (e:68<=nt) (u v o g:List Nat) (d f:Bool) (i a h:Nat) (c:(VaD i u)=false):ψ nt f201 ⟨[(1,.sl (ak v) v.length f),(5,.ref 0 0 0 o.length),(18,.sl (ak u) u.length d),(19,ω (u.length:Int)),(20,ω (i:Int))],(Vb3 o),.dead,[]⟩ (.exit 0) ⟨[(5,.ref 0 0 0 o.length)],(Vb3 o),.dead,[]⟩:=pN 201 [] 1 0 (.c (aB c) .nil) (.nil) e
theorem acH (a b w:List Nat) (c d:Bool) (z:Nat) (f:(decide (((0:Nat):Int)<=(γ .i64 ((a.length:Int)+(b.length:Int)))))=true) (g:(decide ((γ .i64 ((a.length:Int)+(b.length:Int)))=(γ .i64 ((a.length:Int)+(b.length:Int)))))=true) (e:(decide ((γ .i64 ((a.length:Int)+(b.length:Int)))<=((1099511627776:Nat):Int)))=true) (h:CO 162 [.sl (κ (w.length*1) (ak w)) w.length true] (.ret (.sl (ak (digs z)) (digs z).length true))) (i:aK prog ap [] 68 (.block 0 (.loop (af 0 (ah f201)))) ⟨[(0,.sl (ak a) a.length c),(1,.sl (ak b) b.length d),(4,.nilS),(5,.ref 0 0 0 (δ (γ .i64 ((a.length:Int)+(b.length:Int))))),(6,.dead),(7,.dead),(8,.dead),(9,.dead),(10,.dead),(11,.dead),(18,.sl (ak a) a.length c),(19,ω (a.length:Int)),(20,ω 0),(21,.dead),(25,.dead),(26,.dead),(27,.dead),(28,.dead)],[(0,⟨(g_ (δ (γ .i64 ((a.length:Int)+(b.length:Int)))) [.int .u32 0]),0,false,0,1,true⟩)],.dead,[]⟩ (.normal) ⟨[(5,.ref 0 0 0 w.length)],(Vb3 w),.dead,[]⟩):CO 201 [.sl (ak a) a.length c,.sl (ak b) b.length d] (.ret (.sl (ak (digs z)) (digs z).length true)):=pK [0] 0 0 (.c f (.c g (.c e .nil))) (.c h (.l i .nil))
def prI (u v:List Nat) (na nb:Bool) (i a:Nat) (p:Nat × List Nat × Nat):St:=⟨[(1,.sl (ak v) v.length nb),(5,.ref 0 0 0 p.2.1.length),(6,ω (i:Int)),(7,.int .u32 (a:Int)),(8,.int .u64 (p.2.2:Int)),(18,.sl (ak u) u.length na),(19,ω (u.length:Int)),(20,ω (i:Int)),(25,.sl (ak v) v.length nb),(26,ω (v.length:Int)),(27,ω (p.1:Int))],[(0,⟨(ak p.2.1),0,false,0,1,true⟩)],.dead,[]⟩
def prJ (u v:List Nat) (na nb:Bool) (i:Nat) (p:List Nat × Nat):St:=⟨[(1,.sl (ak v) v.length nb),(5,.ref 0 0 0 p.1.length),(6,ω (i:Int)),(8,.int .u64 (p.2:Int)),(18,.sl (ak u) u.length na),(19,ω (u.length:Int)),(20,ω (i:Int))],[(0,⟨(ak p.1),0,false,0,1,true⟩)],.dead,[]⟩
def prO (u v:List Nat) (na nb:Bool) (p:Nat × List Nat):St:=⟨[(1,.sl (ak v) v.length nb),(5,.ref 0 0 0 p.2.length),(18,.sl (ak u) u.length na),(19,ω (u.length:Int)),(20,ω (p.1:Int))],[(0,⟨(ak p.2),0,false,0,1,true⟩)],.dead,[]⟩
def prR (o:List Nat):St:=⟨[(5,.ref 0 0 0 o.length)],[(0,⟨(ak o),0,false,0,1,true⟩)],.dead,[]⟩
def Ih (a:Nat):List Nat->List Nat->Nat->List Nat × Nat
 |x::m,y::v,c=>((a*y+x+c) % 4294967296::(Ih a m v ((a*y+x+c) / 4294967296)).1,(Ih a m v ((a*y+x+c) / 4294967296)).2)
 |_,_,c=>([],c)
theorem N_ {a x y c:Nat} (h:a<4294967296) (d:x<4294967296) (e:y<4294967296) (g:c<4294967296):a*y<18446744073709551616/\a*y+x+c<18446744073709551616/\(a*y+x+c) / 4294967296<4294967296:=by
 have f:a*y<=4294967295*4294967295:=Xw1 (by omega) (by omega);omega
theorem K_ {a:Nat} (d:a<4294967296):∀ (m v:List Nat) (c:Nat),m.length=v.length->c<4294967296->bT m->bT v->(Ih a m v c).2<4294967296/\bT (Ih a m v c).1/\(Ih a m v c).1.length=v.length/\aI (Ih a m v c).1+4294967296^v.length*(Ih a m v c).2=aI m+a*aI v+c
 | [],[],c,_,hc,_,_=> ⟨hc,bT.nil,rfl,by simp [Ih,aI]⟩
 |x::m,y::v,c,hl,hc,hm,hv=>by
  obtain ⟨_,_,e⟩:=N_ d hm.head hv.head hc;obtain ⟨f,g,i,j⟩:=K_ d m v _ (by simpa using hl) e hm.tail hv.tail;simp only [Ih];refine ⟨f,bT.cons (Xqy _ (by omega)) g,by simp [i], ?_⟩;simp only [aI,ν,Xq3];rw [Xqh (4294967296^v.length),Xqr,Xxe,Xwu a];omega
 | [],_::_,_,h,_,_,_=>by simp at h
 |_::_,[],_,h,_,_,_=>by simp at h
def Td (v:List Nat):List Nat->List Nat->List Nat
 | [],m=>m
 |a::u,m=>((Ih a m v 0).1++ [(Ih a m v 0).2]).headD 0::Td v u ((Ih a m v 0).1++ [(Ih a m v 0).2]).tail
theorem Tf {v:List Nat} (f:bT v):∀ (u m:List Nat),bT u->bT m->m.length=v.length->bT (Td v u m)/\(Td v u m).length=u.length+v.length/\aI (Td v u m)=aI m+aI u*aI v
 | [],m,_,hm,hl=> ⟨hm,by simp [Td,hl],by simp [Td,aI]⟩
 | a::u,m,hu,hm,hl=>by
  obtain ⟨n,g,j,q⟩:=K_ hu.head m v 0 hl (by omega) hm f;obtain ⟨z,d,c,p⟩:=Kt (Ih a m v 0).1 (Ih a m v 0).2;have e:bT (z::d):=by rw [<- c];exact bT.app g (bT.cons n bT.nil)
  have k:aI (z::d)=aI m+a*aI v:=by
   rw [<- c,nU,j];simp only [aI];omega
  simp only [Td,c,Xjm,Xzl];obtain ⟨h,i,o⟩:=Tf f u d hu.tail e.tail (by omega);refine ⟨bT.cons e.head h,by simp [i];omega, ?_⟩;simp only [aI] at k ⊢;rw [o,Xxt,Xxe,Xqr];omega
theorem ZB {p s:List Nat} {x y k:Nat} (h:k=p.length):κ ((0+(δ (k:Int)))*1) (ak (p++x::s))++ [Xxx .u32 (y:Int)]++ε (((0+(δ (k:Int)))*1)+1) (ak (p++x::s))=ak (p++y::s):=by
 subst h;exact AL
theorem Kq {p s:List Nat} {x k:Nat} (h:k=p.length):(θ (ε ((δ (k:Int))*1) (ak (p++x::s))) .dead)= .int .u32 (x:Int):=by
 subst h;rw [AB];rfl
theorem agX {p s:List Nat} {x k:Nat} (h:k=p.length):(θ (ε ((0+(δ (k:Int)))*1) (ak (p++x::s))) .dead)= .int .u32 (x:Int):=by
 rw [Ψ];exact Kq h
theorem wdp {a b:Nat} (h:a+b<9223372036854775808):ω (γ .i64 ((a:Int)+(b:Int)))= ω ((a+b:Nat):Int):=by
 rw [bQ,aS h]
theorem aq0 {a b:Nat} (h:a+b<18446744073709551616):Xxx .u64 (γ .u64 ((a:Int)+(b:Int)))= .int .u64 ((a+b:Nat):Int):=by
 rw [bQ,qg,Ξ h]
theorem aqZ {a:Nat} (h:a<18446744073709551616):Xxx .u64 (γ .u64 (a:Int))= .int .u64 (a:Int):=by
 rw [qg,Ξ h]
theorem aqY {a:Nat} (h:a<4294967296):Xxx .u32 (γ .u32 (a:Int))= .int .u32 (a:Int):=by
 rw [sW,Ξ h]
theorem abO {nt:Nat} (E:68<=nt) (u u1 u2 v:List Nat) (k j:Bool) (a:Nat) (F:u=u1++a::u2) (Q:a<4294967296) (Z:bT v) (H:u.length<2^38) (V:v.length<2^38):∀ (w m e d pp z:List Nat) (c:Nat),e++w=v->m.length=w.length->d.length=e.length->pp.length=u1.length->bT m->c<4294967296->
  az prog ap [] nt (af 2 (ah f201)) (λ_=> .exit 2) (prI u v k j u1.length a) (prJ u v k j u1.length) (e.length,pp++d++m++z,c) (pp++d++(Ih a m w c).1++z,(Ih a m w c).2):=by
 intro w
 induction w with
 |nil=>
  intro m e d pp z c g h t A i B;have X:m= []:=List.length_eq_zero_iff.1 (by simpa using h);subst X;have n:e=v:=by simpa using g
  simp only [Ih];exact .done (aql E u v _ k j _ _ _ a 0 0 (by rw [n];exact Yq1 (by omega)))
 | cons y w ih=>
  intro m e d pp z c g h t A i B;cases m with
  |nil=>simp at h
  | cons x m=>
   have hvv:e.length+(w.length+1)=v.length:=by rw [<- g];simp
   have W:u1.length+(u2.length+1)=u.length:=by rw [F];simp
   have U:y<4294967296:=Z y (by rw [<- g];simp);have hx:=i.head;obtain ⟨G,b2,P⟩:=N_ Q i.head U B;have f:=ih m (e++ [y]) (d++ [(a*y+x+c) % 4294967296]) pp z ((a*y+x+c) / 4294967296) (by simp [g]) (by simpa using h) (by simp [t]) A i.tail P;simp only [Ih];rw [η,τ] at f;have S:pp++d++x::m++z=(pp++d)++x::(m++z):=by simp
   have M:pp++(d++ [(a*y+x+c) % 4294967296])++m++z=(pp++d)++(a*y+x+c) % 4294967296::(m++z):=by simp
   have N:pp++(d++ [(a*y+x+c) % 4294967296])++(Ih a m w ((a*y+x+c) / 4294967296)).1++z=pp++d++(a*y+x+c) % 4294967296::(Ih a m w ((a*y+x+c) / 4294967296)).1++z:=by simp
   rw [N] at f;refine .next ?_ f
   have D:u1.length+e.length=(pp++d).length:=by rw [η];omega
   have C:((pp++d)++x::(m++z)).length=(pp++d).length+(m++z).length+1:=by simp;omega
   have hlen2:((pp++d)++(a*y+x+c) % 4294967296::(m++z)).length=((pp++d)++x::(m++z)).length:=by simp
   have R:=agX (p:=pp++d) (s:=m++z) (x:=x) D;have Y:(θ (ε ((δ (e.length:Int))*1) (ak v)) .dead)= .int .u32 (y:Int):=by rw [<- g];exact Kq rfl
   have J:=ZB (p:=pp++d) (s:=m++z) (x:=x) (y:=(a*y+x+c) % 4294967296) D;unfold prI;simp only [S,M,hlen2];have hs:=aqk E u v ((pp++d)++x::(m++z)) k j u1.length e.length c a x y;rw [J,R,Y] at hs;have q:u1.length<u.length:=by omega
   have o:e.length<v.length:=by omega
   have r:u1.length+e.length<((pp++d)++x::(m++z)).length:=by omega
   have K:Xxx .u32 (γ .u32 (((a*y+x+c):Nat):Int))= .int .u32 ((((a*y+x+c) % 4294967296):Nat):Int):=by rw [sW]
   have T:Xxx .u64 (Xq0 (((a*y+x+c):Nat):Int) (2^(min 32 64)))= .int .u64 ((((a*y+x+c) / 4294967296):Nat):Int):=by rw [show min 32 64=32 from rfl,lZ]
   have I:Xxx .u64 (γ .u64 ((a:Int)*(y:Int)))= .int .u64 ((a*y:Nat):Int):=by rw [<- Int.natCast_mul,qg,Ξ G]
   have O:Φ (((0+(δ (((u1.length+e.length):Nat):Int)))*1)+1) (ζ (ak ((pp++d)++x::(m++z))))=true:=by
    rw [Xzp,aC,au];omega
   have y1:a*y+x<18446744073709551616:=by omega
   apply hs<;>first|exact rfl|exact wdp (by omega)|exact aq0 (by omega)|exact K|exact T|exact I|exact aqZ (by omega)|exact O|exact oN _|exact lW q|exact lW o|exact lW r
theorem YS {nt:Nat} (j:68<=nt) (u v:List Nat) (i h:Bool) (e:bT u) (F:bT v) (o:u.length<2^38) (w:v.length<2^38):∀ (u2 u1 m pp:List Nat),u1++u2=u->m.length=v.length->pp.length=u1.length->bT m->
  az prog ap [] nt (af 0 (ah f201)) (λ_=> .exit 0) (prO u v i h) prR (u1.length,pp++m++μ u2.length 0) (pp++Td v u2 m):=by
 intro u2
 induction u2 with
 |nil=>
  intro u1 m pp d k n q;have A:u1=u:=by simpa using d
  simp only [Td,Xqf,Xwg,Δ];exact .done (aqn j u v _ [] i h _ 0 0 (by rw [A];exact Yq1 (by omega)))
 | cons a u2 ih=>
  intro u1 m pp d k n q;have Q:u1.length+(u2.length+1)=u.length:=by rw [<- d];simp
  have E:a<4294967296:=e a (by rw [<- d];simp);obtain ⟨K,M,U,T⟩:=K_ E m v 0 k (by omega) q F;have D:=λnt (j:68<=nt)=>abO j u u1 u2 v i h a d.symm E F o w v m [] [] pp (μ (u2.length+1) 0) 0 rfl k rfl n q (by omega)
  simp only [Td];generalize Ih a m v 0=r at*
  obtain ⟨z,g,t,S⟩:=Kt r.1 r.2;have P:bT (z::g):=by rw [<- t];exact bT.app M (bT.cons K bT.nil)
  have c:=ih (u1++ [a]) g (pp++ [z]) (by simp [d]) (by omega) (by simp [n]) P.tail;simp only [t,Xjm,Xzl];rw [η,τ] at c;have I:pp++ [z]++Td v u2 g=pp++z::Td v u2 g:=by simp
  rw [I] at c;refine .next ?_ c
  rw [Δ] at D;have N:u1.length+v.length=(pp++r.1).length:=by rw [η];omega
  have O:pp++r.1++μ (u2.length+1) 0=(pp++r.1)++0::μ u2.length 0:=by rw [Xxi]
  have H:pp++ [z]++g++μ u2.length 0=(pp++r.1)++r.2::μ u2.length 0:=by
   rw [υ pp,Xqt,<- t];simp
  have R:(θ (ε ((δ (u1.length:Int))*1) (ak u)) .dead)= .int .u32 (a:Int):=by rw [<- d];exact Kq rfl
  have G:=ZB (p:=pp++r.1) (s:=μ u2.length 0) (x:=0) (y:=r.2) N;rw [O] at D;have f:((pp++r.1)++0::μ u2.length 0).length=((pp++r.1)++r.2::μ u2.length 0).length:=by simp
  have hlen2:((pp++r.1)++0::μ u2.length 0).length=(pp++r.1).length+u2.length+1:=by simp;omega
  have hs:=aqm j u v (pp++m++μ (u2.length+1) 0) ((pp++r.1)++0::μ u2.length 0) i h u1.length a r.2;rw [G,R] at hs;have B:u1.length<u.length:=by omega
  have C:u1.length+v.length<((pp++r.1)++0::μ u2.length 0).length:=by omega
  have J:Φ (((0+(δ (((u1.length+v.length):Nat):Int)))*1)+1) (ζ (ak ((pp++r.1)++0::μ u2.length 0)))=true:=by
   rw [Xzp,aC,au];omega
  unfold prO;simp only [H,ν];rw [<- f];apply hs<;>first|exact rfl|exact wdp (by omega)|exact aqY (by omega)|exact J|exact oN _|exact lW B|exact lW C|skip
  exact az.blk D (by simp) rfl (aN.of ⟨rfl,rfl,rfl,rfl,rfl,rfl,rfl,rfl,rfl,rfl,rfl,trivial⟩) (aN.refl _)
theorem acI (a b:List Nat) (g d:Bool) (c:bT a) (e:bT b) (u:a.length<2^37) (r:b.length<2^37):CO 201 [.sl (ak a) a.length g,.sl (ak b) b.length d] (.ret (.sl (ak (digs (aI a*aI b))) (digs (aI a*aI b)).length true)):=by
 obtain ⟨p,t,k⟩:=Tf e a (μ b.length 0) c (λx i=>by rw [(List.mem_replicate.1 i).2];omega) (by simp);have q:aI (μ b.length 0)=0:=by
  generalize b.length=n
  induction n with
  |zero=>rfl
  |succ n ih=>rw [Xxi];simp only [aI,ih]
 rw [q,Ψ] at k;have o:∀ nt,68<=nt->az prog ap [] nt (af 0 (ah f201)) (λ_=> .exit 0) (prO a b g d) prR (0,μ (a.length+b.length) 0) (Td b a (μ b.length 0)):=λnt j=>by
  have:=YS j a b g d c e (by omega) (by omega) a [] (μ b.length 0) [] rfl (by simp) rfl (λx i=>by rw [(List.mem_replicate.1 i).2];omega);rw [Xqi,Xqi,Xwy,Xx1] at this;exact this
 generalize Td b a (μ b.length 0)=w at*
 have f:=acH a b w g d (aI a*aI b);have m:γ .i64 ((a.length:Int)+(b.length:Int))=((a.length+b.length:Nat):Int):=by rw [bQ,aS (by omega)]
 rw [m,aC,qO] at f;have h:=az.blk (s:=prO a b g d (0,μ (a.length+b.length) 0)) (s':=prR w) (id:=0) o (by simp) rfl (aN.refl _) (aN.refl _);unfold prO at h;simp only [Xx7] at h;exact f (Yq0 (by omega)) (Yq0 rfl) (Yq0 (by omega)) (Dz w _ _ rfl (by rw [kC p,k]) (by omega)) λnt j=>(h nt j).weak (aN.of ⟨rfl,rfl,rfl,rfl,rfl,trivial⟩) (aN.refl _)
theorem acr (s t:List UInt8) (hs:s.length<2^36) (f:t.length<2^36):CO 171 [.str s,.str t] (.ret (.str (ae (ag s*ag t)))):=by
 have d:=rQ (s:=s) (n:=2^34) (by omega);have c:=rQ (s:=t) (n:=2^34) (by omega);have e:=UB d c;have h:=acI (digs (ag s)) (digs (ag t)) true true (bT.digs _) (bT.digs _) (by omega) (by omega);rw [fU,fU] at h;exact ahl s t _ (vV s (by omega)) (vV t (by omega)) h (sO _ _ true (xA _) (by omega) (by omega))
theorem am3 {nt:Nat} (r:83<=nt) (u v o:List Nat) (k c x y:Nat) (q:ω (Γ (θ (ε ((δ (k:Int))*1) (ai u)) .dead))= ω (x:Int)) (h:ω (γ .i64 ((c:Int)+(x:Int)))= ω (((c+x):Nat):Int)) (p:ω (Γ (θ (ε ((δ (k:Int))*1) (ai v)) .dead))= ω (y:Int)) (d:ω (γ .i64 ((((c+x):Nat):Int)+(y:Int)))= ω (((c+x+y):Nat):Int)) (f:ω (Xxd (((c+x+y):Nat):Int) ((16777216:Nat):Int))= ω ((((c+x+y) % 16777216):Nat):Int)) (g:ω (γ .i64 (Xxl (((c+x+y):Nat):Int) ((16777216:Nat):Int)))= ω ((((c+x+y) / 16777216):Nat):Int)) (i:ω (γ .i64 ((k:Int)+((1:Nat):Int)))= ω (((k+1):Nat):Int)) (n:(chk (.int .i64) (θ (ε ((δ (k:Int))*1) (ai v)) .dead))=true) (j:(decide (((0:Nat):Int)<=(k:Int)))=true) (m:(decide ((k:Int)<(v.length:Int)))=true) (t:(chk (.int .i64) (θ (ε ((δ (k:Int))*1) (ai u)) .dead))=true) (e:(decide ((k:Int)<(u.length:Int)))=true):ψ nt f80 ⟨[(9,.sl (ai u) u.length false),(10,.sl (ai v) v.length false),(11,.nilS),(12,ω (c:Int)),(13,ω (k:Int))],[],.dead,[]⟩ (.normal) ⟨[(9,.sl (ai u) u.length false),(10,.sl (ai v) v.length false),(11,.ref 0 0 0 1),(12,ω ((((c+x+y) / 16777216):Nat):Int)),(13,ω (((k+1):Nat):Int))],[(0,⟨[ω ((((c+x+y) % 16777216):Nat):Int)],0,false,0,1,true⟩)],.dead,[]⟩:=pN 80 [] 6 31 (.k 5 n (.c j (.c m (.c (aA m) (.c t (.c j (.c e (.c (aA e) (.k 2 (aA e) .nil))))))))) (.v 52 (.eq i) (.v 80 (.eq g) (.v 76 (.eq f) (.v 73 (.eq d) (.v 72 (.eq p) (.v 63 (.eq h) (.v 62 (.eq q) .nil))))))) r
theorem am4 {nt:Nat} (p:83<=nt) (u v o:List Nat) (k c x y:Nat) (j:ω (Γ (θ (ε ((δ (k:Int))*1) (ai u)) .dead))= ω (x:Int)) (f:ω (γ .i64 ((c:Int)+(x:Int)))= ω (((c+x):Nat):Int)) (h:ω (Xxd (((c+x):Nat):Int) ((16777216:Nat):Int))= ω ((((c+x) % 16777216):Nat):Int)) (e:ω (γ .i64 (Xxl (((c+x):Nat):Int) ((16777216:Nat):Int)))= ω ((((c+x) / 16777216):Nat):Int)) (d:ω (γ .i64 ((k:Int)+((1:Nat):Int)))= ω (((k+1):Nat):Int)) (m:(decide ((k:Int)<(v.length:Int)))=false) (n:(chk (.int .i64) (θ (ε ((δ (k:Int))*1) (ai u)) .dead))=true) (i:(decide (((0:Nat):Int)<=(k:Int)))=true) (g:(decide ((k:Int)<(u.length:Int)))=true):ψ nt f80 ⟨[(9,.sl (ai u) u.length false),(10,.sl (ai v) v.length false),(11,.nilS),(12,ω (c:Int)),(13,ω (k:Int))],[],.dead,[]⟩ (.normal) ⟨[(9,.sl (ai u) u.length false),(10,.sl (ai v) v.length false),(11,.ref 0 0 0 1),(12,ω ((((c+x) / 16777216):Nat):Int)),(13,ω (((k+1):Nat):Int))],[(0,⟨[ω ((((c+x) % 16777216):Nat):Int)],0,false,0,1,true⟩)],.dead,[]⟩:=pN 80 [] 6 15 (.k 5 (aB m) (.c n (.c i (.c g (.c (aA g) (.k 2 (aA g) .nil)))))) (.v 52 (.eq d) (.v 80 (.eq e) (.v 76 (.eq h) (.v 63 (.eq f) (.v 62 (.eq j) .nil))))) p
theorem am5 {nt:Nat} (n:83<=nt) (u v o:List Nat) (k c x y:Nat) (p:ω (Γ (θ (ε ((δ (k:Int))*1) (ai v)) .dead))= ω (y:Int)) (e:ω (γ .i64 ((c:Int)+(y:Int)))= ω (((c+y):Nat):Int)) (h:ω (Xxd (((c+y):Nat):Int) ((16777216:Nat):Int))= ω ((((c+y) % 16777216):Nat):Int)) (f:ω (γ .i64 (Xxl (((c+y):Nat):Int) ((16777216:Nat):Int)))= ω ((((c+y) / 16777216):Nat):Int)) (d:ω (γ .i64 ((k:Int)+((1:Nat):Int)))= ω (((k+1):Nat):Int)) (j:(chk (.int .i64) (θ (ε ((δ (k:Int))*1) (ai v)) .dead))=true) (m:(decide (((0:Nat):Int)<=(k:Int)))=true) (g:(decide ((k:Int)<(v.length:Int)))=true) (i:(decide ((k:Int)<(u.length:Int)))=false):ψ nt f80 ⟨[(9,.sl (ai u) u.length false),(10,.sl (ai v) v.length false),(11,.nilS),(12,ω (c:Int)),(13,ω (k:Int))],[],.dead,[]⟩ (.normal) ⟨[(9,.sl (ai u) u.length false),(10,.sl (ai v) v.length false),(11,.ref 0 0 0 1),(12,ω ((((c+y) / 16777216):Nat):Int)),(13,ω (((k+1):Nat):Int))],[(0,⟨[ω ((((c+y) % 16777216):Nat):Int)],0,false,0,1,true⟩)],.dead,[]⟩:=pN 80 [] 6 22 (.k 5 j (.c m (.c g (.c (aA g) (.c (aB i) (.k 1 (aA g) (.c (aB i) .nil))))))) (.v 52 (.eq d) (.v 80 (.eq f) (.v 76 (.eq h) (.v 73 (.eq e) (.v 72 (.eq p) .nil))))) n
theorem am6 {nt:Nat} (j:83<=nt) (u v o:List Nat) (k c x y:Nat) (f:ω (Xxd (c:Int) ((16777216:Nat):Int))= ω (((c % 16777216):Nat):Int)) (e:ω (γ .i64 (Xxl (c:Int) ((16777216:Nat):Int)))= ω (((c / 16777216):Nat):Int)) (d:Vb4 k) (g:(VaD k v)=false) (h:(VaD k u)=false) (i:(decide (((0:Nat):Int)<(c:Int)))=true):ψ nt f80 ⟨[(9,.sl (ai u) u.length false),(10,.sl (ai v) v.length false),(11,.nilS),(12,ω (c:Int)),(13,ω (k:Int))],[],.dead,[]⟩ (.normal) ⟨[(9,.sl (ai u) u.length false),(10,.sl (ai v) v.length false),(11,.ref 0 0 0 1),(12,ω (((c / 16777216):Nat):Int)),(13,ω (((k+1):Nat):Int))],[(0,⟨[ω (((c % 16777216):Nat):Int)],0,false,0,1,true⟩)],.dead,[]⟩:=pN 80 [] 6 4 (.k 5 (aB g) (.c (aB h) (.c (aA i) (.c (aB g) (.c (aB h) .nil))))) (.v 52 (.eq d) (.v 80 (.eq e) (.v 76 (.eq f) .nil))) j
theorem am7 {nt:Nat} (g:83<=nt) (u v o:List Nat) (k c x y:Nat) (e:(decide (((0:Nat):Int)<(c:Int)))=false) (f:(VaD k v)=false) (d:(VaD k u)=false):ψ nt f80 ⟨[(9,.sl (ai u) u.length false),(10,.sl (ai v) v.length false),(11,.nilS),(12,ω (c:Int)),(13,ω (k:Int))],[],.dead,[]⟩ (.exit 0) ⟨[(11,.nilS)],[],.dead,[]⟩:=pN 80 [] 3 0 (.c (aB e) (.c (aB f) (.c (aB d) .nil))) (.nil) g
theorem amY {nt:Nat} (z:83<=nt) (u v o:List Nat) (k c x y:Nat) (w:ω (Γ (θ (ε ((δ (k:Int))*1) (ai u)) .dead))= ω (x:Int)) (h:ω (γ .i64 ((c:Int)+(x:Int)))= ω (((c+x):Nat):Int)) (t:ω (Γ (θ (ε ((δ (k:Int))*1) (ai v)) .dead))= ω (y:Int)) (d:ω (γ .i64 ((((c+x):Nat):Int)+(y:Int)))= ω (((c+x+y):Nat):Int)) (e:ω (Xxd (((c+x+y):Nat):Int) ((16777216:Nat):Int))= ω ((((c+x+y) % 16777216):Nat):Int)) (f:ω (γ .i64 (Xxl (((c+x+y):Nat):Int) ((16777216:Nat):Int)))= ω ((((c+x+y) / 16777216):Nat):Int)) (i:ω (γ .i64 ((k:Int)+((1:Nat):Int)))= ω (((k+1):Nat):Int)) (r:(Φ (o.length+1) 1099511627776)=true) (n:(Φ (o.length*1) (ζ (ai o)))=true) (q:(chk (.int .i64) (θ (ε ((δ (k:Int))*1) (ai v)) .dead))=true) (j:(decide (((0:Nat):Int)<=(k:Int)))=true) (m:(decide ((k:Int)<(v.length:Int)))=true) (p:(chk (.int .i64) (θ (ε ((δ (k:Int))*1) (ai u)) .dead))=true) (g:(decide ((k:Int)<(u.length:Int)))=true):ψ nt f80 ⟨[(9,.sl (ai u) u.length false),(10,.sl (ai v) v.length false),(11,.ref 0 0 0 o.length),(12,ω (c:Int)),(13,ω (k:Int))],[(0,⟨(ai o),0,false,0,1,true⟩)],.dead,[]⟩ (.normal) ⟨[(9,.sl (ai u) u.length false),(10,.sl (ai v) v.length false),(11,.ref 0 0 0 (o.length+1)),(12,ω ((((c+x+y) / 16777216):Nat):Int)),(13,ω (((k+1):Nat):Int))],[(0,⟨((κ (o.length*1) (ai o))++ [ω ((((c+x+y) % 16777216):Nat):Int)]),0,false,0,1,true⟩)],.dead,[]⟩:=pN 80 [] 5 31 (.k 2 r (.c n (.k 2 q (.c j (.c m (.c (aA m) (.c p (.c j (.c g (.c (aA g) (.k 2 (aA g) .nil))))))))))) (.v 52 (.eq i) (.v 80 (.eq f) (.v 76 (.eq e) (.v 73 (.eq d) (.v 72 (.eq t) (.v 63 (.eq h) (.v 62 (.eq w) .nil))))))) z
theorem amZ {nt:Nat} (q:83<=nt) (u v o:List Nat) (k c x y:Nat) (p:ω (Γ (θ (ε ((δ (k:Int))*1) (ai u)) .dead))= ω (x:Int)) (g:ω (γ .i64 ((c:Int)+(x:Int)))= ω (((c+x):Nat):Int)) (e:ω (Xxd (((c+x):Nat):Int) ((16777216:Nat):Int))= ω ((((c+x) % 16777216):Nat):Int)) (f:ω (γ .i64 (Xxl (((c+x):Nat):Int) ((16777216:Nat):Int)))= ω ((((c+x) / 16777216):Nat):Int)) (h:ω (γ .i64 ((k:Int)+((1:Nat):Int)))= ω (((k+1):Nat):Int)) (n:(Φ (o.length+1) 1099511627776)=true) (i:(Φ (o.length*1) (ζ (ai o)))=true) (j:(decide ((k:Int)<(v.length:Int)))=false) (m:(chk (.int .i64) (θ (ε ((δ (k:Int))*1) (ai u)) .dead))=true) (r:(decide (((0:Nat):Int)<=(k:Int)))=true) (d:(decide ((k:Int)<(u.length:Int)))=true):ψ nt f80 ⟨[(9,.sl (ai u) u.length false),(10,.sl (ai v) v.length false),(11,.ref 0 0 0 o.length),(12,ω (c:Int)),(13,ω (k:Int))],[(0,⟨(ai o),0,false,0,1,true⟩)],.dead,[]⟩ (.normal) ⟨[(9,.sl (ai u) u.length false),(10,.sl (ai v) v.length false),(11,.ref 0 0 0 (o.length+1)),(12,ω ((((c+x) / 16777216):Nat):Int)),(13,ω (((k+1):Nat):Int))],[(0,⟨((κ (o.length*1) (ai o))++ [ω ((((c+x) % 16777216):Nat):Int)]),0,false,0,1,true⟩)],.dead,[]⟩:=pN 80 [] 5 15 (.k 2 n (.c i (.k 2 (aB j) (.c m (.c r (.c d (.c (aA d) (.k 2 (aA d) .nil)))))))) (.v 52 (.eq h) (.v 80 (.eq f) (.v 76 (.eq e) (.v 63 (.eq g) (.v 62 (.eq p) .nil))))) q
theorem am0 {nt:Nat} (r:83<=nt) (u v o:List Nat) (k c x y:Nat) (q:ω (Γ (θ (ε ((δ (k:Int))*1) (ai v)) .dead))= ω (y:Int)) (d:ω (γ .i64 ((c:Int)+(y:Int)))= ω (((c+y):Nat):Int)) (e:ω (Xxd (((c+y):Nat):Int) ((16777216:Nat):Int))= ω ((((c+y) % 16777216):Nat):Int)) (f:ω (γ .i64 (Xxl (((c+y):Nat):Int) ((16777216:Nat):Int)))= ω ((((c+y) / 16777216):Nat):Int)) (h:ω (γ .i64 ((k:Int)+((1:Nat):Int)))= ω (((k+1):Nat):Int)) (p:(Φ (o.length+1) 1099511627776)=true) (j:(Φ (o.length*1) (ζ (ai o)))=true) (m:(chk (.int .i64) (θ (ε ((δ (k:Int))*1) (ai v)) .dead))=true) (n:(decide (((0:Nat):Int)<=(k:Int)))=true) (g:(decide ((k:Int)<(v.length:Int)))=true) (i:(decide ((k:Int)<(u.length:Int)))=false):ψ nt f80 ⟨[(9,.sl (ai u) u.length false),(10,.sl (ai v) v.length false),(11,.ref 0 0 0 o.length),(12,ω (c:Int)),(13,ω (k:Int))],[(0,⟨(ai o),0,false,0,1,true⟩)],.dead,[]⟩ (.normal) ⟨[(9,.sl (ai u) u.length false),(10,.sl (ai v) v.length false),(11,.ref 0 0 0 (o.length+1)),(12,ω ((((c+y) / 16777216):Nat):Int)),(13,ω (((k+1):Nat):Int))],[(0,⟨((κ (o.length*1) (ai o))++ [ω ((((c+y) % 16777216):Nat):Int)]),0,false,0,1,true⟩)],.dead,[]⟩:=pN 80 [] 5 22 (.k 2 p (.c j (.k 2 m (.c n (.c g (.c (aA g) (.c (aB i) (.k 1 (aA g) (.c (aB i) .nil))))))))) (.v 52 (.eq h) (.v 80 (.eq f) (.v 76 (.eq e) (.v 73 (.eq d) (.v 72 (.eq q) .nil))))) r
theorem am1 {nt:Nat} (m:83<=nt) (u v o:List Nat) (k c x y:Nat) (f:ω (Xxd (c:Int) ((16777216:Nat):Int))= ω (((c % 16777216):Nat):Int)) (e:ω (γ .i64 (Xxl (c:Int) ((16777216:Nat):Int)))= ω (((c / 16777216):Nat):Int)) (d:Vb4 k) (i:(Φ (o.length+1) 1099511627776)=true) (j:(Φ (o.length*1) (ζ (ai o)))=true) (g:(VaD k v)=false) (h:(VaD k u)=false) (n:(decide (((0:Nat):Int)<(c:Int)))=true):ψ nt f80 (VaR u v o c k) (.normal) ⟨[(9,.sl (ai u) u.length false),(10,.sl (ai v) v.length false),(11,.ref 0 0 0 (o.length+1)),(12,ω (((c / 16777216):Nat):Int)),(13,ω (((k+1):Nat):Int))],[(0,⟨((κ (o.length*1) (ai o))++ [ω (((c % 16777216):Nat):Int)]),0,false,0,1,true⟩)],.dead,[]⟩:=pN 80 [] 5 4 (.k 2 i (.c j (.k 2 (aB g) (.c (aB h) (.c (aA n) (.c (aB g) (.c (aB h) .nil))))))) (.v 52 (.eq d) (.v 80 (.eq e) (.v 76 (.eq f) .nil))) m
theorem am2 {nt:Nat} (g:83<=nt) (u v o:List Nat) (k c x y:Nat) (e:(decide (((0:Nat):Int)<(c:Int)))=false) (f:(VaD k v)=false) (d:(VaD k u)=false):ψ nt f80 (VaR u v o c k) (.exit 0) (VaP o):=pN 80 [] 3 0 (.c (aB e) (.c (aB f) (.c (aB d) .nil))) (.nil) g
abbrev VbC (a:List UInt8) (b:Nat):Prop:=CO 134 [.str a,ω 7] (.ret (.tup [ω (b:Int),.bool true]))
theorem ahB (s t:List UInt8) (x y z:Nat) (w:List Nat) (d:VbC s x) (e:VbC t y) (c:CO 79 [ω (γ .i64 ((x:Int)+(y:Int)))] (.ret (.str (ae z)))):CO 80 [.str s,.str t] (.ret (.str (ae z))):=pK [] 2 3 (.n 2 .nil) (.c c (.c e (.c d .nil)))
abbrev Vas (a:List UInt8):Prop:=CO 135 [.str a] (.ret (.sl (ai (ax (ag a))) (ax (ag a)).length false))
abbrev Vbz (a:List UInt8) (b:Nat):Prop:=CO 134 [.str a,ω 7] (.ret (.tup [ω (b:Int),.bool false]))
abbrev VbM (a:List Nat) (b:Nat):Prop:=CO 136 [.sl (κ (a.length*1) (ai a)) a.length true] (.ret (.str (ae b)))
theorem ahC (s t:List UInt8) (x y z:Nat) (w:List Nat) (f:VbC s x) (h:Vbz t y) (c:Vas s) (e:Vas t) (d:VbM w z) (g:aK prog ap [] 83 (.block 0 (.loop (af 0 (ah f80)))) ⟨[(0,.str s),(1,.str t),(4,.str []),(5,ω (x:Int)),(6,.bool true),(7,ω (y:Int)),(8,.bool false),(9,.sl (ai (ax (ag s))) (ax (ag s)).length false),(10,.sl (ai (ax (ag t))) (ax (ag t)).length false),(11,.nilS),(12,ω 0),(13,ω 0),(14,.dead),(28,.bool false),(50,.dead),(57,.dead),(67,.dead)],[],.dead,[]⟩ (.normal) (VaP w)):CO 80 [.str s,.str t] (.ret (.str (ae z))):=pK [0] 2 1 (.n 2 .nil) (.c d (.l g (.c e (.c c (.c h (.c f .nil))))))
theorem ahD (s t:List UInt8) (x y z:Nat) (w:List Nat) (f:Vbz s x) (h:VbC t y) (c:Vas s) (e:Vas t) (d:VbM w z) (g:aK prog ap [] 83 (.block 0 (.loop (af 0 (ah f80)))) ⟨[(0,.str s),(1,.str t),(4,.str []),(5,ω (x:Int)),(6,.bool false),(7,ω (y:Int)),(8,.bool true),(9,.sl (ai (ax (ag s))) (ax (ag s)).length false),(10,.sl (ai (ax (ag t))) (ax (ag t)).length false),(11,.nilS),(12,ω 0),(13,ω 0),(14,.dead),(28,.bool false),(50,.dead),(57,.dead),(67,.dead)],[],.dead,[]⟩ (.normal) (VaP w)):CO 80 [.str s,.str t] (.ret (.str (ae z))):=pK [0] 2 0 (.n 2 .nil) (.c d (.l g (.c e (.c c (.c h (.c f .nil))))))
theorem ahE (s t:List UInt8) (x y z:Nat) (w:List Nat) (f:Vbz s x) (h:Vbz t y) (c:Vas s) (e:Vas t) (d:VbM w z) (g:aK prog ap [] 83 (.block 0 (.loop (af 0 (ah f80)))) ⟨[(0,.str s),(1,.str t),(4,.str []),(5,ω (x:Int)),(6,.bool false),(7,ω (y:Int)),(8,.bool false),(9,.sl (ai (ax (ag s))) (ax (ag s)).length false),(10,.sl (ai (ax (ag t))) (ax (ag t)).length false),(11,.nilS),(12,ω 0),(13,ω 0),(14,.dead),(28,.bool false),(50,.dead),(57,.dead),(67,.dead)],[],.dead,[]⟩ (.normal) (VaP w)):CO 80 [.str s,.str t] (.ret (.str (ae z))):=pK [0] 2 0 (.n 2 .nil) (.c d (.l g (.c e (.c c (.c h (.c f .nil))))))
theorem anR (s t:List UInt8) (x y z:Nat) (w:List Nat) (e:(decide ((nD (ag s) (ag t))<((0:Nat):Int)))=false) (g:CO 101 [.str s,.str t] (.ret (ω (nD (ag s) (ag t))))) (h:Vas s) (c:Vas t) (f:CO 151 [.sl (ai (ax (ag s))) (ax (ag s)).length false,.sl (ai (ax (ag t))) (ax (ag t)).length false] (.ret (.sl (ai (ax z)) (ax z).length false))) (d:CO 136 [.sl (ai (ax z)) (ax z).length false] (.ret (.str (ae z)))):CO 102 [.str s,.str t] (.ret (.tup [.str (ae z),.bool true])):=pK [] 1 0 (.c (aB e) .nil) (.c d (.c f (.c c (.c h (.c g .nil)))))
def apQ (o:List Nat):AV:=match o with| []=> .nilS|_::_=> .ref 0 0 0 o.length
def hpQ (o:List Nat):Hp:=match o with| []=> []|a::r=> [(0,⟨ai (a::r),0,false,0,1,true⟩)]
def BU (u v:List Nat) (p:List Nat × Nat):St:=⟨[(9,.sl (ai u) u.length false),(10,.sl (ai v) v.length false),(11,apQ p.1),(12,ω (p.2:Int)),(13,ω (p.1.length:Int))],hpQ p.1,.dead,[]⟩
def Tu (o:List Nat):St:=⟨[(11,apQ o)],hpQ o,.dead,[]⟩
theorem Ld {u r:List Nat} {x k:Nat} (h:ε k u=x::r):(θ (ε ((δ (k:Int))*1) (ai u)) .dead)= ω (x:Int)/\k<u.length:=by
 refine ⟨?_, ?_⟩
 .rw [aC,Θ];have:ε k (ai u)=ai (ε k u):=by unfold ai;rw [Xj9]
  rw [this,h];rfl
 .have:=congrArg ζ h;rw [Xx0,ν] at this;omega
theorem BR {u:List Nat} {k:Nat} (h:ε k u= []):u.length<=k:=by
 have:=congrArg ζ h;rw [Xx0,Xqf] at this;omega
theorem Tt (o:List Nat) (d:Nat):κ (o.length*1) (ai o)++ [ω (d:Int)]=ai (o++ [d]):=by
 rw [Θ,dA,Xqz,je]
theorem Oh (S:Nat):ω (Xxd (S:Int) ((16777216:Nat):Int))= ω (((S % 16777216):Nat):Int):=by rw [uV]
theorem Og {S:Nat} (h:S<2^62):ω (γ .i64 (Xxl (S:Int) ((16777216:Nat):Int)))= ω (((S / 16777216):Nat):Int):=by rw [qV,aS (by omega)]
theorem amX {nt:Nat} (d:83<=nt) {u v o ru rv:List Nat} {c x y:Nat} (g:ε o.length u=x::ru) (i:ε o.length v=y::rv) (n:x<16777216) (j:y<16777216) (k:c<16777216) (m:o.length<2^39):
  ψ nt f80 (BU u v (o,c)) .normal (BU u v (o++ [(c+x+y) % 16777216],(c+x+y) / 16777216)):=by
 obtain ⟨e,k1⟩:=Ld g;obtain ⟨f,k2⟩:=Ld i;cases o with
 |nil=>
  have hs:=am3 d u v [] ([]:List Nat).length c x y;rw [e,f] at hs;apply hs<;>first|exact rfl|exact Ue (by omega)|exact Oh _|exact Og (by omega)|exact oN _|exact lW k1|exact lW k2
 |cons a r=>
  have hs:=amY d u v (a::r) (a::r).length c x y;rw [e,f,Tt,show (a::r).length+1=((a::r)++ [(c+x+y) % 16777216]).length by simp] at hs;apply hs<;>first|exact rfl|exact Ue (by omega)|exact Oh _|exact Og (by omega)|exact oN _|exact lW k1|exact lW k2|(rw [Xzp];simp only [η,τ,bM,Θ];omega)|(have h:=Ue (a:=(a::r).length) (b:=1) (by omega);rw [show (a::r).length+1=((a::r)++ [(c+x+y) % 16777216]).length by simp] at h;exact h)
theorem amW {nt:Nat} (d:83<=nt) {u v o ru rv:List Nat} {c x y:Nat} (f:ε o.length u=x::ru) (g:ε o.length v= []) (k:x<16777216) (i:c<16777216) (j:o.length<2^39):
  ψ nt f80 (BU u v (o,c)) .normal (BU u v (o++ [(c+x) % 16777216],(c+x) / 16777216)):=by
 obtain ⟨e,k1⟩:=Ld f;have k2:=BR g;cases o with
 |nil=>
  have hs:=am4 d u v [] ([]:List Nat).length c x y;rw [e] at hs;apply hs<;>first|exact rfl|exact Ue (by omega)|exact Oh _|exact Og (by omega)|exact oN _|exact lW k1|exact DR k2
 |cons a r=>
  have hs:=amZ d u v (a::r) (a::r).length c x y;rw [e,Tt,show (a::r).length+1=((a::r)++ [(c+x) % 16777216]).length by simp] at hs;apply hs<;>first|exact rfl|exact Ue (by omega)|exact Oh _|exact Og (by omega)|exact oN _|exact lW k1|exact DR k2|(rw [Xzp];simp only [η,τ,bM,Θ];omega)|(have h:=Ue (a:=(a::r).length) (b:=1) (by omega);rw [show (a::r).length+1=((a::r)++ [(c+x) % 16777216]).length by simp] at h;exact h)
theorem amV {nt:Nat} (d:83<=nt) {u v o ru rv:List Nat} {c x y:Nat} (f:ε o.length u= []) (g:ε o.length v=y::rv) (i:y<16777216) (j:c<16777216) (k:o.length<2^39):
  ψ nt f80 (BU u v (o,c)) .normal (BU u v (o++ [(c+y) % 16777216],(c+y) / 16777216)):=by
 have k1:=BR f;obtain ⟨e,k2⟩:=Ld g;cases o with
 |nil=>
  have hs:=am5 d u v [] ([]:List Nat).length c x y;rw [e] at hs;apply hs<;>first|exact rfl|exact Ue (by omega)|exact Oh _|exact Og (by omega)|exact oN _|exact DR k1|exact lW k2
 |cons a r=>
  have hs:=am0 d u v (a::r) (a::r).length c x y;rw [e,Tt,show (a::r).length+1=((a::r)++ [(c+y) % 16777216]).length by simp] at hs;apply hs<;>first|exact rfl|exact Ue (by omega)|exact Oh _|exact Og (by omega)|exact oN _|exact DR k1|exact lW k2|(rw [Xzp];simp only [η,τ,bM,Θ];omega)|(have h:=Ue (a:=(a::r).length) (b:=1) (by omega);rw [show (a::r).length+1=((a::r)++ [(c+y) % 16777216]).length by simp] at h;exact h)
theorem amU {nt:Nat} (e:83<=nt) {u v o ru rv:List Nat} {c x y:Nat} (f:ε o.length u= []) (g:ε o.length v= []) (d:0<c) (i:c<16777216) (j:o.length<2^39):
  ψ nt f80 (BU u v (o,c)) .normal (BU u v (o++ [(c) % 16777216],(c) / 16777216)):=by
 have k1:=BR f;have k2:=BR g;cases o with
 |nil=>
  have hs:=am6 e u v [] ([]:List Nat).length c x y;apply hs<;>first|exact rfl|exact Ue (by omega)|exact Oh _|exact Og (by omega)|exact oN _|exact DR k1|exact DR k2|exact lW d
 |cons a r=>
  have hs:=am1 e u v (a::r) (a::r).length c x y;rw [Tt,show (a::r).length+1=((a::r)++ [(c) % 16777216]).length by simp] at hs;apply hs<;>first|exact rfl|exact Ue (by omega)|exact Oh _|exact Og (by omega)|exact oN _|exact DR k1|exact DR k2|exact lW d|(rw [Xzp];simp only [η,τ,bM,Θ];omega)|(have h:=Ue (a:=(a::r).length) (b:=1) (by omega);rw [show (a::r).length+1=((a::r)++ [(c) % 16777216]).length by simp] at h;exact h)
theorem Y7 {nt:Nat} (c:83<=nt) {u v o:List Nat} (d:ε o.length u= []) (e:ε o.length v= []):ψ nt f80 (BU u v (o,0)) (.exit 0) (Tu o):=by
 have k1:=BR d;have k2:=BR e;cases o with
 |nil=>exact am7 c u v [] ([]:List Nat).length 0 0 0 rfl (DR k2) (DR k1)
 |cons a r=>exact am2 c u v (a::r) (a::r).length 0 0 0 rfl (DR k2) (DR k1)
def MF:List Nat->List Nat->Nat->List Nat
 | [],[],c=>if 0<c then [c % 16777216] else []
 | [],y::v,c=>(c+y) % 16777216::MF [] v ((c+y) / 16777216)
 |x::u,[],c=>(c+x) % 16777216::MF u [] ((c+x) / 16777216)
 |x::u,y::v,c=>(c+x+y) % 16777216::MF u v ((c+x+y) / 16777216)
theorem DZ:∀ (u v:List Nat) (c:Nat),bz u->bz v->c<=1->dn (MF u v c)=dn u+dn v+c/\bz (MF u v c)/\(MF u v c).length<=u.length+v.length+1/\u.length<=(MF u v c).length/\v.length<=(MF u v c).length
 | [],[],c,_,_,hc=>by
  simp only [MF];rcases Xqb c with h|h
  .subst h;exact ⟨rfl,bz.nil,by simp,by simp,by simp⟩
  .rw [if_pos h];exact ⟨by simp only [dn];omega,bz.cons (Xqy _ (by omega)) bz.nil,by simp,by simp,by simp⟩
 | [],y::v,c,hu,hv,hc=>by
  have k:=hv.head;obtain ⟨d,e,i,f,g⟩:=DZ [] v ((c+y) / 16777216) hu hv.tail (by omega);simp only [MF];refine ⟨?_,bz.cons (Xqy _ (by omega)) e,by simp only [ν,Xqf] at*;omega,by simp,by simp only [ν];omega⟩;simp only [dn] at*
  rw [d];omega
 |x::u,[],c,hu,hv,hc=>by
  have j:=hu.head;obtain ⟨d,e,i,f,g⟩:=DZ u [] ((c+x) / 16777216) hu.tail hv (by omega);simp only [MF];refine ⟨?_,bz.cons (Xqy _ (by omega)) e,by simp only [ν,Xqf] at*;omega,by simp only [ν];omega,by simp⟩;simp only [dn] at*
  rw [d];omega
 |x::u,y::v,c,hu,hv,hc=>by
  have j:=hu.head;have k:=hv.head;obtain ⟨d,e,i,f,g⟩:=DZ u v ((c+x+y) / 16777216) hu.tail hv.tail (by omega);simp only [MF];refine ⟨?_,bz.cons (Xqy _ (by omega)) e,by simp only [ν] at*;omega,by simp only [ν];omega,by simp only [ν];omega⟩;simp only [dn] at*
  rw [d];omega
theorem Ry {u r:List Nat} {x d:Nat} {o:List Nat} (h:ε o.length u=x::r):ε (o++ [d]).length u=r:=by
 rw [η,τ,<- Xjw,h];rfl
theorem Rx {u:List Nat} {d:Nat} {o:List Nat} (h:ε o.length u= []):ε (o++ [d]).length u= []:=by
 rw [η,τ,<- Xjw,h];rfl
theorem Eh {nt:Nat} (d:83<=nt) {u v:List Nat}:∀ (a b o:List Nat) (c:Nat),ε o.length u=a->ε o.length v=b->bz a->bz b->c<=1->o.length+a.length+b.length<2^38->
  az prog ap [] nt (af 0 (ah f80)) (λ_=> .exit 0) (BU u v) Tu (o,c) (o++MF a b c)
 | [],[],o,c,hu,hv,_,_,hc,hl=>by
  simp only [Xqf] at hl;simp only [MF];rcases Xqb c with h|h
  .subst h;rw [if_neg (by omega),Δ];exact .done (Y7 d hu hv)
  .rw [if_pos h];have j:c / 16777216=0:=by omega
   have i:=amU d (x:=0) (y:=0) (ru:= []) (rv:= []) hu hv h (by omega) (by omega);rw [j] at i;exact .next i (.done (Y7 d (Rx hu) (Rx hv)))
 | [],y::b,o,c,hu,hv,ha,hb,hc,hl=>by
  have g:=hb.head;simp only [Xqf,ν] at hl;have e:=Eh d [] b (o++ [(c+y) % 16777216]) ((c+y) / 16777216) (Rx hu) (Ry hv) ha hb.tail (by omega) (by simp only [η,τ,Xqf];omega);rw [υ,Xqt] at e;simp only [MF];exact .next (amV d (x:=0) (ru:= []) hu hv g (by omega) (by omega)) e
 |x::a,[],o,c,hu,hv,ha,hb,hc,hl=>by
  have f:=ha.head;simp only [Xqf,ν] at hl;have e:=Eh d a [] (o++ [(c+x) % 16777216]) ((c+x) / 16777216) (Ry hu) (Rx hv) ha.tail hb (by omega) (by simp only [η,τ,Xqf];omega);rw [υ,Xqt] at e;simp only [MF];exact .next (amW d (y:=0) (rv:= []) hu hv f (by omega) (by omega)) e
 |x::a,y::b,o,c,hu,hv,ha,hb,hc,hl=>by
  have f:=ha.head;have g:=hb.head;simp only [ν] at hl;have e:=Eh d a b (o++ [(c+x+y) % 16777216]) ((c+x+y) / 16777216) (Ry hu) (Ry hv) ha.tail hb.tail (by omega) (by simp only [η,τ];omega);rw [υ,Xqt] at e;simp only [MF];exact .next (amX d hu hv f g (by omega) (by omega)) e
theorem Rt (s:List UInt8):(ax (ag s)).length<=s.length:=tV (Xqa (kD s) (by rw [Xjf];exact Xku (by decide) _))
theorem Y5 (s t:List UInt8) (hs:s.length<2^35) (n:t.length<2^35) (h:2^(8*7)<=ag s\/2^(8*7)<=ag t):∃ w:List Nat,w.length<=s.length+t.length+1/\bz w/\dn w=ag s+ag t/\w ≠ []/\∀ nt,83<=nt->az prog ap [] nt (af 0 (ah f80)) (λ_=> .exit 0) (BU (ax (ag s)) (ax (ag t))) Tu ([],0) w:=by
 have i:=Rt s;have k:=Rt t;obtain ⟨c,d,j,m,g⟩:=DZ (ax (ag s)) (ax (ag t)) 0 (bz.dig _) (bz.dig _) (by omega);rw [fG,fG,Xq1] at c;refine ⟨_,by omega,d,c, ?_,λnt f=>Eh f (ax (ag s)) (ax (ag t)) [] 0 rfl rfl (bz.dig _) (bz.dig _) (by omega) (by simp only [Xqf];omega)⟩;intro e;rw [e] at c;simp only [dn] at c;omega
theorem Vr (s t:List UInt8) (hs:s.length<2^34) (y:t.length<2^34):CO 80 [.str s,.str t] (.ret (.str (ae (ag s+ag t)))):=by
 have i:=Dw s (by omega);have k:=Dw t (by omega);have v:=yw (s:=s) (by omega);have A:=yw (s:=t) (by omega);have f:2^(8*7)<=ag s\/2^(8*7)<=ag t->∃ w:List Nat,CO 136 [.sl (κ (w.length*1) (ai w)) w.length true] (.ret (.str (ae (ag s+ag t))))/\aK prog ap [] 83 (.block 0 (.loop (af 0 (ah f80)))) (BU (ax (ag s)) (ax (ag t)) ([],0)) .normal ⟨[(11,.ref 0 0 0 w.length)],[(0,⟨ai w,0,false,0,1,true⟩)],.dead,[]⟩:=by
  intro h;obtain ⟨w,z,o,p,q,u⟩:=Y5 s t (by omega) (by omega) h;have j:w.length<2^36:=by omega
  have c:=vT w true j o;rw [p] at c;have m:κ (w.length*1) (ai w)=ai w:=by rw [Θ,dA,Xqz]
  refine ⟨w,by rw [m];exact c, ?_⟩;have d:=az.blk (s:=BU (ax (ag s)) (ax (ag t)) ([],0)) (s':=Tu w) (id:=0) u (by simp) rfl (aN.refl _) (aN.refl _);cases w with
  |nil=>exact absurd rfl q
  |cons a r=>exact d
 rcases Xq2 (ag s) (2^(8*7)) with c1|c1
 .have e:=iE s 7 (by omega) (by omega) c1;rcases Xq2 (ag t) (2^(8*7)) with c2|c2
  .have n:=lQ (ag s+ag t) (by omega);have j:γ .i64 (((ag s:Nat):Int)+((ag t:Nat):Int))=((ag s+ag t:Nat):Int):=by rw [bQ,aS (by omega)]
   rw [<- j] at n;exact ahB s t _ _ _ [] e (iE t 7 (by omega) (by omega) c2) n
  .obtain ⟨w,c,d⟩:=f (.inr c2);exact ahC s t _ 0 _ w e (lT t 7 (by omega) c2) i k c λnt g=>(d nt g).weak (aN.of ⟨rfl,rfl,rfl,rfl,rfl,trivial⟩) (aN.refl _)
 .have e:=lT s 7 (by omega) c1;obtain ⟨w,c,d⟩:=f (.inl c1);rcases Xq2 (ag t) (2^(8*7)) with c2|c2
  .exact ahD s t 0 _ _ w e (iE t 7 (by omega) (by omega) c2) i k c λnt g=>(d nt g).weak (aN.of ⟨rfl,rfl,rfl,rfl,rfl,trivial⟩) (aN.refl _)
  .exact ahE s t 0 0 _ w e (lT t 7 (by omega) c2) i k c λnt g=>(d nt g).weak (aN.of ⟨rfl,rfl,rfl,rfl,rfl,trivial⟩) (aN.refl _)
theorem ZC (x y:Nat):decide (nD x y<((0:Nat):Int))=decide (x<y):=by
 unfold nD;by_cases h:x<y
 .rw [if_pos h,Yq0 h];rfl
 .rw [if_neg h,Yq1 h];split<;>rfl
theorem aaY {x y:Nat} (h:y<=x) (d:(ax x).length<2^36):(ax y).length<2^36:=by
 have c:=AQ (bz.dig x);rw [fG] at c;exact Xqj (tV (Xqj h c)) d
theorem VE (s t:List UInt8) (hs:s.length<2^35) (f:t.length<2^35) (h:ag t<=ag s):CO 102 [.str s,.str t] (.ret (.tup [.str (ae (ag s - ag t)),.bool true])):=by
 have e:=yw (s:=s) hs;have d:=aaY (Xww (ag s) (ag t)) (by omega);have c:=vT (ax (ag s - ag t)) false d (bz.dig _);rw [fG] at c;exact anR s t 0 0 _ [] (by rw [ZC];exact Yq1 (by omega)) (Le s t (by omega) (by omega)) (Dw s (by omega)) (Dw t (by omega)) (NP _ _ false false h (by omega)) c
abbrev Vbo:kW:= .ret (Ω false (ae 0) (ae 1))
theorem an7 (d k:Bool) (c e j i:List UInt8) (a b r:RQ) (f:(iW d c e)=false) (g:CO 115 [Ω d c e] (.ret (.bool (iW d c e)))) (h:CO 42 [ω 0] Vbo):CO 170 [Ω d c e] Vbo:=pK [] 1 1 (.k 4 (dV f) (.n 3 .nil)) (.c h (.c g .nil))
theorem an8 (d j:Bool) (c e i h:List UInt8) (a b r:RQ) (f:(iW d c e)=true) (g:CO 115 [Ω d c e] (.ret (.bool (iW d c e)))):CO 170 [Ω d c e] (.ret (Ω d c e)):=pK [] 1 0 (.k 7 (aX f) (.n 3 .nil)) (.c g .nil)
abbrev Va0 (a:RQ):List AV:=[.bool a.neg,.str (ae a.n),.str (ae a.d)]
abbrev Va6 (a:RQ):kW:= .ret (.agg (Va0 a))
abbrev VbK (a:Bool) (b:List UInt8) (c:List UInt8) (d:RQ):Prop:=CO 170 [Ω a b c] (Va6 d)
theorem anB (d j:Bool) (c e i h:List UInt8) (a b r:RQ) (f:a.neg=false) (g:VbK d c e a):CO 200 [Ω d c e] (.ret (.agg [.bool (!((ae a.n)== [])),.str (ae a.n),.str (ae a.d)])):=pK [] 1 1 (.k 9 (dV f) (.n 5 .nil)) (.c g .nil)
theorem anC (d j:Bool) (c e i h:List UInt8) (a b r:RQ) (f:a.neg=true) (g:VbK d c e a):CO 200 [Ω d c e] (.ret (Ω false (ae a.n) (ae a.d))):=pK [] 1 0 (.k 8 (aX f) (.n 5 .nil)) (.c g .nil)
abbrev VaF (a:RQ) (b:RQ):Prop:=CO 171 [.str (ae a.n),.str (ae b.d)] (.ret (.str (ae (a.n*b.d))))
abbrev VaY (a:RQ) (b:RQ):List AV:=[.str (ae (a.n*b.d)),.str (ae (b.n*a.d))]
abbrev Vbj (a:RQ) (b:RQ):Prop:=CO 171 [.str (ae a.d),.str (ae b.d)] (.ret (.str (ae (a.d*b.d))))
theorem acY (f h:Bool) (e g d c:List UInt8) (a b r:RQ) (n:(a.neg==b.neg)=true) (o:VbK f e g a) (q:VbK h d c b) (j:VaF a b) (p:VaF b a) (k:Vbj a b) (m:CO 71 (VaY a b) (.ret (.str (ae ((a.n*b.d)+(b.n*a.d)))))) (i:CO 160 [.bool a.neg,.str (ae ((a.n*b.d)+(b.n*a.d))),.str (ae (a.d*b.d))] (Va6 r)):CO 167 [Ω f e g,Ω h d c] (Va6 r):=pK [] 1 1 (.k 5 (aA n) (.n 16 .nil)) (.c i (.c m (.c k (.c p (.c j (.c q (.c o .nil)))))))
abbrev VbD (a:RQ) (b:RQ):kW:= .ret (.tup [.str (ae ((a.n*b.d) - (b.n*a.d))),.bool true])
theorem acZ (f h:Bool) (e g d c:List UInt8) (a b r:RQ) (n:(a.neg==b.neg)=false) (o:VbK f e g a) (q:VbK h d c b) (j:VaF a b) (p:VaF b a) (k:Vbj a b) (m:CO 199 (VaY a b) (VbD a b)) (i:CO 160 [.bool a.neg,.str (ae ((a.n*b.d) - (b.n*a.d))),.str (ae (a.d*b.d))] (Va6 r)):CO 167 [Ω f e g,Ω h d c] (Va6 r):=pK [] 2 2 (.k 6 (aB n) (.n 16 .nil)) (.c i (.c m (.c k (.c p (.c j (.c q (.c o .nil)))))))
theorem acX (f h:Bool) (e g d c:List UInt8) (a b r:RQ) (n:(a.neg==b.neg)=false) (p:VbK f e g a) (t:VbK h d c b) (j:VaF a b) (q:VaF b a) (k:Vbj a b) (m:CO 199 (VaY a b) (.ret (.tup [.str [],.bool false]))) (i:CO 199 (VaY b a) (VbD b a)) (o:CO 160 [.bool b.neg,.str (ae ((b.n*a.d) - (a.n*b.d))),.str (ae (a.d*b.d))] (Va6 r)):CO 167 [Ω f e g,Ω h d c] (Va6 r):=pK [] 2 0 (.k 6 (aB n) (.n 16 .nil)) (.c o (.c i (.c m (.c k (.c q (.c j (.c t (.c p .nil))))))))
theorem anS (f h:Bool) (e g d c:List UInt8) (a b r:RQ) (i:CO 200 [Ω h d c] (Va6 b)) (j:CO 167 [Ω f e g,.agg (Va0 b)] (Va6 r)):CO 168 [Ω f e g,Ω h d c] (Va6 r):=pK [] 0 0 (.n 10 .nil) (.c j (.c i .nil))
abbrev VaO (a:RQ):List AV:=[.agg (Va0 a)]
theorem anr (f h:Bool) (e g d c:List UInt8) (a b r:RQ) (i:CO 168 [Ω f e g,Ω h d c] (Va6 r)) (j:CO 121 (VaO r) (.ret (ω (jk r)))):CO 127 [Ω f e g,Ω h d c] (.ret (ω (jk r))):=pK [] 0 0 (.n 6 .nil) (.c j (.c i .nil))
theorem anA (f h:Bool) (e g d c:List UInt8) (a b r:RQ) (k:VbK f e g a) (n:VbK h d c b) (i:CO 171 [.str (ae a.n),.str (ae b.n)] (.ret (.str (ae (a.n*b.n))))) (m:Vbj a b) (j:CO 160 [.bool (!(a.neg==b.neg)),.str (ae (a.n*b.n)),.str (ae (a.d*b.d))] (Va6 r)):CO 169 [Ω f e g,Ω h d c] (Va6 r):=pK [] 0 0 (.n 18 .nil) (.c j (.c m (.c i (.c n (.c k .nil)))))
theorem anN (f h:Bool) (e g d c:List UInt8) (a b r:RQ) (i:((ae b.n)== [])=true) (j:VbK f e g a) (k:VbK h d c b):CO 125 [Ω f e g,Ω h d c] (.ret (.tup [Ω false [] [],.bool false])):=pK [] 1 1 (.k 4 (aA i) (.n 9 .nil)) (.c k (.c j .nil))
abbrev Vaf (a:RQ):kW:= .ret (.tup [.agg (Va0 a),.bool true])
theorem anO (f h:Bool) (e g d c:List UInt8) (a b r:RQ) (k:((ae b.n)== [])=false) (m:VbK f e g a) (o:VbK h d c b) (i:VaF a b) (n:CO 171 [.str (ae a.d),.str (ae b.n)] (.ret (.str (ae (a.d*b.n))))) (j:CO 160 [.bool (!(a.neg==b.neg)),.str (ae (a.n*b.d)),.str (ae (a.d*b.n))] (Va6 r)):CO 125 [Ω f e g,Ω h d c] (Vaf r):=pK [] 1 0 (.k 10 (aB k) (.n 9 .nil)) (.c j (.c n (.c i (.c o (.c m .nil)))))
theorem amJ (d j:Bool) (c e i h:List UInt8) (a b r:RQ) (f:((ae a.n)== [])=false) (g:CO 98 [Ω d c e] (Va6 a)):CO 142 [Ω d c e] (.ret (Ω (!a.neg) (ae a.n) (ae a.d))):=pK [] 1 1 (.k 9 (dV f) (.n 5 .nil)) (.c g .nil)
theorem amK (d j:Bool) (c e i h:List UInt8) (a b r:RQ) (f:((ae a.n)== [])=true) (g:CO 98 [Ω d c e] (.ret (.agg [.bool a.neg,.str (ae a.n),.str (ae a.d)]))):CO 142 [Ω d c e] (.ret (.agg [.bool a.neg,.str (ae a.n),.str (ae a.d)])):=pK [] 1 0 (.k 7 (aX f) (.n 5 .nil)) (.c g .nil)
abbrev VaG (a:RQ) (b:RQ):Prop:=CO 100 [.str (ae a.n),.str (ae b.d)] (.ret (.str (ae (a.n*b.d))))
abbrev VbZ (a:RQ) (b:RQ):Prop:=CO 100 [.str (ae a.d),.str (ae b.d)] (.ret (.str (ae (a.d*b.d))))
theorem acJ (f h:Bool) (e g d c:List UInt8) (a b r:RQ) (n:(a.neg==b.neg)=true) (o:CO 98 [Ω f e g] (Va6 a)) (q:CO 98 [Ω h d c] (Va6 b)) (j:VaG a b) (p:VaG b a) (k:VbZ a b) (m:CO 80 (VaY a b) (.ret (.str (ae ((a.n*b.d)+(b.n*a.d)))))) (i:CO 99 [.bool a.neg,.str (ae ((a.n*b.d)+(b.n*a.d))),.str (ae (a.d*b.d))] (Va6 r)):CO 62 [Ω f e g,Ω h d c] (Va6 r):=pK [] 1 1 (.k 5 (aA n) (.n 16 .nil)) (.c i (.c m (.c k (.c p (.c j (.c q (.c o .nil)))))))
theorem acK (g d:Bool) (c h e f:List UInt8) (a b r:RQ) (p:(decide (((0:Nat):Int)<=(nD (a.n*b.d) (b.n*a.d))))=true) (j:(a.neg==b.neg)=false) (n:CO 98 [Ω g c h] (Va6 a)) (k:CO 98 [Ω d e f] (Va6 b)) (m:VaG a b) (q:VaG b a) (o:VbZ a b) (t:CO 101 (VaY a b) (.ret (ω (nD (a.n*b.d) (b.n*a.d))))) (i:CO 102 (VaY a b) (VbD a b)) (u:CO 99 [.bool a.neg,.str (ae ((a.n*b.d) - (b.n*a.d))),.str (ae (a.d*b.d))] (Va6 r)):CO 62 [Ω g c h,Ω d e f] (Va6 r):=pK [] 2 2 (.k 5 (aA p) (.c (aB j) (.n 16 .nil))) (.c u (.c i (.c t (.c o (.c q (.c m (.c k (.c n .nil))))))))
theorem acL (g d:Bool) (c h e f:List UInt8) (a b r:RQ) (p:(decide (((0:Nat):Int)<=(nD (a.n*b.d) (b.n*a.d))))=false) (j:(a.neg==b.neg)=false) (n:CO 98 [Ω g c h] (Va6 a)) (k:CO 98 [Ω d e f] (Va6 b)) (m:VaG a b) (q:VaG b a) (o:VbZ a b) (t:CO 101 (VaY a b) (.ret (ω (nD (a.n*b.d) (b.n*a.d))))) (i:CO 102 (VaY b a) (VbD b a)) (u:CO 99 [.bool b.neg,.str (ae ((b.n*a.d) - (a.n*b.d))),.str (ae (a.d*b.d))] (Va6 r)):CO 62 [Ω g c h,Ω d e f] (Va6 r):=pK [] 2 0 (.k 5 (aB p) (.c (aB j) (.n 16 .nil))) (.c u (.c i (.c t (.c o (.c q (.c m (.c k (.c n .nil))))))))
theorem amO (f h:Bool) (e g d c:List UInt8) (a b r:RQ) (i:CO 142 [Ω h d c] (Va6 b)) (j:CO 62 [Ω f e g,.agg (Va0 b)] (Va6 r)):CO 88 [Ω f e g,Ω h d c] (Va6 r):=pK [] 0 0 (.n 10 .nil) (.c j (.c i .nil))
theorem amG (f h:Bool) (e g d c:List UInt8) (a b r:RQ) (i:CO 88 [Ω f e g,Ω h d c] (Va6 r)) (j:CO 141 (VaO r) (.ret (ω (jk r)))):CO 87 [Ω f e g,Ω h d c] (.ret (ω (jk r))):=pK [] 0 0 (.n 6 .nil) (.c j (.c i .nil))
theorem amL (f h:Bool) (e g d c:List UInt8) (a b r:RQ) (i:((ae b.n)== [])=true) (j:CO 98 [Ω f e g] (Va6 a)) (k:CO 98 [Ω h d c] (Va6 b)):CO 60 [Ω f e g,Ω h d c] (.ret (.tup [Ω false [] [],.bool false])):=pK [] 1 1 (.k 4 (aA i) (.n 9 .nil)) (.c k (.c j .nil))
theorem amM (f h:Bool) (e g d c:List UInt8) (a b r:RQ) (k:((ae b.n)== [])=false) (m:CO 98 [Ω f e g] (Va6 a)) (o:CO 98 [Ω h d c] (Va6 b)) (i:VaG a b) (n:CO 100 [.str (ae a.d),.str (ae b.n)] (.ret (.str (ae (a.d*b.n))))) (j:CO 99 [.bool (!(a.neg==b.neg)),.str (ae (a.n*b.d)),.str (ae (a.d*b.n))] (Va6 r)):CO 60 [Ω f e g,Ω h d c] (Vaf r):=pK [] 1 0 (.k 10 (aB k) (.n 9 .nil)) (.c j (.c n (.c i (.c o (.c m .nil)))))
def lJ (q:RQ):RQ:=⟨!q.neg && decide (0<q.n),q.n,q.d⟩
def gG (a b:RQ):RQ:=if a.neg=b.neg then fZ a.neg (a.n*b.d+b.n*a.d) (a.d*b.d) else if b.n*a.d<=a.n*b.d then fZ a.neg (a.n*b.d - b.n*a.d) (a.d*b.d) else fZ b.neg (b.n*a.d - a.n*b.d) (a.d*b.d)
def eU (a b:RQ):RQ:=gG a (lJ b)
def iO (a b:RQ):Int:=jk (eU a b)
def ja (a b:RQ):RQ:=fZ (!(a.neg==b.neg)) (a.n*b.n) (a.d*b.d)
def fM (a b:RQ):RQ:=fZ (!(a.neg==b.neg)) (a.n*b.d) (a.d*b.n)
theorem fQ {q:RQ} (h:q.ok):vQ q.neg (ae q.n) (ae q.d)=q:=by
 unfold vQ;rw [if_pos (pI q h),aG,aG]
theorem qZ {q:RQ} (h:q.ok):(lJ q).ok:=by
 refine ⟨h.1,h.2.1,λc=> ?_⟩;simp only [lJ,φ,decide_eq_true_eq] at c;exact c.2
theorem eX {a b:RQ} (c:a.ok) (d:b.ok):(gG a b).ok:=by
 have hd:0<a.d*b.d:=Xjg c.1 d.1;unfold gG;split
 .exact mX hd
 .split
  .exact mX hd
  .exact mX hd
theorem jb {a b:RQ} (c:a.ok) (d:b.ok):(ja a b).ok:=mX (Xjg c.1 d.1)
theorem qL {a b:RQ} (c:a.ok) (d:0<b.n):(fM a b).ok:=mX (Xjg c.1 d)
theorem FP (x:Nat):x<2^(8*(ae x).length):=uj.1 (χ _)
theorem dW (x y:Nat):(ae (x*y)).length<=(ae x).length+(ae y).length:=by
 refine bU ?_;rw [Xxe,Xxo];exact Nat.mul_lt_mul'' (FP x) (FP y)
theorem lH {x y:Nat} (h:x<=y):(ae x).length<=(ae y).length:=bU (Xqj h (FP y))
theorem wX (x y:Nat):(ae (x+y)).length<=(ae x).length+(ae y).length+1:=by
 refine bU ?_;have d:=Xqa (FP x) (Xqc (n:=2) (by omega) (show 8*(ae x).length<=8*((ae x).length+(ae y).length) by omega));have c:=Xqa (FP y) (Xqc (n:=2) (by omega) (show 8*(ae y).length<=8*((ae x).length+(ae y).length) by omega));rw [show 8*((ae x).length+(ae y).length+1)=8*((ae x).length+(ae y).length)+8 by omega,Xxo];generalize 2^(8*((ae x).length+(ae y).length))=P at*
 omega
theorem aeV (s:List UInt8):(ae (ag s)).length<=s.length:=bU (kD s)
theorem jS (s:Bool) (n d:List UInt8):(ae (vQ s n d).n).length<=n.length/\(ae (vQ s n d).d).length<=d.length+1:=by
 unfold vQ;split
 .exact ⟨aeV n,Nat.le_succ_of_le (aeV d)⟩
 .refine ⟨by show (ae 0).length<=_;rw [dC];simp, ?_⟩;show (ae 1).length<=_;have:(ae 1).length<=1:=bU (by decide);omega
theorem ug (c:Bool) (n d:Nat):(ae (fZ c n d).n).length<=(ae n).length/\(ae (fZ c n d).d).length<=(ae d).length:=
 ⟨lH (Xjn _ _),lH (Xjn _ _)⟩
theorem vO (a b:RQ) (L:Nat) (j:(ae a.n).length<=L) (c:(ae a.d).length<=L) (f:(ae b.n).length<=L) (i:(ae b.d).length<=L):(ae (gG a b).n).length<=4*L+1/\(ae (gG a b).d).length<=2*L:=by
 have g:=dW a.n b.d;have e:=dW b.n a.d;have d:=dW a.d b.d;have h:=wX (a.n*b.d) (b.n*a.d);unfold gG;split
 .have:=ug a.neg (a.n*b.d+b.n*a.d) (a.d*b.d);omega
 .split
  .have:=ug a.neg (a.n*b.d - b.n*a.d) (a.d*b.d);have:=lH (Xww (a.n*b.d) (b.n*a.d));omega
  .have:=ug b.neg (b.n*a.d - a.n*b.d) (a.d*b.d);have:=lH (Xww (b.n*a.d) (a.n*b.d));omega
theorem Gm (x y:Nat) (d:(ae x).length<2^34) (c:(ae y).length<2^34):CO 171 [.str (ae x),.str (ae y)] (.ret (.str (ae (x*y)))):=by
 have h:=acr (ae x) (ae y) (by omega) (by omega);rw [aG,aG] at h;exact h
theorem aeZ (x y:Nat) (d:(ae x).length<2^34) (c:(ae y).length<2^34):CO 71 [.str (ae x),.str (ae y)] (.ret (.str (ae (x+y)))):=by
 have h:=acf (ae x) (ae y) (by omega) (by omega);rw [aG,aG] at h;exact h
theorem ae0 (x y:Nat) (d:(ae x).length<2^34) (e:(ae y).length<2^34) (c:y<=x):CO 199 [.str (ae x),.str (ae y)] (.ret (.tup [.str (ae (x - y)),.bool true])):=by
 have h:=acu (ae x) (ae y) (by omega) (by omega) (by rw [aG,aG];exact c);rw [aG,aG] at h;exact h
theorem alR (x y:Nat) (d:(ae x).length<2^34) (e:(ae y).length<2^34) (c:x<y):CO 199 [.str (ae x),.str (ae y)] (.ret (.tup [.str [],.bool false])):=
 acs (ae x) (ae y) (by omega) (by omega) (by rw [aG,aG];exact c)
theorem GH (x y:Nat) (d:(ae x).length<2^33) (c:(ae y).length<2^33):CO 100 [.str (ae x),.str (ae y)] (.ret (.str (ae (x*y)))):=by
 have h:=Yt (ae x) (ae y) (by omega) (by omega);rw [aG,aG] at h;exact h
theorem amE (x y:Nat) (d:(ae x).length<2^33) (c:(ae y).length<2^33):CO 80 [.str (ae x),.str (ae y)] (.ret (.str (ae (x+y)))):=by
 have h:=Vr (ae x) (ae y) (by omega) (by omega);rw [aG,aG] at h;exact h
theorem ae7 (x y:Nat) (d:(ae x).length<2^33) (e:(ae y).length<2^33) (c:y<=x):CO 102 [.str (ae x),.str (ae y)] (.ret (.tup [.str (ae (x - y)),.bool true])):=by
 have h:=VE (ae x) (ae y) (by omega) (by omega) (by rw [aG,aG];exact c);rw [aG,aG] at h;exact h
theorem amF (x y:Nat) (d:(ae x).length<2^33) (c:(ae y).length<2^33):CO 101 [.str (ae x),.str (ae y)] (.ret (ω (nD x y))):=by
 have h:=Le (ae x) (ae y) (by omega) (by omega);rw [aG,aG] at h;exact h
theorem Jz (c:Bool) (n d:Nat) (f:(ae n).length<2^33) (hd:(ae d).length<2^33) (e:0<d):CO 160 [.bool c,.str (ae n),.str (ae d)] (.ret (qA (fZ c n d))):=by
 have h:=Yj c (ae n) (ae d) (by omega) (by omega) (by rw [aG];exact e);rw [aG,aG] at h;exact h
theorem Zr (q:RQ) (c:q.ok) (d:(ae q.n).length<2^33) (hd:(ae q.d).length<2^33):CO 121 [.agg [.bool q.neg,.str (ae q.n),.str (ae q.d)]] (.ret (ω (jk q))):=by
 have h:=pY q.neg (ae q.n) (ae q.d) (by omega) (by omega);rw [G_,fQ c] at h;exact h
theorem ae6 (q:RQ) (c:q.ok) (d:(ae q.n).length<2^33) (hd:(ae q.d).length<2^33):CO 141 [.agg [.bool q.neg,.str (ae q.n),.str (ae q.d)]] (.ret (ω (jk q))):=by
 have h:=BP q.neg (ae q.n) (ae q.d) (by omega) (by omega);rw [G_,fQ c] at h;exact h
theorem oH (c:Bool) (n d:List UInt8) (g:n.length<2^33) (hd:d.length<2^33):CO 170 [Ω c n d] (.ret (qA (vQ c n d))):=by
 have f:=nS c n d (by omega) (by omega);unfold vQ;cases e:iW c n d with
 |false=>
  rw [e] at f;have h:=an7 c false n d [] [] q0 q0 q0 e (by rw [e];exact f) jV;rw [if_neg (by simp)];exact h
 |true=>
  rw [e] at f;have h:=an8 c false n d [] [] q0 q0 q0 e (by rw [e];exact f);rw [if_pos rfl,<- Sj e];exact h
theorem Zo (c:Bool) (n d:List UInt8) (j:n.length<2^33) (hd:d.length<2^33):CO 200 [Ω c n d] (.ret (qA (lJ (vQ c n d)))):=by
 have f:=oH c n d j hd;generalize vQ c n d=a at*
 have e:(!((ae a.n)== []))=decide (0<a.n):=by
  rcases Xqb a.n with h|h
  .rw [h,dC];rfl
  .rw [Yq0 h,Bool.not_eq_true',Yq2];intro i;rw [fC] at i;omega
 unfold lJ qA;cases g:a.neg with
 |false=>
  have h:=anB c false n d [] [] a q0 q0 g f;rw [e] at h;exact h
 |true=>exact anC c false n d [] [] a q0 q0 g f
theorem Tn (c:Bool) (n d:List UInt8) (m:n.length<2^33) (hd:d.length<2^33):CO 142 [Ω c n d] (.ret (qA (lJ (vQ c n d)))):=by
 have g:=jg c n d m hd;have k:=jJ c n d;generalize vQ c n d=a at*
 unfold lJ qA;rcases Xqb a.n with h|h
 .have f:a.neg=false:=by
   cases j:a.neg with
   |false=>rfl
   |true=>have:=k.2.2 j;omega
  have e:=amK c false n d [] [] a q0 q0 (by rw [h,dC];rfl) g;rw [f,Yq1 (by omega)];rw [f] at e;exact e
 .have e:=amJ c false n d [] [] a q0 q0 (by rw [Yq2];intro i;rw [fC] at i;omega) g;rw [Yq0 h,Xjz];exact e
theorem G5 (g h:Bool) (d e f c:List UInt8) (y:d.length<2^29) (r:e.length<2^29) (u:f.length<2^29) (w:c.length<2^29):CO 167 [Ω g d e,Ω h f c] (.ret (qA (gG (vQ g d e) (vQ h f c)))):=by
 have n:=oH g d e (by omega) (by omega);have j:=oH h f c (by omega) (by omega);obtain ⟨z,C⟩:=jS g d e;obtain ⟨A,B⟩:=jS h f c;have q:=jJ g d e;have p:=jJ h f c;generalize vQ g d e=a at*
 generalize vQ h f c=b at*
 have hd:0<a.d*b.d:=Xjg q.1 p.1;have F:=dW a.n b.d;have E:=dW b.n a.d;have D:=dW a.d b.d;have k:=Gm a.n b.d (by omega) (by omega);have m:=Gm b.n a.d (by omega) (by omega);have o:=Gm a.d b.d (by omega) (by omega);have v:=wX (a.n*b.d) (b.n*a.d);have t:=lH (Xww (a.n*b.d) (b.n*a.d));have G:=lH (Xww (b.n*a.d) (a.n*b.d));unfold gG;by_cases hs:a.neg=b.neg
 .rw [if_pos hs];exact acY g h d e f c a b _ (by rw [hs];exact beq_self_eq_true _) n j k m o (aeZ _ _ (by omega) (by omega)) (Jz a.neg _ _ (by omega) (by omega) hd)
 .rw [if_neg hs];have i:(a.neg==b.neg)=false:=beq_eq_false_iff_ne.2 hs;by_cases hl:b.n*a.d<=a.n*b.d
  .rw [if_pos hl];exact acZ g h d e f c a b _ i n j k m o (ae0 _ _ (by omega) (by omega) hl) (Jz a.neg _ _ (by omega) (by omega) hd)
  .rw [if_neg hl];exact acX g h d e f c a b _ i n j k m o (alR _ _ (by omega) (by omega) (by omega)) (ae0 _ _ (by omega) (by omega) (by omega)) (Jz b.neg _ _ (by omega) (by omega) hd)
theorem G7 (i e:Bool) (f g d c:List UInt8) (n:f.length<2^29) (j:g.length<2^29) (q:d.length<2^28) (r:c.length<2^28):CO 168 [Ω i f g,Ω e d c] (.ret (qA (eU (vQ i f g) (vQ e d c)))):=by
 have m:=Zo e d c (by omega) (by omega);obtain ⟨o,p⟩:=jS e d c;have k:=qZ (jJ e d c);unfold eU;have h:=G5 i (lJ (vQ e d c)).neg f g (ae (lJ (vQ e d c)).n) (ae (lJ (vQ e d c)).d) n j (Xqj o (by omega)) (Xqj p (by omega));rw [fQ k] at h;exact anS i e f g d c q0 _ _ m h
theorem G6 (g i:Bool) (e f d c:List UInt8) (r:e.length<2^28) (p:f.length<2^28) (j:d.length<2^28) (k:c.length<2^28):CO 127 [Ω g e f,Ω i d c] (.ret (ω (iO (vQ g e f) (vQ i d c)))):=by
 have h:=G7 g i e f d c (by omega) (by omega) j k;obtain ⟨t,u⟩:=jS g e f;obtain ⟨n,o⟩:=jS i d c;have m:(eU (vQ g e f) (vQ i d c)).ok:=eX (jJ _ _ _) (qZ (jJ _ _ _));have q:=vO (vQ g e f) (lJ (vQ i d c)) (2^29) (by omega) (by omega) (Xxg n (by omega)) (Xxg o (by omega));exact anr g i e f d c q0 q0 _ h (Zr _ m (by unfold eU;omega) (by unfold eU;omega))
theorem Oy (g i:Bool) (d e f c:List UInt8) (r:d.length<2^29) (o:e.length<2^29) (p:f.length<2^29) (q:c.length<2^29) (j:0<(vQ i f c).n):CO 125 [Ω g d e,Ω i f c] (.ret (.tup [qA (fM (vQ g d e) (vQ i f c)),.bool true])):=by
 have m:=oH g d e (by omega) (by omega);have k:=oH i f c (by omega) (by omega);obtain ⟨t,w⟩:=jS g d e;obtain ⟨u,v⟩:=jS i f c;have n:=jJ g d e;generalize vQ g d e=a at*
 generalize vQ i f c=b at*
 have z:=dW a.n b.d;have y:=dW a.d b.n;exact anO g i d e f c a b (fM a b) (by rw [Yq2];intro h;rw [fC] at h;omega) m k (Gm a.n b.d (by omega) (by omega)) (Gm a.d b.n (by omega) (by omega)) (Jz _ _ _ (by omega) (by omega) (Xjg n.1 j))
theorem Zp (h g:Bool) (e f d c:List UInt8) (p:e.length<2^29) (m:f.length<2^29) (n:d.length<2^29) (o:c.length<2^29) (i:(vQ g d c).n=0):CO 125 [Ω h e f,Ω g d c] (.ret (.tup [Ω false [] [],.bool false])):=by
 have k:=oH h e f (by omega) (by omega);have j:=oH g d c (by omega) (by omega);exact anN h g e f d c _ _ q0 (by rw [i,dC];rfl) k j
theorem La (g h:Bool) (d e f c:List UInt8) (A:d.length<2^29) (u:e.length<2^29) (w:f.length<2^29) (z:c.length<2^29):CO 62 [Ω g d e,Ω h f c] (.ret (qA (gG (vQ g d e) (vQ h f c)))):=by
 have o:=jg g d e (by omega) (by omega);have j:=jg h f c (by omega) (by omega);obtain ⟨B,E⟩:=jS g d e;obtain ⟨C,D⟩:=jS h f c;have t:=jJ g d e;have r:=jJ h f c;generalize vQ g d e=a at*
 generalize vQ h f c=b at*
 have hd:0<a.d*b.d:=Xjg t.1 r.1;have H:=dW a.n b.d;have G:=dW b.n a.d;have F:=dW a.d b.d;have k:=GH a.n b.d (by omega) (by omega);have n:=GH b.n a.d (by omega) (by omega);have p:=GH a.d b.d (by omega) (by omega);have y:=wX (a.n*b.d) (b.n*a.d);have v:=lH (Xww (a.n*b.d) (b.n*a.d));have I:=lH (Xww (b.n*a.d) (a.n*b.d));unfold gG;by_cases hs:a.neg=b.neg
 .rw [if_pos hs];exact acJ g h d e f c a b _ (by rw [hs];exact beq_self_eq_true _) o j k n p (amE _ _ (by omega) (by omega)) (pW a.neg _ _ (by omega) (by omega) hd)
 .rw [if_neg hs];have i:(a.neg==b.neg)=false:=beq_eq_false_iff_ne.2 hs;have q:=amF (a.n*b.d) (b.n*a.d) (by omega) (by omega);by_cases hl:b.n*a.d<=a.n*b.d
  .rw [if_pos hl];have m:decide (((0:Nat):Int)<=nD (a.n*b.d) (b.n*a.d))=true:=by unfold nD;rw [if_neg (by omega)];split<;>rfl
   exact acK g h d e f c a b _ m i o j k n p q (ae7 _ _ (by omega) (by omega) hl) (pW a.neg _ _ (by omega) (by omega) hd)
  .rw [if_neg hl];have m:decide (((0:Nat):Int)<=nD (a.n*b.d) (b.n*a.d))=false:=by unfold nD;rw [if_pos (by omega)];rfl
   exact acL g h d e f c a b _ m i o j k n p q (ae7 _ _ (by omega) (by omega) (by omega)) (pW b.neg _ _ (by omega) (by omega) hd)
theorem Tq (i e:Bool) (f g d c:List UInt8) (n:f.length<2^29) (j:g.length<2^29) (q:d.length<2^28) (r:c.length<2^28):CO 88 [Ω i f g,Ω e d c] (.ret (qA (eU (vQ i f g) (vQ e d c)))):=by
 have m:=Tn e d c (by omega) (by omega);obtain ⟨o,p⟩:=jS e d c;have k:=qZ (jJ e d c);unfold eU;have h:=La i (lJ (vQ e d c)).neg f g (ae (lJ (vQ e d c)).n) (ae (lJ (vQ e d c)).d) n j (Xqj o (by omega)) (Xqj p (by omega));rw [fQ k] at h;exact amO i e f g d c q0 _ _ m h
theorem Ti (g i:Bool) (e f d c:List UInt8) (r:e.length<2^28) (p:f.length<2^28) (j:d.length<2^28) (k:c.length<2^28):CO 87 [Ω g e f,Ω i d c] (.ret (ω (iO (vQ g e f) (vQ i d c)))):=by
 have h:=Tq g i e f d c (by omega) (by omega) j k;obtain ⟨t,u⟩:=jS g e f;obtain ⟨n,o⟩:=jS i d c;have m:(eU (vQ g e f) (vQ i d c)).ok:=eX (jJ _ _ _) (qZ (jJ _ _ _));have q:=vO (vQ g e f) (lJ (vQ i d c)) (2^29) (by omega) (by omega) (Xxg n (by omega)) (Xxg o (by omega));exact amG g i e f d c q0 q0 _ h (ae6 _ m (by unfold eU;omega) (by unfold eU;omega))
theorem acQ (g i:Bool) (d e f c:List UInt8) (r:d.length<2^29) (o:e.length<2^29) (p:f.length<2^29) (q:c.length<2^29) (j:0<(vQ i f c).n):CO 60 [Ω g d e,Ω i f c] (.ret (.tup [qA (fM (vQ g d e) (vQ i f c)),.bool true])):=by
 have m:=jg g d e (by omega) (by omega);have k:=jg i f c (by omega) (by omega);obtain ⟨t,w⟩:=jS g d e;obtain ⟨u,v⟩:=jS i f c;have n:=jJ g d e;generalize vQ g d e=a at*
 generalize vQ i f c=b at*
 have z:=dW a.n b.d;have y:=dW a.d b.n;exact amM g i d e f c a b (fM a b) (by rw [Yq2];intro h;rw [fC] at h;omega) m k (GH a.n b.d (by omega) (by omega)) (GH a.d b.n (by omega) (by omega)) (pW _ _ _ (by omega) (by omega) (Xjg n.1 j))
theorem acP (h g:Bool) (e f d c:List UInt8) (p:e.length<2^29) (m:f.length<2^29) (n:d.length<2^29) (o:c.length<2^29) (i:(vQ g d c).n=0):CO 60 [Ω h e f,Ω g d c] (.ret (.tup [Ω false [] [],.bool false])):=by
 have k:=jg h e f (by omega) (by omega);have j:=jg g d c (by omega) (by omega);exact amL h g e f d c _ _ q0 (by rw [i,dC];rfl) k j
theorem TC (g h:Bool) (d e f c:List UInt8) (q:d.length<2^29) (n:e.length<2^29) (o:f.length<2^29) (p:c.length<2^29):CO 169 [Ω g d e,Ω h f c] (.ret (qA (ja (vQ g d e) (vQ h f c)))):=by
 have k:=oH g d e (by omega) (by omega);have j:=oH h f c (by omega) (by omega);obtain ⟨r,v⟩:=jS g d e;obtain ⟨t,u⟩:=jS h f c;have m:=jJ g d e;have i:=jJ h f c;generalize vQ g d e=a at*
 generalize vQ h f c=b at*
 have y:=dW a.n b.n;have w:=dW a.d b.d;exact anA g h d e f c a b (ja a b) k j (Gm a.n b.n (by omega) (by omega)) (Gm a.d b.d (by omega) (by omega)) (Jz _ _ _ (by omega) (by omega) (Xjg m.1 i.1))
def RQ.rt (q:RQ):Rat:=(if q.neg then -1 else 1)*(q.n:Rat) / (q.d:Rat)
theorem m_ {x:Nat} (h:0<x):(x:Rat) ≠ 0:=by
 intro e;have:x=0:=by exact_mod_cast e
 omega
theorem yQ (c:Bool) (n d:Nat) (h:0<d):(fZ c n d).rt=(if c then -1 else 1)*(n:Rat) / (d:Rat):=by
 obtain ⟨a,i⟩:=Nat.gcd_dvd_left n d;obtain ⟨b,j⟩:=Nat.gcd_dvd_right n d;have e:0<Xxy n d:=Nat.gcd_pos_of_pos_right n h;unfold fZ RQ.rt;simp only;generalize Xxy n d=g at*
 subst i j;rw [Xwn _ e,Xwn _ e];have f:0<b:=Nat.pos_of_mul_pos_left h;have o:=m_ e;have m:=m_ f;have k:((if (c && decide (0<g*a))=true then -1 else 1:Rat))*(a:Rat)=(if c=true then -1 else 1)*(a:Rat):=by
  rcases Xqb a with h0|h0
  .subst h0;simp
  .rw [Yq0 (Xjg e h0),Xjz]
 rw [k,Rat.natCast_mul,Rat.natCast_mul];grind
theorem Lu (q:RQ):(lJ q).rt= - q.rt:=by
 unfold lJ RQ.rt;rcases Xqb q.n with h0|h0
 .simp [h0];grind
 .cases q.neg<;>simp [h0]<;>grind
theorem yP {a b:RQ} (j:a.ok) (i:b.ok):(gG a b).rt=a.rt+b.rt:=by
 have m:=m_ j.1;have k:=m_ i.1;have hd:0<a.d*b.d:=Xjg j.1 i.1;unfold gG;split
 .rename_i hs;rw [yQ _ _ _ hd,Rat.natCast_add,Rat.natCast_mul,Rat.natCast_mul,Rat.natCast_mul];unfold RQ.rt;rw [hs];cases b.neg<;>simp<;>grind
 .rename_i hs;split
  .rename_i e;obtain ⟨c,d⟩:=Xv4 e;have g:(a.n:Rat)*b.d=b.n*a.d+c:=by
    have:=congrArg (λx:Nat=>(x:Rat)) d;simpa only [Rat.natCast_add,Rat.natCast_mul] using this
   rw [d,Xjp,yQ _ _ _ hd,Rat.natCast_mul];unfold RQ.rt;cases h:a.neg<;>cases f:b.neg<;>simp [h,f] at hs ⊢ <;>grind
  .rename_i e;obtain ⟨c,d⟩:=Xv4 (Nat.le_of_not_le e);have g:(b.n:Rat)*a.d=a.n*b.d+c:=by
    have:=congrArg (λx:Nat=>(x:Rat)) d;simpa only [Rat.natCast_add,Rat.natCast_mul] using this
   rw [d,Xjp,yQ _ _ _ hd,Rat.natCast_mul];unfold RQ.rt;cases h:a.neg<;>cases f:b.neg<;>simp [h,f] at hs ⊢ <;>grind
theorem Lt {a b:RQ} (c:a.ok) (d:b.ok):(ja a b).rt=a.rt*b.rt:=by
 have e:=m_ c.1;have f:=m_ d.1;unfold ja;rw [yQ _ _ _ (Xjg c.1 d.1),Rat.natCast_mul,Rat.natCast_mul];unfold RQ.rt;cases a.neg<;>cases b.neg<;>simp<;>grind
theorem Zm {a b:RQ} (d:a.ok) (e:b.ok) (c:0<b.n):(fM a b).rt=a.rt / b.rt:=by
 have h:=m_ d.1;have g:=m_ e.1;have f:=m_ c;unfold fM;rw [yQ _ _ _ (Xjg d.1 c),Rat.natCast_mul,Rat.natCast_mul];unfold RQ.rt;cases a.neg<;>cases b.neg<;>simp<;>grind
theorem rD {a b:RQ} (i:a.ok) (d:b.ok) (h:a.rt=b.rt):a=b:=by
 have key:∀ q:RQ,q.ok->∃ h1 h2,q.rt=(⟨if q.neg then -(q.n:Int) else q.n,q.d,h1,h2⟩:Rat):=by
  intro q f;refine ⟨Nat.pos_iff_ne_zero.1 f.1, ?_, ?_⟩
  .show Xxy _ _=1;rw [<- f.2.1];split<;>simp
  .rw [Rat.mk_eq_mkRat];unfold RQ.rt;rw [Rat.mkRat_eq_div];cases q.neg<;>simp [Rat.intCast_natCast]<;>grind
 obtain ⟨_,_,m⟩:=key a i;obtain ⟨_,_,k⟩:=key b d;rw [m,k] at h;have c:=congrArg Rat.num h;have hd:=congrArg Rat.den h;simp only at c hd;obtain ⟨n,p,r⟩:=a;obtain ⟨j,o,t⟩:=b;simp only at c hd;have e:=i.2.2;have g:=d.2.2;simp only at e g;cases n<;>cases j<;>simp at c e g ⊢ <;>omega
theorem aiu {a b:RQ} (c:a.ok) (d:(lJ b).ok):(eU a b).rt=a.rt - b.rt:=by
 unfold eU;rw [yP c d,Lu];grind
theorem TN {q:RQ} (h:q.ok):(jk q<0↔q.rt<0)/\(jk q=0↔q.rt=0)/\(0<jk q↔0<q.rt):=by
 have d:=m_ h.1;have hd:(0:Rat)<q.d:=by
  have:0<q.d:=h.1
  exact_mod_cast this
 unfold jk RQ.rt;rcases Xqb q.n with h0|h0
 .have:(0:Rat) / q.d=0:=by grind
  simp [h0,this]
 .have c:(0:Rat)<q.n:=by exact_mod_cast h0
  have hp:(0:Rat)<(q.n:Rat) / q.d:=(by rw [Rat.div_def];exact Rat.mul_pos c (Rat.inv_pos.2 hd))
  rw [if_neg (by omega)];cases q.neg<;>simp<;>grind
theorem ui {a b c:Rat} (h:0<c):a*c<b*c↔a<b:=Rat.mul_lt_mul_right h
theorem Gg {a b c:Rat} (h:0<c):a*c<=b*c↔a<=b:=⟨λq=>Rat.le_of_mul_le_mul_right q h,λq=>by
 by_cases e:a=b
 .rw [e];exact Rat.le_refl
 .have d:a<b:=by grind
  have f:=(ui h).2 d;grind⟩
def oC (q:RQ):Int:=if q.neg then -((q.n / q.d+(if q.n % q.d=0 then 0 else 1):Nat):Int) else ((q.n / q.d:Nat):Int)
def ku (k:Int):RQ:=⟨decide (k<0),k.natAbs,1⟩
theorem qJ (k:Int):(ku k).ok:=⟨Nat.one_pos,Xvx _,λh=>by
 have:k<0:=of_decide_eq_true h;show 0<k.natAbs;omega⟩
theorem Ls (k:Int):(ku k).rt=(k:Rat):=by
 unfold ku RQ.rt;by_cases h:k<0
 .have e:(k:Int)= -(k.natAbs:Int):=by omega
  have c:(k:Rat)= -((k.natAbs:Nat):Rat):=by
   rw [<- Rat.intCast_natCast,<- Rat.intCast_neg,<- e]
  simp only [Yq0 h,if_true];rw [c];rw [show ((1:Nat):Rat)=1 from rfl];grind
 .have e:(k:Int)=(k.natAbs:Int):=by omega
  have c:(k:Rat)=((k.natAbs:Nat):Rat):=by
   rw [<- Rat.intCast_natCast,<- e]
  simp only [Yq1 h];rw [c];rw [show ((1:Nat):Rat)=1 from rfl];grind
theorem XP {q:RQ} (h:q.ok):((oC q:Int):Rat)<=q.rt/\q.rt<((oC q:Int):Rat)+1:=by
 have hd:(0:Rat)<q.d:=by
  have:0<q.d:=h.1
  exact_mod_cast this
 have e:(q.n:Rat)=q.d*((q.n / q.d:Nat):Rat)+((q.n % q.d:Nat):Rat):=by
  rw [<- Rat.natCast_mul,<- Rat.natCast_add,Nat.div_add_mod]
 have f:(0:Rat)<=((q.n % q.d:Nat):Rat):=by
  have:0<=q.n % q.d:=Xxr _
  exact_mod_cast this
 have g:((q.n % q.d:Nat):Rat)<q.d:=by
  have:=Xqy q.n h.1
  exact_mod_cast this
 unfold oC RQ.rt;have c:∀ y:Rat,y / q.d*q.d=y:=λy=>by grind
 cases hs:q.neg with
 |false=>
  simp only [Xji,if_false,Rat.intCast_natCast];rw [<- Gg hd,<- ui hd,c];constructor<;>grind
 | true=>
  simp only [if_true,Rat.intCast_neg,Rat.intCast_natCast];rw [<- Gg hd,<- ui hd,c];split
  .rename_i d;rw [d] at e f g;simp only [Xq1];constructor<;>grind
  .rename_i d;have:(0:Rat)<((q.n % q.d:Nat):Rat):=by
    have:0<q.n % q.d:=by omega
    exact_mod_cast this
   rw [Rat.natCast_add];rw [show ((1:Nat):Rat)=1 from rfl];constructor<;>grind
theorem D_ {k m:Int} {x:Rat} (f:(k:Rat)<=x) (c:x<(k:Rat)+1) (d:(m:Rat)<=x) (e:x<(m:Rat)+1):k=m:=by
 have a:((k:Int):Rat)<((m+1:Int):Rat):=by rw [Rat.intCast_add,Rat.intCast_one];grind
 have b:((m:Int):Rat)<((k+1:Int):Rat):=by rw [Rat.intCast_add,Rat.intCast_one];grind
 rw [Rat.intCast_lt_intCast] at a b;omega
def xG (a s:RQ):RQ:=ja (ku (oC (fM a s))) s
def eqR (a b:RQ):Bool:=(a.neg==b.neg) && ((ae a.n==ae b.n) && (ae a.d==ae b.d))
theorem J9 {a b:RQ}:eqR a b=true↔a=b:=by
 obtain ⟨s,n,d⟩:=a;obtain ⟨s',c,e⟩:=b;simp only [eqR,φ,beq_iff_eq,RQ.mk.injEq];exact ⟨λh=> ⟨h.1,Gh h.2.1,Gh h.2.2⟩,λh=> ⟨h.1,by rw [h.2.1],by rw [h.2.2]⟩⟩
def upR (a s:RQ):RQ:=if eqR (xG a s) a=true then a else gG (xG a s) s
def nrR (a s:RQ):RQ:=if 0<=iO (gG (eU a (xG a s)) (eU a (xG a s))) s then gG (xG a s) s else xG a s
theorem iF {a b:RQ} (c:a.ok) (d:b.ok):(eU a b).ok:=eX c (qZ d)
theorem LC {a b:RQ} (c:a.ok) (d:b.ok):(eU a b).rt=a.rt - b.rt:=aiu c (qZ d)
theorem jr {a b:RQ} (c:a.ok) (d:b.ok):(iO a b<0↔a.rt<b.rt)/\(iO a b=0↔a=b)/\(0<iO a b↔b.rt<a.rt):=by
 have h:=TN (iF c d);rw [LC c d] at h;unfold iO;refine ⟨h.1.trans ?_,h.2.1.trans ?_,h.2.2.trans ?_⟩
 .constructor<;>intro _<;>grind
 .constructor
  .intro e;exact rD c d (by grind)
  .intro e;rw [e];grind
 .constructor<;>intro _<;>grind
theorem GY {s:RQ} (hs:s.ok) (h:0<jk s):0<s.rt/\0<s.n:=by
 refine ⟨(TN hs).2.2.1 h, ?_⟩;unfold jk at h;split at h<;>omega
theorem jC {a s:RQ} (hs:s.ok):(xG a s).ok:=jb (qJ _) hs
theorem TF {a s:RQ} (d:a.ok) (hs:s.ok) (c:0<s.n):(xG a s).rt=((oC (fM a s):Int):Rat)*s.rt/\((oC (fM a s):Int):Rat)<=a.rt / s.rt/\a.rt / s.rt<((oC (fM a s):Int):Rat)+1:=by
 have h:=XP (qL d c);rw [Zm d hs c] at h;exact ⟨by unfold xG;rw [Lt (qJ _) hs,Ls],h⟩
theorem aoL {a s:RQ} (d:a.ok) (hs:s.ok) (hp:0<jk s):lJ (xG (lJ a) s)=upR a s:=by
 obtain ⟨p,j⟩:=GY hs hp;obtain ⟨k,c,f⟩:=TF (qZ d) hs j;obtain ⟨g,o,q⟩:=TF d hs j;rw [Lu] at c f;have h:a.rt=a.rt / s.rt*s.rt:=by grind
 have n: -a.rt / s.rt= -(a.rt / s.rt):=by grind
 rw [n] at c f;generalize a.rt / s.rt=x at*
 unfold upR;split
 .rename_i e;have e:=J9.1 e;refine rD (qZ (jC hs)) d ?_;rw [e,h] at g;have i:x=((oC (fM a s):Int):Rat):=by grind
  rw [Lu,k,h];have:oC (fM (lJ a) s)= -oC (fM a s):=D_ (x:= -x) c f (by rw [Rat.intCast_neg];grind) (by rw [Rat.intCast_neg];grind);rw [this,Rat.intCast_neg,<- i];grind
 .rename_i e;refine rD (qZ (jC hs)) (eX (jC hs) hs) ?_;have m:((oC (fM a s):Int):Rat) ≠ x:=by
   intro i;exact e (J9.2 (rD (jC hs) d (by rw [g,i,<- h])))
  have:oC (fM (lJ a) s)= -(oC (fM a s)+1):=D_ (x:= -x) c f (by rw [Rat.intCast_neg,Rat.intCast_add,Rat.intCast_one];grind) (by rw [Rat.intCast_neg,Rat.intCast_add,Rat.intCast_one];grind);rw [Lu,k,yP (jC hs) hs,g,this,Rat.intCast_neg,Rat.intCast_add,Rat.intCast_one];grind
theorem alQ {a s:RQ} (c:a.ok) (hs:s.ok) (hp:0<jk s):xG (gG a (fM s (ku 2))) s=nrR a s:=by
 obtain ⟨p,n⟩:=GY hs hp;have m:(fM s (ku 2)).ok:=qL hs (by decide);have q:(fM s (ku 2)).rt=s.rt / 2:=by rw [Zm hs (qJ 2) (by decide),Ls];rfl
 obtain ⟨o,f,g⟩:=TF (eX c m) hs n;obtain ⟨j,u,v⟩:=TF c hs n;rw [yP c m,q] at f g;have hd:=jC (a:=a) hs;have e:(eU a (xG a s)).ok:=iF c hd;have d:=(jr (eX e e) hs).1;rw [yP e e,LC c hd,j] at d;have r:a.rt=a.rt / s.rt*s.rt:=by grind
 have t:(a.rt+s.rt / 2) / s.rt=a.rt / s.rt+1 / 2:=by grind
 rw [t] at f g;generalize a.rt / s.rt=x at*
 have i:(x*s.rt - ↑(oC (fM a s))*s.rt+(x*s.rt - ↑(oC (fM a s))*s.rt))<s.rt↔(x - ↑(oC (fM a s))+(x - ↑(oC (fM a s))))<1:=by
  rw [<- ui (a:=x - ↑(oC (fM a s))+(x - ↑(oC (fM a s)))) p];constructor<;>intro _<;>grind
 rw [r,i] at d;unfold nrR;split
 .rename_i k;refine rD (jC hs) (eX hd hs) ?_;have:¬ (x - ↑(oC (fM a s))+(x - ↑(oC (fM a s))))<1:=λh=>by have:=d.2 h;omega
  have:oC (fM (gG a (fM s (ku 2))) s)=oC (fM a s)+1:=D_ (x:=x+1 / 2) f g (by rw [Rat.intCast_add,Rat.intCast_one];grind) (by rw [Rat.intCast_add,Rat.intCast_one];grind);rw [o,yP hd hs,j,this,Rat.intCast_add,Rat.intCast_one];grind
 .rename_i k;refine rD (jC hs) hd ?_;have:(x - ↑(oC (fM a s))+(x - ↑(oC (fM a s))))<1:=d.1 (by omega);have:oC (fM (gG a (fM s (ku 2))) s)=oC (fM a s):=D_ (x:=x+1 / 2) f g (by grind) (by grind);rw [o,j,this]
def nO (f:RQ) (nx:Option RQ) (x:RQ):RQ:=
 let p:=eU (match nx with|some y=>if iO y x<0 then y else x|none=>x) f
 if jk p<0 then q0 else p
def xM:RQ->List (RQ × RQ)->RQ->RQ
 |acc,[],_=>acc
 |acc,b::l,x=>xM (gG acc (ja b.2 (nO b.1 (l.head?.map (·.1)) x))) l x
def jy:RQ->List (RQ × RQ)->List RQ
 |acc,b::b'::l=>acc::jy (gG acc (ja (eU b'.1 b.1) b.2)) (b'::l)
 |acc,_=> [acc]
def iq (l:List (RQ × RQ)) (x:RQ):Nat:=(l.takeWhile λb=> !(decide (0<iO b.1 x))).length
def atR (l:List (RQ × RQ)) (x:RQ):RQ:=gG ((jy q0 l).getD (iq l x - 1) q0) (ja (l.getD (iq l x - 1) (q0,q0)).2 (eU x (l.getD (iq l x - 1) (q0,q0)).1))
def wlR:RQ->RQ × RQ->List (RQ × RQ)->RQ->RQ
 |acc,b,[],x=>gG acc (ja b.2 (eU x b.1))
 |acc,b,b'::l,x=>if 0<iO b'.1 x then gG acc (ja b.2 (eU x b.1)) else wlR (gG acc (ja (eU b'.1 b.1) b.2)) b' l x
def jQ:List (RQ × RQ)->Prop
 |b::b'::l=>b.1.rt<b'.1.rt/\jQ (b'::l)
 |_=>True
theorem jQ.all:∀ {b:RQ × RQ} {l:List (RQ × RQ)},jQ (b::l)->∀ y ∈ l,b.1.rt<y.1.rt
 |b,[],_,y,hy=>by cases hy
 | b,b'::l,h,y,hy=>by
  rcases List.mem_cons.1 hy with rfl|hy
  .exact h.1
  .have:=jQ.all h.2 y hy;have:=h.1;grind
theorem jQ.tail {b:RQ × RQ} {l:List (RQ × RQ)} (h:jQ (b::l)):jQ l:=by
 cases l with
 |nil=>exact True.intro
 |cons _ _=>exact h.2
def OkL (l:List (RQ × RQ)):Prop:=∀ b ∈ l,b.1.ok/\b.2.ok
theorem anY:q0.rt=0:=by unfold q0 RQ.rt;grind
theorem Hu {x:RQ} (d:x.ok):∀ {l:List (RQ × RQ)} {acc:RQ},acc.ok->OkL l->(∀ b ∈ l,x.rt<b.1.rt)->xM acc l x=acc
 | [],_,_,_,_=>rfl
 | b ::l,acc,ha,ho,hl=>by
  have c:=ho b (by simp);have hp:nO b.1 (l.head?.map (·.1)) x=q0:=by
   unfold nO;have e:(match l.head?.map (·.1) with|some y=>if iO y x<0 then y else x|none=>x)=x:=by
    cases l with
    |nil=>rfl
    |cons b' l=>
     have f:=(jr (ho b' (by simp)).1 d).1;have j:=hl b' (by simp);simp only [List.head?_cons,Option.map_some];rw [if_neg];intro h;have:=f.1 h;grind
   simp only [e];have f:jk (eU x b.1)<0:=(jr d c.1).1.2 (hl b (by simp));rw [if_pos f]
  have i:(gG acc (ja b.2 q0))=acc:=by
   refine rD (eX ha (jb c.2 vX)) ha ?_;rw [yP ha (jb c.2 vX),Lt c.2 vX,anY];grind
  unfold xM;rw [hp,i];exact Hu d ha (λy g=>ho y (by simp [g])) (λy g=>hl y (by simp [g]))
theorem aab {x:RQ} (g:x.ok):∀ {l:List (RQ × RQ)} {b:RQ × RQ} {acc:RQ},acc.ok->OkL (b::l)->jQ (b::l)->b.1.rt<=x.rt->xM acc (b::l) x=wlR acc b l x
 | [],b,acc,ha,ho,hs,hb=>by
  have c:=ho b (by simp);have hp:nO b.1 none x=eU x b.1:=by
   unfold nO;simp only;rw [if_neg];intro h;have:=(jr g c.1).1.1 h;grind
  show xM (gG acc (ja b.2 (nO b.1 none x))) [] x=_;rw [hp];rfl
 | b' ::l,b,acc,ha,ho,hs,hb=>by
  have c:=ho b (by simp);have d:=ho b' (by simp);have m:=jr d.1 g;show xM (gG acc (ja b.2 (nO b.1 (some b'.1) x))) (b'::l) x=_;have j:OkL (b'::l):=λy f=>ho y (by simp at f ⊢;exact .inr f)
  unfold wlR;split
  .rename_i h;have n:=m.2.2.1 h;have hp:nO b.1 (some b'.1) x=eU x b.1:=by
    unfold nO;simp only;rw [if_neg (show ¬ iO b'.1 x<0 by omega),if_neg];intro h;have:=(jr g c.1).1.1 h;grind
   rw [hp];refine Hu g (eX ha (jb c.2 (iF g c.1))) j λy f=> ?_
   rcases List.mem_cons.1 f with rfl|f
   .exact n
   .have:=hs.2.all y f;grind
  .rename_i h;have k:b'.1.rt<=x.rt:=by
    have:=m.2.2;have t:¬ x.rt<b'.1.rt:=λq=>h (this.2 q)
    grind
   have hp:nO b.1 (some b'.1) x=eU b'.1 b.1:=by
    have o:=hs.1;have i:∀ y:RQ,y.ok->b'.1.rt<=y.rt->¬ jk (eU y b.1)<0:=λy f v q=>by
     have:=(jr f c.1).1.1 q;grind
    unfold nO;simp only;split
    .rw [if_neg (i _ d.1 (by grind))]
    .rename_i p;have:b'.1=x:=rD d.1 g (by
      have u:¬ b'.1.rt<x.rt:=λq=>p (m.1.2 q)
      grind)
     rw [this,if_neg (i _ g (by rw [this];grind))]
   have r:ja b.2 (eU b'.1 b.1)=ja (eU b'.1 b.1) b.2:=by
    have e:=iF d.1 c.1;refine rD (jb c.2 e) (jb e c.2) ?_;rw [Lt c.2 e,Lt e c.2];grind
   rw [hp,r];exact aab g (eX ha (jb (iF d.1 c.1) c.2)) j hs.2 k
theorem zJ {b:RQ × RQ} {l:List (RQ × RQ)} {x:RQ} (h:¬ 0<iO b.1 x):iq (b::l) x=iq l x+1:=by
 unfold iq;rw [List.takeWhile_cons_of_pos (by simp at h ⊢;omega)];simp
theorem aeE {x:RQ}:∀ {l:List (RQ × RQ)} {b:RQ × RQ} {acc:RQ},¬ 0<iO b.1 x->gG ((jy acc (b::l)).getD (iq (b::l) x - 1) q0) (ja ((b::l).getD (iq (b::l) x - 1) (q0,q0)).2 (eU x ((b::l).getD (iq (b::l) x - 1) (q0,q0)).1))=wlR acc b l x
 | [],b,acc,h=>by
  rw [zJ h];rfl
 | b'::l,b,acc,h=>by
  rw [zJ h,Xwm];unfold wlR;split
  .rename_i c;have:iq (b'::l) x=0:=by
    unfold iq;rw [Xwa (by simp;omega)];rfl
   rw [this];rfl
  .rename_i c;rw [<- aeE c,zJ c,Xwm];rfl
theorem afM {x:RQ} (c:x.ok) {l:List (RQ × RQ)} (f:OkL l) (hs:jQ l):xM q0 l x=if iq l x=0 then q0 else atR l x:=by
 cases l with
 |nil=>rfl
 | cons b l=>
  have g:=f b (by simp);have e:=(jr g.1 c).2.2;by_cases h:0<iO b.1 x
  .have:iq (b::l) x=0:=by
    unfold iq;rw [Xwa (by simp;omega)];rfl
   rw [this,if_pos rfl];refine Hu c vX f λy d=> ?_
   rcases List.mem_cons.1 d with rfl|d
   .exact e.1 h
   .have:=hs.all y d;have:=e.1 h;grind
  .rw [if_neg (by rw [zJ h];omega)];unfold atR;rw [aeE h];exact aab c vX f hs (by
    have:¬ x.rt<b.1.rt:=λq=>h (e.2 q)
    grind)
inductive Oq where
 |err (e:Int)
 |val (q:RQ)
def Oq.n:Oq->Bool| .err _=>false| .val q=>q.neg
def Oq.a:Oq->List UInt8| .err _=> []| .val q=>ae q.n
def Oq.d:Oq->List UInt8| .err _=> []| .val q=>ae q.d
def Oq.e:Oq->Int| .err e=>e| .val _=>0
def Oq.q:Oq->RQ| .err _=>q0| .val q=>q
def vU (o:Oq):List AV:= [.bool o.n,.str o.a,.str o.d,ω o.e]
abbrev fD (o:Oq):AV:= .agg [.bool o.n,.str o.a,.str o.d,ω o.e]
noncomputable def Sm (t:Nat):AV->Bool:=match ap.tyAt t with|some ti=>lG ti|none=>λ_=>false
abbrev Vb5 (a:Int):kW:= .ret (.agg [.bool false,.str [],.str [],ω a])
theorem jv (e:Int):CO 41 [ω e] (Vb5 e):=pK [] 0 0 (.n 5 .nil) (.nil)
theorem agx (n:Bool) (a d:List UInt8) (e:Int) (c:lit true (!(e==((0:Nat):Int)))=true) (f:CO 41 [ω e] (Vb5 e)):CO 43 [.agg [.bool n,.str a,.str d,ω e]] (Vb5 e):=pK [] 1 1 (.k 6 c (.n 1 .nil)) (.c f .nil)
abbrev VbU:kW:= .ret (.agg [.bool false,.str [],.str [],ω 3])
theorem agy (n:Bool) (a d:List UInt8) (e:Int) (c:lit true (!(d_ n a d))=true) (g:lit false (!(e==((0:Nat):Int)))=true) (f:CO 70 [Ω n a d] (.ret (.bool (d_ n a d)))) (h:CO 41 [ω 3] VbU):CO 43 [.agg [.bool n,.str a,.str d,ω e]] VbU:=pK [] 2 2 (.k 5 c (.k 3 g (.n 1 .nil))) (.c h (.c f .nil))
theorem agz (n:Bool) (a d:List UInt8) (e:Int) (c:lit false (!(d_ n a d))=true) (g:lit false (!(e==((0:Nat):Int)))=true) (f:CO 70 [Ω n a d] (.ret (.bool (d_ n a d)))):CO 43 [.agg [.bool n,.str a,.str d,ω e]] (.ret (.agg [.bool n,.str a,.str d,ω e])):=pK [] 2 0 (.k 9 c (.k 3 g (.n 1 .nil))) (.c f .nil)
abbrev Vax (a:Oq):kW:= .ret (fD a)
theorem agM (n:Bool) (a d:List UInt8) (o:Oq) (c:CO 43 [.agg [.bool n,.str a,.str d,ω 0]] (Vax o)):CO 124 [Ω n a d] (Vax o):=pK [] 0 0 (.n 8 .nil) (.c c .nil)
theorem agJ (b:Bool) (o:Oq) (c:lit true b=true) (d:CO 42 [ω 1] (.ret (Ω false (ae 1) (ae 1)))) (e:CO 124 [Ω false (ae 1) (ae 1)] (Vax o)):CO 126 [.bool b] (Vax o):=pK [] 1 1 (.k 5 c .nil) (.c e (.c d .nil))
theorem agK (b:Bool) (o:Oq) (c:lit false b=true) (d:CO 42 [ω 0] Vbo) (e:CO 124 [Ω false (ae 0) (ae 1)] (Vax o)):CO 126 [.bool b] (Vax o):=pK [] 1 0 (.k 5 c .nil) (.c e (.c d .nil))
theorem agc (n:Bool) (a d:List UInt8) (c:lit true ((n==false) && ((a==(ae 1)) && ((d==(ae 1)) && true)))=true) (e:CO 42 [ω 1] (.ret (Ω false (ae 1) (ae 1)))):CO 128 [Ω n a d] (.ret (.tup [.bool ((n==false) && ((a==(ae 1)) && ((d==(ae 1)) && true))),.bool true])):=pK [] 1 1 (.c c (.n 3 .nil)) (.c e .nil)
theorem agd (n:Bool) (a d:List UInt8) (c:lit false ((n==false) && ((a==(ae 1)) && ((d==(ae 1)) && true)))=true) (e:CO 42 [ω 1] (.ret (Ω false (ae 1) (ae 1)))) (f:CO 42 [ω 0] Vbo):CO 128 [Ω n a d] (.ret (.tup [.bool ((n==false) && ((a==(ae 1)) && ((d==(ae 1)) && true))),.bool ((n==false) && ((a==(ae 0)) && ((d==(ae 1)) && true)))])):=pK [] 1 0 (.k 3 c (.n 3 .nil)) (.c f (.c e .nil))
theorem age (f nn:Bool) (d e c:List UInt8) (j:Int) (o:Oq) (ks vs g h xs:List AV) (k:Nat) (i:CO 124 [Ω f d e] (Vax o)):CO 75 [.agg [.mp ks vs,.mp g h],.agg [ω j,.bool f,.str d,.str e,.str c],.sl xs k nn] (Vax o):=pK [] 0 0 (.n 8 .nil) (.c i .nil)
abbrev VaH:kW:= .ret (.agg [.bool false,.str [],.str [],ω 12])
theorem agf (q nn e:Bool) (f n c:List UInt8) (d:Int) (i:Oq) (ks vs j m xs:List AV) (k:Nat) (g:Yqp [(Xz4 (eH ks vs (.agg [ω d,.str c])) (.agg [.bool false,.str [],.str [],ω 0])),.bool (Xza (eH ks vs (.agg [ω d,.str c])))]= .tup [fD i,.bool e]) (h:lit true (!e)=true) (p:(Xzy ks (Sm 134))=true) (o:CO 41 [ω 12] VaH):CO 76 [.agg [.mp ks vs,.mp j m],.agg [ω d,.bool q,.str f,.str n,.str c],.sl xs k nn] VaH:=pK [] 1 1 (.k 5 h (.k 2 p (.n 3 .nil))) (.c o (.v 17 (.eq g) .nil))
theorem agh (p nn e:Bool) (g n c:List UInt8) (d:Int) (f:Oq) (ks vs j m xs:List AV) (k:Nat) (h:Yqp [(Xz4 (eH ks vs (.agg [ω d,.str c])) (.agg [.bool false,.str [],.str [],ω 0])),.bool (Xza (eH ks vs (.agg [ω d,.str c])))]= .tup [fD f,.bool e]) (i:lit false (!e)=true) (o:(Xzy ks (Sm 134))=true):CO 76 [.agg [.mp ks vs,.mp j m],.agg [ω d,.bool p,.str g,.str n,.str c],.sl xs k nn] (Vax f):=pK [] 1 0 (.k 9 i (.k 2 o (.n 3 .nil))) (.v 17 (.eq h) .nil)
abbrev Va8 (a:Oq) (b:Bool) (c:Bool):Prop:=CO 128 [.agg [.bool a.n,.str a.a,.str a.d]] (.ret (.tup [.bool b,.bool c]))
abbrev Vaa (a:Oq) (b:Oq) (c:Oq):List AV:=[.bool a.n,.str a.a,.str a.d,ω a.e,.bool b.n,.str b.a,.str b.d,ω b.e,.bool c.n,.str c.a,.str c.d,ω c.e]
abbrev VbA (a:List AV) (b:List AV) (c:List AV) (d:List AV) (e:Int) (f:Bool) (g:List UInt8) (h:List UInt8) (i:List UInt8) (j:Oq) (k:Oq) (l:Oq) (m:Bool):List AV:=[.agg [.mp a b,.mp c d],.agg [ω e,.bool f,.str g,.str h,.str i],.sl (Vaa j k l) 3 m]
theorem af9 (p nn g k:Bool) (h n d:List UInt8) (q:Int) (c f e:Oq) (ks vs j m:List AV) (i:lit true (!(c.e==((0:Nat):Int)))=true) (o:Va8 c g k):CO 77 (VbA ks vs j m q p h n d c f e nn) (Vax c):=pK [] 1 1 (.k 11 i (.n 8 .nil)) (.c o .nil)
abbrev Vab:kW:= .ret (.agg [.bool false,.str [],.str [],ω 13])
theorem af_ (p nn m g:Bool) (h n d:List UInt8) (q:Int) (c e f:Oq) (ks vs r t:List AV) (i:lit true (!g)=true) (j:lit false (!(c.e==((0:Nat):Int)))=true) (o:Va8 c m g) (k:CO 41 [ω 13] Vab):CO 77 (VbA ks vs r t q p h n d c e f nn) Vab:=pK [] 2 2 (.k 5 i (.c j (.n 8 .nil))) (.c k (.c o .nil))
theorem aga (p nn g h:Bool) (i n e:List UInt8) (q:Int) (c d f:Oq) (ks vs r t:List AV) (k:lit true g=true) (m:lit false (!h)=true) (j:lit false (!(c.e==((0:Nat):Int)))=true) (o:Va8 c g h):CO 77 (VbA ks vs r t q p i n e c d f nn) (Vax d):=pK [] 3 4 (.k 11 k (.c m (.c j (.n 8 .nil)))) (.c o .nil)
theorem agb (p nn g h:Bool) (i n e:List UInt8) (q:Int) (c f d:Oq) (ks vs r t:List AV) (k:lit false g=true) (m:lit false (!h)=true) (j:lit false (!(c.e==((0:Nat):Int)))=true) (o:Va8 c g h):CO 77 (VbA ks vs r t q p i n e c f d nn) (Vax d):=pK [] 3 0 (.k 11 k (.c m (.c j (.n 8 .nil)))) (.c o .nil)
abbrev Va9 (a:Oq) (b:Oq):List AV:=[.bool a.n,.str a.a,.str a.d,ω a.e,.bool b.n,.str b.a,.str b.d,ω b.e]
abbrev Vah (a:Oq):List AV:=[.bool a.n,.str a.a,.str a.d]
theorem abh (m nn:Bool) (f j e:List UInt8) (o c d:Oq) (r:RQ) (ks vs g i:List AV) (k:CO 123 [ω 9] (.ret (.fn 167 [] []))) (n:CO 167 [.agg (Vah c),.agg (Vah d)] (Va6 r)) (h:CO 124 (VaO r) (Vax o)):CO 74 [.agg [.mp ks vs,.mp g i],.agg [ω 9,.bool m,.str f,.str j,.str e],.sl (Va9 c d) 2 nn] (Vax o):=pK [] 1 1 (.n 25 .nil) (.c h (.c n (.c k .nil)))
theorem aa9:CO 123 [ω 9] (.ret (.fn 167 [] [])):=pK [] 1 1 (.n 1 .nil) (.nil)
theorem Xw (m nn:Bool) (f j e:List UInt8) (o c d:Oq) (r:RQ) (ks vs g i:List AV) (k:CO 123 [ω 10] (.ret (.fn 168 [] []))) (n:CO 168 [.agg (Vah c),.agg (Vah d)] (Va6 r)) (h:CO 124 (VaO r) (Vax o)):CO 74 [.agg [.mp ks vs,.mp g i],.agg [ω 10,.bool m,.str f,.str j,.str e],.sl (Va9 c d) 2 nn] (Vax o):=pK [] 1 1 (.n 25 .nil) (.c h (.c n (.c k .nil)))
theorem Xk:CO 123 [ω 10] (.ret (.fn 168 [] [])):=pK [] 2 2 (.n 2 .nil) (.nil)
theorem Xx (m nn:Bool) (f j e:List UInt8) (o c d:Oq) (r:RQ) (ks vs g i:List AV) (k:CO 123 [ω 11] (.ret (.fn 169 [] []))) (n:CO 169 [.agg (Vah c),.agg (Vah d)] (Va6 r)) (h:CO 124 (VaO r) (Vax o)):CO 74 [.agg [.mp ks vs,.mp g i],.agg [ω 11,.bool m,.str f,.str j,.str e],.sl (Va9 c d) 2 nn] (Vax o):=pK [] 1 1 (.n 25 .nil) (.c h (.c n (.c k .nil)))
theorem Xl:CO 123 [ω 11] (.ret (.fn 169 [] [])):=pK [] 3 4 (.n 3 .nil) (.nil)
theorem Xy (m nn:Bool) (f j e:List UInt8) (o c d:Oq) (r:RQ) (ks vs g i:List AV) (k:CO 123 [ω 12] (.ret (.nilF))) (n:CO 125 [.agg (Vah c),.agg (Vah d)] (Vaf r)) (h:CO 124 (VaO r) (Vax o)):CO 74 [.agg [.mp ks vs,.mp g i],.agg [ω 12,.bool m,.str f,.str j,.str e],.sl (Va9 c d) 2 nn] (Vax o):=pK [] 3 2 (.n 32 .nil) (.c h (.c n (.c k .nil)))
abbrev VbS:kW:= .ret (.agg [.bool false,.str [],.str [],ω 16])
theorem UL (m nn:Bool) (f j e:List UInt8) (c d:Oq) (ks vs g i:List AV) (k:CO 123 [ω 12] (.ret (.nilF))) (n:CO 125 [.agg (Vah c),.agg (Vah d)] (.ret (.tup [Ω false [] [],.bool false]))) (h:CO 41 [ω 16] VbS):CO 74 [.agg [.mp ks vs,.mp g i],.agg [ω 12,.bool m,.str f,.str j,.str e],.sl (Va9 c d) 2 nn] VbS:=pK [] 3 6 (.n 29 .nil) (.c h (.c n (.c k .nil)))
theorem MX:CO 123 [ω 12] (.ret (.nilF)):=pK [] 5 0 (.n 5 .nil) (.nil)
theorem Nh (n p nn:Bool) (a d g k f:List UInt8) (o c e:Oq) (ks vs h j:List AV) (m:CO 123 [ω 13] (.ret (.fn 166 [] [.pp [ω 1] 0]))) (q:CO 166 [.agg (Vah c),.agg (Vah e),.pp [ω 1] 0] (.ret (Ω n a d))) (i:CO 124 [Ω n a d] (Vax o)):CO 74 [.agg [.mp ks vs,.mp h j],.agg [ω 13,.bool p,.str g,.str k,.str f],.sl (Va9 c e) 2 nn] (Vax o):=pK [] 1 1 (.n 25 .nil) (.c i (.c q (.c m .nil)))
theorem MZ (c:CO 165 [ω 1] (.ret (.fn 166 [] [.pp [ω 1] 0]))):CO 123 [ω 13] (.ret (.fn 166 [] [.pp [ω 1] 0])):=pK [] 4 8 (.n 4 .nil) (.c c .nil)
theorem Nj (n p nn:Bool) (a d g k f:List UInt8) (o c e:Oq) (ks vs h j:List AV) (m:CO 123 [ω 14] (.ret (.fn 166 [] [.pp [ω (-1)] 0]))) (q:CO 166 [.agg (Vah c),.agg (Vah e),.pp [ω (-1)] 0] (.ret (Ω n a d))) (i:CO 124 [Ω n a d] (Vax o)):CO 74 [.agg [.mp ks vs,.mp h j],.agg [ω 14,.bool p,.str g,.str k,.str f],.sl (Va9 c e) 2 nn] (Vax o):=pK [] 1 1 (.n 25 .nil) (.c i (.c q (.c m .nil)))
theorem M_ (c:CO 165 [ω (-1)] (.ret (.fn 166 [] [.pp [ω (-1)] 0]))):CO 123 [ω 14] (.ret (.fn 166 [] [.pp [ω (-1)] 0])):=pK [] 5 16 (.n 5 .nil) (.c c .nil)
abbrev Vaz (a:Int):kW:= .ret (ω a)
abbrev VaX (a:Int):Bool:=decide (a<((0:Nat):Int))
theorem Xz (n nn:Bool) (f k e:List UInt8) (g:Int) (o c d:Oq) (ks vs h j:List AV) (m:CO 123 [ω 16] (.ret (.nilF))) (p:CO 127 [.agg (Vah c),.agg (Vah d)] (Vaz g)) (i:CO 126 [.bool (VaX g)] (Vax o)):CO 74 [.agg [.mp ks vs,.mp h j],.agg [ω 16,.bool n,.str f,.str k,.str e],.sl (Va9 c d) 2 nn] (Vax o):=pK [] 3 4 (.n 28 .nil) (.c i (.c p (.c m .nil)))
theorem Xm:CO 123 [ω 16] (.ret (.nilF)):=pK [] 5 0 (.n 5 .nil) (.nil)
theorem XB (k nn:Bool) (f i e:List UInt8) (o c d:Oq) (ks vs g h:List AV) (j:CO 123 [ω 17] (.ret (.nilF))) (m:CO 126 [.bool ((c.n==d.n) && ((c.a==d.a) && ((c.d==d.d) && true)))] (Vax o)):CO 74 [.agg [.mp ks vs,.mp g h],.agg [ω 17,.bool k,.str f,.str i,.str e],.sl (Va9 c d) 2 nn] (Vax o):=pK [] 4 8 (.n 29 .nil) (.c m (.c j .nil))
theorem Xn:CO 123 [ω 17] (.ret (.nilF)):=pK [] 5 0 (.n 5 .nil) (.nil)
theorem XC (r nn m f j i:Bool) (g o e:List UInt8) (d c:Oq) (ks vs t u:List AV) (h:lit true (!f)=true) (p:CO 123 [ω 18] (.ret (.nilF))) (k:Va8 d m f) (n:Va8 c j i) (q:CO 41 [ω 13] Vab):CO 74 [.agg [.mp ks vs,.mp t u],.agg [ω 18,.bool r,.str g,.str o,.str e],.sl (Va9 d c) 2 nn] Vab:=pK [] 6 48 (.k 6 h (.n 24 .nil)) (.c q (.c n (.c k (.c p .nil))))
theorem XD (t nn n g j f:Bool) (h p e:List UInt8) (d c:Oq) (ks vs u v:List AV) (i:lit true (!f)=true) (k:lit false (!g)=true) (q:CO 123 [ω 18] (.ret (.nilF))) (m:Va8 d n g) (o:Va8 c j f) (r:CO 41 [ω 13] Vab):CO 74 [.agg [.mp ks vs,.mp u v],.agg [ω 18,.bool t,.str h,.str p,.str e],.sl (Va9 d c) 2 nn] Vab:=pK [] 6 32 (.k 5 i (.c k (.n 24 .nil))) (.c r (.c o (.c m (.c q .nil))))
theorem XE (v nn h i g f:Bool) (j r e:List UInt8) (o d c:Oq) (ks vs w y:List AV) (m:lit true h=true) (n:lit false (!f)=true) (k:lit false (!i)=true) (t:CO 123 [ω 18] (.ret (.nilF))) (p:Va8 d h i) (q:Va8 c g f) (u:CO 126 [.bool g] (Vax o)):CO 74 [.agg [.mp ks vs,.mp w y],.agg [ω 18,.bool v,.str j,.str r,.str e],.sl (Va9 d c) 2 nn] (Vax o):=pK [] 8 192 (.k 5 m (.k 2 n (.c k (.n 24 .nil)))) (.c u (.c q (.c p (.c t .nil))))
theorem XF (v nn g h m f:Bool) (i r e:List UInt8) (o d c:Oq) (ks vs w y:List AV) (k:lit false g=true) (n:lit false (!f)=true) (j:lit false (!h)=true) (t:CO 123 [ω 18] (.ret (.nilF))) (p:Va8 d g h) (q:Va8 c m f) (u:CO 126 [.bool false] (Vax o)):CO 74 [.agg [.mp ks vs,.mp w y],.agg [ω 18,.bool v,.str i,.str r,.str e],.sl (Va9 d c) 2 nn] (Vax o):=pK [] 8 64 (.k 5 k (.k 2 n (.c j (.n 24 .nil)))) (.c u (.c q (.c p (.c t .nil))))
theorem zS:CO 123 [ω 18] (.ret (.nilF)):=pK [] 5 0 (.n 5 .nil) (.nil)
theorem XG (r nn m f j i:Bool) (g o e:List UInt8) (d c:Oq) (ks vs t u:List AV) (h:lit true (!f)=true) (p:CO 123 [ω 19] (.ret (.nilF))) (k:Va8 d m f) (n:Va8 c j i) (q:CO 41 [ω 13] Vab):CO 74 [.agg [.mp ks vs,.mp t u],.agg [ω 19,.bool r,.str g,.str o,.str e],.sl (Va9 d c) 2 nn] Vab:=pK [] 6 48 (.k 6 h (.n 24 .nil)) (.c q (.c n (.c k (.c p .nil))))
theorem XH (t nn n g j f:Bool) (h p e:List UInt8) (d c:Oq) (ks vs u v:List AV) (i:lit true (!f)=true) (k:lit false (!g)=true) (q:CO 123 [ω 19] (.ret (.nilF))) (m:Va8 d n g) (o:Va8 c j f) (r:CO 41 [ω 13] Vab):CO 74 [.agg [.mp ks vs,.mp u v],.agg [ω 19,.bool t,.str h,.str p,.str e],.sl (Va9 d c) 2 nn] Vab:=pK [] 6 32 (.k 5 i (.c k (.n 24 .nil))) (.c r (.c o (.c m (.c q .nil))))
theorem XI (v nn g h m f:Bool) (i r e:List UInt8) (o d c:Oq) (ks vs w y:List AV) (k:lit true g=true) (n:lit false (!f)=true) (j:lit false (!h)=true) (t:CO 123 [ω 19] (.ret (.nilF))) (p:Va8 d g h) (q:Va8 c m f) (u:CO 126 [.bool true] (Vax o)):CO 74 [.agg [.mp ks vs,.mp w y],.agg [ω 19,.bool v,.str i,.str r,.str e],.sl (Va9 d c) 2 nn] (Vax o):=pK [] 8 128 (.k 5 k (.k 2 n (.c j (.n 24 .nil)))) (.c u (.c q (.c p (.c t .nil))))
theorem XJ (v nn h i g f:Bool) (j r e:List UInt8) (o d c:Oq) (ks vs w y:List AV) (m:lit false h=true) (n:lit false (!f)=true) (k:lit false (!i)=true) (t:CO 123 [ω 19] (.ret (.nilF))) (p:Va8 d h i) (q:Va8 c g f) (u:CO 126 [.bool g] (Vax o)):CO 74 [.agg [.mp ks vs,.mp w y],.agg [ω 19,.bool v,.str j,.str r,.str e],.sl (Va9 d c) 2 nn] (Vax o):=pK [] 8 0 (.k 5 m (.k 2 n (.c k (.n 24 .nil)))) (.c u (.c q (.c p (.c t .nil))))
theorem zU:CO 123 [ω 19] (.ret (.nilF)):=pK [] 5 0 (.n 5 .nil) (.nil)
theorem RJ:CO 165 [ω 1] (.ret (.fn 166 [] [.pp [ω 1] 0])):=pK [] 0 0 .nil (.nil)
theorem abl (h e:Bool) (f i d c:List UInt8) (g:Int) (j:lit true (decide (((0:Nat):Int)<(γ .i64 (g*((1:Nat):Int)))))=true) (k:CO 127 [Ω h f i,Ω e d c] (Vaz g)):CO 166 [Ω h f i,Ω e d c,.pp [ω 1] 0] (.ret (Ω e d c)):=pK [] 1 1 (.k 7 j (.n 7 .nil)) (.c k .nil)
theorem abm (d i:Bool) (c e h f:List UInt8) (g:Int) (j:lit false (decide (((0:Nat):Int)<(γ .i64 (g*((1:Nat):Int)))))=true) (k:CO 127 [Ω d c e,Ω i h f] (Vaz g)):CO 166 [Ω d c e,Ω i h f,.pp [ω 1] 0] (.ret (Ω d c e)):=pK [] 1 0 (.k 7 j (.n 7 .nil)) (.c k .nil)
theorem RI:CO 165 [ω (-1)] (.ret (.fn 166 [] [.pp [ω (-1)] 0])):=pK [] 0 0 .nil (.nil)
theorem abj (h e:Bool) (f i d c:List UInt8) (g:Int) (j:lit true (decide (((0:Nat):Int)<(γ .i64 (g*(-1:Int)))))=true) (k:CO 127 [Ω h f i,Ω e d c] (Vaz g)):CO 166 [Ω h f i,Ω e d c,.pp [ω (-1)] 0] (.ret (Ω e d c)):=pK [] 1 1 (.k 7 j (.n 7 .nil)) (.c k .nil)
theorem abk (d i:Bool) (c e h f:List UInt8) (g:Int) (j:lit false (decide (((0:Nat):Int)<(γ .i64 (g*(-1:Int)))))=true) (k:CO 127 [Ω d c e,Ω i h f] (Vaz g)):CO 166 [Ω d c e,Ω i h f,.pp [ω (-1)] 0] (.ret (Ω d c e)):=pK [] 1 0 (.k 7 j (.n 7 .nil)) (.c k .nil)
def iP (q:RQ):Bool:=decide (eu q.n<=400) && decide (eu q.d<=400)
def Oq.ok:Oq->Prop| .err e=>e ≠ 0| .val q=>q.ok/\iP q=true
def xK (n:Bool) (a d:List UInt8) (e:Int):Oq:=if e=0 then (if d_ n a d=true then .val ⟨n,ag a,ag d⟩ else .err 3) else .err e
def mV (q:RQ):Oq:=if iP q=true then .val q else .err 3
def bR (b:Bool):RQ:=if b then ⟨false,1,1⟩ else ⟨false,0,1⟩
def Hq (b:Bool):Oq:= .val (bR b)
def Oq.one (o:Oq):Bool:=(o.n==false) && ((o.a==(ae 1)) && ((o.d==(ae 1)) && true))
def Oq.bit (o:Oq):Bool:=o.one||((o.n==false) && ((o.a==(ae 0)) && ((o.d==(ae 1)) && true)))
def eqO (a b:Oq):Bool:=(a.n==b.n) && ((a.a==b.a) && ((a.d==b.d) && true))
def Ut (a b c:Oq):Oq:=if a.e=0 then (if a.bit then (if a.one then b else c) else .err 13) else a
def N9 (op:Int) (a b:Oq):Oq:=
 if op=9 then mV (gG a.q b.q) else if op=10 then mV (eU a.q b.q) else if op=11 then mV (ja a.q b.q)
 else if op=12 then (if b.q.n=0 then .err 16 else mV (fM a.q b.q))
 else if op=13 then (if 0<iO a.q b.q then b else a) else if op=14 then (if iO a.q b.q<0 then b else a)
 else if op=16 then Hq (decide (iO a.q b.q<0)) else if op=17 then Hq (eqO a b)
 else if a.bit && b.bit then Hq (if op=18 then a.one && b.one else a.one||b.one) else .err 13
theorem nK {n:Bool} {a d:List UInt8} (h:d_ n a d=true):iW n a d=true/\iP ⟨n,ag a,ag d⟩=true:=by
 unfold d_ at h;simp only [φ] at h;exact ⟨h.1.1,by unfold iP;simp only [φ];exact ⟨h.1.2,h.2⟩⟩
theorem iw {n:Bool} {a d:List UInt8} (h:iW n a d=true):ae (ag a)=a/\ae (ag d)=d:=by
 rw [lF] at h;exact ⟨(nX a).1 h.1,(nX d).1 h.2.1⟩
theorem Ar (n:Bool) (a d:List UInt8) (e:Int):(xK n a d e).ok:=by
 unfold xK;split
 .split
  .rename_i h;obtain ⟨f,c⟩:=nK h;have:=jJ n a d;unfold vQ at this;rw [if_pos f] at this;exact ⟨this,c⟩
  .exact (by decide:(3:Int) ≠ 0)
 .assumption
theorem su {q:RQ} (h:q.ok):d_ q.neg (ae q.n) (ae q.d)=iP q:=by
 unfold d_ iP;rw [pI q h,aG,aG,Xjh]
theorem wE {q:RQ} (h:q.ok):xK q.neg (ae q.n) (ae q.d) 0=mV q:=by
 unfold xK mV;rw [if_pos rfl,su h,aG,aG]
theorem qR {q:RQ} (h:q.ok):(mV q).ok:=by
 rw [<- wE h];exact Ar _ _ _ _
theorem aeF (b:Bool):(bR b).ok:=by cases b<;>exact ⟨by decide,by decide,by decide⟩
theorem NE:eu 1<=400/\eu 0<=400:=⟨jw (k:=400) (Nat.one_lt_two_pow (n:=400) (by decide)),jw (k:=400) (Xqu 400)⟩
theorem Su {x:Nat} (h:eu x<=400):(ae x).length<=51:=by
 refine bU (k:=51) ?_;rcases Xqb x with h0|h0
 .rw [h0];apply Xqu
 .obtain ⟨m,d,_,c⟩:=wW h0;refine Xqa c ?_;apply Xqc (by decide);omega
theorem oI (b:Bool):(Hq b).ok:=by
 refine ⟨aeF b, ?_⟩;unfold iP bR;have:=NE;cases b<;>simp [this.1,this.2]
theorem a_ {q:RQ} (h:iP q=true):(ae q.n).length<=51/\(ae q.d).length<=51:=by
 unfold iP at h;simp only [φ,decide_eq_true_eq] at h;exact ⟨Su h.1,Su h.2⟩
theorem ahy {o:Oq} (h:o.ok):o.a.length<=51/\o.d.length<=51:=by
 cases o with
 |err e=>exact ⟨Xxr _,Xxr _⟩
 |val q=>exact a_ h.2
theorem xu (n:Bool) (a d:List UInt8) (e:Int) (j:a.length<2^36) (hd:d.length<2^36):CO 43 [.agg [.bool n,.str a,.str d,ω e]] (.ret (fD (xK n a d e))):=by
 have f:=gY n a d j hd;unfold xK;by_cases h:e=0
 .rw [if_pos h];have g:lit false (!(e==((0:Nat):Int)))=true:=by rw [h];rfl
  cases c:d_ n a d with
  |true=>
   rw [c] at f;rw [if_pos rfl];have:=agz n a d e (by rw [c];rfl) g (by rw [c];exact f);obtain ⟨k,i⟩:=iw (nK c).1;show CO 43 _ (.ret (.agg [.bool n,.str (ae (ag a)),.str (ae (ag d)),ω 0]));rw [k,i,<- h];exact this
  |false=>
   rw [c] at f;rw [if_neg (by simp)];exact agy n a d e (by rw [c];rfl) g (by rw [c];exact f) (jv 3)
 .rw [if_neg h];exact agx n a d e (by rw [show (e==((0:Nat):Int))=false from beq_eq_false_iff_ne.2 h];rfl) (jv e)
theorem Nl (n:Bool) (a d:List UInt8) (c:a.length<2^36) (hd:d.length<2^36):CO 124 [Ω n a d] (.ret (fD (xK n a d 0))):=agM n a d _ (xu n a d 0 c hd)
theorem r_ {q:RQ} (h:q.ok) (d:(ae q.n).length<2^36) (c:(ae q.d).length<2^36):CO 124 [qA q] (.ret (fD (mV q))):=by
 rw [<- wE h];exact Nl _ _ _ d c
theorem rZ {o:Oq} (h:o.ok) (d:o.e=0):CO 124 [.agg [.bool o.n,.str o.a,.str o.d]] (.ret (fD o)):=by
 cases o with
 |err e=>exact absurd d h
 |val q=>
  have c:=r_ h.1 (Xqj (a_ h.2).1 (by decide)) (Xqj (a_ h.2).2 (by decide));unfold mV at c;rw [if_pos h.2] at c;exact c
theorem mG (b:Bool):CO 126 [.bool b] (.ret (fD (Hq b))):=by
 cases b with
 |true=>exact agJ true _ rfl wu (rZ (oI true) rfl)
 |false=>exact agK false _ rfl jV (rZ (oI false) rfl)
theorem oK (o:Oq):CO 128 [.agg [.bool o.n,.str o.a,.str o.d]] (.ret (.tup [.bool o.one,.bool o.bit])):=by
 unfold Oq.bit;cases h:o.one with
 |true=>
  have:=agc o.n o.a o.d h wu;rw [show ((o.n==false) && ((o.a==(ae 1)) && ((o.d==(ae 1)) && true)))=true from h] at this;exact this
 |false=>
  have:=agd o.n o.a o.d (by rw [show ((o.n==false) && ((o.a==(ae 1)) && ((o.d==(ae 1)) && true)))=false from h];rfl) wu jV;rw [show ((o.n==false) && ((o.a==(ae 1)) && ((o.d==(ae 1)) && true)))=false from h] at this;rw [Xwp];exact this
section
variable (op:Int) (ng nn:Bool) (nu de name:List UInt8) (ks vs kt vt:List AV) (o0 o1 o2:Oq)
theorem PQ:CO 77 [.agg [.mp ks vs,.mp kt vt],.agg [ω op,.bool ng,.str nu,.str de,.str name],.sl (vU o0++(vU o1++vU o2)) 3 nn] (.ret (fD (Ut o0 o1 o2))):=by
 have c:=oK o0;unfold Ut;by_cases h:o0.e=0
 .rw [if_pos h];have d:lit false (!(o0.e==((0:Nat):Int)))=true:=by rw [h];rfl
  cases e:o0.bit with
  |false=>
   rw [e] at c;exact af_ _ _ _ _ _ _ _ _ o0 o1 o2 ks vs kt vt rfl d c (jv 13)
  |true=>
   rw [e] at c;cases f:o0.one with
   |true=>rw [f] at c;exact aga _ _ _ _ _ _ _ _ o0 o1 o2 ks vs kt vt rfl rfl d c
   |false=>rw [f] at c;exact agb _ _ _ _ _ _ _ _ o0 o1 o2 ks vs kt vt rfl rfl d c
 .rw [if_neg h];exact af9 _ _ _ _ _ _ _ _ o0 o1 o2 ks vs kt vt (by rw [show (o0.e==((0:Nat):Int))=false from beq_eq_false_iff_ne.2 h];rfl) c
theorem aoR {g:Int} (h:g=0\/g=1\/g= -1):decide (((0:Nat):Int)<(γ .i64 (g*((1:Nat):Int))))=decide (0<g)/\decide (((0:Nat):Int)<(γ .i64 (g*(-1:Int))))=decide (g<0):=by
 rcases h with rfl|rfl|rfl<;>decide+kernel
theorem apq (a b:RQ):iO a b=0\/iO a b=1\/iO a b= -1:=by
 unfold iO jk;split
 .exact .inl rfl
 .split
  .exact .inr (.inr rfl)
  .exact .inr (.inl rfl)
theorem AU {o:Oq} (h:o.ok) (c:o.e=0):∃ q:RQ,o= .val q/\q.ok/\iP q=true:=by
 cases o with
 |err e=>exact absurd c h
 |val q=>exact ⟨q,rfl,h.1,h.2⟩
theorem Xv (G:(9<=op/\op<=14)\/(16<=op/\op<=19)) (k0:o0.ok) (z:o0.e=0) (k1:o1.ok) (y:o1.e=0):CO 74 [.agg [.mp ks vs,.mp kt vt],.agg [ω op,.bool ng,.str nu,.str de,.str name],.sl (vU o0++vU o1) 2 nn] (.ret (fD (N9 op o0 o1))):=by
 obtain ⟨a,rfl,r,E⟩:=AU k0 z;obtain ⟨b,rfl,v,F⟩:=AU k1 y;obtain ⟨i,m⟩:=a_ E;obtain ⟨j,g⟩:=a_ F;have u:=fQ r;have o:=fQ v;have d:∀ k:Nat,k<=51->k<2^28:=λk h=>Xqj h (by decide)
 have c:∀ k:Nat,k<=51->k<2^29:=λk h=>Xqj h (by decide)
 have t:CO 127 [qA a,qA b] (.ret (ω (iO a b))):=by
  have:=G6 a.neg b.neg (ae a.n) (ae a.d) (ae b.n) (ae b.d) (d _ i) (d _ m) (d _ j) (d _ g);rw [u,o] at this;exact this
 have D:=apq a b;obtain ⟨B,A⟩:=aoR D;have C:op=9\/op=10\/op=11\/op=12\/op=13\/op=14\/op=16\/op=17\/op=18\/op=19:=by omega
 have w:∀ {q:RQ},(ae q.n).length<=4*51+1/\(ae q.d).length<=2*51->(ae q.n).length<2^36/\(ae q.d).length<2^36:=λh=> ⟨Xqj h.1 (by decide),Xqj h.2 (by decide)⟩
 rcases C with rfl|rfl|rfl|rfl|rfl|rfl|rfl|rfl|rfl|rfl
 .have:=G5 a.neg b.neg (ae a.n) (ae a.d) (ae b.n) (ae b.d) (c _ i) (c _ m) (c _ j) (c _ g);rw [u,o] at this;obtain ⟨p,n⟩:=w (vO a b 51 i m j g);exact abh _ _ _ _ _ _ (.val a) (.val b) _ ks vs kt vt aa9 this (r_ (eX r v) p n)
 .have:=G7 a.neg b.neg (ae a.n) (ae a.d) (ae b.n) (ae b.d) (c _ i) (c _ m) (d _ j) (d _ g);rw [u,o] at this;obtain ⟨p,n⟩:=w (vO a (lJ b) 51 i m j g);exact Xw _ _ _ _ _ _ (.val a) (.val b) _ ks vs kt vt Xk this (r_ (iF r v) p n)
 .have:=TC a.neg b.neg (ae a.n) (ae a.d) (ae b.n) (ae b.d) (c _ i) (c _ m) (c _ j) (c _ g);rw [u,o] at this;have:=dW a.n b.n;have:=dW a.d b.d;have:=ug (!(a.neg==b.neg)) (a.n*b.n) (a.d*b.d);obtain ⟨p,n⟩:=w (q:=ja a b) ⟨by unfold ja;omega,by unfold ja;omega⟩;exact Xx _ _ _ _ _ _ (.val a) (.val b) _ ks vs kt vt Xl (by assumption) (r_ (jb r v) p n)
 .rcases Xqb b.n with h0|h0
  .have:=Zp a.neg b.neg (ae a.n) (ae a.d) (ae b.n) (ae b.d) (c _ i) (c _ m) (c _ j) (c _ g) (by rw [o];exact h0);show CO 74 _ (.ret (fD (if b.n=0 then .err 16 else _)));rw [if_pos h0];exact UL _ _ _ _ _ (.val a) (.val b) ks vs kt vt MX this (jv 16)
  .have:=Oy a.neg b.neg (ae a.n) (ae a.d) (ae b.n) (ae b.d) (c _ i) (c _ m) (c _ j) (c _ g) (by rw [o];exact h0);rw [u,o] at this;have:=dW a.n b.d;have:=dW a.d b.n;have:=ug (!(a.neg==b.neg)) (a.n*b.d) (a.d*b.n);obtain ⟨p,n⟩:=w (q:=fM a b) ⟨by unfold fM;omega,by unfold fM;omega⟩;show CO 74 _ (.ret (fD (if b.n=0 then .err 16 else mV (fM a b))));rw [if_neg (by omega)];exact Xy _ _ _ _ _ _ (.val a) (.val b) _ ks vs kt vt MX (by assumption) (r_ (qL r h0) p n)
 .show CO 74 _ (.ret (fD (if 0<iO a b then .val b else .val a)));by_cases h:0<iO a b
  .rw [if_pos h];exact Nh _ _ _ _ _ _ _ _ _ (.val a) (.val b) ks vs kt vt (MZ RJ) (abl _ _ _ _ _ _ _ (by rw [B,Yq0 h];rfl) t) (rZ k1 y)
  .rw [if_neg h];exact Nh _ _ _ _ _ _ _ _ _ (.val a) (.val b) ks vs kt vt (MZ RJ) (abm _ _ _ _ _ _ _ (by rw [B,Yq1 h];rfl) t) (rZ k0 z)
 .show CO 74 _ (.ret (fD (if iO a b<0 then .val b else .val a)));by_cases h:iO a b<0
  .rw [if_pos h];exact Nj _ _ _ _ _ _ _ _ _ (.val a) (.val b) ks vs kt vt (M_ RI) (abj _ _ _ _ _ _ _ (by rw [A,Yq0 h];rfl) t) (rZ k1 y)
  .rw [if_neg h];exact Nj _ _ _ _ _ _ _ _ _ (.val a) (.val b) ks vs kt vt (M_ RI) (abk _ _ _ _ _ _ _ (by rw [A,Yq1 h];rfl) t) (rZ k0 z)
 .exact Xz _ _ _ _ _ _ _ (.val a) (.val b) ks vs kt vt Xm t (mG _)
 .exact XB _ _ _ _ _ _ (.val a) (.val b) ks vs kt vt Xn (mG _)
 .have f:=oK (.val a);have e:=oK (.val b);show CO 74 _ (.ret (fD (if Oq.bit (.val a) && Oq.bit (.val b) then Hq (Oq.one (.val a) && Oq.one (.val b)) else .err 13)));generalize Oq.bit (.val a)=x2 at*
  generalize Oq.bit (.val b)=x4 at*
  generalize Oq.one (.val a)=x1 at*
  generalize Oq.one (.val b)=x3 at*
  cases x2 with
  |false=>exact XC _ _ x1 false x3 x4 _ _ _ (.val a) (.val b) ks vs kt vt rfl zS f e (jv 13)
  | true=>
   cases x4 with
   |false=>exact XD _ _ x1 true x3 false _ _ _ (.val a) (.val b) ks vs kt vt rfl rfl zS f e (jv 13)
   |true=>
    cases x1 with
    |true=>exact XE _ _ true true x3 true _ _ _ _ (.val a) (.val b) ks vs kt vt rfl rfl rfl zS f e (mG _)
    |false=>exact XF _ _ false true x3 true _ _ _ _ (.val a) (.val b) ks vs kt vt rfl rfl rfl zS f e (mG _)
 .have f:=oK (.val a);have e:=oK (.val b);show CO 74 _ (.ret (fD (if Oq.bit (.val a) && Oq.bit (.val b) then Hq (Oq.one (.val a)||Oq.one (.val b)) else .err 13)));generalize Oq.bit (.val a)=x2 at*
  generalize Oq.bit (.val b)=x4 at*
  generalize Oq.one (.val a)=x1 at*
  generalize Oq.one (.val b)=x3 at*
  cases x2 with
  |false=>exact XG _ _ x1 false x3 x4 _ _ _ (.val a) (.val b) ks vs kt vt rfl zU f e (jv 13)
  | true=>
   cases x4 with
   |false=>exact XH _ _ x1 true x3 false _ _ _ (.val a) (.val b) ks vs kt vt rfl rfl zU f e (jv 13)
   |true=>
    cases x1 with
    |true=>exact XI _ _ true true x3 true _ _ _ _ (.val a) (.val b) ks vs kt vt rfl rfl rfl zU f e (mG _)
    |false=>exact XJ _ _ false true x3 true _ _ _ _ (.val a) (.val b) ks vs kt vt rfl rfl rfl zU f e (mG _)
end
abbrev Vaw (a:RQ):kW:= .ret (.tup [qA a,.bool true])
abbrev VaC:kW:= .ret (.bool true)
theorem akr (r:RQ) (c:Bool) (n:Nat) (e:CO 158 [.agg [.str []],.str (ae 1)] VaC) (f:CO 159 [.str (ae n)] VaC) (d:CO 160 [.bool c,.str (ae n),.str (ae 1)] (.ret (qA r))):CO 205 [.bool c,.str (ae n),.str (ae 1)] (Vaw r):=pK [] 2 0 (.n 6 .nil) (.c d (.c f (.c e .nil)))
abbrev VbF (a:Nat) (b:Nat) (c:Nat) (d:Nat):Prop:=CO 191 [.str (ae a),.str (ae b)] (.ret (.tup [.str (ae c),.str (ae d),.bool true]))
theorem agR (r:RQ) (n m y z:Nat) (d:VbF n m y z) (e:CO 72 [ω 1] (.ret (.str (ae 1)))) (c:CO 205 [.bool false,.str (ae y),.str (ae 1)] (Vaw r)):CO 177 [Ω false (ae n) (ae m)] (.ret (qA r)):=pK [] 2 0 (.n 14 .nil) (.c c (.c e (.c d .nil)))
theorem agP (r:RQ) (n m y z:Nat) (c:lit true (!((ae z)== []))=true) (g:VbF n m y z) (h:CO 72 [ω 1] (.ret (.str (ae 1)))) (d:CO 71 [.str (ae y),.str (ae 1)] (.ret (.str (ae (y+1))))) (f:CO 72 [ω 1] (.ret (.str (ae 1)))) (e:CO 205 [.bool true,.str (ae (y+1)),.str (ae 1)] (Vaw r)):CO 177 [Ω true (ae n) (ae m)] (.ret (qA r)):=pK [] 2 3 (.k 9 c (.n 4 .nil)) (.c e (.c f (.c d (.c h (.c g .nil)))))
theorem agQ (r:RQ) (n m y z:Nat) (c:lit false (!((ae z)== []))=true) (e:VbF n m y z) (f:CO 72 [ω 1] (.ret (.str (ae 1)))) (d:CO 205 [.bool true,.str (ae y),.str (ae 1)] (Vaw r)):CO 177 [Ω true (ae n) (ae m)] (.ret (qA r)):=pK [] 2 1 (.k 9 c (.n 4 .nil)) (.c d (.c f (.c e .nil)))
theorem agA (a s:RQ) (g:Int) (d:CO 115 [qA a] VaC) (e:CO 115 [qA s] VaC) (c:CO 121 [qA s] (Vaz g)):CO 176 [qA a,qA s] (.ret (.bool (decide (((0:Nat):Int)<g)))):=pK [] 2 3 (.n 11 .nil) (.c c (.c e (.c d .nil)))
theorem akj (a s q r w:RQ) (d:CO 176 [qA a,qA s] VaC) (f:CO 125 [qA a,qA s] (Vaw q)) (c:CO 177 [qA q] (.ret (qA w))) (e:CO 169 [qA w,qA s] (.ret (qA r))):CO 131 [qA a,qA s] (Vaw r):=pK [] 1 0 (.n 24 .nil) (.c e (.c c (.c f (.c d .nil))))
theorem akT (a s r v:RQ) (c:lit true (!((r.neg==a.neg) && (((ae r.n)==(ae a.n)) && (((ae r.d)==(ae a.d)) && true))))=true) (d:CO 131 [qA a,qA s] (Vaw r)) (e:CO 167 [qA r,qA s] (.ret (qA v))):CO 132 [qA a,qA s] (Vaw v):=pK [] 2 3 (.k 14 c (.n 14 .nil)) (.c e (.c d .nil))
theorem akU (a s r:RQ) (c:lit false (!((r.neg==a.neg) && (((ae r.n)==(ae a.n)) && (((ae r.d)==(ae a.d)) && true))))=true) (d:CO 131 [qA a,qA s] (Vaw r)):CO 132 [qA a,qA s] (Vaw r):=pK [] 2 1 (.k 7 c (.n 14 .nil)) (.c d .nil)
theorem aks (a s q r v w:RQ) (g:Int) (c:lit true (decide (((0:Nat):Int)<=g))=true) (f:CO 131 [qA a,qA s] (Vaw r)) (i:CO 168 [qA a,qA r] (.ret (qA q))) (d:CO 167 [qA q,qA q] (.ret (qA w))) (h:CO 127 [qA w,qA s] (Vaz g)) (e:CO 167 [qA r,qA s] (.ret (qA v))):CO 129 [qA a,qA s] (Vaw v):=pK [] 2 2 (.k 14 c (.n 24 .nil)) (.c e (.c h (.c d (.c i (.c f .nil)))))
theorem akt (a s q r w:RQ) (g:Int) (c:lit false (decide (((0:Nat):Int)<=g))=true) (e:CO 131 [qA a,qA s] (Vaw r)) (h:CO 168 [qA a,qA r] (.ret (qA q))) (d:CO 167 [qA q,qA q] (.ret (qA w))) (f:CO 127 [qA w,qA s] (Vaz g)):CO 129 [qA a,qA s] (Vaw r):=pK [] 2 0 (.k 7 c (.n 24 .nil)) (.c f (.c d (.c h (.c e .nil))))
theorem alM:nR (ae 1)=true:=wY 1
theorem aqo:BO (ae 1)=true:=by unfold BO;rw [alM,aG];rfl
theorem E9 (c:Bool) (n:Nat) (f:(ae n).length<2^33):CO 205 [.bool c,.str (ae n),.str (ae 1)] (.ret (.tup [qA (fZ c n 1),.bool true])):=by
 have d:(ae 1).length<2^33:=Xqj (bU (x:=1) (k:=1) (by decide)) (by decide);have hp:=YV (ae 1) (Xqa d (by decide));rw [aqo] at hp;have e:=BJ (ae n);rw [wY] at e;exact akr _ c n hp e (Jz c n 1 f d (by decide))
theorem KF (c:Bool) (x:Nat):fZ c x 1=ku (if c then -(x:Int) else (x:Int)):=by
 unfold fZ ku;rw [Xvx,Xz3,Xz3];cases c with
 |true=>
  simp only [Xjh,if_true,Xvr,Xjr,RQ.mk.injEq,and_true];rcases Xqb x with h|h
  .subst h;rfl
  .rw [Yq0 h,Yq0 (by omega)]
 |false=>
  simp only [Xjs,Xji,if_false,Xjr,RQ.mk.injEq,and_true];rw [Yq1 (by omega)]
theorem UN {q:RQ} (h:q.ok) (i:(ae q.n).length<2^32) (g:(ae q.d).length<2^32):CO 177 [qA q] (.ret (qA (ku (oC q)))):=by
 have d:=Qx (ae q.n) (ae q.d) (Xqa i (by decide)) (Xqa g (by decide)) (by rw [aG];exact h.1);rw [aG,aG] at d;have j:=lH (Xjn q.n q.d);have o:(ae 1).length<=1:=bU (x:=1) (k:=1) (by decide);have p:=wX (q.n / q.d) 1;have e:=Gj 1 (by decide);obtain ⟨f,n,m⟩:=q;unfold oC;simp only at*
 cases f with
 |false=>
  rw [if_neg (by simp)];have c:=E9 false (n / m) (by omega);rw [KF,if_neg (by simp)] at c;exact agR _ n m _ _ d e c
 | true=>
  rw [if_pos rfl];by_cases hr:n % m=0
  .have c:=E9 true (n / m) (by omega);rw [KF,if_pos rfl] at c;rw [if_pos hr,Xq1];exact agQ _ n m _ _ (by rw [hr,dC];rfl) d e c
  .have c:=E9 true (n / m+1) (by omega);rw [KF,if_pos rfl] at c;rw [if_neg hr];exact agP _ n m _ _ (by
    rw [show ((ae (n % m))== [])=false from by rw [Yq2];intro h;rw [fC] at h;exact hr h];rfl) d e (aeZ _ _ (by omega) (by omega)) e c
def iM (L:Nat) (q:RQ):Prop:=(ae q.n).length<=L/\(ae q.d).length<=L
theorem iM.mono {L M:Nat} {q:RQ} (h:iM L q) (k:L<=M):iM M q:=⟨Xxg h.1 k,Xxg h.2 k⟩
theorem yU {L:Nat} {a b:RQ} (d:iM L a) (c:iM L b):iM (4*L+1) (gG a b):=by
 have:=vO a b L d.1 d.2 c.1 c.2;exact ⟨this.1,by omega⟩
theorem ZL {L:Nat} {a:RQ} (c:iM L a):iM L (lJ a):=c
theorem yV {L:Nat} {a b:RQ} (d:iM L a) (c:iM L b):iM (4*L+1) (eU a b):=yU d (ZL c)
theorem Cj {L:Nat} {a b:RQ} (d:iM L a) (c:iM L b):iM (2*L) (ja a b):=by
 have h:=dW a.n b.n;have g:=dW a.d b.d;have f:=ug (!(a.neg==b.neg)) (a.n*b.n) (a.d*b.d);obtain ⟨k,e⟩:=d;obtain ⟨i,j⟩:=c;exact ⟨by unfold ja;omega,by unfold ja;omega⟩
theorem Cm {L:Nat} {a b:RQ} (d:iM L a) (c:iM L b):iM (2*L) (fM a b):=by
 have h:=dW a.n b.d;have g:=dW a.d b.n;have f:=ug (!(a.neg==b.neg)) (a.n*b.d) (a.d*b.n);obtain ⟨k,e⟩:=d;obtain ⟨i,j⟩:=c;exact ⟨by unfold fM;omega,by unfold fM;omega⟩
theorem jA {L:Nat} {a:RQ} (c:iM L a) (f:L<2^28):(ae a.n).length<2^28/\(ae a.d).length<2^28/\(ae a.n).length<2^29/\(ae a.d).length<2^29:=by
 obtain ⟨e,d⟩:=c;omega
section
variable {a b:RQ} {L:Nat} (ha:a.ok) (hb:b.ok) (sa:iM L a) (sb:iM L b) (hL:L<2^28)
include ha hb sa sb hL
theorem GZ:CO 167 [qA a,qA b] (.ret (qA (gG a b))):=by
 obtain ⟨_,_,e,c⟩:=jA sa hL;obtain ⟨_,_,f,d⟩:=jA sb hL;have h:=G5 a.neg b.neg (ae a.n) (ae a.d) (ae b.n) (ae b.d) e c f d;rw [fQ ha,fQ hb] at h;exact h
theorem QG:CO 168 [qA a,qA b] (.ret (qA (eU a b))):=by
 obtain ⟨_,_,e,c⟩:=jA sa hL;obtain ⟨f,d,_,_⟩:=jA sb hL;have h:=G7 a.neg b.neg (ae a.n) (ae a.d) (ae b.n) (ae b.d) e c f d;rw [fQ ha,fQ hb] at h;exact h
theorem QF:CO 169 [qA a,qA b] (.ret (qA (ja a b))):=by
 obtain ⟨_,_,e,c⟩:=jA sa hL;obtain ⟨_,_,f,d⟩:=jA sb hL;have h:=TC a.neg b.neg (ae a.n) (ae a.d) (ae b.n) (ae b.d) e c f d;rw [fQ ha,fQ hb] at h;exact h
theorem Zn:CO 127 [qA a,qA b] (.ret (ω (iO a b))):=by
 obtain ⟨e,c,_,_⟩:=jA sa hL;obtain ⟨f,d,_,_⟩:=jA sb hL;have h:=G6 a.neg b.neg (ae a.n) (ae a.d) (ae b.n) (ae b.d) e c f d;rw [fQ ha,fQ hb] at h;exact h
theorem aiF (c:0<b.n):CO 125 [qA a,qA b] (.ret (.tup [qA (fM a b),.bool true])):=by
 obtain ⟨_,_,f,d⟩:=jA sa hL;obtain ⟨_,_,g,e⟩:=jA sb hL;have h:=Oy a.neg b.neg (ae a.n) (ae a.d) (ae b.n) (ae b.d) f d g e (by rw [fQ hb];exact c);rw [fQ ha,fQ hb] at h;exact h
end
section
variable {a s:RQ} (ha:a.ok) (fa:iP a=true) (hs:s.ok) (fs:iP s=true) (hp:0<jk s)
include ha fa hs fs hp
theorem UM:CO 176 [qA a,qA s] (.ret (.bool true)):=by
 obtain ⟨i,e⟩:=a_ fa;obtain ⟨j,f⟩:=a_ fs;have d:=nS a.neg (ae a.n) (ae a.d) (by omega) (by omega);have c:=nS s.neg (ae s.n) (ae s.d) (by omega) (by omega);rw [pI a ha] at d;rw [pI s hs] at c;have g:=Zr s hs (by omega) (by omega);have h:=agA a s _ d c g;rw [Yq0 (show ((0:Nat):Int)<jk s from hp)] at h;exact h
omit ha hs hp in
theorem XQ:iM 104 (ku (oC (fM a s))):=by
 obtain ⟨d,c⟩:=a_ fa;obtain ⟨f,e⟩:=a_ fs;have h:=(Cm (L:=51) ⟨d,c⟩ ⟨f,e⟩).1;generalize fM a s=q at*
 have i:(ae 1).length<=1:=bU (x:=1) (k:=1) (by decide);have j:=lH (Xjn q.n q.d);have n:=wX (q.n / q.d) 1;have g:(oC q).natAbs<=q.n / q.d+1:=by
  unfold oC;split
  .rw [Xvr,Xjr];split<;>omega
  .rw [Xjr];omega
 have m:=lH g;exact ⟨by show (ae (oC q).natAbs).length<=104;omega,by show (ae 1).length<=104;omega⟩
omit ha hs hp in
theorem PO:iM 208 (xG a s):=Cj (L:=104) (XQ fa fs) ⟨by have:=(a_ fs).1;omega,by have:=(a_ fs).2;omega⟩
theorem E8:CO 131 [qA a,qA s] (.ret (.tup [qA (xG a s),.bool true])):=by
 have d:=(GY hs hp).2;have f:iM 51 a:=a_ fa;have c:iM 51 s:=a_ fs;have e:=Cm f c;refine akj a s _ _ _ (UM ha fa hs fs hp) (aiF ha hs f c (by decide) d) (UN (qL ha d) (Xqj e.1 (by decide)) (Xqj e.2 (by decide))) ?_;exact QF (qJ _) hs (XQ fa fs) (c.mono (by decide)) (by decide)
theorem agL:CO 132 [qA a,qA s] (.ret (.tup [qA (upR a s),.bool true])):=by
 have hd:=E8 ha fa hs fs hp;have d:=PO fa fs;have c:iM 51 s:=a_ fs;have e:((xG a s).neg==a.neg && ((ae (xG a s).n==ae a.n) && ((ae (xG a s).d==ae a.d) && true)))=eqR (xG a s) a:=by unfold eqR;rw [Xjz]
 unfold upR;cases h:eqR (xG a s) a with
 |true=>
  rw [if_pos rfl];rw [h] at e;have:=akU a s (xG a s) (by rw [e];rfl) hd;rw [J9.1 h] at this;exact this
 |false=>
  rw [if_neg (by simp)];rw [h] at e;exact akT a s (xG a s) _ (by rw [e];rfl) hd (GZ (jC hs) hs d (c.mono (by decide)) (by decide))
theorem Xr:CO 129 [qA a,qA s] (.ret (.tup [qA (nrR a s),.bool true])):=by
 have hd:=E8 ha fa hs fs hp;have f:=PO fa fs;have i:iM 51 a:=a_ fa;have k:iM 51 s:=a_ fs;have e:=jC (a:=a) hs;have d:=iF ha e;have c:=yV (i.mono (show 51<=208 by decide)) f;have m:=QG ha e (i.mono (show 51<=208 by decide)) f (by decide);have g:=GZ d d c c (by decide);have j:=Zn (eX d d) hs (yU c c) (k.mono (by decide)) (by decide);unfold nrR;by_cases h:0<=iO (gG (eU a (xG a s)) (eU a (xG a s))) s
 .rw [if_pos h];exact aks a s _ (xG a s) _ _ _ (Yq0 h) hd m g j (GZ e hs f (k.mono (by decide)) (by decide))
 .rw [if_neg h];exact akt a s _ (xG a s) _ _ (by
   rw [show decide (((0:Nat):Int)<=iO (gG (eU a (xG a s)) (eU a (xG a s))) s)=false from Yq1 h];rfl) hd m g j
end
structure Sc where
 name:List UInt8
 u1:Int
 u2:Int
 bx:List AV
 bn:Nat
def OB (x:Sc):List AV:= [.str x.name,ω x.u1,ω x.u2,.sl x.bx x.bn false]
def dL (l:List Sc):List AV:=l.flatMap OB
theorem OD {l:List Sc} {k:Nat} (h:k<l.length):ε (k*4) (dL l)=OB l[k]++dL (l.drop (k+1)):=by
 induction l generalizing k with
 |nil=>simp at h
 | cons x r ih=>
  cases k with
  |zero=>simp [dL]
  |succ k=>
   have c:k<r.length:=by simpa using h
   show ε ((k+1)*4) (OB x++dL r)=_;rw [show (k+1)*4=(OB x).length+k*4 by simp [OB];omega,Xzh,Xjp,ih c,Xxv (by omega)];rfl
theorem Px {A:List (List Nat)} {k:Nat} (h:k<A.length):ε (δ (k:Int)*1) (dJ A)= [Um (A.getD k [])]++dJ (A.drop (k+1)):=by
 unfold dJ;rw [aC,Θ,<- Xj9,Xxs h,ξ,π h];rfl
theorem AY (k:Nat):decide (((0:Nat):Int)<=(k:Int))=true:=Yq0 (by omega)
theorem dlt {k n:Nat} (h:k<n):decide ((k:Int)<(n:Int))=true:=Yq0 (by omega)
theorem IU:∀ (r:List Nd) (k:Nat) (st:List Nat),(∀ j ∈ st,j<k)->(∃ e,iV r st.length= .inl e)->(tC r k st).length=r.length/\∀ i x,r[i]? =some x->((tC r k st).getD i []).length=dh x.op/\∀ j ∈ (tC r k st).getD i [],j<k+i
 | [],k,st,_,_=> ⟨rfl,λi x h=>by simp at h⟩
 | x ::r,k,st,hst,⟨e,he⟩=>by
  simp only [iV] at he;split at he
  .split at he
   .cases he
   .rename_i p o;have m:(st.take (st.length - dh x.op)++ [k]).length=st.length - dh x.op+1:=by rw [η,List.length_take,τ];omega
    have f:=IU r (k+1) (st.take (st.length - dh x.op)++ [k]) (by
     intro j c;rcases List.mem_append.1 c with c|c
     .have:=hst j (List.mem_of_mem_take c);omega
     .rw [List.mem_singleton.1 c];omega) ⟨e,by rw [m];exact he⟩
    refine ⟨by simp only [tC,ν,f.1], ?_⟩;intro i y d;cases i with
    |zero=>
     simp only [List.getElem?_cons_zero,Option.some.injEq] at d;subst d;simp only [tC,List.getD_cons_zero];refine ⟨by rw [Xx0];omega,λj c=> ?_⟩;have:=hst j (List.mem_of_mem_drop c);omega
    |succ i=>
     simp only [List.getElem?_cons_succ] at d;obtain ⟨n,g⟩:=f.2 i y d;simp only [tC,List.getD_cons_succ];exact ⟨n,λj c=>by have:=g j c;omega⟩
  .cases he
theorem JW:∀ (r:List Nd) (d:Nat) (w:Int),iV r d= .inr w->w ≠ 0
 | [],d,w,h=>by simp [iV] at h
 | x::r,d,w,h=>by
  simp only [iV] at h;split at h
  .split at h
   .cases h;decide
   .exact JW r _ w h
  .rename_i c;cases h;exact c
theorem tH {e:List Nd} (c:di e=0):(bJ e).length=e.length/\∀ i x,e[i]? =some x->((bJ e).getD i []).length=dh x.op/\∀ j ∈ (bJ e).getD i [],j<i:=by
 have h:∃ d,iV e ([]:List Nat).length= .inl d:=by
  unfold di at c;split at c
  .cases c
  .split at c
   .rename_i d hd;exact ⟨d,hd⟩
   .rename_i w g;exact absurd c (JW _ _ _ g)
 obtain ⟨m,f⟩:=IU e 0 [] (by simp) h;exact ⟨m,λi x k=>by have:=f i x k;rw [Ψ] at this;exact this⟩
theorem wkn {n c:Nat} (h:n=c+1) (d:n<2^40):ω (γ .i64 ((n:Int) - ((1:Nat):Int)))= ω (c:Int):=by rw [bG]<;>first|(congr 1;omega)|omega
theorem dle {n:Nat} (h:n<2^40):decide ((n:Int)<=((1099511627776:Nat):Int))=true:=Yq0 (by omega)
theorem WC (l:List Nd) (nn:Bool) (c:∀ x ∈ l,x.sm) (d:di l=0):CO 24 [.sl (aO l) l.length nn] (.ret (.tup [.sl (dJ (bJ l)) (bJ l).length true,.bool true])):=by
 rw [(tH d).1];exact aaA l nn c d
structure Br where
 fn:Bool
 fa:List UInt8
 fd:List UInt8
 rn:Bool
 ra:List UInt8
 rd:List UInt8
def LX (x:Br):List AV:= [.bool x.fn,.str x.fa,.str x.fd,.bool x.rn,.str x.ra,.str x.rd]
def gp (l:List Br):List AV:=l.flatMap LX
def Br.sm (x:Br):Prop:=(x.fa.length<2^33/\x.fd.length<2^33)/\(x.ra.length<2^33/\x.rd.length<2^33)
abbrev WH (x:Br):AV:= .agg [.bool x.fn,.str x.fa,.str x.fd]
abbrev brR (x:Br):AV:= .agg [.bool x.rn,.str x.ra,.str x.rd]
theorem o_ {l:List Br} {k:Nat} (h:k<l.length):ε (δ (k:Int)*6) (gp l)=LX l[k]++gp (l.drop (k+1)):=by
 rw [aC]
 induction l generalizing k with
 |nil=>simp at h
 | cons x r ih=>
  cases k with
  |zero=>simp [gp]
  |succ k=>
   have c:k<r.length:=by simpa using h
   show ε ((k+1)*6) (LX x++gp r)=_;rw [show (k+1)*6=(LX x).length+k*6 by simp [LX];omega,Xzh,Xjp,ih c,Xxv (by omega)];rfl
def Ip (cmp:Br->Br->Int):Option Br->List Br->Bool
 |_,[]=>true
 |none,x::r=>cond (iW x.fn x.fa x.fd) (cond (iW x.rn x.ra x.rd) (cond (jd x.fn x.fa x.fd==((0:Nat):Int)) (Ip cmp (some x) r) false) false) false
 |some y,x::r=>cond (iW x.fn x.fa x.fd) (cond (iW x.rn x.ra x.rd) (cond (decide (((0:Nat):Int)<=cmp y x)) false (Ip cmp (some x) r)) false) false
def ajK (nm:List UInt8) (u1 u2:Int) (l:List Br) (k:Nat):St:=⟨[(1,.ptr 0 0 0),(3,.sl (gp l) l.length false),(16,.sl (gp l) l.length false),(17,ω (l.length:Int)),(18,ω (k:Int))],[(0,⟨[.str nm,ω u1,ω u2,.sl (gp l) l.length false],0,false,0,0,true⟩)],.dead,[]⟩
def aeG (l:List Br):Bool->St
 |true=> ⟨[(3,.sl (gp l) l.length false)],[],.dead,[]⟩
 |false=> ⟨[(2,.int .i64 11)],[],.dead,[]⟩
def bkE:Bool->bI
 |true=> .exit 1
 |false=> .ret
def zg (f:Nat) (cmp:Br->Br->Int) (l:List Br):Prop:=∀ i y x,l[i]? =some y->l[i+1]? =some x->iW x.fn x.fa x.fd=true->iW x.rn x.ra x.rd=true->CO f [WH y,WH x] (.ret (ω (cmp y x)))
theorem aaK {nt:Nat} (j:60<=nt) (nm:List UInt8) (u1 u2:Int) (l:List Br) (cmp:Br->Br->Int) (F:l.length<2^40) (D:∀ x ∈ l,x.sm) (K:zg 127 cmp l):∀ (r p:List Br),p++r=l->
  az prog ap [] nt (af 1 (ah f202)) bkE (ajK nm u1 u2 l) (aeG l) p.length (Ip cmp p.getLast? r):=by
 intro r
 induction r with
 |nil=>
  intro p hp;rw [Δ] at hp;subst hp;have c:(decide ((p.length:Int)<(p.length:Int)))=false:=Yq1 (by omega);rw [show Ip cmp p.getLast? []=true by cases p.getLast? <;>rfl];exact .done (pN 202 [] 1 0 (.c (aB c) .nil) (.nil) j)
 | cons x r ih=>
  intro p hp;have I:p.length<l.length:=by rw [<- hp];simp
  have o:l[p.length]=x:=by subst hp;simp
  have g:=o_ I;rw [o] at g;have i:=ih (p++ [x]) (by rw [<- hp];simp);rw [List.getLast?_append,List.getLast?_singleton,η,τ] at i;simp only [Option.some_or] at i;have hs:=D x (by rw [<- hp];simp);have d:CO 115 [WH x] (.ret (.bool (iW x.fn x.fa x.fd))):=nS x.fn x.fa x.fd (Xq8 hs.1.1 (by decide)) (Xq8 hs.1.2 (by decide));have f:CO 115 [brR x] (.ret (.bool (iW x.rn x.ra x.rd))):=nS x.rn x.ra x.rd (Xq8 hs.2.1 (by decide)) (Xq8 hs.2.2 (by decide));have H:CO 121 [WH x] (.ret (ω (jd x.fn x.fa x.fd))):=pY x.fn x.fa x.fd (Xq8 hs.1.1 (by decide)) (Xq8 hs.1.2 (by decide));cases v:p.getLast? with
  | none=>
   have B:p= []:=List.getLast?_eq_none_iff.1 v;subst B;generalize J:([]:List Br).length=k at*
   have C:k=0:=by rw [<- J];rfl
   generalize gp (l.drop (k+1))=rB at g;have c:(decide ((k:Int)<(l.length:Int)))=true:=Yq0 (by omega);have n:((k:Int)==((0:Nat):Int))=true:=by rw [C];rfl
   have w:(decide (((0:Nat):Int)<(k:Int)))=false:=Yq1 (by omega);have A:k<2^62:=by omega
   rcases tf (iW x.fn x.fa x.fd) with d0|d0
   .rcases tf (iW x.rn x.ra x.rd) with d1|d1
    .rcases tf ((jd x.fn x.fa x.fd)==((0:Nat):Int)) with d2|d2
     .simp only [Ip,d0,d1,d2,cond_true,cond_false];exact .next (pN 202 [] 7 9 (.k 1 (aB w) (.c (aX d2) (.k 3 (aA n) (.c (aX d1) (.k 3 (aX d0) (.k 10 (AY k) (.c c (.c (aA c) .nil)))))))) (.v 57 (.eq (xE A)) (.c H (.c f (.c d (.v 21 (.ppt g) .nil))))) j) i
     .simp only [Ip,d0,d1,d2,cond_true,cond_false];exact .done (pN 202 [] 6 57 (.k 1 (dV d2) (.k 3 (aA n) (.c (aX d1) (.k 3 (aX d0) (.k 10 (AY k) (.c c (.c (aA c) .nil))))))) (.c H (.c f (.c d (.v 21 (.ppt g) .nil)))) j)
    .simp only [Ip,d0,d1,cond_true,cond_false];exact .done (pN 202 [] 3 5 (.c (dV d1) (.k 3 (aX d0) (.k 10 (AY k) (.c c (.c (aA c) .nil))))) (.c f (.c d (.v 21 (.ppt g) .nil))) j)
   .simp only [Ip,d0,cond_true,cond_false];exact .done (pN 202 [] 3 7 (.k 1 (dV d0) (.k 10 (AY k) (.c c (.c (aA c) .nil)))) (.c d (.v 21 (.ppt g) .nil)) j)
  | some y=>
   obtain ⟨q,E⟩:∃ q,p=q++ [y]:=by
    obtain ⟨q,h⟩:=List.getLast?_eq_some_iff.1 v;exact ⟨q,h⟩
   have m:p.length=q.length+1:=by rw [E];simp
   have e:q.length<l.length:=by omega
   have z:=o_ e;have t:l[q.length]=y:=by subst hp E;simp
   rw [t] at z;have G:=K q.length y x (by rw [π e,t]) (by rw [<- m,π I,o]);clear E;generalize p.length=k at*
   generalize q.length=k1 at*
   generalize gp (l.drop (k+1))=rB at g;generalize gp (l.drop (k1+1))=rC at z;have c:(decide ((k:Int)<(l.length:Int)))=true:=Yq0 (by omega);have n:((k:Int)==((0:Nat):Int))=false:=beq_eq_false_iff_ne.2 (by omega);have w:(decide (((0:Nat):Int)<(k:Int)))=true:=Yq0 (by omega);have A:k<2^62:=by omega
   have u:k<2^40:=by omega
   rcases tf (iW x.fn x.fa x.fd) with d0|d0
   .rcases tf (iW x.rn x.ra x.rd) with d1|d1
    .rcases tf (decide (((0:Nat):Int)<=(cmp y x))) with d2|d2
     .simp only [Ip,d0,d1,d2,cond_true,cond_false];exact .done (pN 202 [] 7 97 (.c (aA d2) (.k 6 (AY k1) (.c (dlt e) (.c (aA w) (.k 1 (aB n) (.c (aX d1) (.k 3 (aX d0) (.k 10 (AY k) (.c c (.c (aA c) .nil)))))))))) (.c (G d0 d1) (.v 48 (.ppt z) (.v 47 (.eq (wkn m u)) (.c f (.c d (.v 21 (.ppt g) .nil)))))) j)
     .simp only [Ip,d0,d1,d2,cond_true,cond_false];exact .next (pN 202 [] 7 33 (.c (aB d2) (.k 6 (AY k1) (.c (dlt e) (.c (aA w) (.k 1 (aB n) (.c (aX d1) (.k 3 (aX d0) (.k 10 (AY k) (.c c (.c (aA c) .nil)))))))))) (.v 57 (.eq (xE A)) (.c (G d0 d1) (.v 48 (.ppt z) (.v 47 (.eq (wkn m u)) (.c f (.c d (.v 21 (.ppt g) .nil))))))) j) i
    .simp only [Ip,d0,d1,cond_true,cond_false];exact .done (pN 202 [] 3 5 (.c (dV d1) (.k 3 (aX d0) (.k 10 (AY k) (.c c (.c (aA c) .nil))))) (.c f (.c d (.v 21 (.ppt g) .nil))) j)
   .simp only [Ip,d0,cond_true,cond_false];exact .done (pN 202 [] 3 7 (.k 1 (dV d0) (.k 10 (AY k) (.c c (.c (aA c) .nil)))) (.c d (.v 21 (.ppt g) .nil)) j)
def Kw (P:Br->Bool):List Br->Nat->Option Nat
 | [],_=>none
 |x::r,i=>if P x then some i else Kw P r (i+1)
theorem Nz (P:Br->Bool):∀ (r:List Br) (i:Nat),(Kw P r i).isSome=r.any P
 | [],_=>rfl
 |x::r,i=>by
  unfold Kw;rw [Xv5];rcases tf (P x) with h|h
  .rw [if_pos h,h];rfl
  .rw [if_neg (by rw [h];decide),h,Xwp];exact Nz P r (i+1)
def aeT (l:List Br) (k:Nat):St:=⟨[(0,.sl (gp l) l.length false),(1,.fn 218 [] []),(7,ω (l.length:Int)),(8,ω (k:Int))],[],.dead,[]⟩
def X6 (l:List Br):Option Nat->St
 |none=> ⟨[(0,.sl (gp l) l.length false)],[],.dead,[]⟩
 |some i=> ⟨[(4,.int .i64 (i:Int))],[],.dead,[]⟩
theorem X7 {nt:Nat} (f:19<=nt) (l:List Br) (P:Br->Bool) (h:l.length<2^40) (n:∀ x ∈ l,CO 218 [.agg (LX x)] (.ret (.bool (P x)))):∀ (r p:List Br),p++r=l->
  az prog ap [] nt (af 0 (ah f230)) ixE (aeT l) (X6 l) p.length (Kw P r p.length):=by
 intro r
 induction r with
 |nil=>
  intro p hp;rw [Δ] at hp;subst hp;have c:(decide ((p.length:Int)<(p.length:Int)))=false:=Yq1 (by omega);exact .done (pN 230 [] 1 0 (.c (aB c) .nil) (.nil) f)
 | cons x r ih=>
  intro p hp;have j:p.length<l.length:=by rw [<- hp];simp
  have g:l[p.length]=x:=by subst hp;simp
  have e:=o_ j;rw [g] at e;have d:=ih (p++ [x]) (by rw [<- hp];simp);rw [η,τ] at d;have i:=n x (by rw [<- hp];simp);unfold Kw;generalize p.length=k at*
  generalize gp (l.drop (k+1))=rB at e;have c:(decide ((k:Int)<(l.length:Int)))=true:=Yq0 (by omega);have m:k<2^62:=by omega
  rcases tf (P x) with d0|d0
  .rw [if_pos d0];exact .done (pN 230 [] 2 3 (.c (aA d0) (.k 6 (AY k) (.c c (.c (aA c) .nil)))) (.c i (.v 14 (.ppt e) .nil)) f)
  .rw [if_neg (by rw [d0];decide)];exact .next (pN 230 [] 2 1 (.c (aB d0) (.k 6 (AY k) (.c c (.c (aA c) .nil)))) (.v 18 (.eq (xE m)) (.c i (.v 14 (.ppt e) .nil))) f) d
abbrev Vbv (a:List Br):St:=⟨[(0,.sl (gp a) a.length false),(1,.fn 218 [] []),(4,ω 0),(5,.dead),(7,ω (a.length:Int)),(8,ω 0),(9,.dead),(16,.dead)],[],.dead,[]⟩
theorem ag1 (l:List Br) (i:Nat) (c:aK prog ap [] 19 (.block 0 (.loop (af 0 (ah f230)))) (Vbv l) (.ret) ⟨[(4,ω (i:Int))],[],.dead,[]⟩):CO 230 [.sl (gp l) l.length false,.fn 218 [] []] (.ret (ω (i:Int))):=pK [0] 0 0 .nil (.l c .nil)
theorem ag0 (l:List Br) (c:aK prog ap [] 19 (.block 0 (.loop (af 0 (ah f230)))) (Vbv l) (.normal) ⟨[(0,.sl (gp l) l.length false)],[],.dead,[]⟩):CO 230 [.sl (gp l) l.length false,.fn 218 [] []] (.ret (ω (-1))):=pK [0] 0 0 .nil (.l c .nil)
theorem agZ (l:List Br) (P:Br->Bool) (c:l.length<2^40) (f:∀ x ∈ l,CO 218 [.agg (LX x)] (.ret (.bool (P x)))):CO 230 [.sl (gp l) l.length false,.fn 218 [] []] (.ret (ω (ixI (Kw P l 0)))):=by
 have h:∀ nt,19<=nt->az prog ap [] nt (af 0 (ah f230)) ixE (aeT l) (X6 l) 0 (Kw P l 0):=λnt e=>X7 e l P c f l [] rfl
 cases d:Kw P l 0 with
 |none=>
  rw [d] at h;exact ag0 l (az.blk h (by simp [ixE]) rfl (aN.of ⟨rfl,rfl,rfl,rfl,trivial⟩) (aN.of ⟨rfl,trivial⟩))
 |some i=>
  rw [d] at h;exact ag1 l i (az.blk h (by simp [ixE]) rfl (aN.of ⟨rfl,rfl,rfl,rfl,trivial⟩) (aN.of ⟨rfl,trivial⟩))
theorem aaS (l:List Br) (c:Int) (d:CO 230 [.sl (gp l) l.length false,.fn 218 [] []] (Vaz c)):CO 217 [.sl (gp l) l.length false,.fn 218 [] []] (.ret (.bool (decide (((0:Nat):Int)<=c)))):=pK [] 0 0 .nil (.c d .nil)
theorem WZ (l:List Br) (P:Br->Bool) (c:l.length<2^40) (e:∀ x ∈ l,CO 218 [.agg (LX x)] (.ret (.bool (P x)))):CO 217 [.sl (gp l) l.length false,.fn 218 [] []] (.ret (.bool (l.any P))):=by
 have h:=aaS l _ (agZ l P c e);rw [<- Nz P l 0];cases d:Kw P l 0 with
 |none=>rw [d] at h;exact h
 |some i=>
  rw [d] at h;rw [show (some i).isSome=decide (((0:Nat):Int)<=ixI (some i)) from (Yq0 (show ((0:Nat):Int)<=(i:Int) by omega)).symm];exact h
def Io (x:Br):Bool:= !(d_ x.fn x.fa x.fd)|| !(d_ x.rn x.ra x.rd)
theorem afN (x:Br) (hs:x.sm):CO 218 [.agg (LX x)] (.ret (.bool (Io x))):=by
 rcases tf (d_ x.fn x.fa x.fd) with b0|b0
 .rw [show Io x= !(d_ x.rn x.ra x.rd) by unfold Io;rw [b0];rfl];exact pK [] 1 0 (.k 3 (aX b0) (.n 3 .nil)) (.c (gY x.rn x.ra x.rd (Xq8 hs.2.1 (by decide)) (Xq8 hs.2.2 (by decide))) (.c (gY x.fn x.fa x.fd (Xq8 hs.1.1 (by decide)) (Xq8 hs.1.2 (by decide))) .nil))
 .rw [show Io x=true by unfold Io;rw [b0];rfl];exact pK [] 1 1 (.c (dV b0) (.n 3 .nil)) (.c (gY x.fn x.fa x.fd (Xq8 hs.1.1 (by decide)) (Xq8 hs.1.2 (by decide))) .nil)
def Iq (cmp:Br->Br->Int) (l:List Br):Int:=cond (decide (((8:Nat):Int)<(l.length:Int))) 2 (cond ((l.length:Int)==((0:Nat):Int)) 11 (cond (Ip cmp none l) (cond (l.any Io) 3 0) 11))
theorem apo (nm:List UInt8) (u1 u2:Int) (l:List Br) (c:Bool) (f:(decide (((8:Nat):Int)<(l.length:Int)))=false) (e:((l.length:Int)==((0:Nat):Int))=false) (d:CO 217 [.sl (gp l) l.length false,.fn 218 [] []] (.ret (.bool c)))
  (l0:aK prog ap [] 60 (.block 1 (.loop (af 1 (ah f202)))) ⟨[(0,.agg [.str nm,ω u1,ω u2,.sl (gp l) l.length false]),(1,.ptr 0 0 0),(2,ω 0),(3,.sl (gp l) l.length false),(4,.dead),(5,.dead),(8,.bool (decide (((8:Nat):Int)<(l.length:Int)))),(12,.bool ((l.length:Int)==((0:Nat):Int))),(16,.sl (gp l) l.length false),(17,ω (l.length:Int)),(18,ω 0),(19,.dead),(32,.dead),(56,.dead),(59,.dead)],[(0,⟨[.str nm,ω u1,ω u2,.sl (gp l) l.length false],0,false,0,0,true⟩)],.dead,[]⟩ (.normal) ⟨[(3,.sl (gp l) l.length false)],[],.dead,[]⟩):CO 202 [.agg [.str nm,ω u1,ω u2,.sl (gp l) l.length false]] (.ret (ω (cond c 3 0))):=by
 rcases tf c with b2|b2
 .rw [show (cond c 3 0:Int)=3 by rw [b2];rfl];exact pK [1] 3 4 (.c (aA b2) (.c (aB e) (.c (aB f) (.n 1 .nil)))) (.c d (.l l0 .nil))
 .rw [show (cond c 3 0:Int)=0 by rw [b2];rfl];exact pK [1] 3 0 (.c (aB b2) (.c (aB e) (.c (aB f) (.n 1 .nil)))) (.c d (.l l0 .nil))
theorem apn (nm:List UInt8) (u1 u2:Int) (l:List Br) (d:(decide (((8:Nat):Int)<(l.length:Int)))=false) (c:((l.length:Int)==((0:Nat):Int))=false)
  (l0:aK prog ap [] 60 (.block 1 (.loop (af 1 (ah f202)))) ⟨[(0,.agg [.str nm,ω u1,ω u2,.sl (gp l) l.length false]),(1,.ptr 0 0 0),(2,ω 0),(3,.sl (gp l) l.length false),(4,.dead),(5,.dead),(8,.bool (decide (((8:Nat):Int)<(l.length:Int)))),(12,.bool ((l.length:Int)==((0:Nat):Int))),(16,.sl (gp l) l.length false),(17,ω (l.length:Int)),(18,ω 0),(19,.dead),(32,.dead),(56,.dead),(59,.dead)],[(0,⟨[.str nm,ω u1,ω u2,.sl (gp l) l.length false],0,false,0,0,true⟩)],.dead,[]⟩ (.ret) ⟨[(2,ω 11)],[],.dead,[]⟩):CO 202 [.agg [.str nm,ω u1,ω u2,.sl (gp l) l.length false]] (.ret (ω 11)):=pK [1] 2 0 (.c (aB c) (.c (aB d) (.n 1 .nil))) (.l l0 .nil)
theorem QE (nm:List UInt8) (u1 u2:Int) (l:List Br) (cmp:Br->Br->Int) (c:l.length<2^40) (d:∀ x ∈ l,x.sm) (i:zg 127 cmp l):CO 202 [.agg [.str nm,ω u1,ω u2,.sl (gp l) l.length false]] (.ret (ω (Iq cmp l))):=by
 unfold Iq;rcases tf (decide (((8:Nat):Int)<(l.length:Int))) with d0|d0
 .rw [d0];exact pK [] 1 1 (.c (aA d0) (.n 1 .nil)) (.nil)
 .rw [d0];rcases tf ((l.length:Int)==((0:Nat):Int)) with d1|d1
  .rw [d1];exact pK [] 2 2 (.c (aA d1) (.c (aB d0) (.n 1 .nil))) (.nil)
  .rw [d1];have h:∀ nt,60<=nt->az prog ap [] nt (af 1 (ah f202)) bkE (ajK nm u1 u2 l) (aeG l) 0 (Ip cmp none l):=λnt g=>aaK g nm u1 u2 l cmp c d i l [] rfl
   cases e:Ip cmp none l with
   |true=>
    rw [e] at h;exact apo nm u1 u2 l _ d0 d1 (WZ l Io c λx f=>afN x (d x f)) (az.blk h (by simp [bkE]) rfl (aN.of ⟨rfl,rfl,rfl,rfl,rfl,trivial⟩) (aN.of ⟨rfl,trivial⟩))
   |false=>
    rw [e] at h;exact apn nm u1 u2 l d0 d1 (az.blk h (by simp [bkE]) rfl (aN.of ⟨rfl,rfl,rfl,rfl,rfl,trivial⟩) (aN.of ⟨rfl,trivial⟩))
def DN (b:RQ × RQ):List AV:= [.bool b.1.neg,.str (ae b.1.n),.str (ae b.1.d),.bool b.2.neg,.str (ae b.2.n),.str (ae b.2.d)]
def lV (l:List (RQ × RQ)):List AV:=l.flatMap DN
def rvC (q:RQ):List AV:= [.bool q.neg,.str (ae q.n),.str (ae q.d)]
def II (l:List RQ):List AV:=l.flatMap rvC
abbrev LZ (nm:List UInt8) (u1 u2:Int) (l:List (RQ × RQ)):AV:= .agg [.str nm,ω u1,ω u2,.sl (lV l) l.length false]
abbrev TK (nm:List UInt8) (u1 u2:Int) (l:List (RQ × RQ)):AV:= .pp [.str nm,ω u1,ω u2,.sl (lV l) l.length false] 0
abbrev TE (x:RQ):AV:= .pp [.bool x.neg,.str (ae x.n),.str (ae x.d)] 0
theorem akg (x:RQ) (c:Int) (nm:List UInt8) (u1 u2:Int) (l:List (RQ × RQ)) (d:lit false (!(c==((0:Nat):Int)))=true) (f:CO 202 [LZ nm u1 u2 l] (Vaz c)) (g:CO 115 [qA x] VaC) (e:CO 70 [qA x] VaC):CO 172 [LZ nm u1 u2 l,qA x] (.ret (ω 0)):=pK [] 3 0 (.k 8 d (.n 4 .nil)) (.c e (.c g (.c f .nil)))
theorem aki (x:RQ) (c:Nat) (nm:List UInt8) (u1 u2:Int) (l:List (RQ × RQ)) (d:CO 203 [ω (l.length:Int),.fn 204 [] [TK nm u1 u2 l,TE x]] (.ret (ω (c:Int)))):CO 173 [LZ nm u1 u2 l,qA x] (.ret (ω (c:Int))):=pK [] 0 0 (.n 1 .nil) (.c d .nil)
abbrev VaS (a:Nat) (b:List (RQ × RQ)):Prop:=(decide ((a:Int)<(b.length:Int)))=true
abbrev Vbi (a:Nat) (b:List (RQ × RQ)) (c:RQ × RQ) (d:List AV):Prop:=(ε ((δ (a:Int))*6) (lV b))=DN c++d
theorem akh (x:RQ) (k:Nat) (g:Int) (nm:List UInt8) (u1 u2:Int) (l:List (RQ × RQ)) (b:RQ × RQ) (rb:List AV) (d:Vbi k l b rb) (c:Va4 k) (f:VaS k l) (e:CO 127 [qA b.1,qA x] (Vaz g)):CO 204 [ω (k:Int),TK nm u1 u2 l,TE x] (.ret (.bool (decide (((0:Nat):Int)<g)))):=pK [] 0 0 (.k 6 c (.c f (.n 1 .nil))) (.c e (.v 8 (.ppt d) .nil))
theorem akm (x:RQ) (d:lit true (!(iP x))=true) (c:CO 70 [qA x] (.ret (.bool (iP x)))):CO 174 [qA x] (.ret (.tup [Ω false [] [],ω 3])):=pK [] 1 1 (.k 4 d (.n 3 .nil)) (.c c .nil)
theorem akn (x:RQ) (d:lit false (!(iP x))=true) (c:CO 70 [qA x] (.ret (.bool (iP x)))):CO 174 [qA x] (.ret (.tup [qA x,ω 0])):=pK [] 1 0 (.k 7 d (.n 3 .nil)) (.c c .nil)
abbrev Va7 (a:Nat):Prop:=ω (γ .i64 ((a:Int)+((1:Nat):Int)))=ω ((a+1:Nat):Int)
abbrev VbB (a:List UInt8) (b:Int) (c:Int) (d:List (RQ × RQ)) (e:RQ) (f:Nat) (g:Nat):St:=⟨[(1,.fn 204 [] [TK a b c d,TE e]),(5,ω (f:Int)),(6,ω (g:Int))],[],.dead,[]⟩
theorem akM (x:RQ) (p:Bool) (i j c:Nat) (nm:List UInt8) (u1 u2:Int) (l:List (RQ × RQ)) {nt:Nat} (h:26<=nt) (d:ω (γ .i64 (Xq0 (γ .u64 (γ .i64 ((i:Int)+(j:Int)))) (2^(min 1 64))))=ω (c:Int)) (e:Va7 c) (f:lit true (!p)=true) (k:lit true (decide ((i:Int)<(j:Int)))=true) (g:CO 204 [ω (c:Int),TK nm u1 u2 l,TE x] (.ret (.bool p))):ψ nt f203 (VbB nm u1 u2 l x i j) (.normal) ⟨[(1,.fn 204 [] [TK nm u1 u2 l,TE x]),(5,ω ((c+1:Nat):Int)),(6,ω (j:Int))],[],.dead,[]⟩:=pN 203 [] 2 3 (.c f (.k 1 k .nil)) (.v 23 (.eq e) (.c g (.v 17 (.eq d) .nil))) h
theorem akN (x:RQ) (p:Bool) (i j c:Nat) (nm:List UInt8) (u1 u2:Int) (l:List (RQ × RQ)) {nt:Nat} (g:26<=nt) (d:ω (γ .i64 (Xq0 (γ .u64 (γ .i64 ((i:Int)+(j:Int)))) (2^(min 1 64))))=ω (c:Int)) (e:lit false (!p)=true) (h:lit true (decide ((i:Int)<(j:Int)))=true) (f:CO 204 [ω (c:Int),TK nm u1 u2 l,TE x] (.ret (.bool p))):ψ nt f203 (VbB nm u1 u2 l x i j) (.normal) (VbB nm u1 u2 l x i c):=pN 203 [] 2 1 (.c e (.k 1 h .nil)) (.c f (.v 17 (.eq d) .nil)) g
theorem aeN (x:RQ) (i j:Nat) (nm:List UInt8) (u1 u2:Int) (l:List (RQ × RQ)) {nt:Nat} (d:26<=nt) (c:lit false (decide ((i:Int)<(j:Int)))=true):ψ nt f203 (VbB nm u1 u2 l x i j) (.exit 0) ⟨[(5,ω (i:Int))],[],.dead,[]⟩:=pN 203 [] 1 0 (.c c .nil) (.nil) d
theorem akJ (x:RQ) (c n:Nat) (nm:List UInt8) (u1 u2:Int) (l:List (RQ × RQ)) (d:aK prog ap [] 26 (.block 0 (.loop (af 0 (ah f203)))) ⟨[(0,ω (n:Int)),(1,.fn 204 [] [TK nm u1 u2 l,TE x]),(4,ω 0),(5,ω 0),(6,ω (n:Int)),(7,.dead),(11,.dead),(21,.dead)],[],.dead,[]⟩ (.normal) ⟨[(5,ω (c:Int))],[],.dead,[]⟩):CO 203 [ω (n:Int),.fn 204 [] [TK nm u1 u2 l,TE x]] (.ret (ω (c:Int))):=pK [0] 0 0 .nil (.l d .nil)
theorem akQ (nm:List UInt8) (u1 u2:Int) (l:List (RQ × RQ)) (c:List RQ) (f:AV.sl (ε 6 (κ ((δ (l.length:Int))*6) (lV l))) ((δ (l.length:Int)) - 1) false=AV.sl (lV l.tail) l.tail.length false) (d:(decide (((1:Nat):Int)<=(l.length:Int)))=true) (g:(decide ((l.length:Int)<=(l.length:Int)))=true) (e:CO 42 [ω 0] (.ret (qA q0))) (h:aK prog ap [] 47 (.block 0 (.loop (af 0 (ah f175)))) ⟨[(0,LZ nm u1 u2 l),(1,.ptr 0 0 0),(2,.nilS),(3,.ref 1 0 0 1),(4,.dead),(5,.dead),(11,ω (l.tail.length:Int)),(12,ω 0),(13,.dead)],[(0,⟨[.str nm,ω u1,ω u2,.sl (lV l) l.length false],0,false,0,0,true⟩),(1,⟨[.bool q0.neg,.str (ae q0.n),.str (ae q0.d)],0,false,0,3,true⟩)],.dead,[]⟩ (.normal) ⟨[(3,.ref 0 0 0 c.length)],[(0,⟨(II c),0,false,0,3,true⟩)],.dead,[]⟩):CO 175 [LZ nm u1 u2 l] (.ret (.own (κ (c.length*3) (II c)) c.length 3)):=pK [0] 0 0 (.k 1 d (.c g (.n 1 .nil))) (.l h (.v 10 (.eq f) (.c e .nil)))
abbrev VaM (a:Nat) (b:List (RQ × RQ)):Bool:=decide (((a+1:Nat):Int)<(b.length:Int))
abbrev Vbx (a:List RQ) (b:List (RQ × RQ)) (c:Nat) (d:List UInt8) (e:Int) (f:Int):St:=⟨[(1,.ptr 0 0 0),(3,.ref 1 0 0 a.length),(11,ω (b.tail.length:Int)),(12,ω (c:Int))],[(0,⟨[.str d,ω e,ω f,.sl (lV b) b.length false],0,false,0,0,true⟩),(1,⟨(II a),0,false,0,3,true⟩)],.dead,[]⟩
abbrev Vby (a:Nat):Prop:=(decide (((0:Nat):Int)<=((a+1:Nat):Int)))=true
theorem akK (o r v w:RQ) (k:Nat) (nm:List UInt8) (u1 u2:Int) (l:List (RQ × RQ)) (c:List RQ) (b m:RQ × RQ) (rb f C:List AV) {nt:Nat} (E:47<=nt) (i:Vbi k l b rb) (e:(ε ((δ ((k+1:Nat):Int))*6) (lV l))=DN m++f) (n:(ε ((0+(δ (k:Int)))*3) (II c))=rvC o++C) (h:Va7 k) (g:((κ (c.length*3) (II c))++ (Va0 r))=(II (c++ [r]))) (p:(Φ (c.length+1) 1099511627776)=true) (t:(Φ (c.length*3) (ζ (II c)))=true) (d:Va4 k) (j:VaS k l) (q:(decide ((k:Int)<(c.length:Int)))=true) (z:Vby k) (y:(VaM k l)=true) (D:lit true (decide ((k:Int)<(l.tail.length:Int)))=true) (B:CO 168 [qA m.1,qA b.1] (.ret (qA v))) (u:CO 169 [qA v,qA b.2] (.ret (qA w))) (A:CO 167 [qA o,qA w] (.ret (qA r))):ψ nt f175 (Vbx c l k nm u1 u2) (.normal) ⟨[(1,.ptr 0 0 0),(3,.ref 1 0 0 (c.length+1)),(11,ω (l.tail.length:Int)),(12,ω ((k+1:Nat):Int))],[(0,⟨[.str nm,ω u1,ω u2,.sl (lV l) l.length false],0,false,0,0,true⟩),(1,⟨(II (c++ [r])),0,false,0,3,true⟩)],.dead,[]⟩:=pN 175 [] 1 1 (.k 1 p (.c t (.k 4 d (.c j (.n 4 (.a (jR [.bool,.str,.str] n rfl) (.c d (.c q (.k 4 d (.c j (.k 4 z (.c y (.k 1 D .nil))))))))))))) (.v 45 (.eq h) (.b 44 g (.c A (.c u (.v 38 (.ppt i) (.v 33 (.rd [.bool,.str,.str] n rfl) (.c B (.v 25 (.ppt i) (.v 19 (.ppt e) (.v 18 (.eq h) .nil)))))))))) E
theorem akL (k:Nat) (nm:List UInt8) (u1 u2:Int) (l:List (RQ × RQ)) (c:List RQ) {nt:Nat} (e:47<=nt) (d:lit false (decide ((k:Int)<(l.tail.length:Int)))=true):ψ nt f175 (Vbx c l k nm u1 u2) (.exit 0) ⟨[(3,.ref 0 0 0 c.length)],[(0,⟨(II c),0,false,0,3,true⟩)],.dead,[]⟩:=pN 175 [] 1 0 (.c d .nil) (.nil) e
theorem af6 (x:RQ) (d:Nat) (c:Int) (nm:List UInt8) (u1 u2:Int) (l:List (RQ × RQ)) (e:ω (γ .i64 ((d:Int) - ((1:Nat):Int)))=ω (-1)) (f:lit false (!(c==((0:Nat):Int)))=true) (h:CO 172 [LZ nm u1 u2 l,qA x] (Vaz c)) (i:CO 173 [LZ nm u1 u2 l,qA x] (.ret (ω (d:Int)))) (g:CO 42 [ω 0] (.ret (qA q0))):CO 130 [LZ nm u1 u2 l,qA x] (.ret (.tup [qA q0,ω 0])):=pK [] 2 2 (.k 12 f (.n 7 .nil)) (.c g (.v 19 (.eq e) (.c i (.c h .nil))))
theorem af7 (x o r v w:RQ) (y:Oq) (c g:Nat) (d:Int) (nm:List UInt8) (u1 u2:Int) (l:List (RQ × RQ)) (e:List RQ) (b:RQ × RQ) (rb A:List AV) (m:Vbi c l b rb) (h:(ε ((0+(δ (c:Int)))*3) (II e))=rvC o++A) (j:ω (γ .i64 ((g:Int) - ((1:Nat):Int)))=ω (c:Int)) (f:Va4 c) (q:(decide ((c:Int)<(e.length:Int)))=true) (i:VaS c l) (n:lit false (decide ((c:Int)<((0:Nat):Int)))=true) (p:lit false (!(d==((0:Nat):Int)))=true) (z:CO 172 [LZ nm u1 u2 l,qA x] (Vaz d)) (t:CO 173 [LZ nm u1 u2 l,qA x] (.ret (ω (g:Int)))) (u:CO 175 [LZ nm u1 u2 l] (.ret (.own (II e) e.length 3))) (C:CO 168 [qA x,qA b.1] (.ret (qA v))) (B:CO 169 [qA b.2,qA v] (.ret (qA w))) (D:CO 167 [qA o,qA w] (.ret (qA r))) (k:CO 174 [qA r] (.ret (.tup [.agg (Vah y),ω y.e]))):CO 130 [LZ nm u1 u2 l,qA x] (.ret (.tup [.agg (Vah y),ω y.e])):=pK [] 2 0 (.n 13 (.a (jR [.bool,.str,.str] h rfl) (.c f (.c q (.k 11 f (.c i (.k 1 n (.k 7 p (.n 7 .nil))))))))) (.c k (.c D (.c B (.c C (.v 32 (.rd [.bool,.str,.str] h rfl) (.c u (.v 26 (.ppt m) (.v 19 (.eq j) (.c t (.c z .nil))))))))))
theorem af4 (x:RQ) (e:Nat) (c:Int) (nm:List UInt8) (u1 u2:Int) (d:List AV) (f:lit true (!(c==((0:Nat):Int)))=true) (g:CO 202 [.agg [.str nm,ω u1,ω u2,.sl d e false]] (Vaz c)):CO 172 [.agg [.str nm,ω u1,ω u2,.sl d e false],qA x] (Vaz c):=pK [] 1 1 (.c f (.n 4 .nil)) (.c g .nil)
theorem af8 (x:RQ) (e:Nat) (c:Int) (nm:List UInt8) (u1 u2:Int) (d:List AV) (f:lit true (!(c==((0:Nat):Int)))=true) (g:CO 172 [.agg [.str nm,ω u1,ω u2,.sl d e false],qA x] (Vaz c)):CO 130 [.agg [.str nm,ω u1,ω u2,.sl d e false],qA x] (.ret (.tup [Ω false [] [],ω c])):=pK [] 1 1 (.k 4 f (.n 7 .nil)) (.c g .nil)
theorem wV {α:Type} (f:α->List AV) (m:Nat) (c:∀ a,(f a).length=m):∀ {l:List α} {k:Nat} (h:k<l.length),ε (k*m) (l.flatMap f)=f l[k]++(l.drop (k+1)).flatMap f
 | [],_,h=>by simp at h
 |x::r,0,_=>by simp
 |x::r,k+1,h=>by
  have d:k<r.length:=by simpa using h
  have:=wV f m c d;rw [Xxk,Xkk,Xx1,<- Xjw];have e:ε m (f x++r.flatMap f)=r.flatMap f:=by rw [<- c x];exact Xzm
  rw [e,this];simp
theorem lD {α:Type} (f:α->List AV) (m:Nat) (c:∀ a,(f a).length=m):∀ l:List α,(l.flatMap f).length=l.length*m
 | []=>by simp
 |x::r=>by rw [Xxk,η,c,lD f m c r,ν,Xkk,Xx1]
theorem gK {l:List (RQ × RQ)} {k:Nat} (h:k<l.length):ε (δ (k:Int)*6) (lV l)=DN l[k]++lV (l.drop (k+1)):=by
 rw [aC];exact wV DN 6 (λ_=>rfl) h
theorem OA {l:List RQ} {k:Nat} (h:k<l.length):ε ((0+δ (k:Int))*3) (II l)=rvC l[k]++II (l.drop (k+1)):=by
 rw [aC,Ψ];exact wV rvC 3 (λ_=>rfl) h
theorem LD (l:List RQ):(II l).length=l.length*3:=lD rvC 3 (λ_=>rfl) l
theorem Zu (l:List RQ) (r:RQ):κ (l.length*3) (II l)++ [.bool r.neg,.str (ae r.n),.str (ae r.d)]=II (l++ [r]):=by
 rw [ο (by rw [LD];exact χ _)];unfold II;rw [Xq9];rfl
abbrev srS (nm:List UInt8) (u1 u2:Int) (l:List (RQ × RQ)) (x:RQ) (p:Nat × Nat):St:=⟨[(1,.fn 204 [] [TK nm u1 u2 l,TE x]),(5,ω (p.1:Int)),(6,ω (p.2:Int))],[],.dead,[]⟩
abbrev srO (c:Nat):St:=⟨[(5,ω (c:Int))],[],.dead,[]⟩
theorem alH {i j:Nat} (h:i+j<2^62):ω (γ .i64 (Xq0 (γ .u64 (γ .i64 ((i:Int)+(j:Int)))) (2^(min 1 64))))=ω (((i+j) / 2:Nat):Int):=by
 congr 1;rw [show (i:Int)+(j:Int)=((i+j:Nat):Int) from rfl,aS (by omega),qg,Ξ (show i+j<18446744073709551616 by omega),show (2:Int)^(min 1 64)=((2:Nat):Int) from rfl];rw [show Xq0 ((i+j:Nat):Int) ((2:Nat):Int)=(((i+j) / 2:Nat):Int) from by rw [Int.fdiv_eq_ediv_of_nonneg _ (by omega)];rfl,aS (by omega)]
theorem ad_ {nt:Nat} (r:26<=nt) (nm:List UInt8) (u1 u2:Int) (l:List (RQ × RQ)) (x:RQ) (P:Nat->Bool) (B:l.length<2^60)
  (hP:∀ k,k<l.length->CO 204 [ω (k:Int),TK nm u1 u2 l,TE x] (.ret (.bool (P k)))) (hM:∀ i j,i<=j->j<l.length->P i=true->P j=true):
  ∀ (d i j:Nat),j - i<=d->i<=j->j<=l.length->(∀ k,k<i->P k=false)->(∀ k,j<=k->k<l.length->P k=true)->∀ c,c<=l.length->(∀ k,k<c->P k=false)->(∀ k,c<=k->k<l.length->P k=true)->
   az prog ap [] nt (af 0 (ah f203)) (λ_=> .exit 0) (srS nm u1 u2 l x) srO (i,j) c:=by
 intro d
 induction d with
 | zero=>
  intro i j hd t z o n c v f g;have:i=j:=by omega
  subst this;have:i=c:=by
   rcases Xze i c with h|h|h
   .have a:=f i h;rw [n i (χ _) (by omega)] at a;cases a
   .exact h
   .have a:=o c h;rw [g c (χ _) (by omega)] at a;cases a
  subst this;exact .done (aeN x i i nm u1 u2 l r (aB (Yq1 (by omega))))
 | succ d ih=>
  intro i j hd t z o n c v f g;by_cases hlt:i<j
  .have y:=alH (i:=i) (j:=j) (by omega);have A:(i+j) / 2<j:=by omega
   have u:i<=(i+j) / 2:=by omega
   generalize (i+j) / 2=q at*
   have p:=hP q (by omega);have m:lit true (decide ((i:Int)<(j:Int)))=true:=Yq0 (by omega);cases hp:P q with
   |false=>
    rw [hp] at p;refine .next (akM x false i j q nm u1 u2 l r y (xE (by omega)) rfl m p) (ih (q+1) j (by omega) (by omega) z (λk w=> ?_) n c v f g)
    cases e:P k with
    |false=>rfl
    |true=>rw [hM k q (by omega) (by omega) e] at hp;cases hp
   |true=>
    rw [hp] at p;exact .next (akN x true i j q nm u1 u2 l r y rfl m p) (ih i q (by omega) u (by omega) o (λk w e=>hM q k w e hp) c v f g)
  .have:i=j:=by omega
   subst this;have:i=c:=by
    rcases Xze i c with h|h|h
    .have a:=f i h;rw [n i (χ _) (by omega)] at a;cases a
    .exact h
    .have a:=o c h;rw [g c (χ _) (by omega)] at a;cases a
   subst this;exact .done (aeN x i i nm u1 u2 l r (aB (Yq1 (by omega))))
structure Wq (l:List (RQ × RQ)):Prop where
 len:l.length<=8
 pos:0<l.length
 ok:∀ b ∈ l,b.1.ok/\b.2.ok
 fit:∀ b ∈ l,iP b.1=true/\iP b.2=true
 srt:jQ l
theorem TR:∀ {l:List (RQ × RQ)},jQ l->∀ i j (hi:i<j) (hj:j<l.length),(l[i]'(by omega)).1.rt<l[j].1.rt
 | [],_,_,_,_,hj=>by simp at hj
 |b::l,h,0,j+1,_,hj=>h.all _ (Xxp (by simpa using hj))
 |b::l,h,i+1,j+1,hi,hj=>TR h.tail i j (by omega) (by simpa using hj)
def pS (l:List (RQ × RQ)) (x:RQ) (k:Nat):Bool:=match l[k]? with|some b=>decide (0<iO b.1 x)|none=>true
theorem zK (x:RQ):∀ l:List (RQ × RQ),iq l x<=l.length/\(∀ k,k<iq l x->pS l x k=false)/\(iq l x<l.length->pS l x (iq l x)=true)
 | []=> ⟨χ _,λk h=>absurd h (Xz5 _),λh=>absurd h (Xz5 _)⟩
 | b::l=>by
  obtain ⟨g,d,f⟩:=zK x l;by_cases h:0<iO b.1 x
  .have e:iq (b::l) x=0:=by
    unfold iq;rw [Xwa (by simp;omega)];rfl
   rw [e];exact ⟨Xxr _,λk c=>absurd c (Xz5 _),λ_=>Yq0 h⟩
  .rw [zJ h];refine ⟨by simp only [ν];omega,λk c=> ?_,λc=>f (by simpa using c)⟩;cases k with
   |zero=>exact Yq1 h
   |succ k=>exact d k (by omega)
section
variable (nm:List UInt8) (u1 u2:Int) {l:List (RQ × RQ)} (hR:Wq l) {x:RQ} (hx:x.ok) (fx:iP x=true)
include hR hx fx
omit fx in
theorem acF:∀ i j,i<=j->j<l.length->pS l x i=true->pS l x j=true:=by
 intro i j e c h;rcases Xq2 i j with h1|h1
 .have hs:=TR hR.srt i j h1 c;unfold pS at h ⊢;rw [π (by omega)] at h ⊢;simp only [decide_eq_true_eq] at h ⊢;have f:=(jr (hR.ok _ (Xxp (show i<l.length by omega))).1 hx).2.2;have d:=(jr (hR.ok _ (Xxp c)).1 hx).2.2;have:=f.1 h;exact d.2 (by grind)
 .rw [show i=j by omega] at h;exact h
theorem aba (k:Nat) (c:k<l.length):CO 204 [ω (k:Int),TK nm u1 u2 l,TE x] (.ret (.bool (pS l x k))):=by
 unfold pS;rw [π c];exact akh x k _ nm u1 u2 l l[k] _ (gK c) (Yq0 (by omega)) (Yq0 (by omega))
  (Zn (hR.ok _ (Xxp c)).1 hx (a_ (hR.fit _ (Xxp c)).1) (a_ fx) (by decide))
theorem Na:CO 173 [LZ nm u1 u2 l,qA x] (.ret (ω ((iq l x:Nat):Int))):=by
 obtain ⟨j,g,h⟩:=zK x l;have f:=hR.len;have e:=acF hR hx;refine aki x _ nm u1 u2 l (akJ x _ _ nm u1 u2 l (az.blk (id:=0) (e':= .normal) (s:=⟨_,_,_,_⟩) (s':=srO (iq l x)) (λnt i=>ad_ i nm u1 u2 l x (pS l x) (by omega) (aba nm u1 u2 hR hx fx) e l.length 0 l.length (by omega) (Xxr _) (χ _) (λk d=>absurd d (Xz5 _)) (λk d c=>by omega) (iq l x) j g (λk d c=>e _ k d c (h (by omega)))) (by simp) rfl (aN.of ⟨rfl,rfl,rfl,trivial⟩) (aN.refl _)))
end
abbrev smS (nm:List UInt8) (u1 u2:Int) (l:List (RQ × RQ)) (p:Nat × List RQ):St:=⟨[(1,.ptr 0 0 0),(3,.ref 1 0 0 p.2.length),(11,ω (l.tail.length:Int)),(12,ω (p.1:Int))],[(0,⟨[.str nm,ω u1,ω u2,.sl (lV l) l.length false],0,false,0,0,true⟩),(1,⟨(II p.2),0,false,0,3,true⟩)],.dead,[]⟩
abbrev smO (os:List RQ):St:=⟨[(3,.ref 0 0 0 os.length)],[(0,⟨(II os),0,false,0,3,true⟩)],.dead,[]⟩
theorem ZM {k:Nat} {a w:RQ} (d:iM (410*5^k) a) (c:iM 410 w):iM (410*5^(k+1)) (gG a w):=by
 have hp:1<=5^k:=Xkq _ _ (by decide);refine (yU d (c.mono (by omega))).mono ?_;rw [Xq3];generalize 5^k=M at*
 omega
theorem aeP {k:Nat} (h:k<=8):410*5^k<2^28:=Xqj (Xqx 410 (Xqc (by decide) h)) (by decide)
theorem aol {l:List (RQ × RQ)} (d:Wq l) {b c:RQ × RQ} (f:b ∈ l) (e:c ∈ l):iM 205 (eU c.1 b.1)/\iM 410 (ja (eU c.1 b.1) b.2):=by
 have g:iM 205 (eU c.1 b.1):=yV (L:=51) (a_ (d.fit _ e).1) (a_ (d.fit _ f).1);exact ⟨g,Cj g (iM.mono (L:=51) (a_ (d.fit _ f).2) (by decide))⟩
theorem ZK {nt:Nat} (A:47<=nt) (nm:List UInt8) (u1 u2:Int) {l:List (RQ × RQ)} (f:Wq l):∀ (r p:List (RQ × RQ)) (b:RQ × RQ) (d:List RQ) (c:RQ),l=p++b::r->d.length=p.length->c.ok->iM (410*5^p.length) c->
  az prog ap [] nt (af 0 (ah f175)) (λ_=> .exit 0) (smS nm u1 u2 l) smO (p.length,d++ [c]) (d++jy c (b::r)):=by
 intro r
 induction r with
 |nil=>
  intro p b d c h u m hs;exact .done (akL p.length nm u1 u2 l (d++ [c]) A (aB (Yq1 (by rw [h];simp))))
 |cons b2 r ih=>
  intro p b d c h u m hs;have q:=f.len;have j:p.length+1<l.length:=by rw [h];simp
  have i:b ∈ l:=by rw [h];simp
  have g:b2 ∈ l:=by rw [h];simp
  have H:l[p.length]'(by omega)=b:=by subst h;simp
  have E:l[p.length+1]'j=b2:=by subst h;simp
  have t:=gK (l:=l) (k:=p.length) (by omega);have y:=gK (l:=l) (k:=p.length+1) j;rw [H] at t;rw [E] at y;have o:=OA (l:=d++ [c]) (k:=p.length) (by simp;omega);rw [show (d++ [c])[p.length]'(by simp;omega)=c by simp [<- u]] at o;have w:=iF (f.ok _ g).1 (f.ok _ i).1;have n:=jb w (f.ok _ i).2;obtain ⟨C,z⟩:=aol f i g;have B:=aeP (k:=p.length) (by omega);have I:1<=5^p.length:=Xkq _ _ (by decide);have G:=QG (f.ok _ g).1 (f.ok _ i).1 (a_ (f.fit _ g).1) (a_ (f.fit _ i).1) (by decide);have D:=QF w (f.ok _ i).2 C (iM.mono (L:=51) (a_ (f.fit _ i).2) (by decide)) (by decide);have F:=GZ m n hs (z.mono (by omega)) B;have J:(d++ [c]).length=p.length+1:=by simp;omega
  have st:=akK c (gG c (ja (eU b2.1 b.1) b.2)) _ _ p.length nm u1 u2 l (d++ [c]) b b2 _ _ _ A t y o (xE (by omega)) (Zu _ _) (Xqe (by omega)) (Xqe (by rw [LD];exact χ _)) (Yq0 (by omega)) (Yq0 (by omega)) (Yq0 (by omega)) (Yq0 (by omega)) (Yq0 (by omega)) (aA (Yq0 (by rw [List.length_tail];omega))) G D F;have v:=ih (p++ [b]) b2 (d++ [c]) (gG c (ja (eU b2.1 b.1) b.2)) (by rw [h];simp) (by simp;omega) (eX m n) (by rw [η];exact ZM hs z);rw [η,τ] at v;rw [show d++jy c (b::b2::r)=(d++ [c])++jy (gG c (ja (eU b2.1 b.1) b.2)) (b2::r) by simp [jy]];refine .next ?_ v
  have e:(d++ [c]++ [gG c (ja (eU b2.1 b.1) b.2)]).length=(d++ [c]).length+1:=by simp
  show aj _ _ _ _ _ _ _ (smS nm u1 u2 l (p.length+1,d++ [c]++ [gG c (ja (eU b2.1 b.1) b.2)]));unfold smS;rw [e];exact st
theorem He:∀ (l:List (RQ × RQ)) (c:RQ),0<l.length->(jy c l).length=l.length
 | [_],_,_=>rfl
 |b::b2::l,c,_=>by show (jy _ (b2::l)).length+1=_;rw [He (b2::l) _ (by simp)];rfl
theorem YX:iM 410 q0:=⟨Xxg (bU (x:=0) (k:=1) (by decide)) (by decide),Xxg (bU (x:=1) (k:=1) (by decide)) (by decide)⟩
theorem XO (nm:List UInt8) (u1 u2:Int) {l:List (RQ × RQ)} (d:Wq l):CO 175 [LZ nm u1 u2 l] (.ret (.own (II (jy q0 l)) (jy q0 l).length 3)):=by
 have e:=d.len;have c:=d.pos;have f:∀ nt,47<=nt->az prog ap [] nt (af 0 (ah f175)) (λ_=> .exit 0) (smS nm u1 u2 l) smO (0,[q0]) (jy q0 l):=λnt g=>by
  cases l with
  |nil=>simp at c
  |cons b r=>exact ZK g nm u1 u2 d r [] b [] q0 rfl rfl vX (YX.mono (by decide))
 have h:=akQ nm u1 u2 l (jy q0 l) (by
  cases l with
  |nil=>simp at c
  |cons b r=>
   rw [aC,ο (by show ((b::r).flatMap DN).length<=_;rw [lD DN 6 (λ_=>rfl)];exact χ _)];rfl) (Yq0 (by omega)) (Yq0 (by omega)) jV (az.blk (id:=0) (e':= .normal) (s:=⟨_,_,_,_⟩) (s':=smO (jy q0 l)) f (by simp) rfl (aN.of ⟨rfl,rfl,rfl,rfl,trivial⟩) (aN.refl _))
 rw [ο (by rw [LD];exact χ _)] at h;exact h
theorem aea {l:List (RQ × RQ)} (f:Wq l):∀ (r p:List (RQ × RQ)) (b:RQ × RQ) (c:RQ),l=p++b::r->c.ok->iM (410*5^p.length) c->∀ q ∈ jy c (b::r),q.ok/\iM (410*5^8) q:=by
 intro r
 induction r with
 |nil=>
  intro p b c e h hs q d;have d:q ∈ [c]:=d;rw [Xx6] at d;subst d;have:=f.len;exact ⟨h,hs.mono (Xqx 410 (Xqc (by decide) (by rw [e] at this;simp at this;omega)))⟩
 | cons b2 r ih=>
  intro p b c e h hs q d;have i:b ∈ l:=by rw [e];simp
  have g:b2 ∈ l:=by rw [e];simp
  have d:q ∈ c::jy (gG c (ja (eU b2.1 b.1) b.2)) (b2::r):=d;rcases List.mem_cons.1 d with rfl|d
  .have:=f.len;exact ⟨h,hs.mono (Xqx 410 (Xqc (by decide) (by rw [e] at this;simp at this;omega)))⟩
  .have j:=jb (iF (f.ok _ g).1 (f.ok _ i).1) (f.ok _ i).2;exact ih (p++ [b]) b2 _ (by rw [e];simp) (eX h j) (by rw [η];exact ZM hs (aol f i g).2) q d
theorem OT {l:List (RQ × RQ)} (c:Wq l):∀ q ∈ jy q0 l,q.ok/\iM (410*5^8) q:=by
 cases l with
 |nil=>have:=c.pos;simp at this
 |cons b r=>exact aea c r [] b q0 rfl vX (YX.mono (by decide))
def atV (l:List (RQ × RQ)) (x:RQ):Oq:=if iq l x=0 then .val q0 else mV (atR l x)
theorem abb {q:RQ} (h:q.ok) (f:(ae q.n).length<2^36) (e:(ae q.d).length<2^36):CO 174 [qA q] (.ret (.tup [.agg [.bool (mV q).n,.str (mV q).a,.str (mV q).d],ω (mV q).e])):=by
 have c:=gY q.neg (ae q.n) (ae q.d) f e;rw [su h] at c;unfold mV;cases d:iP q with
 |true=>
  rw [if_pos rfl];exact akn q (by rw [d];rfl) c
 |false=>
  rw [if_neg (by simp)];exact akm q (by rw [d];rfl) c
theorem af5 (nm:List UInt8) (u1 u2:Int) {l:List (RQ × RQ)} (c:Wq l) {x:RQ} (i:x.ok) (j:iP x=true) (m:CO 202 [LZ nm u1 u2 l] (.ret (ω 0))):
  CO 130 [LZ nm u1 u2 l,qA x] (.ret (.tup [.agg [.bool (atV l x).n,.str (atV l x).a,.str (atV l x).d],ω (atV l x).e])):=by
 obtain ⟨v,o⟩:=a_ j;have w:=nS x.neg (ae x.n) (ae x.d) (by omega) (by omega);rw [pI x i] at w;have t:=gY x.neg (ae x.n) (ae x.d) (by omega) (by omega);rw [su i,j] at t;have h:CO 172 [LZ nm u1 u2 l,qA x] (.ret (ω 0)):=akg x 0 nm u1 u2 l rfl m w t;have g:=Na nm u1 u2 c i j;have D:=(zK x l).1;have u:=c.len;unfold atV;by_cases hc:iq l x=0
 .rw [if_pos hc];rw [hc] at g;exact af6 x 0 0 nm u1 u2 l rfl rfl h g jV
 .rw [if_neg hc];have k:iq l x - 1<l.length:=by omega
  have d:=Xxp k;have B:(jy q0 l).length=l.length:=He l q0 c.pos;have f:iq l x - 1<(jy q0 l).length:=by omega
  obtain ⟨r,n⟩:(jy q0 l)[iq l x - 1].ok/\iM (410*5^8) (jy q0 l)[iq l x - 1]:=by
   exact OT c _ (Xxp f)
  have q:iM 205 (eU x l[iq l x - 1].1):=yV (L:=51) ⟨v,o⟩ (a_ (c.fit _ d).1);have p:iM 410 (ja l[iq l x - 1].2 (eU x l[iq l x - 1].1)):=Cj (L:=205) (iM.mono (L:=51) (a_ (c.fit _ d).2) (by decide)) q;have k3:=iF i (c.ok _ d).1;have k4:=jb (c.ok _ d).2 k3;have A:=QG i (c.ok _ d).1 ⟨v,o⟩ (a_ (c.fit _ d).1) (by decide);have E:=QF (c.ok _ d).2 k3 (iM.mono (L:=51) (a_ (c.fit _ d).2) (by decide)) q (by decide);have C:=GZ r k4 n (p.mono (by decide)) (by decide);have y:=yU n (p.mono (by decide));have e:atR l x=gG (jy q0 l)[iq l x - 1] (ja l[iq l x - 1].2 (eU x l[iq l x - 1].1)):=by
   unfold atR;rw [ξ,ξ,π k,π f];rfl
  rw [e];have z:=abb (eX r k4) (Xqj y.1 (by decide)) (Xqj y.2 (by decide));refine af7 x _ _ _ _ _ (iq l x - 1) (iq l x) 0 nm u1 u2 l _ l[iq l x - 1] _ _ (gK k) (OA f) ?_ (Yq0 (by omega)) (Yq0 (by omega)) (Yq0 (by omega)) (aB (Yq1 (by omega))) rfl h g (XO nm u1 u2 c) A E C z;congr 1;rw [show ((iq l x:Nat):Int) - ((1:Nat):Int)=((iq l x - 1:Nat):Int) by omega];exact aS (by omega)
def iJ (x:Br):Bool:=iW x.fn x.fa x.fd && iW x.rn x.ra x.rd
def Str (nm:List UInt8) (u1 u2:Int) (l:List Br) (k:Nat):St:=⟨[(1,.ptr 0 0 0),(3,.sl (gp l) l.length false),(4,ω (k:Int))],[(0,⟨[.str nm,ω u1,ω u2,.sl (gp l) l.length false],0,false,0,0,true⟩)],.dead,[]⟩
def ajp (l:List Br):Bool->St
 |true=> ⟨[(3,.sl (gp l) l.length false)],[],.dead,[]⟩
 |false=> ⟨[(2,.int .i64 11)],[],.dead,[]⟩
def Er:Bool->bI
 |true=> .exit 0
 |false=> .ret
theorem alr {nt:Nat} (f:96<=nt) (nm:List UInt8) (u1 u2:Int) (l:List Br) (m:l.length<2^40) (i:∀ x ∈ l,x.sm):∀ (r p:List Br),p++r=l->
  az prog ap [] nt (af 0 (ah f206)) Er (Str nm u1 u2 l) (ajp l) p.length (r.all iJ):=by
 intro r
 induction r with
 |nil=>
  intro p hp;rw [Δ] at hp;subst hp;have c:(decide ((p.length:Int)<(p.length:Int)))=false:=Yq1 (by omega);exact .done (pN 206 [] 1 0 (.c (aB c) .nil) (.nil) f)
 | cons x r ih=>
  intro p hp;have o:p.length<l.length:=by rw [<- hp];simp
  have j:l[p.length]=x:=by subst hp;simp
  have d:=o_ o;rw [j] at d;have e:=ih (p++ [x]) (by rw [<- hp];simp);rw [η,τ] at e;have hs:=i x (by rw [<- hp];simp);have h:CO 137 [WH x] (.ret (.bool (iW x.fn x.fa x.fd))):=pX x.fn x.fa x.fd hs.1.1 hs.1.2;have g:CO 137 [brR x] (.ret (.bool (iW x.rn x.ra x.rd))):=pX x.rn x.ra x.rd hs.2.1 hs.2.2;generalize p.length=k at*
  generalize gp (l.drop (k+1))=rB at d;have c:(decide ((k:Int)<(l.length:Int)))=true:=Yq0 (by omega);have n:k<2^62:=by omega
  rcases tf (iW x.fn x.fa x.fd) with d0|d0
  .rcases tf (iW x.rn x.ra x.rd) with d1|d1
   .simp only [Xx5,iJ,d0,d1,Xjh,Xjs,Xjz,Xzv];exact .next (pN 206 [] 3 1 (.c (aX d1) (.c (aX d0) (.k 3 (AY k) (.c c (.k 3 (AY k) (.c c (.c (aA c) .nil))))))) (.v 26 (.eq (xE n)) (.c g (.v 35 (.ppt d) (.c h (.v 29 (.ppt d) .nil))))) f) e
   .simp only [Xx5,iJ,d0,d1,Xjh,Xjs,Xjz,Xzv];exact .done (pN 206 [] 3 5 (.c (dV d1) (.c (aX d0) (.k 3 (AY k) (.c c (.k 3 (AY k) (.c c (.c (aA c) .nil))))))) (.c g (.v 35 (.ppt d) (.c h (.v 29 (.ppt d) .nil)))) f)
  .simp only [Xx5,iJ,d0,Xjh,Xjs,Xjz,Xzv];exact .done (pN 206 [] 3 7 (.k 1 (dV d0) (.k 3 (AY k) (.c c (.k 3 (AY k) (.c c (.c (aA c) .nil)))))) (.c g (.v 35 (.ppt d) (.c h (.v 29 (.ppt d) .nil)))) f)
def vG (x:Br):Bool:=d_ x.fn x.fa x.fd && d_ x.rn x.ra x.rd
def Stf (l:List Br) (k:Nat):St:=⟨[(3,.sl (gp l) l.length false),(10,ω (k:Int))],[],.dead,[]⟩
def ajo (l:List Br):Bool->St
 |true=> ⟨[(3,.sl (gp l) l.length false)],[],.dead,[]⟩
 |false=> ⟨[(2,.int .i64 3)],[],.dead,[]⟩
def Ef:Bool->bI
 |true=> .exit 4
 |false=> .ret
theorem alq {nt:Nat} (f:96<=nt) (l:List Br) (m:l.length<2^40) (i:∀ x ∈ l,x.sm):∀ (r p:List Br),p++r=l->
  az prog ap [] nt (af 4 (ah f206)) Ef (Stf l) (ajo l) p.length (r.all vG):=by
 intro r
 induction r with
 |nil=>
  intro p hp;rw [Δ] at hp;subst hp;have c:(decide ((p.length:Int)<(p.length:Int)))=false:=Yq1 (by omega);exact .done (pN 206 [] 1 0 (.c (aB c) .nil) (.nil) f)
 | cons x r ih=>
  intro p hp;have o:p.length<l.length:=by rw [<- hp];simp
  have j:l[p.length]=x:=by subst hp;simp
  have d:=o_ o;rw [j] at d;have e:=ih (p++ [x]) (by rw [<- hp];simp);rw [η,τ] at e;have hs:=i x (by rw [<- hp];simp);have h:CO 81 [WH x] (.ret (.bool (d_ x.fn x.fa x.fd))):=mM x.fn x.fa x.fd hs.1.1 hs.1.2;have g:CO 81 [brR x] (.ret (.bool (d_ x.rn x.ra x.rd))):=mM x.rn x.ra x.rd hs.2.1 hs.2.2;generalize p.length=k at*
  generalize gp (l.drop (k+1))=rB at d;have c:(decide ((k:Int)<(l.length:Int)))=true:=Yq0 (by omega);have n:k<2^62:=by omega
  rcases tf (d_ x.fn x.fa x.fd) with d0|d0
  .rcases tf (d_ x.rn x.ra x.rd) with d1|d1
   .simp only [Xx5,vG,d0,d1,Xjh,Xjs,Xjz,Xzv];exact .next (pN 206 [] 3 1 (.c (aX d1) (.c (aX d0) (.k 3 (AY k) (.c c (.k 3 (AY k) (.c c (.c (aA c) .nil))))))) (.v 77 (.eq (xE n)) (.c g (.v 86 (.ppt d) (.c h (.v 80 (.ppt d) .nil))))) f) e
   .simp only [Xx5,vG,d0,d1,Xjh,Xjs,Xjz,Xzv];exact .done (pN 206 [] 3 5 (.c (dV d1) (.c (aX d0) (.k 3 (AY k) (.c c (.k 3 (AY k) (.c c (.c (aA c) .nil))))))) (.c g (.v 86 (.ppt d) (.c h (.v 80 (.ppt d) .nil)))) f)
  .simp only [Xx5,vG,d0,Xjh,Xjs,Xjz,Xzv];exact .done (pN 206 [] 3 7 (.k 1 (dV d0) (.k 3 (AY k) (.c c (.k 3 (AY k) (.c c (.c (aA c) .nil)))))) (.c g (.v 86 (.ppt d) (.c h (.v 80 (.ppt d) .nil)))) f)
def yh (cmp:Br->Br->Int):Br->List Br->Bool
 |_,[]=>true
 |y,x::r=>cond (decide (((0:Nat):Int)<=cmp y x)) false (yh cmp x r)
def Sta (l:List Br) (k:Nat):St:=⟨[(3,.sl (gp l) l.length false),(8,ω (k:Int))],[],.dead,[]⟩
def ajn (l:List Br):Bool->St
 |true=> ⟨[(3,.sl (gp l) l.length false)],[],.dead,[]⟩
 |false=> ⟨[(2,.int .i64 11)],[],.dead,[]⟩
def Ea:Bool->bI
 |true=> .exit 2
 |false=> .ret
theorem alp {nt:Nat} (q:96<=nt) (l:List Br) (cmp:Br->Br->Int) (u:l.length<2^40) (B:∀ x ∈ l,iJ x=true) (A:zg 87 cmp l):∀ (r p:List Br) (y:Br),(p++ [y])++r=l->
  az prog ap [] nt (af 2 (ah f206)) Ea (Sta l) (ajn l) (p.length+1) (yh cmp y r):=by
 intro r
 induction r with
 |nil=>
  intro p y hp;rw [Δ] at hp;generalize o:p.length+1=k;have z:l.length=k:=by rw [<- hp,<- o];simp
  have f:(decide ((k:Int)<(l.length:Int)))=false:=Yq1 (by omega);exact .done (pN 206 [] 1 0 (.c (aB f) .nil) (.nil) q)
 | cons x r ih=>
  intro p y hp;have t:p.length+1<l.length:=by rw [<- hp];simp
  have c:p.length<l.length:=by omega
  have j:l[p.length+1]=x:=by subst hp;simp
  have g:l[p.length]=y:=by subst hp;simp
  have n:=o_ t;have m:=o_ c;rw [j] at n;rw [g] at m;have h:=ih (p++ [y]) x (by rw [<- hp];simp);rw [η,τ] at h;have d:=B x (by rw [<- hp];simp);unfold iJ at d;rw [φ] at d;have v:=A p.length y x (by rw [π c,g]) (by rw [π t,j]) d.1 d.2;unfold yh;have e:p.length+1=p.length+1:=rfl;generalize o:p.length+1=k at*
  generalize C:p.length=k1 at*
  have e:k=k1+1:=o.symm;generalize gp (l.drop (k+1))=rB at n;generalize gp (l.drop k)=rC at m;have f:(decide ((k:Int)<(l.length:Int)))=true:=Yq0 (by omega);have w:k<2^62:=by omega
  have i:k<2^40:=by omega
  rcases tf (decide (((0:Nat):Int)<=(cmp y x))) with d0|d0
  .rw [d0];exact .done (pN 206 [] 2 3 (.c (aA d0) (.k 3 (AY k) (.c f (.k 3 (AY k1) (.c (dlt c) (.c (aA f) .nil)))))) (.c v (.v 66 (.ppt n) (.v 61 (.ppt m) (.v 60 (.eq (wkn e i)) .nil)))) q)
  .rw [d0];exact .next (pN 206 [] 2 1 (.c (aB d0) (.k 3 (AY k) (.c f (.k 3 (AY k1) (.c (dlt c) (.c (aA f) .nil)))))) (.v 57 (.eq (xE w)) (.c v (.v 66 (.ppt n) (.v 61 (.ppt m) (.v 60 (.eq (wkn e i)) .nil))))) q) h
abbrev Va3 (a:List UInt8) (b:Int) (c:Int) (d:List Br):St:=⟨[(0,.agg [.str a,ω b,ω c,.sl (gp d) d.length false]),(1,.ptr 0 0 0),(2,ω 0),(3,.sl (gp d) d.length false),(4,ω 0),(5,.dead),(6,.dead),(7,.dead),(8,.dead),(9,.dead),(10,.dead),(11,.dead),(12,.dead),(17,.bool (decide (((8:Nat):Int)<(d.length:Int)))),(20,.bool ((d.length:Int)==((0:Nat):Int))),(24,.dead),(44,.dead),(51,.dead),(55,.dead),(71,.dead),(75,.dead),(95,.dead)],[(0,⟨[.str a,ω b,ω c,.sl (gp d) d.length false],0,false,0,0,true⟩)],.dead,[]⟩
abbrev VbI (a:List Br):Prop:=(decide (((8:Nat):Int)<(a.length:Int)))=false
abbrev VbO (a:List UInt8) (b:Int) (c:Int) (d:List Br):List AV:=[.agg [.str a,ω b,ω c,.sl (gp d) d.length false]]
theorem aqy (nm:List UInt8) (u1 u2:Int) (l:List Br) (d:VbI l) (c:((l.length:Int)==((0:Nat):Int))=false) (e:aK prog ap [] 96 (.block 0 (.loop (af 0 (ah f206)))) (Va3 nm u1 u2 l) (.ret) ⟨[(2,ω 11)],[],.dead,[]⟩):CO 206 (VbO nm u1 u2 l) (.ret (ω 11)):=pK [0,2,4] 2 0 (.c (aB c) (.c (aB d) (.n 1 .nil))) (.l e .nil)
abbrev VaV (a:List Br):St:=⟨[(3,.sl (gp a) a.length false)],[],.dead,[]⟩
theorem aqB (nm:List UInt8) (u1 u2:Int) (l:List Br) (h:VbI l) (g:((l.length:Int)==((0:Nat):Int))=false) (c:Br) (f:List AV) (e:ε 0 (gp l)=LX c++f) (d:(decide (((0:Nat):Int)<(l.length:Int)))=true) (i:CO 141 [WH c] (.ret (ω (jd c.fn c.fa c.fd)))) (z:((jd c.fn c.fa c.fd)==((0:Nat):Int))=false) (j:aK prog ap [] 96 (.block 0 (.loop (af 0 (ah f206)))) (Va3 nm u1 u2 l) (.normal) (VaV l)):CO 206 (VbO nm u1 u2 l) (.ret (ω 11)):=pK [0,2,4] 3 4 (.c (dV z) (.k 4 d (.c (aB g) (.c (aB h) (.n 1 .nil))))) (.c i (.v 46 (.ppt e) (.l j .nil)))
abbrev Vai (a:List Br) (b:Br):St:=⟨[(0,.dead),(1,.dead),(2,.dead),(3,.sl (gp a) a.length false),(4,.dead),(5,.dead),(6,.dead),(7,ω (jd b.fn b.fa b.fd)),(8,ω 1),(9,.dead),(10,.dead),(11,.dead),(12,.dead),(17,.dead),(20,.dead),(24,.dead),(44,.dead),(51,.bool (!((jd b.fn b.fa b.fd)==((0:Nat):Int)))),(55,.dead),(71,.dead),(75,.dead),(95,.dead)],[],.dead,[]⟩
theorem aqz (nm:List UInt8) (u1 u2:Int) (l:List Br) (i:VbI l) (g:((l.length:Int)==((0:Nat):Int))=false) (c:Br) (f:List AV) (e:ε 0 (gp l)=LX c++f) (d:(decide (((0:Nat):Int)<(l.length:Int)))=true) (j:CO 141 [WH c] (.ret (ω (jd c.fn c.fa c.fd)))) (z:((jd c.fn c.fa c.fd)==((0:Nat):Int))=true) (k:aK prog ap [] 96 (.block 0 (.loop (af 0 (ah f206)))) (Va3 nm u1 u2 l) (.normal) (VaV l)) (h:aK prog ap [] 96 (.block 2 (.loop (af 2 (ah f206)))) (Vai l c) (.ret) ⟨[(2,ω 11)],[],.dead,[]⟩):CO 206 (VbO nm u1 u2 l) (.ret (ω 11)):=pK [0,2,4] 3 0 (.c (aX z) (.k 4 d (.c (aB g) (.c (aB i) (.n 1 .nil))))) (.l h (.c j (.v 46 (.ppt e) (.l k .nil))))
abbrev VaQ (a:List Br):St:=⟨[(0,.dead),(1,.dead),(2,.dead),(3,.sl (gp a) a.length false),(4,.dead),(5,.dead),(6,.dead),(7,.dead),(8,.dead),(9,.dead),(10,ω 0),(11,.dead),(12,.dead),(17,.dead),(20,.dead),(24,.dead),(44,.dead),(51,.dead),(55,.dead),(71,.dead),(75,.dead),(95,.dead)],[],.dead,[]⟩
theorem aqA (nm:List UInt8) (u1 u2:Int) (l:List Br) (j:VbI l) (g:((l.length:Int)==((0:Nat):Int))=false) (c:Br) (f:List AV) (e:ε 0 (gp l)=LX c++f) (d:(decide (((0:Nat):Int)<(l.length:Int)))=true) (k:CO 141 [WH c] (.ret (ω (jd c.fn c.fa c.fd)))) (z:((jd c.fn c.fa c.fd)==((0:Nat):Int))=true) (m:aK prog ap [] 96 (.block 0 (.loop (af 0 (ah f206)))) (Va3 nm u1 u2 l) (.normal) (VaV l)) (h:aK prog ap [] 96 (.block 2 (.loop (af 2 (ah f206)))) (Vai l c) (.normal) (VaV l)) (i:aK prog ap [] 96 (.block 4 (.loop (af 4 (ah f206)))) (VaQ l) (.ret) ⟨[(2,ω 3)],[],.dead,[]⟩):CO 206 (VbO nm u1 u2 l) (.ret (ω 3)):=pK [0,2,4] 3 0 (.c (aX z) (.k 4 d (.c (aB g) (.c (aB j) (.n 1 .nil))))) (.l i (.l h (.c k (.v 46 (.ppt e) (.l m .nil)))))
theorem aqC (nm:List UInt8) (u1 u2:Int) (l:List Br) (j:VbI l) (g:((l.length:Int)==((0:Nat):Int))=false) (c:Br) (f:List AV) (e:ε 0 (gp l)=LX c++f) (d:(decide (((0:Nat):Int)<(l.length:Int)))=true) (k:CO 141 [WH c] (.ret (ω (jd c.fn c.fa c.fd)))) (z:((jd c.fn c.fa c.fd)==((0:Nat):Int))=true) (m:aK prog ap [] 96 (.block 0 (.loop (af 0 (ah f206)))) (Va3 nm u1 u2 l) (.normal) (VaV l)) (h:aK prog ap [] 96 (.block 2 (.loop (af 2 (ah f206)))) (Vai l c) (.normal) (VaV l)) (i:aK prog ap [] 96 (.block 4 (.loop (af 4 (ah f206)))) (VaQ l) (.normal) (VaV l)):CO 206 (VbO nm u1 u2 l) (.ret (ω 0)):=pK [0,2,4] 3 0 (.c (aX z) (.k 4 d (.c (aB g) (.c (aB j) (.n 1 .nil))))) (.l i (.l h (.c k (.v 46 (.ppt e) (.l m .nil)))))
theorem MI (cmp:Br->Br->Int):∀ (r:List Br) (y:Br),Ip cmp (some y) r=(r.all iJ && yh cmp y r)
 | [],_=>rfl
 |x::r,y=>by
  simp only [Ip,Xx5,yh,iJ,MI cmp r x];cases iW x.fn x.fa x.fd<;>cases iW x.rn x.ra x.rd<;>cases decide (((0:Nat):Int)<=cmp y x)<;>cases r.all iJ<;>simp
theorem EL (cmp:Br->Br->Int) (x:Br) (r:List Br):Ip cmp none (x::r)=((x::r).all iJ && ((jd x.fn x.fa x.fd==((0:Nat):Int)) && yh cmp x r)):=by
 simp only [Ip,Xx5,iJ,MI cmp r x];cases iW x.fn x.fa x.fd<;>cases iW x.rn x.ra x.rd<;>cases (jd x.fn x.fa x.fd==((0:Nat):Int))<;>cases r.all iJ<;>simp
theorem D5:∀ l:List Br,l.any Io= !(l.all vG)
 | []=>rfl
 |x::r=>by
  rw [Xv5,Xx5,D5 r];simp only [Io,vG];cases d_ x.fn x.fa x.fd<;>cases d_ x.rn x.ra x.rd<;>simp
theorem Qy (nm:List UInt8) (u1 u2:Int) (l:List Br) (cmp:Br->Br->Int) (e:l.length<2^40) (i:∀ x ∈ l,x.sm) (w:zg 87 cmp l):CO 206 [.agg [.str nm,ω u1,ω u2,.sl (gp l) l.length false]] (.ret (ω (Iq cmp l))):=by
 unfold Iq;rcases tf (decide (((8:Nat):Int)<(l.length:Int))) with d0|d0
 .rw [d0];exact pK [] 1 1 (.c (aA d0) (.n 1 .nil)) (.nil)
 .rw [d0];rcases tf ((l.length:Int)==((0:Nat):Int)) with d1|d1
  .rw [d1];exact pK [] 2 2 (.c (aA d1) (.c (aB d0) (.n 1 .nil))) (.nil)
  .rw [d1];have p:l ≠ []:=by intro h;subst h;exact absurd d1 (by decide)
   obtain ⟨c,r,k⟩:=List.exists_cons_of_ne_nil p;have d:(decide (((0:Nat):Int)<(l.length:Int)))=true:=Yq0 (by rw [k];simp only [ν];omega);have f:ε 0 (gp l)=LX c++gp r:=by rw [k];rfl
   have hs:=i c (by rw [k];simp);have o:CO 141 [WH c] (.ret (ω (jd c.fn c.fa c.fd))):=BP c.fn c.fa c.fd hs.1.1 hs.1.2;have v:Ip cmp none l=(l.all iJ && ((jd c.fn c.fa c.fd==((0:Nat):Int)) && yh cmp c r)):=by rw [k];exact EL cmp c r
   have g:∀ nt,96<=nt->az prog ap [] nt (af 0 (ah f206)) Er (Str nm u1 u2 l) (ajp l) 0 (l.all iJ):=λnt m=>alr m nm u1 u2 l e i l [] rfl
   have n:∀ nt,96<=nt->az prog ap [] nt (af 4 (ah f206)) Ef (Stf l) (ajo l) 0 (l.all vG):=λnt m=>alq m l e i l [] rfl
   rw [v,D5];cases q:l.all iJ with
   |false=>
    rw [q] at g;rw [Xjs];exact aqy nm u1 u2 l d0 d1 (az.blk g (by simp [Er]) rfl (aN.of ⟨rfl,rfl,rfl,trivial⟩) (aN.of ⟨rfl,trivial⟩))
   | true=>
    have j:∀ nt,96<=nt->az prog ap [] nt (af 2 (ah f206)) Ea (Sta l) (ajn l) 1 (yh cmp c r):=λnt m=>alp m l cmp e (List.all_eq_true.1 q) w r [] c (by rw [k];rfl)
    rw [q] at g;rw [Xjh];rcases tf ((jd c.fn c.fa c.fd)==((0:Nat):Int)) with z|z
    .rw [z,Xjh];cases u:yh cmp c r with
     |false=>
      rw [u] at j;exact aqz nm u1 u2 l d0 d1 c _ f d o z (az.blk g (by simp [Er]) rfl (aN.of ⟨rfl,rfl,rfl,trivial⟩) (aN.of ⟨rfl,trivial⟩)) (az.blk j (by simp [Ea]) rfl (aN.of ⟨rfl,rfl,trivial⟩) (aN.of ⟨rfl,trivial⟩))
     | true=>
      rw [u] at j;cases t:l.all vG with
      |false=>
       rw [t] at n;exact aqA nm u1 u2 l d0 d1 c _ f d o z (az.blk g (by simp [Er]) rfl (aN.of ⟨rfl,rfl,rfl,trivial⟩) (aN.of ⟨rfl,trivial⟩)) (az.blk j (by simp [Ea]) rfl (aN.of ⟨rfl,rfl,trivial⟩) (aN.of ⟨rfl,trivial⟩)) (az.blk n (by simp [Ef]) rfl (aN.of ⟨rfl,rfl,trivial⟩) (aN.of ⟨rfl,trivial⟩))
      |true=>
       rw [t] at n;exact aqC nm u1 u2 l d0 d1 c _ f d o z (az.blk g (by simp [Er]) rfl (aN.of ⟨rfl,rfl,rfl,trivial⟩) (aN.of ⟨rfl,trivial⟩)) (az.blk j (by simp [Ea]) rfl (aN.of ⟨rfl,rfl,trivial⟩) (aN.of ⟨rfl,trivial⟩)) (az.blk n (by simp [Ef]) rfl (aN.of ⟨rfl,rfl,trivial⟩) (aN.of ⟨rfl,trivial⟩))
    .rw [z,Xjs];exact aqB nm u1 u2 l d0 d1 c _ f d o z (az.blk g (by simp [Er]) rfl (aN.of ⟨rfl,rfl,rfl,trivial⟩) (aN.of ⟨rfl,trivial⟩))
structure Lk where
 op:Int
 nm:List UInt8
 n:Bool
 a:List UInt8
 d:List UInt8
 e:Int
def U3 (x:Lk):List AV:= [ω x.op,.str x.nm,.bool x.n,.str x.a,.str x.d,ω x.e]
def dK (l:List Lk):List AV:=l.flatMap U3
abbrev KT (ls:List Lk) (cs:List Sc) (nl ns:Bool) (a b c d:List AV):Hp:= [(0,⟨[.sl (dK ls) ls.length nl,.sl (dL cs) cs.length ns],0,false,0,0,true⟩),(1,⟨[.mp [] [],.mp [] []],0,false,0,0,true⟩),(2,⟨[.mr 3 0,.mr 4 0],0,false,0,0,false⟩),(3,⟨[.agg a,.agg b],0,false,0,4611686018427387904,true⟩),(4,⟨[.agg c,.agg d],0,false,0,4611686018427387904,true⟩)]
abbrev Vae (a:Oq):List AV:=[.bool a.n,.str a.a,.str a.d,ω a.e]
theorem abp (c:Oq) (n nn f e:Bool) (g k d:List UInt8) (ks vs i j:List AV) (h:lit true (!e)=true) (m:Va8 c f e) (o:CO 41 [ω 13] Vab):CO 78 [.agg [.mp ks vs,.mp i j],.agg [ω 20,.bool n,.str g,.str k,.str d],.sl (Vae c) 1 nn] Vab:=pK [] 2 3 (.k 5 h (.n 11 .nil)) (.c o (.c m .nil))
theorem abq (c o:Oq) (n nn e f:Bool) (g k d:List UInt8) (ks vs i j:List AV) (h:lit false (!f)=true) (m:Va8 c e f) (p:CO 126 [.bool (!e)] (Vax o)):CO 78 [.agg [.mp ks vs,.mp i j],.agg [ω 20,.bool n,.str g,.str k,.str d],.sl (Vae c) 1 nn] (Vax o):=pK [] 2 1 (.k 5 h (.n 11 .nil)) (.c p (.c m .nil))
theorem abr (c o:Oq) (q st:RQ) (nn:Bool) (d:List UInt8) (ks vs e f:List AV) (g:CO 131 [.agg (Vah c),qA st] (Vaw q)) (h:CO 124 [qA q] (Vax o)):CO 78 [.agg [.mp ks vs,.mp e f],.agg [ω 21,.bool st.neg,.str (ae st.n),.str (ae st.d),.str d],.sl (Vae c) 1 nn] (Vax o):=pK [] 3 4 (.n 25 .nil) (.c h (.c g .nil))
theorem abt (c o:Oq) (q st:RQ) (nn:Bool) (d:List UInt8) (ks vs e f:List AV) (g:CO 132 [.agg (Vah c),qA st] (Vaw q)) (h:CO 124 [qA q] (Vax o)):CO 78 [.agg [.mp ks vs,.mp e f],.agg [ω 22,.bool st.neg,.str (ae st.n),.str (ae st.d),.str d],.sl (Vae c) 1 nn] (Vax o):=pK [] 4 8 (.n 26 .nil) (.c h (.c g .nil))
theorem abu (c o:Oq) (q st:RQ) (nn:Bool) (d:List UInt8) (ks vs e f:List AV) (g:CO 129 [.agg (Vah c),qA st] (Vaw q)) (h:CO 124 [qA q] (Vax o)):CO 78 [.agg [.mp ks vs,.mp e f],.agg [ω 23,.bool st.neg,.str (ae st.n),.str (ae st.d),.str d],.sl (Vae c) 1 nn] (Vax o):=pK [] 4 0 (.n 26 .nil) (.c h (.c g .nil))
theorem abv (d:Oq) (o nn g:Bool) (h m c nm:List UInt8) (u1 u2:Int) (ks vs e f j:List AV) (p:Nat) (q:aU (.tup [(Xz4 (eH e f (.str c)) (.agg [.str [],ω 0,ω 0,.nilS])),.bool (Xza (eH e f (.str c)))]) (.tup [.agg [.str nm,ω u1,ω u2,.sl j p false],.bool g])) (i:lit true (!g)=true) (k:(Xzy e (Sm 9))=true) (n:CO 41 [ω 12] VaH):CO 78 [.agg [.mp ks vs,.mp e f],.agg [ω 24,.bool o,.str h,.str m,.str c],.sl (Vae d) 1 nn] VaH:=pK [] 3 6 (.k 5 i (.k 2 k (.n 11 .nil))) (.c n (.v 43 q .nil))
theorem abw (d o:Oq) (q nn h:Bool) (j n c nm:List UInt8) (u1 u2:Int) (ks vs e f g:List AV) (i:Nat) (r:aU (.tup [(Xz4 (eH e f (.str c)) (.agg [.str [],ω 0,ω 0,.nilS])),.bool (Xza (eH e f (.str c)))]) (.tup [.agg [.str nm,ω u1,ω u2,.sl g i false],.bool h])) (k:lit false (!h)=true) (m:(Xzy e (Sm 9))=true) (p:CO 130 [.agg [.str nm,ω u1,ω u2,.sl g i false],.agg (Vah d)] (.ret (.tup [.agg (Vah o),ω o.e]))):CO 78 [.agg [.mp ks vs,.mp e f],.agg [ω 24,.bool q,.str j,.str n,.str c],.sl (Vae d) 1 nn] (Vax o):=pK [] 3 2 (.k 16 k (.k 2 m (.n 11 .nil))) (.c p (.v 43 r .nil))
abbrev VaU (a:Nat) (b:List Lk):Bool:=decide ((a:Int)<(b.length:Int))
abbrev Vb8 (a:List Lk) (b:Bool) (c:Nat) (d:List Sc) (e:Bool) (f:List AV) (g:List AV):St:=⟨[(1,.ptr 0 0 0),(2,.ptr 1 0 0),(3,.ptr 2 0 0),(17,.sl (dK a) a.length b),(18,ω (a.length:Int)),(19,ω (c:Int))],(KT a d b e f g [] []),.dead,[]⟩
abbrev VbQ (a:List AV) (b:List AV) (c:Lk) (d:Oq) (e:Bool):Prop:=Yqp [(Xz4 (eH a b (.agg [ω c.op,.str c.nm])) (.agg [.bool false,.str [],.str [],ω 0])),.bool (Xza (eH a b (.agg [ω c.op,.str c.nm])))]=Yqp [fD d,.bool e]
theorem akw (ks vs:List AV) (k:Nat) (ls:List Lk) (f:List Sc) (x:Lk) (c h e:Bool) (r:List AV) (g t:Oq) {nt:Nat} (v:68<=nt) (u:(ε ((δ (k:Int))*6) (dK ls))=U3 x++r) (q:VbQ ks vs x t e) (j:Va7 k) (d:(Xzy ks (Sm 134))=true) (o:lit true (!e)=true) (i:Va4 k) (m:(VaU k ls)=true) (n:lit true (VaU k ls)=true) (p:CO 43 [.agg [.bool x.n,.str x.a,.str x.d,ω x.e]] (Vax g)):ψ nt f45 (Vb8 ls c k f h ks vs) (.normal) ⟨[(1,.ptr 0 0 0),(2,.ptr 1 0 0),(3,.ptr 2 0 0),(17,.sl (dK ls) ls.length c),(18,ω (ls.length:Int)),(19,ω ((k+1:Nat):Int))],(KT ls f c h (yJ ks (.agg [ω x.op,.str x.nm])) (qw ks vs (.agg [ω x.op,.str x.nm]) (fD g)) [] []),.dead,[]⟩:=pN 45 [] 2 3 (.k 1 d (.k 7 o (.k 2 d (.k 13 i (.c m (.c n .nil)))))) (.v 43 (.eq j) (.c p (.v 32 (.eq q) (.v 21 (.ppt u) .nil)))) v
theorem akx (ks vs:List AV) (k:Nat) (ls:List Lk) (e:List Sc) (x:Lk) (c f d:Bool) (p:List AV) (q:Oq) {nt:Nat} (t:68<=nt) (r:(ε ((δ (k:Int))*6) (dK ls))=U3 x++p) (o:VbQ ks vs x q d) (h:Va7 k) (i:lit false (!d)=true) (n:(Xzy ks (Sm 134))=true) (g:Va4 k) (j:(VaU k ls)=true) (m:lit true (VaU k ls)=true):ψ nt f45 (Vb8 ls c k e f ks vs) (.normal) ⟨[(1,.ptr 0 0 0),(2,.ptr 1 0 0),(3,.ptr 2 0 0),(17,.sl (dK ls) ls.length c),(18,ω (ls.length:Int)),(19,ω ((k+1:Nat):Int))],(KT ls e c f ks vs [] []),.dead,[]⟩:=pN 45 [] 2 1 (.c i (.k 2 n (.k 13 g (.c j (.c m .nil))))) (.v 43 (.eq h) (.v 32 (.eq o) (.v 21 (.ppt r) .nil))) t
theorem aky (ks vs:List AV) (k:Nat) (ls:List Lk) (d:List Sc) (c e:Bool) {nt:Nat} (g:68<=nt) (f:lit false (VaU k ls)=true):ψ nt f45 (Vb8 ls c k d e ks vs) (.exit 0) ⟨[(1,.ptr 0 0 0),(2,.ptr 1 0 0),(3,.ptr 2 0 0)],(KT ls d c e ks vs [] []),.dead,[]⟩:=pN 45 [] 1 0 (.c f .nil) (.nil) g
abbrev Vbc (a:Nat) (b:List Sc):Bool:=decide ((a:Int)<(b.length:Int))
abbrev Vbm (a:List Sc) (b:Bool) (c:Nat):List (Nat × AV):=[(1,.ptr 0 0 0),(2,.ptr 1 0 0),(3,.ptr 2 0 0),(45,.sl (dL a) a.length b),(46,ω (a.length:Int)),(47,ω (c:Int))]
theorem akz (nm:List UInt8) (u1 u2:Int) (ks vs e f o:List AV) (t k:Nat) (ls:List Lk) (d:List Sc) (c:Sc) (j g i:Bool) (v:List AV) {nt:Nat} (y:68<=nt) (w:(ε ((δ (k:Int))*4) (dL d))=OB c++v) (u:aU (.tup [(Xz4 (eH e f (.str c.name)) (.agg [.str [],ω 0,ω 0,.nilS])),.bool (Xza (eH e f (.str c.name)))]) (.tup [.agg [.str nm,ω u1,ω u2,.sl o t false],.bool i])) (n:Va7 k) (h:(Xzy e (Sm 9))=true) (r:lit true (!i)=true) (m:Va4 k) (p:(Vbc k d)=true) (q:lit true (Vbc k d)=true):aj prog ap [] nt (af 2 (ah f45)) ⟨(Vbm d g k),(KT ls d j g ks vs e f),.dead,[]⟩ (.normal) ⟨[(1,.ptr 0 0 0),(2,.ptr 1 0 0),(3,.ptr 2 0 0),(45,.sl (dL d) d.length g),(46,ω (d.length:Int)),(47,ω ((k+1:Nat):Int))],(KT ls d j g ks vs (yJ e (.str c.name)) (qw e f (.str c.name) (.agg [.str c.name,ω c.u1,ω c.u2,.sl c.bx c.bn false]))),.dead,[]⟩:=pN 45 [] 2 3 (.k 1 h (.k 6 r (.k 2 h (.k 7 m (.c p (.c q .nil)))))) (.v 66 (.eq n) (.v 56 u (.v 49 (.ppt w) .nil))) y
theorem akA (nm:List UInt8) (u1 u2:Int) (ks vs e f o:List AV) (t k:Nat) (ls:List Lk) (d:List Sc) (c:Sc) (i g h:Bool) (v:List AV) {nt:Nat} (y:68<=nt) (w:(ε ((δ (k:Int))*4) (dL d))=OB c++v) (u:aU (.tup [(Xz4 (eH e f (.str c.name)) (.agg [.str [],ω 0,ω 0,.nilS])),.bool (Xza (eH e f (.str c.name)))]) (.tup [.agg [.str nm,ω u1,ω u2,.sl o t false],.bool h])) (m:Va7 k) (n:lit false (!h)=true) (r:(Xzy e (Sm 9))=true) (j:Va4 k) (p:(Vbc k d)=true) (q:lit true (Vbc k d)=true):aj prog ap [] nt (af 2 (ah f45)) ⟨(Vbm d g k),(KT ls d i g ks vs e f),.dead,[]⟩ (.normal) ⟨[(1,.ptr 0 0 0),(2,.ptr 1 0 0),(3,.ptr 2 0 0),(45,.sl (dL d) d.length g),(46,ω (d.length:Int)),(47,ω ((k+1:Nat):Int))],(KT ls d i g ks vs e f),.dead,[]⟩:=pN 45 [] 2 1 (.c n (.k 2 r (.k 7 j (.c p (.c q .nil))))) (.v 66 (.eq m) (.v 56 u (.v 49 (.ppt w) .nil))) y
theorem akB (ks vs e f:List AV) (k:Nat) (ls:List Lk) (c:List Sc) (g d:Bool) {nt:Nat} (i:68<=nt) (h:lit false (Vbc k c)=true):aj prog ap [] nt (af 2 (ah f45)) ⟨(Vbm c d k),(KT ls c g d ks vs e f),.dead,[]⟩ (.exit 2) ⟨[(1,.ptr 0 0 0),(2,.ptr 1 0 0),(3,.ptr 2 0 0)],(KT ls c g d ks vs e f),.dead,[]⟩:=pN 45 [] 1 0 (.c h .nil) (.nil) i
abbrev Va2 (a:List Lk) (b:Bool) (c:List Sc) (d:Bool):List AV:=[.sl (dK a) a.length b,.sl (dL c) c.length d]
theorem ags (ks vs f g:List AV) (ls:List Lk) (c:List Sc) (e d:Bool) (i:aK prog ap [] 68 (.block 0 (.loop (af 0 (ah f45)))) ⟨[(0,.agg (Va2 ls e c d)),(1,.ptr 0 0 0),(2,.ptr 1 0 0),(3,.ptr 2 0 0),(5,.dead),(6,.dead),(8,.dead),(10,.dead),(12,.dead),(17,.sl (dK ls) ls.length e),(18,ω (ls.length:Int)),(19,ω 0),(20,.dead),(36,.dead),(45,.dead),(46,.dead),(47,.dead),(48,.dead),(60,.dead)],(KT ls c e d [] [] [] []),.dead,[]⟩ (.normal) ⟨[(1,.ptr 0 0 0),(2,.ptr 1 0 0),(3,.ptr 2 0 0)],(KT ls c e d ks vs [] []),.dead,[]⟩) (h:aK prog ap [] 68 (.block 2 (.loop (af 2 (ah f45)))) ⟨[(0,.dead),(1,.ptr 0 0 0),(2,.ptr 1 0 0),(3,.ptr 2 0 0),(5,.dead),(6,.dead),(8,.dead),(10,.dead),(12,.dead),(17,.dead),(18,.dead),(19,.dead),(20,.dead),(36,.dead),(45,.sl (dL c) c.length d),(46,ω (c.length:Int)),(47,ω 0),(48,.dead),(60,.dead)],(KT ls c e d ks vs [] []),.dead,[]⟩ (.normal) ⟨[(1,.ptr 0 0 0),(2,.ptr 1 0 0),(3,.ptr 2 0 0)],(KT ls c e d ks vs f g),.dead,[]⟩):CO 45 [.agg (Va2 ls e c d)] (.ret (.agg [.mp ks vs,.mp f g])):=pK [0,2] 0 0 (.n 8 .nil) (.l h (.l i .nil))
theorem agi (o:Oq) (i nn:Bool) (e h c:List UInt8) (d:Int) (ks vs f g:List AV) (j:lit true (decide (d<=((4:Nat):Int)))=true) (k:CO 75 [.agg [.mp ks vs,.mp f g],.agg [ω d,.bool i,.str e,.str h,.str c],.sl [] 0 nn] (Vax o)):CO 46 [.agg [.mp ks vs,.mp f g],.agg [ω d,.bool i,.str e,.str h,.str c],.sl [] 0 nn] (Vax o):=pK [] 2 1 (.k 13 j (.n 3 .nil)) (.c k .nil)
abbrev Vb1 (a:Int):Prop:=lit false (decide (a<=((4:Nat):Int)))=true
theorem agj (o:Oq) (i nn:Bool) (e h c:List UInt8) (d:Int) (ks vs f g:List AV) (j:lit true (decide (d<=((8:Nat):Int)))=true) (m:Vb1 d) (k:CO 76 [.agg [.mp ks vs,.mp f g],.agg [ω d,.bool i,.str e,.str h,.str c],.sl [] 0 nn] (Vax o)):CO 46 [.agg [.mp ks vs,.mp f g],.agg [ω d,.bool i,.str e,.str h,.str c],.sl [] 0 nn] (Vax o):=pK [] 3 2 (.k 13 j (.k 1 m (.n 3 .nil))) (.c k .nil)
abbrev Vbk (a:Int):Prop:=lit false (decide (a<=((8:Nat):Int)))=true
theorem agk (c:Oq) (o nn:Bool) (f m d:List UInt8) (e:Int) (ks vs i j:List AV) (h:lit true (!(c.e==((0:Nat):Int)))=true) (n:lit false (e==((15:Nat):Int))=true) (g:Vbk e) (k:Vb1 e):CO 46 [.agg [.mp ks vs,.mp i j],.agg [ω e,.bool o,.str f,.str m,.str d],.sl (Vae c) 1 nn] (Vax c):=pK [] 6 56 (.k 9 h (.k 12 n (.k 1 g (.k 1 k (.n 3 .nil))))) (.nil)
theorem agl (c o:Oq) (j nn:Bool) (f i d:List UInt8) (e:Int) (ks vs g h:List AV) (m:lit false (!(c.e==((0:Nat):Int)))=true) (q:lit false (e==((15:Nat):Int))=true) (k:Vbk e) (n:Vb1 e) (p:CO 78 [.agg [.mp ks vs,.mp g h],.agg [ω e,.bool j,.str f,.str i,.str d],.sl (Vae c) 1 nn] (Vax o)):CO 46 [.agg [.mp ks vs,.mp g h],.agg [ω e,.bool j,.str f,.str i,.str d],.sl (Vae c) 1 nn] (Vax o):=pK [] 7 24 (.k 11 m (.k 12 q (.k 1 k (.k 1 n (.n 3 .nil))))) (.c p .nil)
theorem agm (c e:Oq) (p nn:Bool) (g n d:List UInt8) (f:Int) (ks vs j k:List AV) (i:lit true (!(c.e==((0:Nat):Int)))=true) (o:lit false (f==((15:Nat):Int))=true) (h:Vbk f) (m:Vb1 f):CO 46 [.agg [.mp ks vs,.mp j k],.agg [ω f,.bool p,.str g,.str n,.str d],.sl (Va9 c e) 2 nn] (Vax c):=pK [] 6 48 (.k 9 i (.k 10 o (.k 1 h (.k 1 m (.n 3 .nil))))) (.nil)
theorem agn (d c:Oq) (q nn:Bool) (g n e:List UInt8) (f:Int) (ks vs j k:List AV) (i:lit true (!(c.e==((0:Nat):Int)))=true) (o:lit false (!(d.e==((0:Nat):Int)))=true) (h:lit false (f==((15:Nat):Int))=true) (m:Vbk f) (p:Vb1 f):CO 46 [.agg [.mp ks vs,.mp j k],.agg [ω f,.bool q,.str g,.str n,.str e],.sl (Va9 d c) 2 nn] (Vax c):=pK [] 8 208 (.k 9 i (.k 9 o (.k 10 h (.k 1 m (.k 1 p (.n 3 .nil)))))) (.nil)
theorem agp (d c o:Oq) (i nn:Bool) (g h e:List UInt8) (f:Int) (ks vs j k:List AV) (n:lit false (!(c.e==((0:Nat):Int)))=true) (r:lit false (!(d.e==((0:Nat):Int)))=true) (m:lit false (f==((15:Nat):Int))=true) (p:Vbk f) (q:Vb1 f) (t:CO 74 [.agg [.mp ks vs,.mp j k],.agg [ω f,.bool i,.str g,.str h,.str e],.sl (Va9 d c) 2 nn] (Vax o)):CO 46 [.agg [.mp ks vs,.mp j k],.agg [ω f,.bool i,.str g,.str h,.str e],.sl (Va9 d c) 2 nn] (Vax o):=pK [] 9 80 (.k 11 n (.k 9 r (.k 10 m (.k 1 p (.k 1 q (.n 3 .nil)))))) (.c t .nil)
theorem agq (d f c o:Oq) (m nn:Bool) (h k e:List UInt8) (g:Int) (ks vs i j:List AV) (n:lit true (g==((15:Nat):Int))=true) (q:Vbk g) (p:Vb1 g) (r:CO 77 (VbA ks vs i j g m h k e d f c nn) (Vax o)):CO 46 (VbA ks vs i j g m h k e d f c nn) (Vax o):=pK [] 3 4 (.k 12 n (.k 1 q (.k 1 p (.n 3 .nil)))) (.c r .nil)
def Ik (m:List AV × List AV) (k v:AV):List AV × List AV:=if (eH m.1 m.2 k).isSome then m else (yJ m.1 k,qw m.1 m.2 k v)
theorem Ff (k v q:AV):∀ (ks vs:List AV),ks.length=vs.length->eH (ks++ [k]) (vs++ [v]) q=(eH ks vs q).or (if yz q k then some v else none)
 | [],[],_=>by simp [eH];cases yz q k<;>rfl
 |a::ks,b::vs,h=>by
  simp only [List.cons_append,eH];cases yz q a with
  |true=>rfl
  |false=>exact Ff k v q ks vs (by simpa using h)
 | [],_::_,h=>by simp at h
 |_::_,[],h=>by simp at h
theorem Ja (q v:AV):∀ (ks vs:List AV),ks.length=vs.length->eH ks vs q=none->ks.any (yz q)=false/\qw ks vs q v=vs++ [v]
 | [],[],_,_=> ⟨rfl,rfl⟩
 | a::ks,b::vs,h,hf=>by
  simp only [eH] at hf;cases c:yz q a with
  |true=>rw [c] at hf;cases hf
  |false=>
   rw [c] at hf;obtain ⟨e,d⟩:=Ja q v ks vs (by simpa using h) hf;exact ⟨by simp [c,e],by simp [qw,c,d]⟩
 | [],_::_,h,_=>by simp at h
 |_::_,[],h,_=>by simp at h
structure Ui {α:Type} (kf vf:α->AV) (p:List α) (m:List AV × List AV):Prop where
 len:m.1.length=m.2.length
 find:∀ y,eH m.1 m.2 (kf y)=(p.find? λx=>yz (kf y) (kf x)).map vf
 keys:∀ k ∈ m.1,∃ x,k=kf x
theorem Ui.step {α:Type} {c vf:α->AV} (n:∀ x y,yz (c x) (c y)=true->c x=c y) {p:List α} {m:List AV × List AV} (h:Ui c vf p m) (x:α):Ui c vf (p++ [x]) (Ik m (c x) (vf x)):=by
 unfold Ik;cases hs:eH m.1 m.2 (c x) with
 | some v=>
  rw [if_pos (by rfl)];refine ⟨h.len,λy=> ?_,h.keys⟩;rw [h.find y,Xk5];cases hp:p.find? (λx=>yz (c y) (c x)) with
  |some z=>rfl
  | none=>
   have g:=h.find x;rw [hs] at g;cases f:yz (c y) (c x) with
   |false=>simp [f]
   |true=>
    rw [<- n y x f,hp] at g;cases g
 | none=>
  obtain ⟨j,i⟩:=Ja (c x) (vf x) m.1 m.2 h.len hs;have e:yJ m.1 (c x)=m.1++ [c x]:=by unfold yJ;rw [j]
  rw [if_neg (by simp),e,i];refine ⟨by simp [h.len],λy=> ?_,λk d=> ?_⟩
  .rw [Ff _ _ _ _ _ h.len,h.find y,Xk5];cases hp:p.find? (λx=>yz (c y) (c x)) with
   |some z=>rfl
   |none=>cases f:yz (c y) (c x)<;>simp [f]
  .rcases List.mem_append.1 d with d|d
   .exact h.keys k d
   .rw [Xx6] at d;exact ⟨x,d⟩
def Iy {α:Type} (kf vf:α->AV) (p:List α):List AV × List AV:=p.foldl (λm x=>Ik m (kf x) (vf x)) ([],[])
theorem BH {α:Type} (c vf:α->AV) (p:List α) (x:α):Iy c vf (p++ [x])=Ik (Iy c vf p) (c x) (vf x):=by unfold Iy;rw [List.foldl_append];rfl
theorem F6 {α:Type} {c vf:α->AV} (d:∀ x y,yz (c x) (c y)=true->c x=c y) (l:List α):Ui c vf l (Iy c vf l):=by
 have key:∀ (r p:List α),Ui c vf p (Iy c vf p)->Ui c vf (p++r) (Iy c vf (p++r)):=by
  intro r
  induction r with
  |nil=>intro p h;simpa using h
  |cons x r ih=>
   intro p h;have e:=h.step d x;rw [<- BH] at e;have:=ih (p++ [x]) e;simpa using this
 exact key l [] ⟨rfl,λy=>rfl,λk d=>by simp [Iy] at d⟩
def V9 (x:Lk):AV:= .agg [ω x.op,.str x.nm]
def lkV (x:Lk):Oq:=xK x.n x.a x.d x.e
def BB (ls:List Lk):List AV × List AV:=Iy V9 (λx=>fD (lkV x)) ls
theorem Sz (x y:Lk) (h:yz (V9 x) (V9 y)=true):V9 x=V9 y:=by
 simp only [V9,yz,J8,Fa,Xjz,φ,beq_iff_eq] at h;unfold V9;rw [h.1,h.2]
def Zv (c:Sc):AV:= .str c.name
def Ej (cs:List Sc):List AV × List AV:=Iy Zv (λc=> .agg (OB c)) cs
theorem TJ (x y:Sc) (h:yz (Zv x) (Zv y)=true):Zv x=Zv y:=by
 simp only [Zv,yz,beq_iff_eq] at h;unfold Zv;rw [h]
def SB (ls:List Lk) (op:Int) (nm:List UInt8):Option Oq:=(ls.find? λy=>(op==y.op) && (nm==y.nm)).map lkV
def scO (cs:List Sc) (nm:List UInt8):Option Sc:=cs.find? λc=>nm==c.name
theorem NI (ls:List Lk) (c:Int) (nm:List UInt8):eH (BB ls).1 (BB ls).2 (.agg [ω c,.str nm])=(SB ls c nm).map (λo=>fD o):=by
 have h:=(F6 (vf:=λx=>fD (lkV x)) Sz ls).find ⟨c,nm,false,[],[],0⟩;unfold BB SB;rw [Option.map_map];refine h.trans ?_;congr 1;congr 1;funext y;simp [V9,yz,J8,Fa]
theorem OC (d:List Sc) (nm:List UInt8):eH (Ej d).1 (Ej d).2 (.str nm)=(scO d nm).map (λc=> .agg (OB c)):=by
 have h:=(F6 (vf:=λc=>AV.agg (OB c)) TJ d).find ⟨nm,0,0,[],0⟩;exact h
theorem aeD {α:Type} {c vf:α->AV} (e:∀ x y,yz (c x) (c y)=true->c x=c y) (t:Nat) (f:∀ x,Sm t (c x)=true) (l:List α):Xzy (Iy c vf l).1 (Sm t)=true:=by
 rw [List.all_eq_true];intro k d;obtain ⟨x,rfl⟩:=(F6 (vf:=vf) e l).keys k d;exact f x
theorem ag4 (x:Lk):Sm 134 (V9 x)=true:=by kernel_rfl
theorem ag5 (c:Sc):Sm 9 (Zv c)=true:=by kernel_rfl
theorem Ed (ls:List Lk):Xzy (BB ls).1 (Sm 134)=true:=aeD Sz 134 ag4 ls
theorem Em (c:List Sc):Xzy (Ej c).1 (Sm 9)=true:=aeD TJ 9 ag5 c
def zO:Oq:= .val ⟨false,0,0⟩
theorem aq3:fD zO= .agg [.bool false,.str [],.str [],ω 0]:=by
 show AV.agg [.bool false,.str (ae 0),.str (ae 0),ω 0]=_;rw [dC]
theorem aeW (ls:List Lk) (c:Int) (nm:List UInt8):Yqp [(Xz4 (eH (BB ls).1 (BB ls).2 (.agg [ω c,.str nm])) (.agg [.bool false,.str [],.str [],ω 0])),.bool (Xza (eH (BB ls).1 (BB ls).2 (.agg [ω c,.str nm])))]=Yqp [fD ((SB ls c nm).getD zO),.bool (SB ls c nm).isSome]:=by
 rw [NI];cases SB ls c nm with
 |none=>simp only [Option.map_none,Option.getD_none,Option.isSome_none];rw [aq3]
 |some x=>rfl
theorem NJ {l:List Lk} {k:Nat} (h:k<l.length):ε (δ (k:Int)*6) (dK l)=U3 l[k]++dK (l.drop (k+1)):=by
 rw [aC];exact wV U3 6 (λ_=>rfl) h
theorem aU.tupL {l r:List AV} (h:eG l r):aU (.tup l) (.tup r):=by
 intro g m S v c;simp only [VR] at c ⊢;obtain ⟨vs,e,c⟩:=c;exact ⟨vs,e,h g m S vs c⟩
theorem aU.zsc:aU (.tup [.agg [.str [],ω 0,ω 0,.nilS],.bool false]) (.tup [.agg [.str [],ω 0,ω 0,.sl [] 0 false],.bool false]):=
 aU.tupL (eG.cons (aU.agg (eG.cons (aU.refl _) (eG.cons (aU.refl _) (eG.cons (aU.refl _) (eG.cons (aU.nilS false rfl) (eG.refl _)))))) (eG.refl _))
abbrev aqi (ls:List Lk) (cs:List Sc) (nl ns:Bool) (p:Nat × (List AV × List AV)):St:=⟨[(1,.ptr 0 0 0),(2,.ptr 1 0 0),(3,.ptr 2 0 0),(17,.sl (dK ls) ls.length nl),(18,ω (ls.length:Int)),(19,ω (p.1:Int))],KT ls cs nl ns p.2.1 p.2.2 [] [],.dead,[]⟩
abbrev opO (ls:List Lk) (cs:List Sc) (nl ns:Bool) (a b:List AV × List AV):St:=⟨[(1,.ptr 0 0 0),(2,.ptr 1 0 0),(3,.ptr 2 0 0)],KT ls cs nl ns a.1 a.2 b.1 b.2,.dead,[]⟩
abbrev aqj (ls:List Lk) (cs:List Sc) (nl ns:Bool) (a:List AV × List AV) (p:Nat × (List AV × List AV)):St:=⟨[(1,.ptr 0 0 0),(2,.ptr 1 0 0),(3,.ptr 2 0 0),(45,.sl (dL cs) cs.length ns),(46,ω (cs.length:Int)),(47,ω (p.1:Int))],KT ls cs nl ns a.1 a.2 p.2.1 p.2.2,.dead,[]⟩
theorem Wx {m:List AV × List AV} {k v:AV} (h:(eH m.1 m.2 k).isSome=true):Ik m k v=m:=by unfold Ik;rw [if_pos h]
theorem Wv {m:List AV × List AV} {k v:AV} (h:(eH m.1 m.2 k).isSome=false):Ik m k v=(yJ m.1 k,qw m.1 m.2 k v):=by unfold Ik;rw [if_neg (by rw [h];simp)]
theorem acD {nt:Nat} (t:68<=nt) (ls:List Lk) (d:List Sc) (g i:Bool) (w:ls.length<2^60) (hs:∀ x ∈ ls,x.a.length<2^36/\x.d.length<2^36):∀ (r p:List Lk),ls=p++r->
  az prog ap [] nt (af 0 (ah f45)) (λ_=> .exit 0) (aqi ls d g i) (λq:List AV × List AV=>opO ls d g i q ([],[])) (p.length,BB p) (BB ls):=by
 intro r
 induction r with
 |nil=>
  intro p hp;rw [Δ] at hp;subst hp;exact .done (aky _ _ _ ls d g i t (aB (Yq1 (by omega))))
 | cons x r ih=>
  intro p hp;have n:p.length<ls.length:=by rw [hp];simp
  have o:=NJ n;rw [show ls[p.length]=x by subst hp;simp] at o;have c:=ih (p++ [x]) (by rw [hp];simp);rw [η,τ] at c;have e:BB (p++ [x])=Ik (BB p) (V9 x) (fD (lkV x)):=BH _ _ p x;rw [e] at c;have j:=aeW p x.op x.nm;have h:=congrArg Xza (NI p x.op x.nm);rw [Option.isSome_map] at h;have u:decide (((0:Nat):Int)<=(p.length:Int))=true:=Yq0 (by omega);have m:decide ((p.length:Int)<(ls.length:Int))=true:=Yq0 (by omega);have f:=hs x (by rw [hp];simp);cases v:(SB p x.op x.nm).isSome with
  |true=>
   rw [v] at j h;rw [Wx (k:=V9 x) h] at c;exact .next (akx _ _ p.length ls d x g i true _ _ t o j (xE (by omega)) rfl (Ed p) u m (aA m)) c
  |false=>
   rw [v] at j h;rw [Wv (k:=V9 x) h] at c;exact .next (akw _ _ p.length ls d x g i false _ (lkV x) _ t o j (xE (by omega)) (Ed p) rfl u m (aA m) (xu x.n x.a x.d x.e f.1 f.2)) c
theorem acE {nt:Nat} (o:68<=nt) (ls:List Lk) (d:List Sc) (h i:Bool) (a:List AV × List AV) (v:d.length<2^60):∀ (r p:List Sc),d=p++r->
  az prog ap [] nt (af 2 (ah f45)) (λ_=> .exit 2) (aqj ls d h i a) (λq:List AV × List AV=>opO ls d h i a q) (p.length,Ej p) (Ej d):=by
 intro r
 induction r with
 |nil=>
  intro p hp;rw [Δ] at hp;subst hp;exact .done (akB _ _ _ _ _ ls d h i o (aB (Yq1 (by omega))))
 | cons x r ih=>
  intro p hp;have m:p.length<d.length:=by rw [hp];simp
  have n:=OD m;rw [show d[p.length]=x by subst hp;simp] at n;have f:=ih (p++ [x]) (by rw [hp];simp);rw [η,τ] at f;have e:Ej (p++ [x])=Ik (Ej p) (Zv x) (.agg (OB x)):=BH _ _ p x;rw [e] at f;have g:=OC p x.name;have t:decide (((0:Nat):Int)<=(p.length:Int))=true:=Yq0 (by omega);have j:decide ((p.length:Int)<(d.length:Int))=true:=Yq0 (by omega);cases u:scO p x.name with
  |some c=>
   rw [u] at g;rw [Wx (k:=Zv x) (show (eH (Ej p).1 (Ej p).2 (.str x.name)).isSome=true by rw [g];rfl)] at f;exact .next (akA _ _ _ a.1 a.2 _ _ _ _ p.length ls d x h i true _ o n (by rw [g];exact aU.refl _) (xE (by omega)) rfl (Em p) t j (aA j)) f
  |none=>
   rw [u] at g;rw [Wv (k:=Zv x) (show (eH (Ej p).1 (Ej p).2 (.str x.name)).isSome=false by rw [g];rfl)] at f;exact .next (akz [] 0 0 a.1 a.2 _ _ [] 0 p.length ls d x h i false _ o n (by rw [g];exact aU.zsc) (xE (by omega)) (Em p) rfl t j (aA j)) f
theorem Nc (ls:List Lk) (c:List Sc) (e d:Bool) (g:ls.length<2^60) (h:c.length<2^60) (hs:∀ x ∈ ls,x.a.length<2^36/\x.d.length<2^36):CO 45 [.agg [.sl (dK ls) ls.length e,.sl (dL c) c.length d]] (.ret (.agg [.mp (BB ls).1 (BB ls).2,.mp (Ej c).1 (Ej c).2])):=
 ags _ _ _ _ ls c e d
  (az.blk (id:=0) (e':= .normal) (s:=⟨_,_,_,_⟩) (s':=opO ls c e d (BB ls) ([],[])) (λnt f=>acD f ls c e d g hs ls [] rfl) (by simp) rfl (aN.of ⟨rfl,rfl,rfl,rfl,rfl,rfl,trivial⟩) (aN.refl _))
  (az.blk (id:=2) (e':= .normal) (s:=⟨_,_,_,_⟩) (s':=opO ls c e d (BB ls) (Ej c)) (λnt f=>acE f ls c e d (BB ls) h c [] rfl) (by simp) rfl (aN.of ⟨rfl,rfl,rfl,rfl,rfl,rfl,trivial⟩) (aN.refl _))
structure Sq where
 nm:List UInt8
 u1:Int
 u2:Int
 l:List Br
def Sq.c (q:Sq):Sc:=⟨q.nm,q.u1,q.u2,gp q.l,q.l.length⟩
theorem lS {c:List Nd} (h:c.all (λx=>Φ (x.num.length+1) 8589934592 && Φ (x.den.length+1) 8589934592)=true):∀ x ∈ c,x.sm:=by
 intro x d;have:=List.all_eq_true.1 h x d;rw [φ] at this;exact ⟨Xz2 this.1,Xz2 this.2⟩
def Br.s28 (x:Br):Prop:=(x.fa.length<2^28/\x.fd.length<2^28)/\(x.ra.length<2^28/\x.rd.length<2^28)
theorem Br.s28.sm {x:Br} (h:x.s28):x.sm:=⟨⟨Xq8 h.1.1 (by decide),Xq8 h.1.2 (by decide)⟩,Xq8 h.2.1 (by decide),Xq8 h.2.2 (by decide)⟩
def mF (y x:Br):Int:=iO (vQ y.fn y.fa y.fd) (vQ x.fn x.fa x.fd)
def WE (x:Br):RQ × RQ:=(vQ x.fn x.fa x.fd,vQ x.rn x.ra x.rd)
def O8 (l:List Br) (x:RQ):Oq:=if Iq mF l=0 then atV (l.map WE) x else .err (Iq mF l)
theorem aaP {l:List Br} (h:∀ x ∈ l,x.s28):zg 127 mF l:=λi y x d c _ _=>
 G6 y.fn x.fn y.fa y.fd x.fa x.fd (h y (Xql d)).1.1 (h y (Xql d)).1.2 (h x (Xql c)).1.1 (h x (Xql c)).1.2
theorem uK {n:Bool} {a d:List UInt8} (h:iW n a d=true):vQ n a d=⟨n,ag a,ag d⟩:=by unfold vQ;rw [if_pos h]
theorem afR {x:Br} (h:iJ x=true):DN (WE x)=LX x:=by
 simp only [iJ,φ] at h;unfold DN WE LX;simp only [uK h.1,uK h.2];rw [(iw h.1).1,(iw h.1).2,(iw h.2).1,(iw h.2).2]
theorem WG:∀ {l:List Br},l.all iJ=true->lV (l.map WE)=gp l
 | [],_=>rfl
 |x::l,h=>by
  simp only [Xx5,φ] at h;show DN (WE x)++lV (l.map WE)=LX x++gp l;rw [afR h.1,WG h.2]
theorem MG:∀ (l:List Br) (y:Br),yh mF y l=true->jQ ((y::l).map WE)
 | [],_,_=>True.intro
 | x::l,y,h=>by
  unfold yh at h;cases hd:decide (((0:Nat):Int)<=mF y x) with
  |true=>rw [hd] at h;cases h
  |false=>
   rw [hd] at h;have c:mF y x<0:=by have:=of_decide_eq_false hd;omega
   exact ⟨(jr (jJ _ _ _) (jJ _ _ _)).1.1 c,MG l x h⟩
theorem WS {l:List Br} (h:Iq mF l=0):Wq (l.map WE)/\lV (l.map WE)=gp l:=by
 unfold Iq at h;cases f:decide (((8:Nat):Int)<(l.length:Int)) with
 |true=>rw [f] at h;cases h
 | false=>
  rw [f] at h;have o:l.length<=8:=by have:=of_decide_eq_false f;omega
  cases l with
  |nil=>cases h
  | cons x r=>
   rw [show ((((x::r).length:Nat):Int)==((0:Nat):Int))=false from beq_eq_false_iff_ne.2 (by simp only [ν];omega),EL] at h;cases e:(x::r).all iJ with
   |false=>rw [e] at h;cases h
   | true=>
    rw [e] at h;cases hs:(jd x.fn x.fa x.fd==((0:Nat):Int)) && yh mF x r with
    |false=>rw [hs] at h;cases h
    | true=>
     rw [hs] at h;simp only [φ] at hs;cases d:(x::r).any Io with
     |true=>rw [d] at h;cases h
     | false=>
      rw [D5] at d;have g:(x::r).all vG=true:=by simpa using d
      refine ⟨⟨by simpa using o,by simp,λb c=> ?_,λb c=> ?_,MG r x hs.2⟩,WG e⟩
      .obtain ⟨y,_,rfl⟩:=List.mem_map.1 c;exact ⟨jJ _ _ _,jJ _ _ _⟩
      .obtain ⟨y,m,rfl⟩:=List.mem_map.1 c;have:=List.all_eq_true.1 g y m;simp only [vG,φ] at this;obtain ⟨n,k⟩:=nK this.1;obtain ⟨j,i⟩:=nK this.2;exact ⟨by show iP (vQ _ _ _)=true;rw [uK n];exact k,by show iP (vQ _ _ _)=true;rw [uK j];exact i⟩
theorem afL {l:List (RQ × RQ)} {x:RQ} (c:Wq l) (i:x.ok):(atV l x).ok:=by
 unfold atV;split
 .have:=oI false;exact this
 .refine qR ?_;have j:=(zK x l).1;have g:=c.pos;have f:iq l x - 1<l.length:=by omega
  have d:iq l x - 1<(jy q0 l).length:=by rw [He l q0 c.pos];exact f
  have h:=Xxp f;have e:atR l x=gG (jy q0 l)[iq l x - 1] (ja l[iq l x - 1].2 (eU x l[iq l x - 1].1)):=by
   unfold atR;rw [ξ,ξ,π f,π d];rfl
  rw [e];exact eX (OT c _ (Xxp d)).1 (jb (c.ok _ h).2 (iF i (c.ok _ h).1))
theorem afK {l:List Br} {x:RQ} (c:x.ok):(O8 l x).ok:=by
 unfold O8;split
 .rename_i h;exact afL (WS h).1 c
 .assumption
theorem aa_ (nm:List UInt8) (u1 u2:Int) {l:List Br} (hs:∀ x ∈ l,x.s28) (i:l.length<2^40) {x:RQ} (d:x.ok) (k:iP x=true):
  CO 130 [.agg [.str nm,ω u1,ω u2,.sl (gp l) l.length false],qA x] (.ret (.tup [.agg [.bool (O8 l x).n,.str (O8 l x).a,.str (O8 l x).d],ω (O8 l x).e])):=by
 have c:=QE nm u1 u2 l mF i (λx d=>(hs x d).sm) (aaP hs);unfold O8;by_cases h:Iq mF l=0
 .rw [if_pos h];rw [h] at c;obtain ⟨j,e⟩:=WS h;have f:=af5 nm u1 u2 j d k;simp only [LZ,e,List.length_map] at f;exact f c
 .rw [if_neg h];have g:lit true (!(Iq mF l==((0:Nat):Int)))=true:=by rw [show (Iq mF l==((0:Nat):Int))=false from beq_eq_false_iff_ne.2 h];rfl
  exact af8 x _ _ nm u1 u2 _ g (af4 x _ _ nm u1 u2 _ g c)
structure fH where
 ls:List Lk
 qs:List Sq
def sqO (qs:List Sq) (nm:List UInt8):Option Sq:=qs.find? λq=>nm==q.nm
theorem adX (qs:List Sq) (nm:List UInt8):scO (qs.map Sq.c) nm=(sqO qs nm).map Sq.c:=by
 unfold scO sqO;rw [List.find?_map];rfl
abbrev aiN (E:fH):AV:= .agg [.mp (BB E.ls).1 (BB E.ls).2,.mp (Ej (E.qs.map Sq.c)).1 (Ej (E.qs.map Sq.c)).2]
def QJ (qs:List Sq) (op:Int) (nm:List UInt8) (st:RQ) (a:Oq):Oq:=
 if op=20 then (if a.bit then Hq (!a.one) else .err 13)
 else if op=24 then (match sqO qs nm with|none=> .err 12|some s=>O8 s.l a.q)
 else if op=21 then mV (xG a.q st) else if op=22 then mV (upR a.q st) else mV (nrR a.q st)
def nN (E:fH) (x:Nd) (l:List Oq):Oq:=
 if x.op<=4 then xK x.neg x.num x.den 0 else if x.op<=8 then (SB E.ls x.op x.name).getD (.err 12)
 else match l with
 | [a]=>if a.e=0 then QJ E.qs x.op x.name (vQ x.neg x.num x.den) a else a
 | [a,b]=>if a.e=0 then (if b.e=0 then N9 x.op a b else b) else a
 | [a,b,c]=>Ut a b c
 |_=> .err 11
def TT (x:Nd):Prop:=21<=x.op->x.op<=23->d_ x.neg x.num x.den=true/\0<jd x.neg x.num x.den
theorem BK {a s:RQ} (d:iP a=true) (f:iP s=true):iM 10000 (nrR a s)/\iM 10000 (upR a s)/\iM 10000 (xG a s):=by
 have c:=PO d f;have g:iM 51 s:=a_ f;have e:=yU c (g.mono (show 51<=208 by decide));refine ⟨?_, ?_,c.mono (by decide)⟩
 .unfold nrR;split
  .exact e.mono (by decide)
  .exact c.mono (by decide)
 .unfold upR;split
  .exact iM.mono (L:=51) (a_ d) (by decide)
  .exact e.mono (by decide)
theorem CG {a s:RQ} (c:a.ok) (hs:s.ok):(upR a s).ok/\(nrR a s).ok:=by
 constructor
 .unfold upR;split
  .exact c
  .exact eX (jC hs) hs
 .unfold nrR;split
  .exact eX (jC hs) hs
  .exact jC hs
theorem PV (E:fH) (x:Nd) (nn:Bool) (a:Oq) (m:20<=x.op/\x.op<=24) (h:TT x) (B:a.ok) (A:a.e=0) (t:∀ s ∈ E.qs,s.l.length<2^40/\∀ b ∈ s.l,b.s28):
  CO 78 [aiN E,.agg (lI x),.sl (vU a) 1 nn] (.ret (fD (QJ E.qs x.op x.name (vQ x.neg x.num x.den) a))):=by
 obtain ⟨q,rfl,f,c⟩:=AU B A;obtain ⟨d,u,n,o,nm⟩:=x;unfold QJ;simp only at m h ⊢;have step:21<=d->d<=23->∃ st:RQ,vQ u n o=st/\st.ok/\iP st=true/\0<jk st/\n=ae st.n/\o=ae st.d/\u=st.neg:=by
  intro j k;obtain ⟨z,C⟩:=h j k;obtain ⟨g,y⟩:=nK z;refine ⟨_,rfl,jJ _ _ _,by rw [uK g];exact y,by rw [<- G_];exact C, ?_, ?_, ?_⟩
  .rw [uK g];exact (iw g).1.symm
  .rw [uK g];exact (iw g).2.symm
  .rw [uK g]
 have lv:∀ {r:RQ},iM 10000 r->r.ok->CO 124 [qA r] (.ret (fD (mV r))):=λj k=>r_ k (Xqj j.1 (by decide)) (Xqj j.2 (by decide))
 have w:d=20\/d=21\/d=22\/d=23\/d=24:=by omega
 rcases w with rfl|rfl|rfl|rfl|rfl
 .rw [if_pos rfl];have p:=oK (.val q);generalize Oq.bit (.val q)=w2 at*
  generalize Oq.one (.val q)=w1 at*
  cases w2 with
  |false=>exact abp (.val q) _ _ _ _ _ _ _ _ _ _ _ rfl p (jv 13)
  |true=>exact abq (.val q) _ _ _ _ _ _ _ _ _ _ _ _ rfl p (mG _)
 .obtain ⟨st,e,k1,k2,k3,rfl,rfl,rfl⟩:=step (by decide) (by decide);rw [e,if_neg (by decide),if_neg (by decide),if_pos rfl];exact abr (.val q) _ _ st _ _ _ _ _ _ (E8 f c k1 k2 k3) (lv (BK c k2).2.2 (jC k1))
 .obtain ⟨st,e,k1,k2,k3,rfl,rfl,rfl⟩:=step (by decide) (by decide);rw [e,if_neg (by decide),if_neg (by decide),if_neg (by decide),if_pos rfl];exact abt (.val q) _ _ st _ _ _ _ _ _ (agL f c k1 k2 k3) (lv (BK c k2).2.1 (CG f k1).1)
 .obtain ⟨st,e,k1,k2,k3,rfl,rfl,rfl⟩:=step (by decide) (by decide);rw [e,if_neg (by decide),if_neg (by decide),if_neg (by decide),if_neg (by decide)];exact abu (.val q) _ _ st _ _ _ _ _ _ (Xr f c k1 k2 k3) (lv (BK c k2).1 (CG f k1).2)
 .rw [if_neg (by decide),if_pos rfl];have i:=OC (E.qs.map Sq.c) nm;rw [adX] at i;cases hs:sqO E.qs nm with
  |none=>
   rw [hs] at i;exact abv (.val q) _ _ false _ _ nm [] 0 0 _ _ _ _ [] 0 (by rw [i];exact aU.zsc) rfl (Em _) (jv 12)
  |some s=>
   rw [hs] at i;have v:=List.mem_of_find?_eq_some hs;exact abw (.val q) _ _ _ true _ _ nm s.nm s.u1 s.u2 _ _ _ _ (gp s.l) s.l.length (by rw [i];exact aU.refl _) rfl (Em _) (aa_ s.nm s.u1 s.u2 (t s v).2 (t s v).1 f c)
def dI (l:List Oq):List AV:=l.flatMap vU
theorem Nb (E:fH) (x:Nd) (nn:Bool) (l:List Oq) (y:1<=x.op) (n:x.op<=24) (m:TT x) (j:l.length=dh x.op) (w:∀ o ∈ l,o.ok) (r:x.sm) (A:∀ s ∈ E.qs,s.l.length<2^40/\∀ b ∈ s.l,b.s28):
  CO 46 [aiN E,.agg (lI x),.sl (dI l) l.length nn] (.ret (fD (nN E x l))):=by
 obtain ⟨d,f,e,g,nm⟩:=x;unfold nN;simp only at y n m j ⊢;have i:∀ {p:Prop} [Decidable p],¬ p->lit false (decide p)=true:=λh=>aB (Yq1 h)
 have zT:∀ o:Oq,o.e=0->lit false (!(o.e==((0:Nat):Int)))=true:=λo h=>by rw [h];rfl
 have v:∀ o:Oq,¬ o.e=0->lit true (!(o.e==((0:Nat):Int)))=true:=λo h=>by rw [show (o.e==((0:Nat):Int))=false from beq_eq_false_iff_ne.2 h];rfl
 by_cases h4:d<=4
 .rw [if_pos h4];have:dh d=0:=by unfold dh;rw [if_neg (by omega),if_neg (by omega),if_neg (by omega)]
  rw [this,Xv6] at j;subst j;exact agi _ f nn e g nm d _ _ _ _ (aA (Yq0 h4)) (age f nn e g nm d _ _ _ _ _ [] 0 (Nl f e g (Xq8 r.1 (by decide)) (Xq8 r.2 (by decide))))
 .rw [if_neg h4];by_cases h8:d<=8
  .rw [if_pos h8];have:dh d=0:=by unfold dh;rw [if_neg (by omega),if_neg (by omega),if_neg (by omega)]
   rw [this,Xv6] at j;subst j;refine agj _ f nn e g nm d _ _ _ _ (aA (Yq0 h8)) (i h4) ?_;have t:=aeW E.ls d nm;cases q:SB E.ls d nm with
   |none=>
    rw [q] at t;exact agf f nn false e g nm d _ _ _ _ _ [] 0 t rfl (Ed _) (jv 12)
   |some o=>
    rw [q] at t;exact agh f nn true e g nm d o _ _ _ _ [] 0 t rfl (Ed _)
  .rw [if_neg h8];by_cases h15:d=15
   .have:dh d=3:=by unfold dh;rw [if_pos h15]
    rw [this] at j
    match l,j with
    | [a,b,c],_=>
     exact agq a b c _ f nn e g nm d _ _ _ _ (aA (by rw [h15];rfl)) (i h8) (i h4) (PQ d f nn e g nm _ _ _ _ a b c)
   .have k:lit false (d==((15:Nat):Int))=true:=by rw [show (d==((15:Nat):Int))=false from beq_eq_false_iff_ne.2 h15];rfl
    by_cases h19:d<=19
    .have:dh d=2:=by unfold dh;rw [if_neg (by omega),if_pos (by omega)]
     rw [this] at j
     match l,j with
     | [a,b],_=>
      have u:=w a (by simp);have z:=w b (by simp);simp only;by_cases za:a.e=0
      .rw [if_pos za];by_cases zb:b.e=0
       .rw [if_pos zb];exact agp a b _ f nn e g nm d _ _ _ _ (zT b zb) (zT a za) k (i h8) (i h4) (Xv d f nn e g nm _ _ _ _ a b (by omega) u za z zb)
       .rw [if_neg zb];exact agn a b f nn e g nm d _ _ _ _ (v b zb) (zT a za) k (i h8) (i h4)
      .rw [if_neg za];exact agm a b f nn e g nm d _ _ _ _ (v a za) k (i h8) (i h4)
    .have:dh d=1:=by unfold dh;rw [if_neg (by omega),if_neg (by omega),if_pos (by omega)]
     rw [this] at j
     match l,j with
     | [a],_=>
      have u:=w a (by simp);simp only;by_cases za:a.e=0
      .rw [if_pos za];exact agl a _ f nn e g nm d _ _ _ _ (zT a za) k (i h8) (i h4) (PV E ⟨d,f,e,g,nm⟩ nn a ⟨by show 20<=d;omega,n⟩ m u za A)
      .rw [if_neg za];exact agk a f nn e g nm d _ _ _ _ (v a za) k (i h8) (i h4)
theorem YU {j:Int} {a b:Oq} (f:a.ok) (e:b.ok) (g:a.e=0) (i:b.e=0):(N9 j a b).ok:=by
 obtain ⟨q,rfl,c,k⟩:=AU f g;obtain ⟨r,rfl,d,m⟩:=AU e i;unfold N9
 repeat' split
 all_goals first|exact qR (eX c d)|exact qR (iF c d)|exact qR (jb c d)|exact (by decide:(13:Int) ≠ 0)|exact e|exact f|exact oI _|exact (by decide:(16:Int) ≠ 0)|(rename_i h;exact qR (qL c (Nat.pos_of_ne_zero h)))
theorem ad7 {qs:List Sq} {f:Int} {nm:List UInt8} {st:RQ} {a:Oq} (ks:st.ok) (e:a.ok) (d:a.e=0):(QJ qs f nm st a).ok:=by
 obtain ⟨q,rfl,c,g⟩:=AU e d;unfold QJ
 repeat' split
 all_goals first|exact oI _|exact (by decide:(13:Int) ≠ 0)|exact (by decide:(12:Int) ≠ 0)|exact afK c|exact qR (jC ks)|exact qR (CG c ks).1|exact qR (CG c ks).2
theorem ahh {ls:List Lk} {c:Int} {nm:List UInt8}:((SB ls c nm).getD (.err 12)).ok:=by
 unfold SB;cases ls.find? _ with
 |none=>exact (by decide:(12:Int) ≠ 0)
 |some x=>exact Ar _ _ _ _
theorem NT {E:fH} {x:Nd} {l:List Oq} (d:∀ o ∈ l,o.ok):(nN E x l).ok:=by
 unfold nN;split
 .exact Ar _ _ _ _
 .split
  .exact ahh
  .split
   .rename_i a;split
    .exact ad7 (jJ _ _ _) (d a (by simp)) (by assumption)
    .exact d a (by simp)
   .rename_i a b;split
    .split
     .exact YU (d a (by simp)) (d b (by simp)) (by assumption) (by assumption)
     .exact d b (by simp)
    .exact d a (by simp)
   .rename_i a b c;unfold Ut
    repeat' split
    all_goals first|exact (by decide:(13:Int) ≠ 0)|exact d _ (by simp)
   .exact (by decide:(11:Int) ≠ 0)
structure Ty where
 tr:Bool
 m:Int
 d:Int
def uO (t:Ty):List AV:= [.bool t.tr,ω t.m,ω t.d]
def wI (m d:Int):Bool:=decide (-3<=m/\m<=3/\ -3<=d/\d<=3)
def lN (t:Ty):Bool:=cond t.tr ((t.m==0) && (t.d==0)) (wI t.m t.d)
theorem Zt (t:Ty):CO 219 [.agg [ω t.m,ω t.d]] (.ret (.bool (wI t.m t.d))):=by
 rcases tf (decide ((-3:Int)<=t.m)) with b0|b0
 .rcases tf (decide (t.m<=((3:Nat):Int))) with b1|b1
  .rcases tf (decide ((-3:Int)<=t.d)) with b2|b2
   .have e:wI t.m t.d=(decide (t.d<=((3:Nat):Int))):=by
     unfold wI;simp only [decide_eq_true_eq,decide_eq_false_iff_not,beq_iff_eq,Yq2] at*
     first|omega|(split at b0<;>omega)|(rw [Xxj];simp only [decide_eq_true_eq];first|omega|(split at b0<;>split<;>omega))
    rw [e];exact pK [] 3 7 (.k 1 (aA b2) (.k 1 (aA b1) (.k 1 (aA b0) (.n 1 .nil)))) (.nil)
   .have e:wI t.m t.d=false:=by
     unfold wI;simp only [decide_eq_true_eq,decide_eq_false_iff_not,beq_iff_eq,Yq2] at*
     first|omega|(split at b0<;>omega)|(rw [Xxj];simp only [decide_eq_true_eq];first|omega|(split at b0<;>split<;>omega))
    rw [e];exact pK [] 3 3 (.c (aB b2) (.k 1 (aA b1) (.k 1 (aA b0) (.n 1 .nil)))) (.nil)
  .have e:wI t.m t.d=false:=by
    unfold wI;simp only [decide_eq_true_eq,decide_eq_false_iff_not,beq_iff_eq,Yq2] at*
    first|omega|(split at b0<;>omega)|(rw [Xxj];simp only [decide_eq_true_eq];first|omega|(split at b0<;>split<;>omega))
   rw [e];exact pK [] 3 1 (.k 1 (aB b1) (.k 1 (aA b0) (.n 1 .nil))) (.nil)
 .have e:wI t.m t.d=false:=by
   unfold wI;simp only [decide_eq_true_eq,decide_eq_false_iff_not,beq_iff_eq,Yq2] at*
   first|omega|(split at b0<;>omega)|(rw [Xxj];simp only [decide_eq_true_eq];first|omega|(split at b0<;>split<;>omega))
  rw [e];exact pK [] 3 0 (.k 2 (aB b0) (.n 1 .nil)) (.nil)
theorem uz (t:Ty):CO 209 [.agg (uO t)] (.ret (.bool (lN t))):=by
 rcases tf ((t.tr==true) && ((t.m==((0:Nat):Int)) && ((t.d==((0:Nat):Int)) && true))) with b0|b0
 .have e:lN t=true:=by first|(simp only [lN,b0]<;>rfl)|(unfold lN;cases c:t.tr<;>simp_all)
  rw [e];exact pK [] 1 1 (.c (aA b0) (.n 3 .nil)) (.nil)
 .rcases tf t.tr with b1|b1
  .have e:lN t=false:=by first|(simp only [lN,b0,b1]<;>rfl)|(unfold lN;cases c:t.tr<;>simp_all)
   rw [e];exact pK [] 2 0 (.c (aX b1) (.k 1 (aB b0) (.n 3 .nil))) (.nil)
  .have e:lN t=(wI t.m t.d):=by first|(simp only [lN,b0,b1]<;>rfl)|(unfold lN;cases c:t.tr<;>simp_all)
   rw [e];exact pK [] 2 2 (.k 2 (dV b1) (.k 1 (aB b0) (.n 3 .nil))) (.c (Zt t) .nil)
structure Sg where
 op:Int
 name:List UInt8
 ty:Ty
def sgC (s:Sg):List AV:= [ω s.op,.str s.name,.bool s.ty.tr,ω s.ty.m,ω s.ty.d]
def iQ (l:List Sg):List AV:=l.flatMap sgC
theorem OH (x:Sg) (r:List Sg):iQ (x::r)=sgC x++iQ r:=rfl
theorem ad2 (a b:List Sg):iQ (a++b)=iQ a++iQ b:=by unfold iQ;rw [Xq9]
theorem ad3 (l:List Sg):(iQ l).length=l.length*5:=by
 induction l with
 |nil=>rfl
 |cons x r ih=>rw [OH,η,ih,ν];simp [sgC];omega
theorem ad4 {p r:List Sg} {x:Sg} {k:Nat} (h:k=p.length):ε (δ (k:Int)*5) (iQ (p++x::r))=sgC x++iQ r:=by
 subst h;rw [aC,ad2,OH,<- ad3,Xzm]
def sF (s:Sg) (op:Int) (nm:List UInt8):Bool:=(s.op==op) && ((s.name==nm) && (gV op && (lN s.ty && (!(op==((24:Nat):Int))|| !s.ty.tr))))
def Nq (l:List Sg) (op:Int) (nm:List UInt8):Option Ty:=(l.find? λs=>sF s op nm).map (·.ty)
def zT:Ty:=⟨false,0,0⟩
def TL (hit:Sg->Bool) (_:Unit) (s:Sg):Unit ⊕ Option Ty:=if hit s then .inr (some s.ty) else .inl ()
theorem adY (hit:Sg->Bool) (l:List Sg):goL (TL hit) (λ_=>none) l ()=(l.find? hit).map (·.ty):=by
 induction l with
 |nil=>rfl
 |cons s r ih=>
  simp only [goL,TL,List.find?_cons];cases h:hit s with
  |true=>simp
  |false=>simpa using ih
def fiE:Option Ty->bI
 |none=> .exit 0
 |some _=> .ret
def iL (l:List Int):List AV:=l.map λa=> ω a
theorem abL {a:List Int} {i:Nat} (h:i<a.length):ε (δ (i:Int)*1) (iL a)= [ω (a.getD i 0)]++iL (a.drop (i+1)):=by
 unfold iL;rw [aC,Θ,<- Xj9,Xxs h,ξ,π h];rfl
abbrev dB (xs:List Int) (nn:Bool) (k:Nat):bu:=⟨[.sl (iL xs) xs.length nn,ω (k:Int)],0,false,0,0,true⟩
theorem Uf {i:Nat} (h:i<2^62):ω (γ .i64 (((i+1:Nat):Int) - ((1:Nat):Int)))= ω (i:Int):=by rw [bG]<;>first|(congr 1;omega)|omega
abbrev Va5 (a:List Int) (b:Bool) (c:Nat):bu:=⟨[.sl (iL a) a.length b,ω (c:Int)],0,false,0,0,true⟩
theorem aqe (xs:List Int) (nn:Bool) (k n:Nat) (c:lit true (decide ((xs.length:Int)<=(k:Int)))=true):aH prog ap 97 [.ptr 0 0 0,ω (n:Int)] [(Va5 xs nn k)] (.ret (ω 0)) [(Va5 xs nn k)]:=pK [] 1 1 (.c c (.n 2 .nil)) (.nil)
theorem aq1 {i:Nat} (h:i+1<2^63):ω (γ .i64 ((i:Int)+((1:Nat):Int)))= ω ((i+1:Nat):Int):=by rw [bG]<;>first|rfl|omega
theorem aq2 {i:Nat} (h:i+1<2^63):ω (γ .i64 (((i+1:Nat):Int) - ((1:Nat):Int)))= ω (i:Int):=by rw [bG]<;>first|(congr 1;omega)|omega
theorem aqf (xs:List Int) (nn:Bool) (k n r:Nat) (c:k+1<2^63) (f:ε ((δ (k:Int))*1) (iL xs)= [ω (xs.getD k 0)]++iL (xs.drop (k+1))) (e:Va4 k) (h:(decide ((k:Int)<(xs.length:Int)))=true) (d:lit false (decide ((xs.length:Int)<=(k:Int)))=true) (g:CO 65 [ω (xs.getD k 0),ω (n:Int)] (.ret (ω (r:Int)))):aH prog ap 97 [.ptr 0 0 0,ω (n:Int)] [(Va5 xs nn k)] (.ret (ω (r:Int))) [⟨[.sl (iL xs) xs.length nn,ω (((k+1):Nat):Int)],0,false,0,0,true⟩]:=pK [] 1 0 (.k 1 e (.c h (.k 4 d (.n 2 .nil)))) (.c g (.v 31 (.ppt f) (.v 30 (.eq (aq2 c)) (.v 19 (.eq (aq1 c)) .nil))))
theorem dH (xs:List Int) (nn:Bool) (k n:Nat) (i:xs.length<2^63) (g:k<=xs.length) (d:0<n) (c:n<1000):∃ r k':Nat,r<n/\k'<=xs.length/\aH prog ap 97 [.ptr 0 0 0,ω (n:Int)] [dB xs nn k] (.ret (ω (r:Int))) [dB xs nn k']:=by
 by_cases h:k<xs.length
 .obtain ⟨r,f,e⟩:=Yr (xs.getD k 0) n d c;exact ⟨r,k+1,f,h,aqf xs nn k n r (by omega) (abL h) (Yq0 (by omega)) (Yq0 (by omega)) (by simp [lit];omega) e⟩
 .exact ⟨0,k,d,g,aqe xs nn k n (Yq0 (by omega))⟩
end Go.Proofs.Tryz
