/- Contracts of functions; joined by a program of mine. -/
import Derived.Test.YtdmfgmmooalfnaaGreatDoorC3
import Derived.Test.YtdmfgmmooalfnaaGreatDoorC2
set_option linter.unusedSimpArgs false
set_option linter.unusedVariables false
set_option maxRecDepth 100000
open Go AM
open IntKind renaming wrap->γ
open Nat renaming mul_one->Θ,one_mul->Xzu,div_le_self->Xjn,div_one->Xz3,add_zero->Xq1,le_trans->Xxg,mul_le_mul_left->Xqx,pow_le_pow_right->Xqc,le_refl->χ,lt_of_le_of_lt->Xqj,lt_of_lt_of_le->Xqa,succ_pos->Xvp,lt_trans->Xq8,pow_add->Xxo,ble->Φ,ble_eq_true_of_le->Xqe,beq->Xqn,add_assoc->Xxu,zero_add->Ψ,lt_or_ge->Xq2,not_lt_zero->Xz5,add_sub_cancel_left->Xjp,sub_self->Xzr,two_pow_pos->Xqu
open Bool renaming not_eq_true'->Xqq,false_eq_true->Xji,eq_iff_iff->Xxj,and_eq_true->φ
open Int renaming natAbs_natCast->Xjr,natAbs_neg->Xvr,toNat->δ,emod_nonneg->Yqq,emod_lt_of_pos->Xkz,tmod->Xxd,tmod_lt_of_pos->Xwj,emod_eq_of_lt->Xk6
open List renaming length->ζ,drop->ε,getElem_mem->Xxp,drop_of_length_le->Xxv,length_append->η,length_singleton->τ,mem_of_getElem?->Xql,length_map->Xxc,all_map->Xk7,all_eq_true->Xj1,take->κ,take_of_length_le->ο,flatMap_append->Xq9,mem_singleton->Xx6,map_append->Xx3,map_cons->Xqg,length_cons->ν,mem_append->Xz6,getD_eq_getElem?_getD->ξ,getElem?_eq_getElem->π,append_nil->Δ,drop_left->Xzm,take_left->Yqz,append_assoc->υ,getElem?_append_right->Xxa,drop_append_of_le_length->Xjv,take_append_of_le_length->Xxn,length_drop->Xx0,nil_append->Xqi,length_nil->Xqf,singleton_append->Xqt,map_nil->Xxw,headD->θ,flatMap_cons->Xxk,find?_cons_of_pos->Xke,find?_cons_of_neg->Xws,flatMap->Yxu
namespace Go.Proofs.Tryz
abbrev zcc4_0 : List UInt8 := [115,105,110,103,108,101]
abbrev zcc4_1 : List UInt8 := [105,110,99,111,109,101]
abbrev zcc4_2 : List UInt8 := [115,99,97,108,101]
abbrev zcc4_3 : List UInt8 := [98,97,115,105,99]
abbrev zcc4_4 : List AV := [ω 3,.bool false,.str [],.str [1],.str []]
theorem alL (x y:Nat) (d:CO 134 [.str (ae x),ω 3] (.ret (.tup [ω (x:Int),.bool true]))) (e:CO 134 [.str (ae y),ω 4] (.ret (.tup [ω (y:Int),.bool true]))) (c:CO 79 [ω (γ .i64 ((x:Int)*(y:Int)))] (.ret (.str (ae (x*y))))):CO 100 [.str (ae x),.str (ae y)] (.ret (.str (ae (x*y)))):=pK [] 2 3 (.n 2 .nil) (.c c (.c e (.c d .nil)))
theorem jc {x:Nat} (h:x<16777216):(ae x).length<=7:=bU (by omega)
theorem alK (x y:Nat) (e:x<65536) (g:y<65536):CO 100 [.str (ae x),.str (ae y)] (.ret (.str (ae (x*y)))):=by
 have i:=jc (x:=x) (by omega);have h:=jc (x:=y) (by omega);have c:=iE (ae x) 3 (by omega) (by omega) (by rw [aG];omega);have d:=iE (ae y) 4 (by omega) (by omega) (by rw [aG];omega);rw [aG] at c d;have j:x*y<65536*65536:=Nat.mul_lt_mul'' e g;have f:=lQ (x*y) (by omega);refine alL x y c d ?_;rw [<- Int.natCast_mul,bG (by omega) (by omega)];exact f
theorem amP (c:Bool) (n k:Nat) (q:RQ) (d:lit false ((ae k)== [])=true) (h:CO 98 [Ω c (ae n) (ae 1)] (.ret (Ω c (ae n) (ae 1)))) (i:CO 98 [Ω false (ae k) (ae 1)] (.ret (Ω false (ae k) (ae 1)))) (e:CO 100 [.str (ae n),.str (ae 1)] (.ret (.str (ae (n*1))))) (g:CO 100 [.str (ae 1),.str (ae k)] (.ret (.str (ae (1*k))))) (f:CO 99 [.bool (!(c==false)),.str (ae (n*1)),.str (ae (1*k))] (Va6 q)):CO 60 [Ω c (ae n) (ae 1),Ω false (ae k) (ae 1)] (Vaf q):=pK [] 1 0 (.k 10 d (.n 9 .nil)) (.c f (.c g (.c e (.c i (.c h .nil)))))
theorem Eb {c:Bool} {n:Nat} (h:c=true->0<n):(⟨c,n,1⟩:RQ).ok:=⟨by simp,by simp,h⟩
theorem Uc {c:Bool} {n d:Nat} (h:(⟨c,n,d⟩:RQ).ok):vQ c (ae n) (ae d)=⟨c,n,d⟩:=by
 unfold vQ;rw [if_pos (pI ⟨c,n,d⟩ h),aG,aG]
theorem acm {k:Nat} (h:0<k):ae k ≠ []:=by
 intro c;have:=aG k;rw [c] at this;simp [ag] at this;omega
theorem Oc (c:Bool) (n k:Nat) (d:c=true->0<n) (p:n<65536) (o:0<k) (f:k<65536):CO 60 [qA ⟨c,n,1⟩,qA ⟨false,k,1⟩] (.ret (.tup [qA (fZ c n k),.bool true])):=by
 have v:=jc (x:=n) (by omega);have q:=jc (x:=k) (by omega);have t:=jc (x:=1) (by omega);have v1:=jg c (ae n) (ae 1) (by omega) (by omega);have g:=jg false (ae k) (ae 1) (by omega) (by omega);rw [Uc (Eb d)] at v1;rw [Uc (Eb (by simp))] at g;have m:=alK n 1 p (by omega);have j:=alK 1 k (by omega) f;have r:(ae (n*1)).length<=7:=jc (by omega);have u:(ae (1*k)).length<=7:=jc (by omega);have i:=pW c (n*1) (1*k) (by omega) (by omega) (by omega);rw [Θ,Xzu] at i;have e:(!(c==false))=c:=by cases c<;>rfl
 have h:=amP c n k (fZ c n k) (by rw [show (ae k== [])=false by simpa using acm o];rfl) v1 g m j;rw [e,Θ,Xzu] at h;exact h i
theorem adk (x:Nat) (o:x<1000000):CO 48 [ω (-((x:Int)+1))] (.ret (Oi true (x+1) 1)):=by
 have c:x<9223372036854775808:=by omega
 have k:=lQ x c;have e:=lQ 1 (by omega);have p:(ae x).length<=7:=bU (by omega);have n:(ae 1).length<=7:=bU (by omega);have f:=iE (ae x) 7 (by omega) (by omega) (by rw [aG];omega);have g:=iE (ae 1) 7 (by omega) (by omega) (by rw [aG];omega);rw [aG] at f g;have i:=aiJ (ae x) (ae 1) x 1 (x+1);rw [AX (by omega)] at i;have d:=i f g (lQ (x+1) (by omega));have h:=amr (-((x:Int)+1)) (x+1) x;have m:γ .i64 (-((x:Int)+1)+((1:Nat):Int))= -(x:Int):=by rw [bG]<;>omega
 have j:γ .i64 (0 - -(x:Int))=(x:Int):=by rw [bG]<;>omega
 rw [m,j] at h;exact h (by simp only [lit,Xqq];exact Yq1 (by omega)) k e d e
def lX (v:Int):RQ:=⟨decide (v<0),v.natAbs,1⟩
theorem jT (v:Int) (h: -1000000<=v) (c:v<=1000000):CO 48 [ω v] (.ret (qA (lX v))):=by
 by_cases h0:0<=v
 .obtain ⟨x,rfl⟩:∃ x:Nat,v=(x:Int):=⟨v.toNat,by omega⟩
  have:=IB x (by omega);unfold lX;rw [Yq1 (by omega),Xjr];exact this
 .obtain ⟨x,rfl⟩:∃ x:Nat,v= -((x:Int)+1):=⟨(-v - 1).toNat,by omega⟩
  have:=adk x (by omega);unfold lX;rw [Yq0 (by omega),show (-((x:Int)+1)).natAbs=x+1 by omega];exact this
abbrev Vay:Prop:=CO 48 [ω 1] (.ret (Ω false (ae 1) (ae 1)))
theorem ahL (xs:List Int) (nn:Bool) (k k1 k2 r:Nat) (ls:Int) (q w:RQ) (f:aH prog ap 97 [.ptr 0 0 0,ω 40] [(Va5 xs nn k)] (.ret (ω (r:Int))) [(Va5 xs nn k1)]) (g:CO 48 [ω (γ .i64 (ls+(r:Int)))] (Va6 q)) (c:aH prog ap 97 [.ptr 0 0 0,ω 4] [(Va5 xs nn k1)] (.ret (ω 0)) [(Va5 xs nn k2)]) (e:Vay) (d:CO 60 [.agg (Va0 q),Ω false (ae 1) (ae 1)] (Vaf w)):aH prog ap 147 [.ptr 0 0 0,ω ls] [(Va5 xs nn k)] (Va6 w) [(Va5 xs nn k2)]:=pK [] 0 0 (.n 11 .nil) (.c d (.c e (.c c (.c g (.c f .nil)))))
theorem ahM (xs:List Int) (nn:Bool) (k k1 k2 r:Nat) (ls:Int) (q w:RQ) (f:aH prog ap 97 [.ptr 0 0 0,ω 40] [(Va5 xs nn k)] (.ret (ω (r:Int))) [(Va5 xs nn k1)]) (g:CO 48 [ω (γ .i64 (ls+(r:Int)))] (Va6 q)) (c:aH prog ap 97 [.ptr 0 0 0,ω 4] [(Va5 xs nn k1)] (.ret (ω 1)) [(Va5 xs nn k2)]) (e:Vay) (d:CO 60 [.agg (Va0 q),Ω false (ae 1) (ae 1)] (Vaf w)):aH prog ap 147 [.ptr 0 0 0,ω ls] [(Va5 xs nn k)] (Va6 w) [(Va5 xs nn k2)]:=pK [] 0 0 (.n 11 .nil) (.c d (.c e (.c c (.c g (.c f .nil)))))
theorem ahN (xs:List Int) (nn:Bool) (k k1 k2 r:Nat) (ls:Int) (q w:RQ) (f:aH prog ap 97 [.ptr 0 0 0,ω 40] [(Va5 xs nn k)] (.ret (ω (r:Int))) [(Va5 xs nn k1)]) (g:CO 48 [ω (γ .i64 (ls+(r:Int)))] (Va6 q)) (c:aH prog ap 97 [.ptr 0 0 0,ω 4] [(Va5 xs nn k1)] (.ret (ω 2)) [(Va5 xs nn k2)]) (e:CO 48 [ω 2] (.ret (Ω false (ae 2) (ae 1)))) (d:CO 60 [.agg (Va0 q),Ω false (ae 2) (ae 1)] (Vaf w)):aH prog ap 147 [.ptr 0 0 0,ω ls] [(Va5 xs nn k)] (Va6 w) [(Va5 xs nn k2)]:=pK [] 0 0 (.n 11 .nil) (.c d (.c e (.c c (.c g (.c f .nil)))))
theorem ahO (xs:List Int) (nn:Bool) (k k1 k2 r:Nat) (ls:Int) (q w:RQ) (f:aH prog ap 97 [.ptr 0 0 0,ω 40] [(Va5 xs nn k)] (.ret (ω (r:Int))) [(Va5 xs nn k1)]) (g:CO 48 [ω (γ .i64 (ls+(r:Int)))] (Va6 q)) (c:aH prog ap 97 [.ptr 0 0 0,ω 4] [(Va5 xs nn k1)] (.ret (ω 3)) [(Va5 xs nn k2)]) (e:CO 48 [ω 10] (.ret (Ω false (ae 10) (ae 1)))) (d:CO 60 [.agg (Va0 q),Ω false (ae 10) (ae 1)] (Vaf w)):aH prog ap 147 [.ptr 0 0 0,ω ls] [(Va5 xs nn k)] (Va6 w) [(Va5 xs nn k2)]:=pK [] 0 0 (.n 11 .nil) (.c d (.c e (.c c (.c g (.c f .nil)))))
theorem yE (c:Bool) (n d:Nat):(fZ c n d).n<=n/\(fZ c n d).d<=d:=⟨Xjn _ _,Xjn _ _⟩
theorem wo (xs:List Int) (nn:Bool) (k:Nat) (A:xs.length<2^63) (D:k<=xs.length) (ls:Int) (G: -8<=ls) (E:ls<=1):∃ (w:RQ) (k':Nat),k'<=xs.length/\w.ok/\w.n<64/\w.d<64/\(ls=1->w.neg=false/\0<w.n)/\aH prog ap 147 [.ptr 0 0 0,ω ls] [dB xs nn k] (.ret (qA w)) [dB xs nn k']:=by
 obtain ⟨r,k1,H,v,p⟩:=dH xs nn k 40 A D (by omega) (by omega);obtain ⟨s,k2,hs,e,o⟩:=dH xs nn k1 4 A v (by omega) (by omega);have m:γ .i64 (ls+(r:Int))=ls+(r:Int):=bG (by omega) (by omega);have n:=jT (ls+(r:Int)) (by omega) (by omega);rw [<- m] at n;have c:(lX (ls+(r:Int))).neg=true->0<(lX (ls+(r:Int))).n:=by
  intro h;simp only [lX,decide_eq_true_eq] at h ⊢;omega
 have y:(lX (ls+(r:Int))).d=1:=rfl;have I:(lX (ls+(r:Int))).n<64:=by simp only [lX];omega
 have hp:ls=1->(lX (ls+(r:Int))).neg=false/\0<(lX (ls+(r:Int))).n:=by
  intro h;simp only [lX,decide_eq_false_iff_not];omega
 rw [m] at n;generalize lX (ls+(r:Int))=q at*
 have t:∀ d,0<d->d<64->(fZ q.neg q.n d).ok/\(fZ q.neg q.n d).n<64/\(fZ q.neg q.n d).d<64/\(ls=1->(fZ q.neg q.n d).neg=false/\0<(fZ q.neg q.n d).n):=by
  intro d hd B;have F:=yE q.neg q.n d;refine ⟨mX hd,by omega,by omega,λh=> ?_⟩;obtain ⟨C,z⟩:=hp h;refine ⟨by simp [fZ,C], ?_⟩;exact Nat.div_pos (Nat.gcd_le_left _ z) (Nat.gcd_pos_of_pos_left _ z)
 have u:qA q=qA ⟨q.neg,q.n,1⟩:=by unfold qA;rw [y]
 have this:s=0\/s=1\/s=2\/s=3:=by omega
 rcases this with rfl|rfl|rfl|rfl
 .obtain ⟨g,i,j,f⟩:=t 1 (by omega) (by omega);exact ⟨_,k2,e,g,i,j,f,ahL xs nn k k1 k2 r ls q _ p (by rw [m];exact n) o (jT 1 (by decide) (by decide)) (by have h:=Oc q.neg q.n 1 c (by omega) (by omega) (by omega);rw [<- u] at h;exact h)⟩
 .obtain ⟨g,i,j,f⟩:=t 1 (by omega) (by omega);exact ⟨_,k2,e,g,i,j,f,ahM xs nn k k1 k2 r ls q _ p (by rw [m];exact n) o (jT 1 (by decide) (by decide)) (by have h:=Oc q.neg q.n 1 c (by omega) (by omega) (by omega);rw [<- u] at h;exact h)⟩
 .obtain ⟨g,i,j,f⟩:=t 2 (by omega) (by omega);exact ⟨_,k2,e,g,i,j,f,ahN xs nn k k1 k2 r ls q _ p (by rw [m];exact n) o (jT 2 (by decide) (by decide)) (by have h:=Oc q.neg q.n 2 c (by omega) (by omega) (by omega);rw [<- u] at h;exact h)⟩
 .obtain ⟨g,i,j,f⟩:=t 10 (by omega) (by omega);exact ⟨_,k2,e,g,i,j,f,ahO xs nn k k1 k2 r ls q _ p (by rw [m];exact n) o (jT 10 (by decide) (by decide)) (by have h:=Oc q.neg q.n 10 c (by omega) (by omega) (by omega);rw [<- u] at h;exact h)⟩
abbrev Vag (a:RQ) (b:RQ):List AV:=[.agg (Va0 a),.agg (Va0 b)]
theorem amI (a s r:RQ) (x y:List UInt8) (f:CO 98 (VaO a) (Va6 a)) (g:CO 98 (VaO s) (Va6 s)) (c:CO 100 [.str (ae a.n),.str (ae s.n)] (.ret (.str x))) (e:CO 100 [.str (ae a.d),.str (ae s.d)] (.ret (.str y))) (d:CO 99 [.bool (!(a.neg==s.neg)),.str x,.str y] (Va6 r)):CO 89 (Vag a s) (Va6 r):=pK [] 0 0 (.n 18 .nil) (.c d (.c e (.c c (.c g (.c f .nil)))))
theorem alI (r:RQ) (x y:List UInt8) (b:Bool) (c:lit false (y== [])=true) (e:CO 179 [.str x] VaC) (f:CO 179 [.str y] VaC) (d:CO 99 [.bool b,.str x,.str y] (Va6 r)):CO 180 [.bool b,.str x,.str y] (Vaf r):=pK [] 3 0 (.k 4 c (.n 2 .nil)) (.c d (.c f (.c e .nil)))
abbrev VbP (a:RQ) (b:List UInt8) (c:List UInt8):Prop:=CO 150 [.str (ae a.n),.str (ae a.d)] (.ret (.tup [.str b,.str c,.bool true]))
theorem ak0 (a r f g:RQ) (x y z:List UInt8) (c:lit true (decide (((0:Nat):Int)<(((ζ y):Nat):Int)))=true) (j:lit true a.neg=true) (i:VbP a x y) (k:CO 79 [ω 1] (.ret (.str z))) (d:CO 180 [.bool a.neg,.str x,.str z] (Vaf f)) (h:CO 48 [ω 1] (Va6 g)) (e:CO 88 (Vag f g) (Va6 r)):CO 143 (VaO a) (Va6 r):=pK [] 2 3 (.k 11 c (.c j (.n 5 .nil))) (.c e (.c h (.c d (.c k (.c i .nil)))))
theorem ak1 (a f:RQ) (x y z:List UInt8) (c:lit false (decide (((0:Nat):Int)<(((ζ y):Nat):Int)))=true) (g:lit true a.neg=true) (e:VbP a x y) (h:CO 79 [ω 1] (.ret (.str z))) (d:CO 180 [.bool a.neg,.str x,.str z] (Vaf f)):CO 143 (VaO a) (Va6 f):=pK [] 2 1 (.k 7 c (.c g (.n 5 .nil))) (.c d (.c h (.c e .nil)))
theorem ak2 (a f:RQ) (x y z:List UInt8) (c:lit false a.neg=true) (e:VbP a x y) (g:CO 79 [ω 1] (.ret (.str z))) (d:CO 180 [.bool a.neg,.str x,.str z] (Vaf f)):CO 143 (VaO a) (Va6 f):=pK [] 2 0 (.k 8 c (.n 5 .nil)) (.c d (.c g (.c e .nil)))
theorem akf (a s q r f:RQ) (c:Int) (d:lit false (decide (c<=((0:Nat):Int)))=true) (i:CO 137 (VaO a) VaC) (k:CO 137 (VaO s) VaC) (e:CO 141 (VaO s) (Vaz c)) (j:CO 60 (Vag a s) (Vaf q)) (h:CO 143 (VaO q) (Va6 f)) (g:CO 89 (Vag f s) (Va6 r)):CO 91 (Vag a s) (Vaf r):=pK [] 3 0 (.k 17 d (.n 11 .nil)) (.c g (.c h (.c j (.c e (.c k (.c i .nil))))))
theorem aoM (a s p q r:RQ) (d:CO 137 (VaO a) VaC) (f:CO 142 (VaO a) (Va6 p)) (c:CO 91 (Vag p s) (Vaf q)) (e:CO 142 (VaO q) (Va6 r)):CO 92 (Vag a s) (Vaf r):=pK [] 2 0 (.n 19 .nil) (.c e (.c c (.c f (.c d .nil))))
theorem alN (a s p q r w:RQ) (f:CO 137 (VaO a) VaC) (h:CO 137 (VaO s) VaC) (d:CO 48 [ω 2] (Va6 w)) (g:CO 60 (Vag s w) (Vaf p)) (e:CO 62 (Vag a p) (Va6 q)) (c:CO 91 (Vag q s) (Vaf r)):CO 93 (Vag a s) (Vaf r):=pK [] 2 0 (.n 25 .nil) (.c c (.c e (.c g (.c d (.c h (.c f .nil))))))
theorem Y2 {a b:RQ} {L:Nat} (f:a.ok) (c:b.ok) (h:iM L a) (g:iM L b) (i:L<2^28):CO 89 [qA a,qA b] (.ret (qA (ja a b))):=by
 obtain ⟨m,j⟩:=h;obtain ⟨o,n⟩:=g;have e:=jg a.neg (ae a.n) (ae a.d) (by omega) (by omega);have d:=jg b.neg (ae b.n) (ae b.d) (by omega) (by omega);rw [fQ f] at e;rw [fQ c] at d;have p:=dW a.n b.n;have k:=dW a.d b.d;exact amI a b (ja a b) _ _ e d (GH a.n b.n (by omega) (by omega)) (GH a.d b.d (by omega) (by omega)) (pW _ _ _ (by omega) (by omega) (Nat.mul_pos f.1 c.1))
section
variable {a b:RQ} {L:Nat} (ha:a.ok) (hb:b.ok) (sa:iM L a) (sb:iM L b) (hL:L<2^28)
include ha hb sa sb hL
theorem YZ:CO 62 [qA a,qA b] (.ret (qA (gG a b))):=by
 obtain ⟨_,_,e,c⟩:=jA sa hL;obtain ⟨_,_,f,d⟩:=jA sb hL;have h:=La a.neg b.neg (ae a.n) (ae a.d) (ae b.n) (ae b.d) e c f d;rw [fQ ha,fQ hb] at h;exact h
theorem Ob:CO 88 [qA a,qA b] (.ret (qA (eU a b))):=by
 obtain ⟨_,_,e,c⟩:=jA sa hL;obtain ⟨f,d,_,_⟩:=jA sb hL;have h:=Tq a.neg b.neg (ae a.n) (ae a.d) (ae b.n) (ae b.d) e c f d;rw [fQ ha,fQ hb] at h;exact h
theorem ae4:CO 87 [qA a,qA b] (.ret (ω (iO a b))):=by
 obtain ⟨e,c,_,_⟩:=jA sa hL;obtain ⟨f,d,_,_⟩:=jA sb hL;have h:=Ti a.neg b.neg (ae a.n) (ae a.d) (ae b.n) (ae b.d) e c f d;rw [fQ ha,fQ hb] at h;exact h
theorem Y4 (c:0<b.n):CO 60 [qA a,qA b] (.ret (.tup [qA (fM a b),.bool true])):=by
 obtain ⟨_,_,f,d⟩:=jA sa hL;obtain ⟨_,_,g,e⟩:=jA sb hL;have h:=acQ a.neg b.neg (ae a.n) (ae a.d) (ae b.n) (ae b.d) f d g e (by rw [fQ hb];exact c);rw [fQ ha,fQ hb] at h;exact h
omit ha in
theorem amN (c:b.n=0):CO 60 [qA a,qA b] (.ret (.tup [Ω false [] [],.bool false])):=by
 obtain ⟨_,_,f,d⟩:=jA sa hL;obtain ⟨_,_,g,e⟩:=jA sb hL;exact acP a.neg b.neg (ae a.n) (ae a.d) (ae b.n) (ae b.d) f d g e (by rw [fQ hb];exact c)
end
section
variable {a:RQ} {L:Nat} (ha:a.ok) (sa:iM L a) (hL:L<2^28)
include ha sa hL
theorem ae5:CO 142 [qA a] (.ret (qA (lJ a))):=by
 obtain ⟨c,d,_,_⟩:=jA sa hL;have h:=Tn a.neg (ae a.n) (ae a.d) (by omega) (by omega);rw [fQ ha] at h;exact h
theorem xk:CO 137 [qA a] (.ret (.bool true)):=by
 obtain ⟨c,d,_,_⟩:=jA sa hL;have h:=pX a.neg (ae a.n) (ae a.d) (by omega) (by omega);rw [pI a ha] at h;exact h
theorem Lc:CO 141 [qA a] (.ret (ω (jk a))):=by
 obtain ⟨c,d,_,_⟩:=jA sa hL;exact ae6 a ha (by omega) (by omega)
theorem Y0:CO 81 [qA a] (.ret (.bool (iP a))):=by
 obtain ⟨c,d,_,_⟩:=jA sa hL;have h:=mM a.neg (ae a.n) (ae a.d) (by omega) (by omega);rw [su ha] at h;exact h
end
theorem KG (c:Bool) (x:Nat):fZ c x 1=⟨c && decide (0<x),x,1⟩:=by
 unfold fZ;rw [Nat.gcd_one_right,Xz3,Xz3]
theorem ahn (x:Nat):nR (ae x)=true:=(nX _).2 (by rw [aG])
theorem Y1 (c:Bool) (x:Nat) (f:(ae x).length<2^28):CO 180 [.bool c,.str (ae x),.str (ae 1)] (.ret (.tup [qA (fZ c x 1),.bool true])):=by
 have e:=Lr (ae x);have d:=Lr (ae 1);rw [ahn] at e d;have g:(ae 1).length<=1:=bU (by decide);exact alI (fZ c x 1) (ae x) (ae 1) c (by rw [show (ae 1== [])=false from by rw [Yq2];intro h;rw [fC] at h;omega];rfl) e d (pW c x 1 (by omega) (by omega) (by decide))
theorem abC {q:RQ}:(oC q).natAbs<=q.n / q.d+1:=by
 unfold oC;split
 .rw [Xvr,Xjr];split<;>omega
 .rw [Xjr];omega
theorem X8 (x:Nat):ku (x:Int)=⟨false,x,1⟩:=by
 unfold ku;rw [Xjr,Yq1 (by omega)]
theorem X9 (x:Nat):ku (-(x:Int))=⟨decide (0<x),x,1⟩:=by
 unfold ku;rw [Xvr,Xjr];congr 2;apply propext;omega
theorem afc {L:Nat} {q:RQ} (h:iM L q):iM (L+2) (ku (oC q)):=by
 have c:=abC (q:=q);have d:=lH c;have g:=wX (q.n / q.d) 1;have i:=lH (Xjn q.n q.d);have f:(ae 1).length<=1:=bU (by decide);have e:=h.1;exact ⟨by show (ae (oC q).natAbs).length<=_;omega,by show (ae 1).length<=_;omega⟩
theorem Vx {q:RQ} {L:Nat} (m:q.ok) (sq:iM L q) (v:L<2^20):CO 143 [qA q] (.ret (qA (ku (oC q)))):=by
 obtain ⟨y,u⟩:=sq;have i:=Ei (ae q.n) (ae q.d) (by omega) (by omega) (by rw [aG];exact m.1);rw [aG,aG] at i;have j:=lQ 1 (by decide);have w:=lH (Xjn q.n q.d);have g:=Y1 q.neg (q.n / q.d) (by omega);cases f:q.neg with
 | false=>
  have e:fZ q.neg (q.n / q.d) 1=ku (oC q):=by
   rw [KG];unfold oC;rw [f,if_neg (by simp),X8];rfl
  rw [e] at g;exact ak2 q (ku (oC q)) _ _ _ (aB f) i j g
 | true=>
  by_cases hr:q.n % q.d=0
  .have e:fZ q.neg (q.n / q.d) 1=ku (oC q):=by
    rw [KG];unfold oC;rw [f,if_pos rfl,if_pos hr,Xq1,X9];rfl
   rw [e] at g;exact ak1 q (ku (oC q)) _ _ _ (aB (Yq1 (by rw [hr,dC];simp))) (aA f) i j g
  .have n:=jT 1 (by decide) (by decide);have d:(fZ q.neg (q.n / q.d) 1).ok:=mX (by decide);have c:(lX 1).ok:=qJ 1;have r:iM (L+2) (fZ q.neg (q.n / q.d) 1):=by rw [KG];exact ⟨by show (ae (q.n / q.d)).length<=_;omega,by show (ae 1).length<=_;have:(ae 1).length<=1:=bU (by decide);omega⟩
   have o:iM (L+2) (lX 1):=⟨by show (ae 1).length<=_;have:(ae 1).length<=1:=bU (by decide);omega,by show (ae 1).length<=_;have:(ae 1).length<=1:=bU (by decide);omega⟩
   have k:=Ob d c r o (by omega);have e:eU (fZ q.neg (q.n / q.d) 1) (lX 1)=ku (oC q):=by
    refine rD (iF d c) (qJ _) ?_;rw [LC d c,Ls,yQ _ _ _ (by decide)];have t:(lX 1).rt=((1:Int):Rat):=Ls 1;rw [t,f,if_pos rfl];have p:oC q= -((q.n / q.d+1:Nat):Int):=by unfold oC;rw [f,if_pos rfl,if_neg hr]
    rw [p,Rat.intCast_neg,Rat.intCast_natCast,Rat.natCast_add];simp only [show ((1:Nat):Rat)=1 from rfl,show ((1:Int):Rat)=1 from rfl];grind
   rw [e] at k;refine ak0 q (ku (oC q)) (fZ q.neg (q.n / q.d) 1) (lX 1) _ _ _ (aA (Yq0 ?_)) (aA f) i j g n k;have:ae (q.n % q.d) ≠ []:=by intro h;rw [fC] at h;exact hr h
   have:=List.length_pos_iff.2 this;omega
section
variable {a s:RQ} {L:Nat} (ha:a.ok) (hs:s.ok) (sa:iM L a) (ss:iM L s) (hL:L<2^16) (hp:0<jk s)
include ha hs sa ss hL hp
theorem GL:CO 91 [qA a,qA s] (.ret (.tup [qA (xG a s),.bool true])):=by
 have c:=(GY hs hp).2;have e:=qL ha c;have d:=Cm sa ss;have f:=afc d;exact akf a s (fM a s) (xG a s) (ku (oC (fM a s))) (jk s) (aB (Yq1 (by omega))) (xk ha sa (by omega)) (xk hs ss (by omega)) (Lc hs ss (by omega)) (Y4 ha hs sa ss (by omega) c) (Vx e d (by omega)) (Y2 (qJ _) hs f (ss.mono (by omega)) (by omega))
theorem aiI:CO 92 [qA a,qA s] (.ret (.tup [qA (upR a s),.bool true])):=by
 have g:=(GY hs hp).2;have f:=qZ ha;have c:=ZL sa;have d:iM (2*(2*L+2)) (xG (lJ a) s):=Cj (afc (Cm c ss)) (ss.mono (by omega));have e:=jC (a:=lJ a) hs;rw [<- aoL ha hs hp];exact aoM a s (lJ a) (xG (lJ a) s) _ (xk ha sa (by omega)) (ae5 ha sa (by omega)) (GL f hs c ss hL hp) (ae5 e d (by omega))
end
theorem Zg {a s:RQ} {L:Nat} (d:a.ok) (hs:s.ok) (e:iM L a) (c:iM L s) (k:L<2^12) (n:1<=L) (hp:0<jk s):CO 93 [qA a,qA s] (.ret (.tup [qA (nrR a s),.bool true])):=by
 have k2:(ku 2).ok:=qJ 2;have m:(ae 1).length<=1:=bU (by decide);have j:(ae 2).length<=1:=bU (by decide);have h:iM L (ku 2):=⟨by show (ae 2).length<=_;omega,by show (ae 1).length<=_;omega⟩
 have g:=qL (b:=ku 2) hs (by decide);have f:=Cm c h;have i:=yU (e.mono (show L<=2*L by omega)) f;rw [<- alQ d hs hp];exact alN a s (fM s (ku 2)) (gG a (fM s (ku 2))) _ (ku 2) (xk d e (by omega)) (xk hs c (by omega)) (jT 2 (by decide) (by decide)) (Y4 hs k2 c h (by omega) (by decide)) (YZ d g (e.mono (by omega)) f (by omega)) (GL (eX d g) hs i (c.mono (by omega)) (by omega) hp)
abbrev Vav (a:RQ × RQ):List AV:=[.bool a.1.neg,.str (ae a.1.n),.str (ae a.1.d)]
abbrev Vbn (a:List (RQ × RQ)) (b:Bool) (c:Nat) (d:RQ):List AV:=[.sl (lV a) a.length b,ω (c:Int),.agg (Va0 d)]
theorem ame (l:List (RQ × RQ)) (nn:Bool) (k:Nat) (b d:RQ × RQ) (x p z:RQ) (c g:Int) (n h:List AV) (q:Vbi k l b n) (e:(ε ((δ ((k+1:Nat):Int))*6) (lV l))=DN d++h) (f:Va7 k) (o:lit true (VaX g)=true) (r:Va4 k) (m:VaS k l) (i:Vby k) (j:(VaM k l)=true) (v:lit true (VaX c)=true) (u:lit true (VaM k l)=true) (y:CO 87 [.agg (Vav d),.agg (Va0 x)] (Vaz c)) (t:CO 88 [.agg (Vav d),.agg (Vav b)] (Va6 p)) (w:CO 141 (VaO p) (Vaz g)) (A:CO 48 [ω 0] (Va6 z)):CO 207 (Vbn l nn k x) (Va6 z):=pK [] 3 7 (.k 4 o (.k 7 r (.c m (.k 7 i (.c j (.c v (.k 6 i (.c j (.c u (.n 4 .nil)))))))))) (.c A (.c w (.c t (.v 35 (.ppt q) (.v 29 (.ppt e) (.v 28 (.eq f) (.c y (.v 19 (.ppt e) (.v 18 (.eq f) (.v 11 (.eq f) .nil))))))))))
theorem amf (l:List (RQ × RQ)) (nn:Bool) (k:Nat) (b d:RQ × RQ) (x p:RQ) (c g:Int) (n h:List AV) (q:Vbi k l b n) (e:(ε ((δ ((k+1:Nat):Int))*6) (lV l))=DN d++h) (f:Va7 k) (o:lit false (VaX g)=true) (r:Va4 k) (m:VaS k l) (i:Vby k) (j:(VaM k l)=true) (v:lit true (VaX c)=true) (u:lit true (VaM k l)=true) (y:CO 87 [.agg (Vav d),.agg (Va0 x)] (Vaz c)) (t:CO 88 [.agg (Vav d),.agg (Vav b)] (Va6 p)) (w:CO 141 (VaO p) (Vaz g)):CO 207 (Vbn l nn k x) (Va6 p):=pK [] 3 3 (.k 7 o (.k 7 r (.c m (.k 7 i (.c j (.c v (.k 6 i (.c j (.c u (.n 4 .nil)))))))))) (.c w (.c t (.v 35 (.ppt q) (.v 29 (.ppt e) (.v 28 (.eq f) (.c y (.v 19 (.ppt e) (.v 18 (.eq f) (.v 11 (.eq f) .nil)))))))))
theorem amg (l:List (RQ × RQ)) (nn:Bool) (k:Nat) (b d:RQ × RQ) (x p z:RQ) (c g:Int) (j e:List AV) (n:Vbi k l b j) (f:(ε ((δ ((k+1:Nat):Int))*6) (lV l))=DN d++e) (h:Va7 k) (m:lit true (VaX g)=true) (q:Va4 k) (i:VaS k l) (o:lit false (VaX c)=true) (r:Vby k) (v:(VaM k l)=true) (u:lit true (VaM k l)=true) (y:CO 87 [.agg (Vav d),.agg (Va0 x)] (Vaz c)) (t:CO 88 [.agg (Va0 x),.agg (Vav b)] (Va6 p)) (w:CO 141 (VaO p) (Vaz g)) (A:CO 48 [ω 0] (Va6 z)):CO 207 (Vbn l nn k x) (Va6 z):=pK [] 3 5 (.k 4 m (.k 7 q (.c i (.k 3 o (.k 6 r (.c v (.c u (.n 4 .nil)))))))) (.c A (.c w (.c t (.v 35 (.ppt n) (.c y (.v 19 (.ppt f) (.v 18 (.eq h) (.v 11 (.eq h) .nil))))))))
theorem amh (l:List (RQ × RQ)) (nn:Bool) (k:Nat) (b d:RQ × RQ) (x p:RQ) (c g:Int) (j e:List AV) (n:Vbi k l b j) (f:(ε ((δ ((k+1:Nat):Int))*6) (lV l))=DN d++e) (h:Va7 k) (m:lit false (VaX g)=true) (q:Va4 k) (i:VaS k l) (o:lit false (VaX c)=true) (r:Vby k) (v:(VaM k l)=true) (u:lit true (VaM k l)=true) (y:CO 87 [.agg (Vav d),.agg (Va0 x)] (Vaz c)) (t:CO 88 [.agg (Va0 x),.agg (Vav b)] (Va6 p)) (w:CO 141 (VaO p) (Vaz g)):CO 207 (Vbn l nn k x) (Va6 p):=pK [] 3 1 (.k 7 m (.k 7 q (.c i (.k 3 o (.k 6 r (.c v (.c u (.n 4 .nil)))))))) (.c w (.c t (.v 35 (.ppt n) (.c y (.v 19 (.ppt f) (.v 18 (.eq h) (.v 11 (.eq h) .nil)))))))
theorem ami (l:List (RQ × RQ)) (nn:Bool) (k:Nat) (b:RQ × RQ) (x p z:RQ) (g:Int) (d:List AV) (i:Vbi k l b d) (e:Va7 k) (f:lit true (VaX g)=true) (n:Va4 k) (c:VaS k l) (j:lit false (VaM k l)=true) (m:CO 88 [.agg (Va0 x),.agg (Vav b)] (Va6 p)) (o:CO 141 (VaO p) (Vaz g)) (h:CO 48 [ω 0] (Va6 z)):CO 207 (Vbn l nn k x) (Va6 z):=pK [] 3 4 (.k 4 f (.k 7 n (.c c (.k 4 j (.n 4 .nil))))) (.c h (.c o (.c m (.v 35 (.ppt i) (.v 11 (.eq e) .nil)))))
theorem amj (l:List (RQ × RQ)) (nn:Bool) (k:Nat) (b:RQ × RQ) (x p:RQ) (g:Int) (d:List AV) (h:Vbi k l b d) (e:Va7 k) (f:lit false (VaX g)=true) (m:Va4 k) (c:VaS k l) (i:lit false (VaM k l)=true) (j:CO 88 [.agg (Va0 x),.agg (Vav b)] (Va6 p)) (n:CO 141 (VaO p) (Vaz g)):CO 207 (Vbn l nn k x) (Va6 p):=pK [] 3 0 (.k 7 f (.k 7 m (.c c (.k 4 i (.n 4 .nil))))) (.c n (.c j (.v 35 (.ppt h) (.v 11 (.eq e) .nil))))
abbrev Vaq (a:List UInt8) (b:Int) (c:Int) (d:List (RQ × RQ)) (e:Bool) (f:RQ) (g:RQ):Hp:=[(0,⟨[.str a,ω b,ω c,.sl (lV d) d.length e],0,false,0,0,true⟩),(1,⟨(Va0 f),0,false,0,0,true⟩),(2,⟨[.bool false,.str [],.str []],0,false,0,0,true⟩),(3,⟨(Va0 g),0,false,0,0,true⟩)]
theorem aoO (nm:List UInt8) (u1 u2:Int) (l:List (RQ × RQ)) (nn:Bool) (k:Nat) (b:RQ × RQ) (x p z a f:RQ) (d:List AV) {nt:Nat} (o:30<=nt) (h:Vbi k l b d) (e:Va7 k) (g:Va4 k) (i:VaS k l) (c:lit true (decide ((k:Int)<(l.length:Int)))=true) (n:CO 207 (Vbn l nn k x) (Va6 p)) (j:CO 89 [.agg [.bool b.2.neg,.str (ae b.2.n),.str (ae b.2.d)],.agg (Va0 p)] (Va6 z)) (m:CO 62 (Vag a z) (Va6 f)):ψ nt f182 ⟨[(2,.ptr 0 0 0),(3,.ptr 1 0 0),(4,.ptr 2 0 0),(5,.ptr 3 0 0),(6,ω (k:Int))],(Vaq nm u1 u2 l nn x a),.dead,[]⟩ (.normal) ⟨[(2,.ptr 0 0 0),(3,.ptr 1 0 0),(4,.ptr 2 0 0),(5,.ptr 3 0 0),(6,ω ((k+1:Nat):Int))],(Vaq nm u1 u2 l nn x f),.dead,[]⟩:=pN 182 [] 1 1 (.k 8 g (.c i (.k 4 c (.n 1 .nil)))) (.v 14 (.eq e) (.c m (.c j (.c n (.v 19 (.ppt h) .nil))))) o
abbrev Vbu (a:RQ):St:=⟨[(4,.ptr 0 0 0),(5,.ptr 1 0 0)],[(0,⟨[.bool false,.str [],.str []],0,false,0,0,true⟩),(1,⟨(Va0 a),0,false,0,0,true⟩)],.dead,[]⟩
theorem aoP (nm:List UInt8) (u1 u2:Int) (l:List (RQ × RQ)) (nn:Bool) (k:Nat) (x a:RQ) {nt:Nat} (d:30<=nt) (c:lit false (decide ((k:Int)<(l.length:Int)))=true):ψ nt f182 ⟨[(2,.ptr 0 0 0),(3,.ptr 1 0 0),(4,.ptr 2 0 0),(5,.ptr 3 0 0),(6,ω (k:Int))],(Vaq nm u1 u2 l nn x a),.dead,[]⟩ (.exit 0) (Vbu a):=pN 182 [] 1 0 (.c c (.n 1 .nil)) (.nil) d
theorem aoN (nm:List UInt8) (u1 u2:Int) (l:List (RQ × RQ)) (nn:Bool) (x a f:RQ) (c:CO 48 [ω 0] (Va6 a)) (d:aK prog ap [] 30 (.block 0 (.loop (af 0 (ah f182)))) ⟨[(0,.agg [.str nm,ω u1,ω u2,.sl (lV l) l.length nn]),(1,.agg (Va0 x)),(2,.ptr 0 0 0),(3,.ptr 1 0 0),(4,.ptr 2 0 0),(5,.ptr 3 0 0),(6,ω 0),(12,.dead)],(Vaq nm u1 u2 l nn x a),.dead,[]⟩ (.normal) (Vbu f)):CO 182 [.agg [.str nm,ω u1,ω u2,.sl (lV l) l.length nn],.agg (Va0 x)] (Va6 f):=pK [0] 0 0 (.n 8 .nil) (.l d (.c c .nil))
abbrev Vbb (a:List UInt8) (b:Int) (c:Int) (d:List AV) (e:Nat) (f:Bool) (g:RQ):List AV:=[.agg [.str a,ω b,ω c,.sl d e f],.agg (Va0 g)]
theorem ajr (nm:List UInt8) (u1 u2:Int) (nn:Bool) (x:RQ) (c:Int) (d:List AV) (e:Nat) (f:lit true (!(c==((0:Nat):Int)))=true) (g:CO 206 [.agg [.str nm,ω u1,ω u2,.sl d e nn]] (Vaz c)):CO 181 (Vbb nm u1 u2 d e nn x) (Vaz c):=pK [] 1 1 (.c f (.n 4 .nil)) (.c g .nil)
theorem ajs (nm:List UInt8) (u1 u2:Int) (nn:Bool) (x:RQ) (c:Int) (d:List AV) (e:Nat) (f:lit false (!(c==((0:Nat):Int)))=true) (h:CO 206 [.agg [.str nm,ω u1,ω u2,.sl d e nn]] (Vaz c)) (i:CO 137 (VaO x) VaC) (g:CO 81 (VaO x) VaC):CO 181 (Vbb nm u1 u2 d e nn x) (.ret (ω 0)):=pK [] 3 0 (.k 8 f (.n 4 .nil)) (.c g (.c i (.c h .nil)))
theorem ajF (nm:List UInt8) (u1 u2:Int) (nn:Bool) (x:RQ) (c:Int) (d:List AV) (e:Nat) (f:lit true (!(c==((0:Nat):Int)))=true) (g:CO 181 (Vbb nm u1 u2 d e nn x) (Vaz c)):CO 144 (Vbb nm u1 u2 d e nn x) (.ret (.tup [Ω false [] [],ω c])):=pK [] 1 1 (.k 4 f (.n 7 .nil)) (.c g .nil)
theorem ajG (nm:List UInt8) (u1 u2:Int) (nn:Bool) (x p:RQ) (c:Int) (d:List AV) (e:Nat) (f:Bool) (g:lit true (!f)=true) (j:lit false (!(c==((0:Nat):Int)))=true) (i:CO 181 (Vbb nm u1 u2 d e nn x) (Vaz c)) (k:CO 182 (Vbb nm u1 u2 d e nn x) (Va6 p)) (h:CO 81 (VaO p) (.ret (.bool f))):CO 144 (Vbb nm u1 u2 d e nn x) (.ret (.tup [Ω false [] [],ω 3])):=pK [] 2 2 (.k 4 g (.k 11 j (.n 7 .nil))) (.c h (.c k (.c i .nil)))
theorem ajH (nm:List UInt8) (u1 u2:Int) (nn:Bool) (x p:RQ) (c:Int) (d:List AV) (e:Nat) (f:Bool) (g:lit false (!f)=true) (j:lit false (!(c==((0:Nat):Int)))=true) (i:CO 181 (Vbb nm u1 u2 d e nn x) (Vaz c)) (k:CO 182 (Vbb nm u1 u2 d e nn x) (Va6 p)) (h:CO 81 (VaO p) (.ret (.bool f))):CO 144 (Vbb nm u1 u2 d e nn x) (.ret (.tup [.agg (Va0 p),ω 0])):=pK [] 2 0 (.k 7 g (.k 11 j (.n 7 .nil))) (.c h (.c k (.c i .nil)))
abbrev aob (nm:List UInt8) (u1 u2:Int) (l:List (RQ × RQ)) (nn:Bool):AV:= .agg [.str nm,ω u1,ω u2,.sl (lV l) l.length nn]
section
variable (nm:List UInt8) (u1 u2:Int) {l:List (RQ × RQ)} (nn:Bool) (hR:Wq l) {x:RQ} (hx:x.ok) (fx:iP x=true)
include hR hx fx
theorem Y3 (k:Nat) (f:k<l.length):CO 207 [.sl (lV l) l.length nn,ω (k:Int),qA x] (.ret (qA (nO l[k].1 ((l.drop (k+1)).head?.map (·.1)) x)))/\(nO l[k].1 ((l.drop (k+1)).head?.map (·.1)) x).ok/\iM 205 (nO l[k].1 ((l.drop (k+1)).head?.map (·.1)) x):=by
 have y:=hR.len;have u:=Xxp f;have i:=hR.ok _ u;have j:=hR.fit _ u;have n:iM 51 x:=a_ fx;have w:ω (γ .i64 ((k:Int)+((1:Nat):Int)))=ω ((k+1:Nat):Int):=xE (by omega);have g:(decide (((0:Nat):Int)<=(k:Int)))=true:=Yq0 (by omega);have m:(decide ((k:Int)<(l.length:Int)))=true:=Yq0 (by omega);have lt:∀ {b:Bool} {p:RQ},decide (jk p<0)=b->lit b (decide (jk p<((0:Nat):Int)))=true:=λh=>by
  rw [show decide (jk _<((0:Nat):Int))=_ from h];cases ‹Bool› <;>rfl
 have d:∀ {p:RQ},p.ok->iM 205 p->(if jk p<0 then q0 else p).ok/\iM 205 (if jk p<0 then q0 else p):=λA z=>by
  split
  .exact ⟨vX,Xxg (bU (x:=0) (k:=1) (by decide)) (by decide),Xxg (bU (x:=1) (k:=1) (by decide)) (by decide)⟩
  .exact ⟨A,z⟩
 by_cases h:k+1<l.length
 .have o:=Xxp h;have r:=hR.ok _ o;have t:=hR.fit _ o;have e:(l.drop (k+1)).head?.map (·.1)=some l[k+1].1:=by rw [List.drop_eq_getElem_cons h];rfl
  have q:=ae4 r.1 hx (a_ t.1) n (by decide);have u1:(decide (((0:Nat):Int)<=((k+1:Nat):Int)))=true:=Yq0 (by omega);have u2:(decide (((k+1:Nat):Int)<(l.length:Int)))=true:=Yq0 (by omega);rw [e];unfold nO;simp only;by_cases hlt:iO l[k+1].1 x<0
  .rw [if_pos hlt];have hs:=Ob r.1 i.1 (a_ t.1) (a_ j.1) (by decide);have k1:=iF r.1 i.1;have k2:iM 205 (eU l[k+1].1 l[k].1):=yV (L:=51) (a_ t.1) (a_ j.1);refine ⟨?_,d k1 k2⟩;have c:=Lc k1 k2 (by decide);by_cases h0:jk (eU l[k+1].1 l[k].1)<0
   .rw [if_pos h0];exact ame l nn k _ _ x _ q0 _ _ _ _ (gK f) (gK h) w (aA (Yq0 h0)) g m u1 u2 (aA (Yq0 hlt)) (aA u2) q hs c vZ
   .rw [if_neg h0];exact amf l nn k _ _ x _ _ _ _ _ (gK f) (gK h) w (aB (Yq1 h0)) g m u1 u2 (aA (Yq0 hlt)) (aA u2) q hs c
  .rw [if_neg hlt];have hs:=Ob hx i.1 n (a_ j.1) (by decide);have k1:=iF hx i.1;have k2:iM 205 (eU x l[k].1):=yV (L:=51) n (a_ j.1);refine ⟨?_,d k1 k2⟩;have c:=Lc k1 k2 (by decide);by_cases h0:jk (eU x l[k].1)<0
   .rw [if_pos h0];exact amg l nn k _ _ x _ q0 _ _ _ _ (gK f) (gK h) w (aA (Yq0 h0)) g m (aB (Yq1 hlt)) u1 u2 (aA u2) q hs c vZ
   .rw [if_neg h0];exact amh l nn k _ _ x _ _ _ _ _ (gK f) (gK h) w (aB (Yq1 h0)) g m (aB (Yq1 hlt)) u1 u2 (aA u2) q hs c
 .have e:(l.drop (k+1)).head?.map (·.1)=none:=by rw [Xxv (by omega)];rfl
  rw [e];unfold nO;simp only;have hs:=Ob hx i.1 n (a_ j.1) (by decide);have k1:=iF hx i.1;have k2:iM 205 (eU x l[k].1):=yV (L:=51) n (a_ j.1);refine ⟨?_,d k1 k2⟩;have c:=Lc k1 k2 (by decide);have v:lit false (decide (((k+1:Nat):Int)<(l.length:Int)))=true:=aB (Yq1 (by omega));by_cases h0:jk (eU x l[k].1)<0
  .rw [if_pos h0];exact ami l nn k _ x _ q0 _ _ (gK f) w (aA (Yq0 h0)) g m v hs c vZ
  .rw [if_neg h0];exact amj l nn k _ x _ _ _ (gK f) w (aB (Yq1 h0)) g m v hs c
abbrev vlS (nm:List UInt8) (u1 u2:Int) (l:List (RQ × RQ)) (nn:Bool) (x:RQ) (p:Nat × RQ):St:=⟨[(2,.ptr 0 0 0),(3,.ptr 1 0 0),(4,.ptr 2 0 0),(5,.ptr 3 0 0),(6,ω (p.1:Int))],[(0,⟨[.str nm,ω u1,ω u2,.sl (lV l) l.length nn],0,false,0,0,true⟩),(1,⟨[.bool x.neg,.str (ae x.n),.str (ae x.d)],0,false,0,0,true⟩),(2,⟨[.bool false,.str [],.str []],0,false,0,0,true⟩),(3,⟨[.bool p.2.neg,.str (ae p.2.n),.str (ae p.2.d)],0,false,0,0,true⟩)],.dead,[]⟩
abbrev vlO (a:RQ):St:=⟨[(4,.ptr 0 0 0),(5,.ptr 1 0 0)],[(0,⟨[.bool false,.str [],.str []],0,false,0,0,true⟩),(1,⟨[.bool a.neg,.str (ae a.n),.str (ae a.d)],0,false,0,0,true⟩)],.dead,[]⟩
theorem aex {nt:Nat} (A:30<=nt):∀ (r p:List (RQ × RQ)) (c:RQ),l=p++r->c.ok->iM (410*5^p.length) c->
  az prog ap [] nt (af 0 (ah f182)) (λ_=> .exit 0) (vlS nm u1 u2 l nn x) vlO (p.length,c) (xM c r x)/\(xM c r x).ok/\iM (410*5^8) (xM c r x):=by
 intro r
 induction r with
 |nil=>
  intro p c d g hs;have:=hR.len;exact ⟨.done (aoP nm u1 u2 l nn p.length x c A (aB (Yq1 (by rw [d];simp)))),g,hs.mono (Xqx 410 (Xqc (by decide) (by rw [d] at this;simp at this;omega)))⟩
 |cons b r ih=>
  intro p c d g hs;have u:=hR.len;have f:p.length<l.length:=by rw [d];simp
  have w:l[p.length]=b:=by subst d;simp
  have D:l.drop (p.length+1)=r:=by rw [d];simp
  obtain ⟨z,i,j⟩:=Y3 nn hR hx fx p.length f;have o:b ∈ l:=by rw [d];simp
  have q:=hR.ok _ o;have t:=hR.fit _ o;rw [w,D] at z i j;have n:=gK f;rw [w] at n;have C:=Y2 q.2 i (iM.mono (L:=51) (a_ t.2) (by decide)) j (by decide);have y:=jb q.2 i;have v:iM 410 (ja b.2 (nO b.1 (r.head?.map (·.1)) x)):=Cj (L:=205) (iM.mono (L:=51) (a_ t.2) (by decide)) j;have B:=aeP (k:=p.length) (by omega);have F:1<=5^p.length:=Nat.one_le_pow _ _ (by decide);have E:=YZ g y hs (v.mono (by omega)) B;have h:l=p++ [b]++r:=by rw [d];simp
  have m:=ZM hs v;have e:=ih (p++ [b]) _ h (eX g y) (by rw [η];exact m);rw [η,τ] at e;exact ⟨.next (aoO nm u1 u2 l nn p.length b x _ _ c _ _ A n (xE (by omega)) (Yq0 (by omega)) (Yq0 (by omega)) (aA (Yq0 (by omega))) z C E) e.1,e.2⟩
theorem acU:CO 182 [aob nm u1 u2 l nn,qA x] (.ret (qA (xM q0 l x)))/\(xM q0 l x).ok/\iM (410*5^8) (xM q0 l x):=by
 have h:=λnt (c:30<=nt)=>aex nm u1 u2 nn hR hx fx c l [] q0 rfl vX (YX.mono (by decide))
 refine ⟨?_,(h 30 (χ _)).2⟩;exact aoN nm u1 u2 l nn x q0 _ vZ (az.blk (id:=0) (e':= .normal) (s:=⟨_,_,_,_⟩) (s':=vlO _) (λnt c=>(h nt c).1) (by simp) rfl (aN.of ⟨rfl,rfl,rfl,rfl,rfl,trivial⟩) (aN.refl _))
end
theorem WW {l:List Br} (h:∀ x ∈ l,x.s28):zg 87 mF l:=λi y x d c _ _=>
 Ti y.fn x.fn y.fa y.fd x.fa x.fd (h y (Xql d)).1.1 (h y (Xql d)).1.2 (h x (Xql c)).1.1 (h x (Xql c)).1.2
theorem aew {l:List (RQ × RQ)} {x:RQ} (c:Wq l) (d:x.ok):mV (xM q0 l x)=atV l x:=by
 rw [afM d c.ok c.srt];unfold atV;split
 .rfl
 .rfl
theorem ac5 (nm:List UInt8) (u1 u2:Int) {l:List Br} (hs:∀ x ∈ l,x.s28) (q:l.length<2^40) {x:RQ} (f:x.ok) (k:iP x=true):
  CO 144 [.agg [.str nm,ω u1,ω u2,.sl (gp l) l.length false],qA x] (.ret (.tup [.agg [.bool (O8 l x).n,.str (O8 l x).a,.str (O8 l x).d],ω (O8 l x).e])):=by
 have c:=Qy nm u1 u2 l mF q (λx f=>(hs x f).sm) (WW hs);unfold O8;have m:iM 51 x:=a_ k;by_cases h:Iq mF l=0
 .rw [if_pos h];rw [h] at c;obtain ⟨n,e⟩:=WS h;have t:CO 137 [qA x] (.ret (.bool true)):=xk f m (by decide);have r:CO 81 [qA x] (.ret (.bool true)):=by have:=Y0 f m (by decide);rw [k] at this;exact this
  obtain ⟨i,v1,p⟩:=acU nm u1 u2 false n f k;unfold aob at i;rw [e,Xxc] at i;have g:=ajs nm u1 u2 false x 0 _ _ rfl c t r;rw [<- aew n f];have j:=Y0 v1 p (by decide);unfold mV;by_cases d:iP (xM q0 (l.map WE) x)=true
  .rw [if_pos d];rw [d] at j;exact ajH nm u1 u2 false x _ 0 _ _ true rfl rfl g i j
  .rw [if_neg d];have d:iP (xM q0 (l.map WE) x)=false:=by simpa using d
   rw [d] at j;exact ajG nm u1 u2 false x _ 0 _ _ false rfl rfl g i j
 .rw [if_neg h];have o:lit true (!(Iq mF l==((0:Nat):Int)))=true:=by rw [show (Iq mF l==((0:Nat):Int))=false from beq_eq_false_iff_ne.2 h];rfl
  exact ajF nm u1 u2 false x _ _ _ o (ajr nm u1 u2 false x _ _ _ o c)
def tL (l:List (Int × Int × Int)):List AV:=l.flatMap λq=> [ω q.1,ω q.2.1,ω q.2.2]
theorem aom {l:List (Int × Int × Int)} {k:Nat} (h:k<l.length):ε (δ (k:Int)*3) (tL l)= [ω l[k].1,ω l[k].2.1,ω l[k].2.2]++tL (l.drop (k+1)):=by
 rw [aC];exact wV (λq:Int × Int × Int=> [ω q.1,ω q.2.1,ω q.2.2]) 3 (λ_=>rfl) h
def NQ (a:Int) (n:Nat):Nat:=(a % (n:Int)).toNat
theorem Eg {a:Int} {n:Nat} (h:0<n):NQ a n<n:=by
 unfold NQ;have d:=Yqq a (b:=(n:Int)) (by omega);have c:=Xkz a (b:=(n:Int)) (by omega);omega
theorem alz (a n:Int) (c:lit true (decide ((Xxd a n)<((0:Nat):Int)))=true) (d:(!(n==((0:Nat):Int)))=true):CO 61 [ω a,ω n] (.ret (ω (γ .i64 ((Xxd a n)+n)))):=pK [] 1 1 (.c c (.c d .nil)) (.nil)
theorem alA (a n:Int) (c:lit false (decide ((Xxd a n)<((0:Nat):Int)))=true) (d:(!(n==((0:Nat):Int)))=true):CO 61 [ω a,ω n] (.ret (ω (Xxd a n))):=pK [] 1 0 (.c c (.c d .nil)) (.nil)
theorem Ee (a:Int) (n:Nat) (m:0<n) (g:n<=4611686018427387904):CO 61 [ω a,ω (n:Int)] (.ret (ω ((NQ a n:Nat):Int))):=by
 have c:(!((n:Int)==((0:Nat):Int)))=true:=by
  rw [beq_eq_false_iff_ne.2 (by omega)];rfl
 have o:=Xwj a (b:=(n:Int)) (by omega);have j: -(n:Int)<Xxd a n:=by
  have:=Xwj (-a) (b:=(n:Int)) (by omega);rw [Int.neg_tmod] at this;omega
 have i:=Yqq a (b:=(n:Int)) (by omega);have k:=Xkz a (b:=(n:Int)) (by omega);have d:Xxd a n % (n:Int)=a % (n:Int):=by
  have e:=Int.mul_tdiv_add_tmod a (n:Int);have:a=Xxd a n+(n:Int)*(Int.tdiv a n):=by omega
  conv=>rhs;rw [this,Int.add_mul_emod_self_left]
 have f:((NQ a n:Nat):Int)=a % (n:Int):=Int.toNat_of_nonneg i;rw [f];by_cases h:Xxd a n<0
 .have hp:=alz a n (by simpa [lit] using h) c;have e:γ .i64 (Xxd a n+(n:Int))=a % (n:Int):=by
   rw [bG (by omega) (by omega)];rw [<- d,<- Int.add_emod_right,Xk6 (by omega) (by omega)]
  rw [e] at hp;exact hp
 .have hp:=alA a n (by simp only [lit,Xqq,decide_eq_false_iff_not];exact h) c;have e:Xxd a n=a % (n:Int):=by rw [<- d,Xk6 (by omega) (by omega)]
  rw [e] at hp;exact hp
def Gf (b:RQ × RQ):Br:=⟨b.1.neg,ae b.1.n,ae b.1.d,b.2.neg,ae b.2.n,ae b.2.d⟩
theorem SI:∀ l:List (RQ × RQ),gp (l.map Gf)=lV l
 | []=>rfl
 |b::l=>by
  show LX (Gf b)++gp (l.map Gf)=DN b++lV l;rw [SI l];rfl
theorem JR (l:List (RQ × RQ)):(lV l).length=l.length*6:=lD DN 6 (λ_=>rfl) l
def IJ (B:Nat) (q:RQ):Prop:=q.ok/\q.n<2^B/\q.d<2^B
theorem afq (a b:RQ):(gG a b).n<=a.n*b.d+b.n*a.d/\(gG a b).d<=a.d*b.d:=by
 unfold gG;split
 .have:=yE a.neg (a.n*b.d+b.n*a.d) (a.d*b.d);exact this
 .split
  .have:=yE a.neg (a.n*b.d - b.n*a.d) (a.d*b.d);exact ⟨by omega,this.2⟩
  .have:=yE b.neg (b.n*a.d - a.n*b.d) (a.d*b.d);exact ⟨by omega,this.2⟩
theorem gB {x B:Nat} (h:x<2^B) (c:B<=200):(ae x).length<2^28:=Xqj (bU (k:=25) (Xqa h (Xqc (by decide) (by omega)))) (by decide)
theorem t_ {q:RQ} {B:Nat} (h:IJ B q) (c:B<=200):iP q=true:=by
 unfold iP;rw [Yq0 (Xxg (jw h.2.1) (by omega)),Yq0 (Xxg (jw h.2.2) (by omega))];rfl
theorem JF:∀ (l:List (RQ × RQ)) (a b:RQ × RQ),jQ (l++ [a])->a.1.rt<b.1.rt->jQ (l++ [a]++ [b])
 | [],a,b,_,h=> ⟨h,True.intro⟩
 | [x],a,b,hs,h=> ⟨hs.1,h,True.intro⟩
 |x::y::l,a,b,hs,h=> ⟨hs.1,JF (y::l) a b hs.2 h⟩
theorem JD:∀ (l:List (RQ × RQ)) (a:RQ × RQ),jQ (l++ [a])->jQ l
 | [],a,_=>True.intro
 | [x],a,_=>True.intro
 |x::y::l,a,hs=> ⟨hs.1,JD (y::l) a hs.2⟩
theorem JE:∀ (l:List (RQ × RQ)) (f r s:RQ),jQ (l++ [(f,r)])->jQ (l++ [(f,s)])
 | [],_,_,_,_=>True.intro
 | [x],_,_,_,hs=> ⟨hs.1,True.intro⟩
 |x::y::l,f,r,s,hs=> ⟨hs.1,JE (y::l) f r s hs.2⟩
theorem Wy:∀ (l:List (RQ × RQ)) (b:RQ × RQ),(∀ x ∈ b::l,x.1.ok)->jQ (b::l)->yh mF (Gf b) (l.map Gf)=true
 | [],_,_,_=>rfl
 | c::l,b,ho,hs=>by
  have e:=ho b (by simp);have d:=ho c (by simp);show yh mF (Gf b) (Gf c::l.map Gf)=true;unfold yh;have:mF (Gf b) (Gf c)<0:=by
   show iO (vQ b.1.neg (ae b.1.n) (ae b.1.d)) (vQ c.1.neg (ae c.1.n) (ae c.1.d))<0;rw [fQ e,fQ d];exact (jr e d).1.2 hs.1
  rw [Yq1 (by omega)];exact Wy l c (λx f=>ho x (by simp [f])) hs.2
theorem VH:jd false (ae 0) (ae 1)=0:=by
 rw [dC];rfl
theorem ab9 {c:RQ} {l:List (RQ × RQ)} (m:l.length<=7) (i:∀ x ∈ (q0,c)::l,IJ 200 x.1/\IJ 200 x.2) (hs:jQ ((q0,c)::l)):Iq mF (((q0,c)::l).map Gf)=0:=by
 have h:(((q0,c)::l).map Gf).all iJ=true:=by
  rw [Xk7,Xj1];intro x e;obtain ⟨g,f⟩:=i x e;show (iW x.1.neg (ae x.1.n) (ae x.1.d) && iW x.2.neg (ae x.2.n) (ae x.2.d))=true;rw [pI _ g.1,pI _ f.1];rfl
 have j:(((q0,c)::l).map Gf).all vG=true:=by
  rw [Xk7,Xj1];intro x e;obtain ⟨g,f⟩:=i x e;show (d_ x.1.neg (ae x.1.n) (ae x.1.d) && d_ x.2.neg (ae x.2.n) (ae x.2.d))=true;rw [su g.1,su f.1,t_ g (by omega),t_ f (by omega)];rfl
 unfold Iq;have d:(((q0,c)::l).map Gf).length=l.length+1:=by simp
 rw [d,Yq1 (by omega),show (((l.length+1:Nat):Int)==((0:Nat):Int))=false from beq_eq_false_iff_ne.2 (by omega)];have k:=Wy l (q0,c) (λx e=>(i x e).1.1) hs;rw [D5,j];show cond (Ip mF none (Gf (q0,c)::l.map Gf)) _ _=_;rw [EL,k];have h:(Gf (q0,c)::l.map Gf).all iJ=true:=h;rw [h];have:jd (Gf (q0,c)).fn (Gf (q0,c)).fa (Gf (q0,c)).fd=0:=by simp only [Gf,q0];exact VH
 rw [this];rfl
theorem Yn (q:Int × Int × Int) {f:RQ} {B:Nat} (d:IJ B f) (S:B<=180):∃ (u v s t:Nat) (w1 w2 w3 w4 r1 r2 f2:RQ),CO 61 [ω q.1,ω 61] (.ret (ω (u:Int)))/\CO 48 [ω (γ .i64 ((u:Int) - ((10:Nat):Int)))] (.ret (.agg [.bool w1.neg,.str (ae w1.n),.str (ae w1.d)]))/\CO 61 [ω q.2.2,ω 3] (.ret (ω (v:Int)))/\CO 48 [ω (γ .i64 ((γ .i64 ((v:Int)*((30:Nat):Int)))+((20:Nat):Int)))] (.ret (.agg [.bool w2.neg,.str (ae w2.n),.str (ae w2.d)]))/\CO 60 [.agg [.bool w1.neg,.str (ae w1.n),.str (ae w1.d)],.agg [.bool w2.neg,.str (ae w2.n),.str (ae w2.d)]] (.ret (.tup [.agg [.bool r1.neg,.str (ae r1.n),.str (ae r1.d)],.bool true]))/\CO 61 [ω q.2.1,ω 40] (.ret (ω (s:Int)))/\CO 48 [ω (γ .i64 ((s:Int)+((1:Nat):Int)))] (.ret (.agg [.bool w3.neg,.str (ae w3.n),.str (ae w3.d)]))/\CO 61 [ω q.2.2,ω 4] (.ret (ω (t:Int)))/\CO 48 [ω (γ .i64 ((t:Int)+((1:Nat):Int)))] (.ret (.agg [.bool w4.neg,.str (ae w4.n),.str (ae w4.d)]))/\CO 60 [.agg [.bool w3.neg,.str (ae w3.n),.str (ae w3.d)],.agg [.bool w4.neg,.str (ae w4.n),.str (ae w4.d)]] (.ret (.tup [.agg [.bool r2.neg,.str (ae r2.n),.str (ae r2.d)],.bool true]))/\CO 62 [.agg [.bool f.neg,.str (ae f.n),.str (ae f.d)],.agg [.bool r2.neg,.str (ae r2.n),.str (ae r2.d)]] (.ret (.agg [.bool f2.neg,.str (ae f2.n),.str (ae f2.d)]))/\IJ 16 r1/\IJ (B+16) f2/\f.rt<f2.rt:=by
 have N:=Eg (a:=q.1) (n:=61) (by omega);have R:=Eg (a:=q.2.2) (n:=3) (by omega);have hs:=Eg (a:=q.2.1) (n:=40) (by omega);have O:=Eg (a:=q.2.2) (n:=4) (by omega);have F:=Ee q.1 61 (by omega) (by omega);have K:=Ee q.2.2 3 (by omega) (by omega);have D:=Ee q.2.1 40 (by omega) (by omega);have I:=Ee q.2.2 4 (by omega) (by omega);generalize NQ q.1 61=u at*
 generalize NQ q.2.2 3=v at*
 generalize NQ q.2.1 40=s at*
 generalize NQ q.2.2 4=t at*
 have G:γ .i64 ((u:Int) - ((10:Nat):Int))=(u:Int) - 10:=bG (by omega) (by omega);have C:γ .i64 ((v:Int)*((30:Nat):Int))=((v*30:Nat):Int):=(bG (by omega) (by omega)).trans (by omega);have E:γ .i64 (((v*30:Nat):Int)+((20:Nat):Int))=((v*30+20:Nat):Int):=(bG (by omega) (by omega)).trans (by omega);have J:γ .i64 ((s:Int)+((1:Nat):Int))=((s+1:Nat):Int):=(bG (by omega) (by omega)).trans (by omega);have H:γ .i64 ((t:Int)+((1:Nat):Int))=((t+1:Nat):Int):=(bG (by omega) (by omega)).trans (by omega);have z:=jT ((u:Int) - 10) (by omega) (by omega);have e:(lX ((u:Int) - 10)).neg=true->0<(lX ((u:Int) - 10)).n:=by
  intro h;simp only [lX,decide_eq_true_eq] at h ⊢;omega
 have M:(lX ((u:Int) - 10)).n<64:=by simp only [lX];omega
 have hd:(lX ((u:Int) - 10)).d=1:=rfl;generalize lX ((u:Int) - 10)=w at*
 obtain ⟨k,j,T⟩:=w;simp only at e M hd;subst hd;have k1:=Oc k j (v*30+20) e (by omega) (by omega) (by omega);have k2:=Oc false (s+1) (t+1) (by simp) (by omega) (by omega) (by omega);have P:=yE k j (v*30+20);have Q:=yE false (s+1) (t+1);have p:(fZ k j (v*30+20)).ok:=mX (by omega);have g:(fZ false (s+1) (t+1)).ok:=mX (by omega);have a:=afq f (fZ false (s+1) (t+1));have hp:0<(fZ false (s+1) (t+1)).rt:=by
  rw [yQ _ _ _ (by omega)];have m:(0:Rat)<((s+1:Nat):Rat):=by exact_mod_cast Xvp s
  have r:(0:Rat)<((t+1:Nat):Rat):=by exact_mod_cast Xvp t
  have y:(0:Rat)<((s+1:Nat):Rat) / ((t+1:Nat):Rat):=by rw [Rat.div_def];exact Rat.mul_pos m (Rat.inv_pos.2 r)
  simp only [Xji,if_false];grind
 have i:=yP d.1 g;have c:=La f.neg (fZ false (s+1) (t+1)).neg (ae f.n) (ae f.d) (ae (fZ false (s+1) (t+1)).n) (ae (fZ false (s+1) (t+1)).d)
  (Xq8 (gB d.2.1 (by omega)) (by decide)) (Xq8 (gB d.2.2 (by omega)) (by decide)) (Xq8 (gB (B:=16) (by omega) (by omega)) (by decide)) (Xq8 (gB (B:=16) (by omega) (by omega)) (by decide))
 rw [fQ d.1,fQ g] at c;have o:=eX d.1 g;generalize fZ k j (v*30+20)=r1 at*
 generalize fZ false (s+1) (t+1)=r2 at*
 generalize gG f r2=f2 at*
 refine ⟨u,v,s,t,⟨k,j,1⟩,⟨false,v*30+20,1⟩,⟨false,s+1,1⟩,⟨false,t+1,1⟩,r1,r2,f2,F, ?_,K, ?_,k1,D, ?_,I, ?_,k2,c,⟨p,by omega,by omega⟩,⟨o, ?_, ?_⟩,by rw [i];grind⟩
 .rw [G];exact z
 .rw [C,E];exact IB _ (by omega)
 .rw [J];exact IB _ (by omega)
 .rw [H];exact IB _ (by omega)
 .have m:f.n*r2.d<=f.n*64:=Xqx _ (by omega);have r:r2.n*f.d<=64*f.d:=Nat.mul_le_mul_right _ (by omega);have y:=d.2.1;have A:=d.2.2;rw [Xxo];omega
 .have m:f.d*r2.d<=f.d*64:=Xqx _ (by omega);have A:=d.2.2;rw [Xxo];omega
def m6E (bs:List (RQ × RQ)):AV:=match bs with| []=> .nilS|_::_=> .ref 3 0 0 bs.length
def m6H (bs:List (RQ × RQ)):Hp:=match bs with| []=> []|_::_=> [(3,⟨lV bs,0,false,0,6,true⟩)]
def m6P (bs:List (RQ × RQ)):Bool:=match bs with| []=>true|_::_=>false
def m6S (ts:List (Int × Int × Int)) (nn:Bool) (p:List (RQ × RQ) × RQ):St:=⟨[(0,.sl (tL ts) ts.length nn),(2,.ptr 0 0 0),(3,.ptr 1 0 0),(4,.ptr 2 0 0),(5,ω (p.1.length:Int))],[(0,⟨[.str [],ω 0,ω 0,.nilS],0,false,0,0,true⟩),(1,⟨[.str zcc4_3,ω 1,ω 0,m6E p.1],0,false,0,0,m6P p.1⟩),(2,⟨[.bool p.2.neg,.str (ae p.2.n),.str (ae p.2.d)],0,false,0,0,true⟩)]++m6H p.1,.dead,[]⟩
abbrev m6O (bs:List (RQ × RQ)):St:=⟨[(2,.ptr 0 0 0),(3,.ptr 1 0 0)],[(0,⟨[.str [],ω 0,ω 0,.nilS],0,false,0,0,true⟩),(1,⟨[.str zcc4_3,ω 1,ω 0,.ref 2 0 0 bs.length],0,false,0,0,false⟩),(2,⟨lV bs,0,false,0,6,true⟩)],.dead,[]⟩
theorem FZ (ts:List (Int × Int × Int)) (nn:Bool) (bs:List (RQ × RQ)) (f:RQ) (h:bs ≠ []):m6S ts nn (bs,f)=⟨[(0,.sl (tL ts) ts.length nn),(2,.ptr 0 0 0),(3,.ptr 1 0 0),(4,.ptr 2 0 0),(5,ω (bs.length:Int))],[(0,⟨[.str [],ω 0,ω 0,.nilS],0,false,0,0,true⟩),(1,⟨[.str zcc4_3,ω 1,ω 0,.ref 3 0 0 bs.length],0,false,0,0,false⟩),(2,⟨[.bool f.neg,.str (ae f.n),.str (ae f.d)],0,false,0,0,true⟩),(3,⟨lV bs,0,false,0,6,true⟩)],.dead,[]⟩:=by
 cases bs with
 |nil=>exact absurd rfl h
 |cons a r=>rfl
theorem aaL (bs:List (RQ × RQ)) (f r:RQ):κ (bs.length*6) (lV bs)++ [.bool f.neg,.str (ae f.n),.str (ae f.d),.bool r.neg,.str (ae r.n),.str (ae r.d)]=lV (bs++ [(f,r)]):=by
 rw [ο (by rw [JR];exact χ _)];unfold lV;rw [Xq9];rfl
theorem Yo (ts:List (Int × Int × Int)) (nn:Bool) (bs:List (RQ × RQ)) {f:RQ} {B:Nat} (H:IJ B f) (P:B<=180) (J:bs.length<ts.length) (S:bs.length<8):
  ∃ e d,IJ 16 e/\IJ (B+16) d/\f.rt<d.rt/\∀ nt,78<=nt->ψ nt f30 (m6S ts nn (bs,f)) .normal (m6S ts nn (bs++ [(f,e)],d)):=by
 have h:=aom J;generalize ts[bs.length]=q at h;obtain ⟨u,v,s,t,T,V,R,Q,e,U,d,y,p,w,C,z,D,o,E,A,G,g,M,N,O⟩:=Yn q H P;refine ⟨e,d,M,N,O,λnt F=> ?_⟩;have c:decide ((bs.length:Int)<(ts.length:Int))=true:=Yq0 (by omega);have n:decide ((bs.length:Int)<((8:Nat):Int))=true:=Yq0 (by omega);have i:ω (γ .i64 ((bs.length:Int)+((1:Nat):Int)))=ω ((bs.length+1:Nat):Int):=xE (by omega);have m:=c;rw [FZ ts nn (bs++ [(f,e)]) d (by simp),η,τ];have I:Φ (bs.length+1) 1099511627776=true:=Xqe (by omega);have K:Φ (bs.length*6) (ζ (lV bs))=true:=Xqe (by rw [JR];exact χ _);rw [<- aaL];cases j:bs with
 |nil=>
  rw [j] at c n i m h;exact pN 30 [] 5 15 (.k 36 (oN 0) (.c m (.c (aA c) (.k 2 (aA n) (.c (aA c) .nil))))) (.v 27 (.eq i) (.c g (.c G (.c A (.c E (.c o (.c D (.c z (.c C (.c w (.c p (.c y (.v 35 (.ppt h) .nil))))))))))))) F
 |cons a r=>
  rw [<- j,FZ ts nn bs f (by rw [j];simp)];generalize bs.length=k at*
  exact pN 30 [] 4 15 (.k 16 I (.c K (.k 19 (oN k) (.c m (.c (aA c) (.k 2 (aA n) (.c (aA c) .nil))))))) (.v 27 (.eq i) (.c g (.c G (.c A (.c E (.c o (.c D (.c z (.c C (.c w (.c p (.c y (.v 35 (.ppt h) .nil))))))))))))) F
theorem ab8 (ts:List (Int × Int × Int)) (nn:Bool) (J:ts.length<=8):∀ (d:Nat) (bs:List (RQ × RQ)) (f g:RQ),bs.length+d=ts.length->0<ts.length->IJ (16*(bs.length+1)) f->(∀ x ∈ bs,IJ 200 x.1/\IJ 200 x.2)->jQ (bs++ [(f,g)])->(bs.map (·.1)++ [f]).head? =some q0->
  ∃ c:List (RQ × RQ),c.length=ts.length/\(∀ x ∈ c,IJ 200 x.1/\IJ 200 x.2)/\jQ c/\(c.map (·.1)).head? =some q0/\∀ nt,78<=nt->az prog ap [] nt (af 0 (ah f30)) (λ_=> .exit 0) (m6S ts nn) m6O (bs,f) c:=by
 intro d
 induction d with
 | zero=>
  intro bs f g hd o n m hs i;refine ⟨bs,by omega,m,JD _ _ hs, ?_,λnt j=> ?_⟩
  .cases bs with
   |nil=>simp at hd;omega
   |cons a r=>simpa using i
  .refine .done ?_;have k:bs ≠ []:=by intro h;rw [h] at hd;simp at hd;omega
   have z:decide ((bs.length:Int)<(ts.length:Int))=false:=Yq1 (by omega);have C:((bs.length:Int)==((0:Nat):Int))=false:=beq_eq_false_iff_ne.2 (by omega);rw [FZ ts nn bs f k];exact pN 30 [] 3 0 (.c (aB C) (.k 1 (aB z) .nil)) (.nil) j
 | succ d ih=>
  intro bs f g hd o n m hs i;obtain ⟨D,F,H,I,G,B⟩:=Yo ts nn bs n (by omega) (by omega) (by omega);have t:∀ {A:Nat} {q:RQ},IJ A q->A<=200->IJ 200 q:=λh p=> ⟨h.1,Xqa h.2.1 (Xqc (by decide) p),Xqa h.2.2 (Xqc (by decide) p)⟩
  obtain ⟨c,y,u,v,w,E⟩:=ih (bs++ [(f,D)]) F g (by simp;omega) o (by
   rw [η,τ,show 16*(bs.length+1+1)=16*(bs.length+1)+16 by omega];exact I) (by
   intro x e;rcases List.mem_append.1 e with e|e
   .exact m x e
   .rw [Xx6] at e;subst e;exact ⟨t n (by omega),t H (by omega)⟩) (JF _ _ _ (JE _ _ _ _ hs) G) (by
   rw [Xx3];cases bs with
   |nil=>exact i
   |cons a r=>exact i)
  exact ⟨c,y,u,v,w,λnt j=> .next (B nt j) (E nt j)⟩
abbrev VbV:bu:=⟨[.str [],ω 0,ω 0,.nilS],0,false,0,0,true⟩
theorem alB (ts:List (Int × Int × Int)) (nn:Bool) (f:RQ) (bs:List (RQ × RQ)) (c:CO 48 [ω 0] (Va6 f)) (d:aK prog ap [] 78 (.block 0 (.loop (af 0 (ah f30)))) ⟨[(0,.sl (tL ts) ts.length nn),(2,.ptr 0 0 0),(3,.ptr 1 0 0),(4,.ptr 2 0 0),(5,ω 0),(6,.dead),(7,.dead),(9,.dead),(25,.dead),(32,.dead)],[(0,VbV),(1,⟨[.str zcc4_3,ω 1,ω 0,.nilS],0,false,0,0,true⟩),(2,⟨(Va0 f),0,false,0,0,true⟩)],.dead,[]⟩ (.normal) ⟨[(2,.ptr 0 0 0),(3,.ptr 1 0 0)],[(0,VbV),(1,⟨[.str zcc4_3,ω 1,ω 0,.ref 2 0 0 bs.length],0,false,0,0,false⟩),(2,⟨(lV bs),0,false,0,6,true⟩)],.dead,[]⟩):CO 30 [.sl (tL ts) ts.length nn] (.ret (.agg [.str zcc4_3,ω 1,ω 0,.sl (κ (bs.length*6) (lV bs)) bs.length true])):=pK [0] 0 0 (.n 11 .nil) (.l d (.c c .nil))
theorem U5 (ts:List (Int × Int × Int)) (nn:Bool) (i:0<ts.length) (j:ts.length<=8):∃ bs:List Br,bs.length=ts.length/\(∀ b ∈ bs,b.s28)/\Iq mF bs=0/\CO 30 [.sl (tL ts) ts.length nn] (.ret (.agg [.str zcc4_3,ω 1,ω 0,.sl (gp bs) bs.length true])):=by
 have z:IJ (16*(([]:List (RQ × RQ)).length+1)) q0:=⟨vX,by decide,by decide⟩
 obtain ⟨bs,c,f,p,e,o⟩:=ab8 ts nn j ts.length [] q0 q0 (by simp) i z (by simp) True.intro rfl;refine ⟨bs.map Gf,by simpa using c, ?_, ?_, ?_⟩
 .intro b g;obtain ⟨x,q,rfl⟩:=List.mem_map.1 g;obtain ⟨⟨_,d,n⟩,⟨_,k,m⟩⟩:=f x q;exact ⟨⟨gB d (by omega),gB n (by omega)⟩,gB k (by omega),gB m (by omega)⟩
 .cases bs with
  |nil=>simp at c;omega
  |cons a r=>
   obtain ⟨t,d⟩:=a;simp only [Xqg,List.head?_cons,Option.some.injEq] at e;subst e;simp only [ν] at c;exact ab9 (by omega) f p
 .rw [SI,Xxc];have h:=alB ts nn q0 bs (IB 0 (by omega)) (az.blk o (by simp) rfl (aN.of ⟨rfl,rfl,rfl,rfl,rfl,trivial⟩) (aN.refl _));rw [ο (by rw [JR];exact χ _)] at h;exact h
def aqE (qs:List (Int × Int × Int)):AV:=match qs with| []=> .nilS|_::_=> .ref 3 0 0 qs.length
def aqF (qs:List (Int × Int × Int)):Hp:=match qs with| []=> []|_::_=> [(3,⟨tL qs,0,false,0,3,true⟩)]
abbrev aoc (s:Sg) (xs:List Int) (nn:Bool) (n:Nat) (p:Nat × List (Int × Int × Int)):St:=⟨[(1,.ptr 0 0 0),(2,.ptr 1 0 0),(4,.ptr 2 0 0),(5,aqE p.2),(6,ω (n:Int)),(7,ω (p.2.length:Int))],[(0,dB xs nn p.1),(1,⟨[ω s.op,.str s.name,.bool s.ty.tr,ω s.ty.m,ω s.ty.d],0,false,0,0,true⟩),(2,⟨[.str [],ω 0,ω 0,.nilS],0,false,0,0,true⟩)]++aqF p.2,.dead,[]⟩
abbrev aiM (s:Sg) (xs:List Int) (nn:Bool) (p:Nat × List (Int × Int × Int)):St:=⟨[(2,.ptr 1 0 0),(4,.ptr 2 0 0),(5,.ref 3 0 0 p.2.length)],[(0,dB xs nn p.1),(1,⟨[ω s.op,.str s.name,.bool s.ty.tr,ω s.ty.m,ω s.ty.d],0,false,0,0,true⟩),(2,⟨[.str [],ω 0,ω 0,.nilS],0,false,0,0,true⟩),(3,⟨tL p.2,0,false,0,3,true⟩)],.dead,[]⟩
theorem B_ (s:Sg) (xs:List Int) (nn:Bool) (n k:Nat) (qs:List (Int × Int × Int)) (h:qs ≠ []):aoc s xs nn n (k,qs)=⟨[(1,.ptr 0 0 0),(2,.ptr 1 0 0),(4,.ptr 2 0 0),(5,.ref 3 0 0 qs.length),(6,ω (n:Int)),(7,ω (qs.length:Int))],[(0,dB xs nn k),(1,⟨[ω s.op,.str s.name,.bool s.ty.tr,ω s.ty.m,ω s.ty.d],0,false,0,0,true⟩),(2,⟨[.str [],ω 0,ω 0,.nilS],0,false,0,0,true⟩),(3,⟨tL qs,0,false,0,3,true⟩)],.dead,[]⟩:=by
 cases qs with
 |nil=>exact absurd rfl h
 |cons a r=>rfl
theorem QO (l:List (Int × Int × Int)):(tL l).length=l.length*3:=lD (λq:Int × Int × Int=> [ω q.1,ω q.2.1,ω q.2.2]) 3 (λ_=>rfl) l
theorem aeb (qs:List (Int × Int × Int)) (a b c:Int):κ (qs.length*3) (tL qs)++ [ω a,ω b,ω c]=tL (qs++ [(a,b,c)]):=by
 rw [ο (by rw [QO];exact χ _)];unfold tL;rw [Xq9];rfl
theorem Zx (s:Sg) (xs:List Int) (nn:Bool) (k0 n:Nat) (u:xs.length<2^63) (H:n<=8) (K:0<n):∀ (d k:Nat) (qs:List (Int × Int × Int)),qs.length+d=n->k<=xs.length->
  ∃ (f:Nat) (c:List (Int × Int × Int)),f<=xs.length/\c.length=n/\∀ nt,37<=nt->az prog ap [dB xs nn k0] nt (af 0 (ah f96)) (λ_=> .exit 0) (aoc s xs nn n) (aiM s xs nn) (k,qs) (f,c):=by
 intro d
 induction d with
 |zero=>
  intro k qs hd o;refine ⟨k,qs,o,by omega,λnt e=> .done ?_⟩;have z:decide ((qs.length:Int)<(n:Int))=false:=Yq1 (by omega);rw [B_ s xs nn n k qs (by intro h;rw [h] at hd;simp at hd;omega)];generalize J:qs.length=j at z;show aj _ _ _ _ _ _ _ (aiM s xs nn (k,qs));unfold aiM;rw [J];exact pN 96 [] 1 0 (.c (aB z) .nil) (.nil) e
 | succ d ih=>
  intro k qs hd o;obtain ⟨I,k1,_,m,y⟩:=dH xs nn k 61 u o (by omega) (by omega);obtain ⟨D,k2,_,t,v⟩:=dH xs nn k1 40 u m (by omega) (by omega);obtain ⟨F,k3,_,p,w⟩:=dH xs nn k2 12 u t (by omega) (by omega);obtain ⟨f,c,C,A,B⟩:=ih k3 (qs++ [((I:Int),(D:Int),(F:Int))]) (by simp;omega) p;refine ⟨f,c,C,A,λnt e=> .next ?_ (B nt e)⟩;have i:decide ((qs.length:Int)<(n:Int))=true:=Yq0 (by omega);have g:ω (γ .i64 ((qs.length:Int)+((1:Nat):Int)))=ω ((qs.length+1:Nat):Int):=xE (by omega);have E:Φ (qs.length+1) 1099511627776=true:=Xqe (by omega);have G:Φ (qs.length*3) (ζ (tL qs))=true:=Xqe (by rw [QO];exact χ _);rw [B_ s xs nn n k3 _ (by simp),η,τ,<- aeb];cases q:qs with
  |nil=>
   rw [q] at i g;exact pN 96 [] 2 1 (.k 3 (aA i) .nil) (.v 16 (.eq g) (.c w (.c v (.c y .nil)))) e
  |cons a r=>
   rw [<- q,B_ s xs nn n k qs (by rw [q];simp)];exact pN 96 [] 1 1 (.k 1 E (.c G (.k 1 (aA i) .nil))) (.v 16 (.eq g) (.c w (.c v (.c y .nil)))) e
theorem aiL (s:Sg) (xs:List Int) (nn:Bool) (k k1 k2 c:Nat) (qs:List (Int × Int × Int)) (bs:List Br) (d:ω (γ .i64 (((1:Nat):Int)+(c:Int)))= ω (((1+c):Nat):Int)) (e:aH prog ap 97 [.ptr 0 0 0,ω 4] [(Va5 xs nn k)] (.ret (ω (c:Int))) [(Va5 xs nn k1)]) (f:aK prog ap [(Va5 xs nn k)] 37 (.block 0 (.loop (af 0 (ah f96)))) ⟨[(0,.agg [ω s.op,.str s.name,.bool s.ty.tr,ω s.ty.m,ω s.ty.d]),(1,.ptr 0 0 0),(2,.ptr 1 0 0),(4,.ptr 2 0 0),(5,.nilS),(6,ω (((1+c):Nat):Int)),(7,ω 0),(8,.dead),(14,.dead)],[(0,(Va5 xs nn k1)),(1,⟨[ω s.op,.str s.name,.bool s.ty.tr,ω s.ty.m,ω s.ty.d],0,false,0,0,true⟩),(2,VbV)],.dead,[]⟩ (.normal) ⟨[(2,.ptr 1 0 0),(4,.ptr 2 0 0),(5,.ref 3 0 0 qs.length)],[(0,(Va5 xs nn k2)),(1,⟨[ω s.op,.str s.name,.bool s.ty.tr,ω s.ty.m,ω s.ty.d],0,false,0,0,true⟩),(2,VbV),(3,⟨(tL qs),0,false,0,3,true⟩)],.dead,[]⟩) (g:CO 30 [.sl (κ (qs.length*3) (tL qs)) qs.length true] (.ret (.agg [.str zcc4_3,ω 1,ω 0,.sl (gp bs) bs.length true]))):aH prog ap 96 [.agg [ω s.op,.str s.name,.bool s.ty.tr,ω s.ty.m,ω s.ty.d],.ptr 0 0 0] [(Va5 xs nn k)] (.ret (.agg [.str s.name,ω s.ty.m,ω s.ty.d,.sl (gp bs) bs.length true])) [(Va5 xs nn k2)]:=pK [0] 0 0 (.n 15 .nil) (.c g (.l f (.v 11 (.eq d) (.c e .nil))))
theorem Zy (s:Sg) (xs:List Int) (nn:Bool) (k:Nat) (f:xs.length<2^63) (o:k<=xs.length):∃ (bs:List Br) (k':Nat),k'<=xs.length/\bs.length<=8/\(∀ b ∈ bs,b.s28)/\Iq mF bs=0/\
  aH prog ap 96 [.agg (sgC s),.ptr 0 0 0] [dB xs nn k] (.ret (.agg [.str s.name,ω s.ty.m,ω s.ty.d,.sl (gp bs) bs.length false])) [dB xs nn k']:=by
 obtain ⟨c,k1,r,d,n⟩:=dH xs nn k 4 f o (by omega) (by omega);obtain ⟨k2,qs,i,q,h⟩:=Zx s xs nn k (1+c) f (by omega) (by omega) (1+c) k1 [] (by simp) d;obtain ⟨bs,t,p,m,j⟩:=U5 qs true (by omega) (by omega);refine ⟨bs,k2,i,by omega,p,m, ?_⟩;have g:ω (γ .i64 (((1:Nat):Int)+(c:Int)))= ω (((1+c):Nat):Int):=by
  congr 1;exact (bG (by omega) (by omega)).trans (by omega)
 have e:κ (qs.length*3) (tL qs)=tL qs:=ο (by rw [QO];exact χ _);exact aH.out (jB.ret rfl rfl (aU.agg (.cons (aU.refl _) (.cons (aU.refl _) (.cons (aU.refl _) (.cons (aU.sl _ _ _) .nil)))))) (aiL s xs nn k k1 k2 c qs bs g n (az.blk h (by simp) rfl (aN.of ⟨rfl,rfl,rfl,rfl,rfl,rfl,trivial⟩) (aN.refl _)) (by rw [e];exact j))
theorem sS (c:Int):CO 208 [ω c] (.ret (.bool (gV c))):=by
 rcases tf (decide (((5:Nat):Int)<=c)) with b0|b0
 .rcases tf (decide (c<=((8:Nat):Int))) with b1|b1
  .have e:gV c=true:=by
    simp only [decide_eq_true_eq,decide_eq_false_iff_not,beq_iff_eq,Yq2] at*
    unfold gV;first|(rw [decide_eq_true_eq];omega)|(rw [Xxj];simp only [decide_eq_true_eq,beq_iff_eq];omega)
   rw [e];exact pK [] 2 3 (.c (aA b1) (.c (aA b0) .nil)) (.nil)
  .have e:gV c=(c==((24:Nat):Int)):=by
    simp only [decide_eq_true_eq,decide_eq_false_iff_not,beq_iff_eq,Yq2] at*
    unfold gV;first|(rw [decide_eq_true_eq];omega)|(rw [Xxj];simp only [decide_eq_true_eq,beq_iff_eq];omega)
   rw [e];exact pK [] 2 1 (.c (aB b1) (.c (aA b0) .nil)) (.nil)
 .have e:gV c=(c==((24:Nat):Int)):=by
   simp only [decide_eq_true_eq,decide_eq_false_iff_not,beq_iff_eq,Yq2] at*
   unfold gV;first|(rw [decide_eq_true_eq];omega)|(rw [Xxj];simp only [decide_eq_true_eq,beq_iff_eq];omega)
  rw [e];exact pK [] 2 0 (.k 1 (aB b0) .nil) (.nil)
def UO (l:List Sg) (nn:Bool) (op:Int) (nm:List UInt8) (p:Nat × Unit):St:=⟨[(0,.sl (iQ l) l.length nn),(1,ω op),(2,.str nm),(6,.ptr 0 0 0),(8,ω (p.1:Int))],[(0,⟨[.bool false,ω 0,ω 0],0,false,0,0,true⟩)],.dead,[]⟩
def RP:Option Ty->St
 |none=> ⟨[(6,.ptr 0 0 0)],[(0,⟨[.bool false,.int .i64 0,.int .i64 0],0,false,0,0,true⟩)],.dead,[]⟩
 |some t=> ⟨[(6,.ptr 0 0 0),(7,.bool true)],[(0,⟨[.bool t.tr,.int .i64 t.m,.int .i64 t.d],0,false,0,0,true⟩)],.dead,[]⟩
theorem abB {nt:Nat} (g:52<=nt) (l:List Sg) (nn:Bool) (c:Int) (nm:List UInt8) (q:l.length<2^40):az prog ap [] nt (af 0 (ah f183)) fiE (UO l nn c nm) (RP) (0,()) ((l.find? λs=>sF s c nm).map (·.ty)):=by
 rw [<- adY];refine az.goL (TL λs=>sF s c nm) (λ_=>none) l (λ_ _=>True) ?_ ?_ l [] () rfl trivial
 .intro p s r _ n _;have key:match sF s c nm with
   |true=>ψ nt f183 (UO l nn c nm (p.length,())) .ret (RP (some s.ty))
   |false=>ψ nt f183 (UO l nn c nm (p.length,())) .normal (UO l nn c nm (p.length+1,())):=by
   have e:ε (δ (p.length:Int)*5) (iQ l)=sgC s++iQ r:=by rw [n];exact ad4 rfl
   have o:p.length+(r.length+1)=l.length:=by rw [n];simp
   generalize p.length=k at*
   have j:k<2^62:=by omega
   have i:decide (((0:Nat):Int)<=(k:Int))=true:=Yq0 (by omega);have f:decide ((k:Int)<(l.length:Int))=true:=Yq0 (by omega);have h:=f;rcases tf (s.op==c) with d|d
   .rcases tf (s.name==nm) with b1|b1
    .rcases tf (gV c) with b2|b2
     .rcases tf (lN s.ty) with b3|b3
      .rcases tf (c==((24:Nat):Int)) with b4|b4
       .rcases tf s.ty.tr with b5|b5
        .rw [show sF s c nm=false by simp only [sF,d,b1,b2,b3,b4,b5]<;>rfl];exact pN 183 [] 7 31 (.c (aX b5) (.k 1 (aX b4) (.c (aA b3) (.k 3 (aA b2) (.c (aA b1) (.k 1 (aA d) (.k 7 i (.c f (.c (aA h) .nil))))))))) (.v 15 (.eq (xE j)) (.c (uz s.ty) (.c (sS c) (.v 18 (.ppt e) .nil)))) g
        .rw [show sF s c nm=true by simp only [sF,d,b1,b2,b3,b4,b5]<;>rfl];exact pN 183 [] 7 95 (.k 4 (dV b5) (.k 1 (aX b4) (.c (aA b3) (.k 3 (aA b2) (.c (aA b1) (.k 1 (aA d) (.k 7 i (.c f (.c (aA h) .nil))))))))) (.c (uz s.ty) (.c (sS c) (.v 18 (.ppt e) .nil))) g
       .rw [show sF s c nm=true by simp only [sF,d,b1,b2,b3,b4]<;>rfl];exact pN 183 [] 7 127 (.k 5 (dV b4) (.c (aA b3) (.k 3 (aA b2) (.c (aA b1) (.k 1 (aA d) (.k 7 i (.c f (.c (aA h) .nil)))))))) (.c (uz s.ty) (.c (sS c) (.v 18 (.ppt e) .nil))) g
      .rw [show sF s c nm=false by simp only [sF,d,b1,b2,b3]<;>rfl];exact pN 183 [] 6 15 (.k 1 (aB b3) (.k 3 (aA b2) (.c (aA b1) (.k 1 (aA d) (.k 7 i (.c f (.c (aA h) .nil))))))) (.v 15 (.eq (xE j)) (.c (uz s.ty) (.c (sS c) (.v 18 (.ppt e) .nil)))) g
     .rw [show sF s c nm=false by simp only [sF,d,b1,b2]<;>rfl];exact pN 183 [] 6 7 (.k 2 (aB b2) (.c (aA b1) (.k 1 (aA d) (.k 7 i (.c f (.c (aA h) .nil)))))) (.v 15 (.eq (xE j)) (.c (sS c) (.v 18 (.ppt e) .nil))) g
    .rw [show sF s c nm=false by simp only [sF,d,b1]<;>rfl];exact pN 183 [] 6 3 (.k 3 (aB b1) (.k 1 (aA d) (.k 7 i (.c f (.c (aA h) .nil))))) (.v 15 (.eq (xE j)) (.v 18 (.ppt e) .nil)) g
   .rw [show sF s c nm=false by simp only [sF,d]<;>rfl];exact pN 183 [] 6 1 (.k 4 (aB d) (.k 7 i (.c f (.c (aA h) .nil)))) (.v 15 (.eq (xE j)) (.v 18 (.ppt e) .nil)) g
  unfold TL;cases m:sF s c nm with
  |true=>rw [m] at key;simp only [m,if_true];exact key
  |false=>rw [m] at key;simp only [m,Xji,if_false];exact ⟨key,trivial⟩
 .intro _ _;have d:decide ((l.length:Int)<(l.length:Int))=false:=Yq1 (by omega);exact pN 183 [] 1 0 (.c (aB d) .nil) (.nil) g
abbrev Vbs (a:List Sg) (b:Bool) (c:Int) (d:List UInt8):St:=⟨[(0,.sl (iQ a) a.length b),(1,ω c),(2,.str d),(6,.ptr 0 0 0),(7,.bool false),(8,ω 0),(9,.dead),(13,.dead),(48,.dead)],[(0,⟨[.bool false,ω 0,ω 0],0,false,0,0,true⟩)],.dead,[]⟩
theorem akY (l:List Sg) (nn:Bool) (c:Int) (nm:List UInt8) (d:aK prog ap [] 52 (.block 0 (.loop (af 0 (ah f183)))) (Vbs l nn c nm) (.normal) ⟨[(6,.ptr 0 0 0)],[(0,⟨[.bool false,ω 0,ω 0],0,false,0,0,true⟩)],.dead,[]⟩):CO 183 [.sl (iQ l) l.length nn,ω c,.str nm] (.ret (.tup [.agg [.bool false,ω 0,ω 0],.bool false])):=pK [0] 0 0 (.n 4 .nil) (.l d .nil)
theorem akZ (l:List Sg) (nn:Bool) (c:Int) (nm:List UInt8) (t:Ty) (d:aK prog ap [] 52 (.block 0 (.loop (af 0 (ah f183)))) (Vbs l nn c nm) (.ret) ⟨[(6,.ptr 0 0 0),(7,.bool true)],[(0,⟨[.bool t.tr,ω t.m,ω t.d],0,false,0,0,true⟩)],.dead,[]⟩):CO 183 [.sl (iQ l) l.length nn,ω c,.str nm] (.ret (.tup [.agg [.bool t.tr,ω t.m,ω t.d],.bool true])):=pK [0] 0 0 (.n 3 .nil) (.l d .nil)
theorem fO (l:List Sg) (nn:Bool) (c:Int) (nm:List UInt8) (e:l.length<2^40):CO 183 [.sl (iQ l) l.length nn,ω c,.str nm] (.ret (.tup [.agg (uO ((Nq l c nm).getD zT)),.bool (Nq l c nm).isSome])):=by
 have hloop:=λnt (hn:52<=nt)=>abB hn l nn c nm e
 unfold Nq;cases g:(l.find? λs=>sF s c nm).map (·.ty) with
 |none=>
  rw [g] at hloop;have f:=az.blk (id:=0) (e':= .normal) (s:=UO l nn c nm (0,())) (s':=RP none) hloop (by simp [fiE]) rfl (aN.refl _) (aN.refl _);exact akY l nn c nm (λnt d=>(f nt d).weak (aN.of ⟨rfl,rfl,rfl,rfl,rfl,trivial⟩) (aN.refl _))
 |some t=>
  rw [g] at hloop;have f:=az.blk (id:=0) (e':= .ret) (s:=UO l nn c nm (0,())) (s':=RP (some t)) hloop (by simp [fiE]) rfl (aN.refl _) (aN.refl _);exact akZ l nn c nm t (λnt d=>(f nt d).weak (aN.of ⟨rfl,rfl,rfl,rfl,rfl,trivial⟩) (aN.refl _))
def eqT (a b:Ty):Bool:=((a.tr==b.tr) && ((a.m==b.m) && ((a.d==b.d) && true)))
def IA (ts:List Ty):Bool:=ts.all λt=> !t.tr
def ae9:Nat->Ty->List Ty->Bool × Ty
 |1,_,[]=>(true,⟨false,1,0⟩)
 |2,_,[]=>(true,⟨false,0,1⟩)
 |3,_,[]=>(true,⟨false,0,0⟩)
 |4,_,[]=>(true,⟨true,0,0⟩)
 |5,sg,[]=>(true,sg)
 |6,sg,[]=>(true,sg)
 |7,sg,[]=>(true,sg)
 |8,sg,[]=>(true,sg)
 |9,_,[a,b]=>(eqT a b && IA [a,b],a)
 |10,_,[a,b]=>(eqT a b && IA [a,b],a)
 |11,_,[a,b]=>(IA [a,b] && lN ⟨false,γ .i64 (a.m+b.m),γ .i64 (a.d+b.d)⟩,⟨false,γ .i64 (a.m+b.m),γ .i64 (a.d+b.d)⟩)
 |12,_,[a,b]=>(IA [a,b] && lN ⟨false,γ .i64 (a.m - b.m),γ .i64 (a.d - b.d)⟩,⟨false,γ .i64 (a.m - b.m),γ .i64 (a.d - b.d)⟩)
 |13,_,[a,b]=>(eqT a b && IA [a,b],a)
 |14,_,[a,b]=>(eqT a b && IA [a,b],a)
 |15,_,[a,b,c]=>(a.tr && eqT b c,b)
 |16,_,[a,b]=>(eqT a b && IA [a,b],⟨true,0,0⟩)
 |17,_,[a,b]=>(eqT a b,⟨true,0,0⟩)
 |18,_,[a,b]=>(a.tr && b.tr,⟨true,0,0⟩)
 |19,_,[a,b]=>(a.tr && b.tr,⟨true,0,0⟩)
 |20,_,[a]=>(a.tr,⟨true,0,0⟩)
 |21,_,[a]=>(IA [a],a)
 |22,_,[a]=>(IA [a],a)
 |23,_,[a]=>(IA [a],a)
 |24,sg,[a]=>(eqT a sg,sg)
 |_,_,_=>(false,⟨false,0,0⟩)
def ofR (named fo:Bool) (sg:Ty) (op:Nat) (ts:List Ty):Ty × Int:=cond (named && !fo) (⟨false,0,0⟩,12) (cond (ae9 op sg ts).1 ((ae9 op sg ts).2,0) (⟨false,0,0⟩,13))
def uC (l:List Sg) (x:Nd) (ts:List Ty):Ty × Int:=ofR (gV x.op) (Nq l x.op x.name).isSome ((Nq l x.op x.name).getD zT) x.op.toNat ts
def aT:List Sg:= [⟨5,zcc4_1,⟨false,1,0⟩⟩,⟨5,[107,105,100,115],⟨false,0,0⟩⟩,⟨5,zcc4_0,⟨true,0,0⟩⟩,⟨5,[115,116,97,121],⟨false,0,1⟩⟩,⟨6,[112,111,111,114],⟨true,0,0⟩⟩,⟨6,[116,97,120],⟨false,1,0⟩⟩,⟨7,[112,111,111,114],⟨true,0,0⟩⟩,⟨7,[116,97,120],⟨false,1,0⟩⟩,⟨8,[112,111,111,114],⟨true,0,0⟩⟩,⟨8,[116,97,120],⟨false,1,0⟩⟩,⟨24,zcc4_2,⟨false,1,0⟩⟩,⟨24,[116,101,114,109],⟨false,0,1⟩⟩]
def tT:Ty:=⟨true,0,0⟩
inductive Tm (l:List Sg):List Nd->Ty->Prop where
 |n0 {x:Nd} {t:Ty}:aJ x=0->dh x.op=0->uC l x []=(t,0)->Tm l [x] t
 |n1 {x:Nd} {t ta:Ty} {a:List Nd}:Tm l a ta->aJ x=0->dh x.op=1->uC l x [ta]=(t,0)->Tm l (a++ [x]) t
 |n2 {x:Nd} {t ta tb:Ty} {a b:List Nd}:Tm l a ta->Tm l b tb->aJ x=0->dh x.op=2->uC l x [ta,tb]=(t,0)->Tm l (a++b++ [x]) t
 |n3 {x:Nd} {t ta tb tc:Ty} {a b c:List Nd}:Tm l a ta->Tm l b tb->Tm l c tc->aJ x=0->dh x.op=3->uC l x [ta,tb,tc]=(t,0)->Tm l (a++b++c++ [x]) t
theorem Tm.ne {l:List Sg} {e:List Nd} {t:Ty} (h:Tm l e t):e ≠ []:=by cases h<;>simp
def qN (op:Int) (q:RQ):Nd:=⟨op,q.neg,ae q.n,ae q.d,[]⟩
theorem YY {q:RQ} (h:q.ok) (d:q.n<64) (hd:q.d<64):d_ q.neg (ae q.n) (ae q.d)=true:=by
 unfold d_;rw [pI q h,aG,aG];have e:eu q.n<=6:=jw (by omega);have c:eu q.d<=6:=jw (by omega);simp;omega
theorem GG {c:Int} {q:RQ} (e:q.n<64) (hd:q.d<64):(qN c q).sm:=by
 have f:=jc (x:=q.n) (by omega);have d:=jc (x:=q.d) (by omega);exact ⟨by show (ae q.n).length<_;omega,by show (ae q.d).length<_;omega⟩
theorem oM {q:RQ} (h:q.ok) (g:q.n<64) (hd:q.d<64):∀ c:Int,c=1\/c=2\/c=3->aJ (qN c q)=0:=by
 intro c d;have f:=YY h g hd;have e:f_ (qN c q)=true:=by rcases d with rfl|rfl|rfl<;>exact f
 unfold aJ;rw [e];rcases d with rfl|rfl|rfl<;>rfl
theorem H5:CO 183 [.sl (iQ aT) 12 true,ω 5,.str zcc4_1] (.ret (.tup [.agg [.bool false,ω 1,ω 0],.bool true])):=kZ (fO aT true 5 zcc4_1 (by decide)) (by kernel_rfl)
theorem H6:CO 183 [.sl (iQ aT) 12 true,ω 5,.str [107,105,100,115]] (.ret (.tup [.agg [.bool false,ω 0,ω 0],.bool true])):=kZ (fO aT true 5 [107,105,100,115] (by decide)) (by kernel_rfl)
theorem H7:CO 183 [.sl (iQ aT) 12 true,ω 5,.str zcc4_0] (.ret (.tup [.agg [.bool true,ω 0,ω 0],.bool true])):=kZ (fO aT true 5 zcc4_0 (by decide)) (by kernel_rfl)
theorem H8:CO 183 [.sl (iQ aT) 12 true,ω 5,.str [115,116,97,121]] (.ret (.tup [.agg [.bool false,ω 0,ω 1],.bool true])):=kZ (fO aT true 5 [115,116,97,121] (by decide)) (by kernel_rfl)
theorem H9:CO 183 [.sl (iQ aT) 12 true,ω 6,.str [112,111,111,114]] (.ret (.tup [.agg [.bool true,ω 0,ω 0],.bool true])):=kZ (fO aT true 6 [112,111,111,114] (by decide)) (by kernel_rfl)
theorem H_:CO 183 [.sl (iQ aT) 12 true,ω 6,.str [116,97,120]] (.ret (.tup [.agg [.bool false,ω 1,ω 0],.bool true])):=kZ (fO aT true 6 [116,97,120] (by decide)) (by kernel_rfl)
theorem Ia:CO 183 [.sl (iQ aT) 12 true,ω 7,.str [112,111,111,114]] (.ret (.tup [.agg [.bool true,ω 0,ω 0],.bool true])):=kZ (fO aT true 7 [112,111,111,114] (by decide)) (by kernel_rfl)
theorem Ib:CO 183 [.sl (iQ aT) 12 true,ω 7,.str [116,97,120]] (.ret (.tup [.agg [.bool false,ω 1,ω 0],.bool true])):=kZ (fO aT true 7 [116,97,120] (by decide)) (by kernel_rfl)
theorem Ic:CO 183 [.sl (iQ aT) 12 true,ω 8,.str [112,111,111,114]] (.ret (.tup [.agg [.bool true,ω 0,ω 0],.bool true])):=kZ (fO aT true 8 [112,111,111,114] (by decide)) (by kernel_rfl)
theorem Ie:CO 183 [.sl (iQ aT) 12 true,ω 8,.str [116,97,120]] (.ret (.tup [.agg [.bool false,ω 1,ω 0],.bool true])):=kZ (fO aT true 8 [116,97,120] (by decide)) (by kernel_rfl)
theorem ql:CO 183 [.sl (iQ aT) 12 true,ω 24,.str zcc4_2] (.ret (.tup [.agg [.bool false,ω 1,ω 0],.bool true])):=kZ (fO aT true 24 zcc4_2 (by decide)) (by kernel_rfl)
theorem qo:CO 183 [.sl (iQ aT) 12 true,ω 24,.str [116,101,114,109]] (.ret (.tup [.agg [.bool false,ω 0,ω 1],.bool true])):=kZ (fO aT true 24 [116,101,114,109] (by decide)) (by kernel_rfl)
def qh (op:Int):Nd:=⟨op,false,[],[],[]⟩
theorem rf (c:Int):(qh c).sm:=⟨by show 0<_;omega,by show 0<_;omega⟩
theorem NZ {v:Int} (h:0<=v) (d:v<64):(lX v).ok/\(lX v).n<64/\(lX v).d<64:=by
 refine ⟨Eb (λc=> ?_),by simp only [lX];omega,by simp [lX]⟩;simp only [decide_eq_true_eq] at c;omega
theorem OL {x:Nd} (h:x.sm):∀ y ∈ [x],y.sm:=by intro y c;simp at c;subst c;exact h
theorem Rl (xs:List Int) (nn:Bool) (k:Nat) (g:xs.length<2^63) (i:k<=xs.length):∃ (e:List Nd) (k2:Nat),k2<=xs.length/\Tm aT e ⟨false,1,0⟩/\(∀ x ∈ e,x.sm)/\e.length<=1/\aH prog ap 184 [.ptr 0 0 0,.agg (uO ⟨false,1,0⟩)] [dB xs nn k] (.ret (.own (aO e) e.length 5)) [dB xs nn k2]:=by
 obtain ⟨w,k1,c,j,d,f,_,h⟩:=wo xs nn k g i (-8) (by omega) (by omega);exact ⟨[qN 1 w],k1,c,.n0 (oM j d f 1 (by simp)) rfl (by kernel_rfl),OL (GG d f),by simp,pK [] 1 1 (.n 7 .nil) (.c h .nil)⟩
theorem Rk (xs:List Int) (nn:Bool) (k:Nat) (g:xs.length<2^63) (i:k<=xs.length):∃ (e:List Nd) (k2:Nat),k2<=xs.length/\Tm aT e ⟨false,0,1⟩/\(∀ x ∈ e,x.sm)/\e.length<=1/\aH prog ap 184 [.ptr 0 0 0,.agg (uO ⟨false,0,1⟩)] [dB xs nn k] (.ret (.own (aO e) e.length 5)) [dB xs nn k2]:=by
 obtain ⟨w,k1,c,j,d,f,_,h⟩:=wo xs nn k g i (-8) (by omega) (by omega);exact ⟨[qN 2 w],k1,c,.n0 (oM j d f 2 (by simp)) rfl (by kernel_rfl),OL (GG d f),by simp,pK [] 2 2 (.n 8 .nil) (.c h .nil)⟩
theorem Rn (xs:List Int) (nn:Bool) (k:Nat) (g:xs.length<2^63) (i:k<=xs.length):∃ (e:List Nd) (k2:Nat),k2<=xs.length/\Tm aT e ⟨false,0,0⟩/\(∀ x ∈ e,x.sm)/\e.length<=1/\aH prog ap 184 [.ptr 0 0 0,.agg (uO ⟨false,0,0⟩)] [dB xs nn k] (.ret (.own (aO e) e.length 5)) [dB xs nn k2]:=by
 obtain ⟨w,k1,c,j,d,f,_,h⟩:=wo xs nn k g i (-8) (by omega) (by omega);exact ⟨[qN 3 w],k1,c,.n0 (oM j d f 3 (by simp)) rfl (by kernel_rfl),OL (GG d f),by simp,pK [] 4 0 (.n 12 .nil) (.c h .nil)⟩
theorem Rq (xs:List Int) (nn:Bool) (k:Nat) (i:xs.length<2^63) (E:k<=xs.length):∃ (e:List Nd) (k2:Nat),k2<=xs.length/\Tm aT e ⟨false,1, -1⟩/\(∀ x ∈ e,x.sm)/\e.length<=5/\aH prog ap 184 [.ptr 0 0 0,.agg (uO ⟨false,1, -1⟩)] [dB xs nn k] (.ret (.own (aO e) e.length 5)) [dB xs nn k2]:=by
 obtain ⟨w,k1,f,y,j,m,_,D⟩:=wo xs nn k i E (-8) (by omega) (by omega);obtain ⟨c,k2,G,h,z⟩:=dH xs nn k1 3 i f (by omega) (by omega);obtain ⟨d,k3,K,g,J⟩:=dH xs nn k2 3 i h (by omega) (by omega);have F:γ .i64 (((1:Nat):Int)+(c:Int))=1+(c:Int):=bG (by omega) (by omega);have A:γ .i64 (((1:Nat):Int)+(d:Int))=1+(d:Int):=bG (by omega) (by omega);have B:=jT (1+(c:Int)) (by omega) (by omega);have H:=jT (1+(d:Int)) (by omega) (by omega);obtain ⟨M,q,p⟩:=NZ (v:=1+(c:Int)) (by omega) (by omega);obtain ⟨u,n,o⟩:=NZ (v:=1+(d:Int)) (by omega) (by omega);have C:Tm aT ([qN 3 w]++ [qN 1 (lX (1+(c:Int)))]++ [qh 11]) ⟨false,1,0⟩:= .n2 (.n0 (t:=⟨false,0,0⟩) (oM y j m 3 (by simp)) rfl (by kernel_rfl)) (.n0 (t:=⟨false,1,0⟩) (oM M q p 1 (by simp)) rfl (by kernel_rfl)) (by kernel_rfl) rfl (by kernel_rfl);have N:Tm aT ([qN 3 w]++ [qN 1 (lX (1+(c:Int)))]++ [qh 11]++ [qN 2 (lX (1+(d:Int)))]++ [qh 12]) ⟨false,1, -1⟩:= .n2 C (.n0 (t:=⟨false,0,1⟩) (oM u n o 2 (by simp)) rfl (by kernel_rfl)) (by kernel_rfl) rfl (by kernel_rfl);have I:∀ x ∈ [qN 3 w]++ [qN 1 (lX (1+(c:Int)))]++ [qh 11]++ [qN 2 (lX (1+(d:Int)))]++ [qh 12],x.sm:=by
  intro x r;simp only [Xz6,Xx6] at r;rcases r with (((rfl|rfl)|rfl)|rfl)|rfl
  .exact GG j m
  .exact GG q p
  .exact rf _
  .exact GG n o
  .exact rf _
 generalize lX (1+(c:Int))=q1 at*
 generalize lX (1+(d:Int))=q2 at*
 exact ⟨_,k3,g,N,I,by simp,pK [] 12 92 (.n 28 .nil) (.c (show CO 48 [ω (γ .i64 (((1:Nat):Int)+(d:Int)))] (.ret (qA q2)) by rw [A];exact H) (.c J (.c (show CO 48 [ω (γ .i64 (((1:Nat):Int)+(c:Int)))] (.ret (qA q1)) by rw [F];exact B) (.c z (.c D .nil)))))⟩
theorem ag_ (xs:List Int) (nn:Bool) (k:Nat) (m:xs.length<2^63) (o:k<=xs.length):∃ (e:List Nd) (k2:Nat),k2<=xs.length/\Tm aT e ⟨false,1,0⟩/\(∀ x ∈ e,x.sm)/\e.length<=1/\aH prog ap 145 [.sl (iQ aT) 12 true,.ptr 0 0 0,.agg (uO ⟨false,1,0⟩)] [dB xs nn k] (.ret (.own (aO e) e.length 5)) [dB xs nn k2]:=by
 obtain ⟨r,k1,p,c,f⟩:=dH xs nn k 6 m o (by omega) (by omega);have this:r=0\/r=1\/r=2\/r=3\/r=4\/r=5:=by omega
 rcases this with rfl|rfl|rfl|rfl|rfl|rfl
 .exact ⟨[⟨5,false,[],[],zcc4_1⟩],k1,c,.n0 (by kernel_rfl) rfl (by kernel_rfl),OL ⟨by simp,by simp⟩,by simp,pK [] 51 1240180127100655 (.n 276 .nil) (.c f (.c qo (.c ql (.c Ie (.c Ic (.c Ib (.c Ia (.c H_ (.c H9 (.c H8 (.c H7 (.c H6 (.c H5 .nil)))))))))))))⟩
 .exact ⟨[⟨6,false,[],[],[116,97,120]⟩],k1,c,.n0 (by kernel_rfl) rfl (by kernel_rfl),OL ⟨by simp,by simp⟩,by simp,pK [] 51 1240180127100655 (.n 276 .nil) (.c f (.c qo (.c ql (.c Ie (.c Ic (.c Ib (.c Ia (.c H_ (.c H9 (.c H8 (.c H7 (.c H6 (.c H5 .nil)))))))))))))⟩
 .exact ⟨[⟨7,false,[],[],[116,97,120]⟩],k1,c,.n0 (by kernel_rfl) rfl (by kernel_rfl),OL ⟨by simp,by simp⟩,by simp,pK [] 51 1240180127100655 (.n 276 .nil) (.c f (.c qo (.c ql (.c Ie (.c Ic (.c Ib (.c Ia (.c H_ (.c H9 (.c H8 (.c H7 (.c H6 (.c H5 .nil)))))))))))))⟩
 .exact ⟨[⟨8,false,[],[],[116,97,120]⟩],k1,c,.n0 (by kernel_rfl) rfl (by kernel_rfl),OL ⟨by simp,by simp⟩,by simp,pK [] 51 1240180127100655 (.n 276 .nil) (.c f (.c qo (.c ql (.c Ie (.c Ic (.c Ib (.c Ia (.c H_ (.c H9 (.c H8 (.c H7 (.c H6 (.c H5 .nil)))))))))))))⟩
 .obtain ⟨e,k2,d,j,g,i,n⟩:=Rl xs nn k1 m c;have h:aH prog ap 145 [.sl (iQ aT) 12 true,.ptr 0 0 0,.agg (uO ⟨false,1,0⟩)] [dB xs nn k] (.ret (.own (κ (e.length*5) (aO e)) e.length 5)) [dB xs nn k2]:=pK [] 52 114280220258031 (.n 274 .nil) (.c n (.c f (.c qo (.c ql (.c Ie (.c Ic (.c Ib (.c Ia (.c H_ (.c H9 (.c H8 (.c H7 (.c H6 (.c H5 .nil))))))))))))));rw [ο (by rw [aQ];omega)] at h;exact ⟨e,k2,d,j,g,i,h⟩
 .obtain ⟨e,k2,d,j,g,i,n⟩:=Rl xs nn k1 m c;have h:aH prog ap 145 [.sl (iQ aT) 12 true,.ptr 0 0 0,.agg (uO ⟨false,1,0⟩)] [dB xs nn k] (.ret (.own (κ (e.length*5) (aO e)) e.length 5)) [dB xs nn k2]:=pK [] 52 114280220258031 (.n 274 .nil) (.c n (.c f (.c qo (.c ql (.c Ie (.c Ic (.c Ib (.c Ia (.c H_ (.c H9 (.c H8 (.c H7 (.c H6 (.c H5 .nil))))))))))))));rw [ο (by rw [aQ];omega)] at h;exact ⟨e,k2,d,j,g,i,h⟩
theorem ag9 (xs:List Int) (nn:Bool) (k:Nat) (j:xs.length<2^63) (o:k<=xs.length):∃ (e:List Nd) (k2:Nat),k2<=xs.length/\Tm aT e ⟨false,0,1⟩/\(∀ x ∈ e,x.sm)/\e.length<=1/\aH prog ap 145 [.sl (iQ aT) 12 true,.ptr 0 0 0,.agg (uO ⟨false,0,1⟩)] [dB xs nn k] (.ret (.own (aO e) e.length 5)) [dB xs nn k2]:=by
 obtain ⟨r,k1,p,d,n⟩:=dH xs nn k 3 j o (by omega) (by omega);have this:r=0\/r=1\/r=2:=by omega
 rcases this with rfl|rfl|rfl
 .exact ⟨[⟨5,false,[],[],[115,116,97,121]⟩],k1,d,.n0 (by kernel_rfl) rfl (by kernel_rfl),OL ⟨by simp,by simp⟩,by simp,pK [] 51 1239076303730551 (.n 246 .nil) (.c n (.c qo (.c ql (.c Ie (.c Ic (.c Ib (.c Ia (.c H_ (.c H9 (.c H8 (.c H7 (.c H6 (.c H5 .nil)))))))))))))⟩
 .obtain ⟨e,k2,c,i,f,g,m⟩:=Rk xs nn k1 j d;have h:aH prog ap 145 [.sl (iQ aT) 12 true,.ptr 0 0 0,.agg (uO ⟨false,0,1⟩)] [dB xs nn k] (.ret (.own (κ (e.length*5) (aO e)) e.length 5)) [dB xs nn k2]:=pK [] 52 113176396887927 (.n 244 .nil) (.c m (.c n (.c qo (.c ql (.c Ie (.c Ic (.c Ib (.c Ia (.c H_ (.c H9 (.c H8 (.c H7 (.c H6 (.c H5 .nil))))))))))))));rw [ο (by rw [aQ];omega)] at h;exact ⟨e,k2,c,i,f,g,h⟩
 .obtain ⟨e,k2,c,i,f,g,m⟩:=Rk xs nn k1 j d;have h:aH prog ap 145 [.sl (iQ aT) 12 true,.ptr 0 0 0,.agg (uO ⟨false,0,1⟩)] [dB xs nn k] (.ret (.own (κ (e.length*5) (aO e)) e.length 5)) [dB xs nn k2]:=pK [] 52 113176396887927 (.n 244 .nil) (.c m (.c n (.c qo (.c ql (.c Ie (.c Ic (.c Ib (.c Ia (.c H_ (.c H9 (.c H8 (.c H7 (.c H6 (.c H5 .nil))))))))))))));rw [ο (by rw [aQ];omega)] at h;exact ⟨e,k2,c,i,f,g,h⟩
theorem Ye (xs:List Int) (nn:Bool) (k:Nat) (j:xs.length<2^63) (o:k<=xs.length):∃ (e:List Nd) (k2:Nat),k2<=xs.length/\Tm aT e ⟨false,0,0⟩/\(∀ x ∈ e,x.sm)/\e.length<=1/\aH prog ap 145 [.sl (iQ aT) 12 true,.ptr 0 0 0,.agg (uO ⟨false,0,0⟩)] [dB xs nn k] (.ret (.own (aO e) e.length 5)) [dB xs nn k2]:=by
 obtain ⟨r,k1,p,d,n⟩:=dH xs nn k 3 j o (by omega) (by omega);have this:r=0\/r=1\/r=2:=by omega
 rcases this with rfl|rfl|rfl
 .exact ⟨[⟨5,false,[],[],[107,105,100,115]⟩],k1,d,.n0 (by kernel_rfl) rfl (by kernel_rfl),OL ⟨by simp,by simp⟩,by simp,pK [] 51 1239076303728375 (.n 246 .nil) (.c n (.c qo (.c ql (.c Ie (.c Ic (.c Ib (.c Ia (.c H_ (.c H9 (.c H8 (.c H7 (.c H6 (.c H5 .nil)))))))))))))⟩
 .obtain ⟨e,k2,c,i,f,g,m⟩:=Rn xs nn k1 j d;have h:aH prog ap 145 [.sl (iQ aT) 12 true,.ptr 0 0 0,.agg (uO ⟨false,0,0⟩)] [dB xs nn k] (.ret (.own (κ (e.length*5) (aO e)) e.length 5)) [dB xs nn k2]:=pK [] 52 113176396885751 (.n 244 .nil) (.c m (.c n (.c qo (.c ql (.c Ie (.c Ic (.c Ib (.c Ia (.c H_ (.c H9 (.c H8 (.c H7 (.c H6 (.c H5 .nil))))))))))))));rw [ο (by rw [aQ];omega)] at h;exact ⟨e,k2,c,i,f,g,h⟩
 .obtain ⟨e,k2,c,i,f,g,m⟩:=Rn xs nn k1 j d;have h:aH prog ap 145 [.sl (iQ aT) 12 true,.ptr 0 0 0,.agg (uO ⟨false,0,0⟩)] [dB xs nn k] (.ret (.own (κ (e.length*5) (aO e)) e.length 5)) [dB xs nn k2]:=pK [] 52 113176396885751 (.n 244 .nil) (.c m (.c n (.c qo (.c ql (.c Ie (.c Ic (.c Ib (.c Ia (.c H_ (.c H9 (.c H8 (.c H7 (.c H6 (.c H5 .nil))))))))))))));rw [ο (by rw [aQ];omega)] at h;exact ⟨e,k2,c,i,f,g,h⟩
theorem ahb (xs:List Int) (nn:Bool) (k:Nat) (i:xs.length<2^63) (j:k<=xs.length):∃ (e:List Nd) (k2:Nat),k2<=xs.length/\Tm aT e ⟨true,0,0⟩/\(∀ x ∈ e,x.sm)/\e.length<=1/\aH prog ap 145 [.sl (iQ aT) 12 true,.ptr 0 0 0,.agg (uO ⟨true,0,0⟩)] [dB xs nn k] (.ret (.own (aO e) e.length 5)) [dB xs nn k2]:=by
 obtain ⟨r,k1,m,c,f⟩:=dH xs nn k 6 i j (by omega) (by omega);have this:r=0\/r=1\/r=2\/r=3\/r=4\/r=5:=by omega
 rcases this with rfl|rfl|rfl|rfl|rfl|rfl
 .exact ⟨[⟨5,false,[],[],zcc4_0⟩],k1,c,.n0 (by kernel_rfl) rfl (by kernel_rfl),OL ⟨by simp,by simp⟩,by simp,pK [] 51 1239145292689271 (.n 276 .nil) (.c f (.c qo (.c ql (.c Ie (.c Ic (.c Ib (.c Ia (.c H_ (.c H9 (.c H8 (.c H7 (.c H6 (.c H5 .nil)))))))))))))⟩
 .exact ⟨[⟨6,false,[],[],[112,111,111,114]⟩],k1,c,.n0 (by kernel_rfl) rfl (by kernel_rfl),OL ⟨by simp,by simp⟩,by simp,pK [] 51 1239145292689271 (.n 276 .nil) (.c f (.c qo (.c ql (.c Ie (.c Ic (.c Ib (.c Ia (.c H_ (.c H9 (.c H8 (.c H7 (.c H6 (.c H5 .nil)))))))))))))⟩
 .exact ⟨[⟨7,false,[],[],[112,111,111,114]⟩],k1,c,.n0 (by kernel_rfl) rfl (by kernel_rfl),OL ⟨by simp,by simp⟩,by simp,pK [] 51 1239145292689271 (.n 276 .nil) (.c f (.c qo (.c ql (.c Ie (.c Ic (.c Ib (.c Ia (.c H_ (.c H9 (.c H8 (.c H7 (.c H6 (.c H5 .nil)))))))))))))⟩
 .exact ⟨[⟨8,false,[],[],[112,111,111,114]⟩],k1,c,.n0 (by kernel_rfl) rfl (by kernel_rfl),OL ⟨by simp,by simp⟩,by simp,pK [] 51 1239145292689271 (.n 276 .nil) (.c f (.c qo (.c ql (.c Ie (.c Ic (.c Ib (.c Ia (.c H_ (.c H9 (.c H8 (.c H7 (.c H6 (.c H5 .nil)))))))))))))⟩
 .obtain ⟨s,k2,hs,d,h⟩:=dH xs nn k1 2 i c (by omega) (by omega);have this:s=0\/s=1:=by omega
  rcases this with rfl|rfl
  .have g:=jT ((0:Nat):Int) (by decide) (by decide);exact ⟨[qN 4 (lX ((0:Nat):Int))],k2,d,.n0 (by kernel_rfl) rfl (by kernel_rfl),OL (GG (by decide) (by decide)),by simp,pK [] 52 2365045199531895 (.n 271 .nil) (.c g (.c h (.c f (.c qo (.c ql (.c Ie (.c Ic (.c Ib (.c Ia (.c H_ (.c H9 (.c H8 (.c H7 (.c H6 (.c H5 .nil)))))))))))))))⟩
  .have g:=jT ((1:Nat):Int) (by decide) (by decide);exact ⟨[qN 4 (lX ((1:Nat):Int))],k2,d,.n0 (by kernel_rfl) rfl (by kernel_rfl),OL (GG (by decide) (by decide)),by simp,pK [] 52 2365045199531895 (.n 271 .nil) (.c g (.c h (.c f (.c qo (.c ql (.c Ie (.c Ic (.c Ib (.c Ia (.c H_ (.c H9 (.c H8 (.c H7 (.c H6 (.c H5 .nil)))))))))))))))⟩
 .obtain ⟨s,k2,hs,d,h⟩:=dH xs nn k1 2 i c (by omega) (by omega);have this:s=0\/s=1:=by omega
  rcases this with rfl|rfl
  .have g:=jT ((0:Nat):Int) (by decide) (by decide);exact ⟨[qN 4 (lX ((0:Nat):Int))],k2,d,.n0 (by kernel_rfl) rfl (by kernel_rfl),OL (GG (by decide) (by decide)),by simp,pK [] 52 2365045199531895 (.n 271 .nil) (.c g (.c h (.c f (.c qo (.c ql (.c Ie (.c Ic (.c Ib (.c Ia (.c H_ (.c H9 (.c H8 (.c H7 (.c H6 (.c H5 .nil)))))))))))))))⟩
  .have g:=jT ((1:Nat):Int) (by decide) (by decide);exact ⟨[qN 4 (lX ((1:Nat):Int))],k2,d,.n0 (by kernel_rfl) rfl (by kernel_rfl),OL (GG (by decide) (by decide)),by simp,pK [] 52 2365045199531895 (.n 271 .nil) (.c g (.c h (.c f (.c qo (.c ql (.c Ie (.c Ic (.c Ib (.c Ia (.c H_ (.c H9 (.c H8 (.c H7 (.c H6 (.c H5 .nil)))))))))))))))⟩
theorem aha (xs:List Int) (nn:Bool) (k:Nat) (j:xs.length<2^63) (o:k<=xs.length):∃ (e:List Nd) (k2:Nat),k2<=xs.length/\Tm aT e ⟨false,1, -1⟩/\(∀ x ∈ e,x.sm)/\e.length<=5/\aH prog ap 145 [.sl (iQ aT) 12 true,.ptr 0 0 0,.agg (uO ⟨false,1, -1⟩)] [dB xs nn k] (.ret (.own (aO e) e.length 5)) [dB xs nn k2]:=by
 obtain ⟨r,k1,p,d,n⟩:=dH xs nn k 2 j o (by omega) (by omega);have this:r=0\/r=1:=by omega
 rcases this with rfl|rfl
 .obtain ⟨e,k2,c,i,f,g,m⟩:=Rq xs nn k1 j d;have h:aH prog ap 145 [.sl (iQ aT) 12 true,.ptr 0 0 0,.agg (uO ⟨false,1, -1⟩)] [dB xs nn k] (.ret (.own (κ (e.length*5) (aO e)) e.length 5)) [dB xs nn k2]:=pK [] 51 56588198442871 (.n 235 .nil) (.c m (.c n (.c qo (.c ql (.c Ie (.c Ic (.c Ib (.c Ia (.c H_ (.c H9 (.c H8 (.c H7 (.c H6 (.c H5 .nil))))))))))))));rw [ο (by rw [aQ];omega)] at h;exact ⟨e,k2,c,i,f,g,h⟩
 .obtain ⟨e,k2,c,i,f,g,m⟩:=Rq xs nn k1 j d;have h:aH prog ap 145 [.sl (iQ aT) 12 true,.ptr 0 0 0,.agg (uO ⟨false,1, -1⟩)] [dB xs nn k] (.ret (.own (κ (e.length*5) (aO e)) e.length 5)) [dB xs nn k2]:=pK [] 51 56588198442871 (.n 235 .nil) (.c m (.c n (.c qo (.c ql (.c Ie (.c Ic (.c Ib (.c Ia (.c H_ (.c H9 (.c H8 (.c H7 (.c H6 (.c H5 .nil))))))))))))));rw [ο (by rw [aQ];omega)] at h;exact ⟨e,k2,c,i,f,g,h⟩
theorem Qm {n:Nat} (a b:List Nd) (h:n=a.length):κ (n*5) (aO a)++aO b=aO (a++b):=by
 rw [ο (by rw [aQ];omega),KN]
theorem Qn {n:Nat} (a:List Nd) (x:Nd) (h:n=a.length):κ (n*5) (aO a)++ [ω x.op,.bool x.neg,.str x.num,.str x.den,.str x.name]=aO (a++ [x]):=by
 rw [ο (by rw [aQ];omega),KN];rfl
abbrev VbW (a:List Nd):Prop:=(Xqn (ζ (aO a)) (a.length*5))=true
theorem ajt (x:Nd) (a:List Nd) (d:(Φ (a.length+1) 1099511627776)=true) (g:(Φ (a.length*5) (ζ (aO a)))=true) (c:VbW a) (e:(Φ a.length 1099511627776)=true) (f:lit false (Xqn a.length 0)=true):CO 146 [.agg [ω x.op,.bool x.neg,.str x.num,.str x.den,.str x.name],.sl [.sl (aO a) a.length true] 1 true] (.ret (.own (κ ((a.length+1)*5) (aO (a++ [x]))) (a.length+1) 5)):=pK [] 3 1 (.k 1 d (.c g (.k 7 c (.c e (.c f (.n 4 .nil)))))) (.b 22 (Qn a x rfl) (.b 18 (Eq.refl (aO a)) .nil))
theorem afr (x:Nd) (a:List Nd) (ne:a ≠ []) (c:a.length<1000):CO 146 [.agg (lI x),.sl [.sl (aO a) a.length true] 1 true] (.ret (.own (aO (a++ [x])) (a++ [x]).length 5)):=by
 have hp:0<a.length:=by cases a with|nil=>exact absurd rfl ne|cons _ _=>simp
 have d:Xqn a.length 0=false:=by cases c:a.length with|zero=>omega|succ n=>rfl
 have h:=ajt x a (by first|(simp [aQ];done)|(simp [aQ];omega)|omega) (by first|(simp [aQ];done)|(simp [aQ];omega)|omega) (by first|(simp [aQ];done)|(simp [aQ];omega)|omega) (by first|(simp [aQ];done)|(simp [aQ];omega)|omega) (aB d);rw [ο (by rw [aQ];first|(simp;done)|(simp;omega))] at h;rw [show (a++ [x]).length=a.length+1 by simp [Xxu]];exact h
theorem aju (x:Nd) (a b:List Nd) (e:(Φ ((a.length+b.length)+1) 1099511627776)=true) (j:(Φ ((a.length+b.length)*5) (ζ (aO (a++b))))=true) (c:VbW b) (h:(Φ (a.length+b.length) 1099511627776)=true) (i:(Φ (a.length*5) (ζ (aO a)))=true) (f:VbW a) (d:(Φ a.length 1099511627776)=true) (g:lit false (Xqn a.length 0)=true):CO 146 [.agg [ω x.op,.bool x.neg,.str x.num,.str x.den,.str x.name],.sl [.sl (aO a) a.length true,.sl (aO b) b.length true] 2 true] (.ret (.own (κ (((a.length+b.length)+1)*5) (aO (a++b++ [x]))) ((a.length+b.length)+1) 5)):=pK [] 4 5 (.k 1 e (.c j (.k 7 c (.c h (.c i (.k 5 f (.c d (.c g (.n 4 .nil))))))))) (.b 22 (Qn (a++b) x List.length_append.symm) (.b 18 (Qm a b rfl) (.b 18 (Eq.refl (aO a)) .nil)))
theorem afs (x:Nd) (a b:List Nd) (ne:a ≠ []) (d:a.length<1000) (c:b.length<1000):CO 146 [.agg (lI x),.sl [.sl (aO a) a.length true,.sl (aO b) b.length true] 2 true] (.ret (.own (aO (a++b++ [x])) (a++b++ [x]).length 5)):=by
 have hp:0<a.length:=by cases a with|nil=>exact absurd rfl ne|cons _ _=>simp
 have c:Xqn a.length 0=false:=by cases d:a.length with|zero=>omega|succ n=>rfl
 have h:=aju x a b (by first|(simp [aQ];done)|(simp [aQ];omega)|omega) (by first|(simp [aQ];done)|(simp [aQ];omega)|omega) (by first|(simp [aQ];done)|(simp [aQ];omega)|omega) (by first|(simp [aQ];done)|(simp [aQ];omega)|omega) (by first|(simp [aQ];done)|(simp [aQ];omega)|omega) (by first|(simp [aQ];done)|(simp [aQ];omega)|omega) (by first|(simp [aQ];done)|(simp [aQ];omega)|omega) (aB c);rw [ο (by rw [aQ];first|(simp;done)|(simp;omega))] at h;rw [show (a++b++ [x]).length=a.length+b.length+1 by simp [Xxu]];exact h
theorem ajv (x:Nd) (a b c:List Nd) (g:(Φ (((a.length+b.length)+c.length)+1) 1099511627776)=true) (n:(Φ (((a.length+b.length)+c.length)*5) (ζ (aO (a++b++c))))=true) (e:VbW c) (j:(Φ ((a.length+b.length)+c.length) 1099511627776)=true) (m:(Φ ((a.length+b.length)*5) (ζ (aO (a++b))))=true) (h:VbW b) (f:(Φ (a.length+b.length) 1099511627776)=true) (i:(Φ (a.length*5) (ζ (aO a)))=true) (o:VbW a) (k:(Φ a.length 1099511627776)=true) (d:lit false (Xqn a.length 0)=true):CO 146 [.agg [ω x.op,.bool x.neg,.str x.num,.str x.den,.str x.name],.sl [.sl (aO a) a.length true,.sl (aO b) b.length true,.sl (aO c) c.length true] 3 true] (.ret (.own (κ ((((a.length+b.length)+c.length)+1)*5) (aO (a++b++c++ [x]))) (((a.length+b.length)+c.length)+1) 5)):=pK [] 5 13 (.k 1 g (.c n (.k 7 e (.c j (.c m (.k 5 h (.c f (.c i (.k 5 o (.c k (.c d (.n 4 .nil)))))))))))) (.b 22 (Qn (a++b++c) x (by rw [η,η])) (.b 18 (Qm (a++b) c List.length_append.symm) (.b 18 (Qm a b rfl) (.b 18 (Eq.refl (aO a)) .nil))))
theorem aft (x:Nd) (a b c:List Nd) (ne:a ≠ []) (e:a.length<1000) (d:b.length<1000) (f:c.length<1000):CO 146 [.agg (lI x),.sl [.sl (aO a) a.length true,.sl (aO b) b.length true,.sl (aO c) c.length true] 3 true] (.ret (.own (aO (a++b++c++ [x])) (a++b++c++ [x]).length 5)):=by
 have hp:0<a.length:=by cases a with|nil=>exact absurd rfl ne|cons _ _=>simp
 have d:Xqn a.length 0=false:=by cases e:a.length with|zero=>omega|succ n=>rfl
 have h:=ajv x a b c (by first|(simp [aQ];done)|(simp [aQ];omega)|omega) (by first|(simp [aQ];done)|(simp [aQ];omega)|omega) (by first|(simp [aQ];done)|(simp [aQ];omega)|omega) (by first|(simp [aQ];done)|(simp [aQ];omega)|omega) (by first|(simp [aQ];done)|(simp [aQ];omega)|omega) (by first|(simp [aQ];done)|(simp [aQ];omega)|omega) (by first|(simp [aQ];done)|(simp [aQ];omega)|omega) (by first|(simp [aQ];done)|(simp [aQ];omega)|omega) (by first|(simp [aQ];done)|(simp [aQ];omega)|omega) (by first|(simp [aQ];done)|(simp [aQ];omega)|omega) (aB d);rw [ο (by rw [aQ];first|(simp;done)|(simp;omega))] at h;rw [show (a++b++c++ [x]).length=a.length+b.length+c.length+1 by simp [Xxu]];exact h
def tM:Ty:=⟨false,1,0⟩
def tD:Ty:=⟨false,0,1⟩
def tP:Ty:=⟨false,0,0⟩
def dm (t:Ty):Prop:=t=tM\/t=tD\/t=tP\/t=tT
def bL:Nat->Nat
 |0=>1
 |n+1=>3*bL n+1
def Mk (f:Nat) (pre post:List AV) (t:Ty) (bnd:Nat) (xs:List Int) (nn:Bool) (k:Nat):Prop:=∃ (e:List Nd) (k2:Nat),k2<=xs.length/\Tm aT e t/\(∀ x ∈ e,x.sm)/\e.length<=bnd/\aH prog ap f (pre++ .agg (uO t)::post) [dB xs nn k] (.ret (.own (aO e) e.length 5)) [dB xs nn k2]
abbrev kK (t:Ty) (lv:Int) (bnd:Nat) (xs:List Int) (nn:Bool) (k:Nat):Prop:=Mk 95 [.sl (iQ aT) 12 true,.ptr 0 0 0] [ω lv] t bnd xs nn k
theorem Ql {f:Nat} {pre post:List AV} {t:Ty} {c k k2:Nat} {xs:List Int} {nn:Bool} {e:List Nd} (i:k2<=xs.length) (j:Tm aT e t) (d:∀ x ∈ e,x.sm) (g:e.length<=c) (h:aH prog ap f (pre++ .agg (uO t)::post) [dB xs nn k] (.ret (.own (κ (e.length*5) (aO e)) e.length 5)) [dB xs nn k2]):Mk f pre post t c xs nn k:=by
 rw [ο (by rw [aQ];omega)] at h;exact ⟨e,k2,i,j,d,g,h⟩
theorem Iz (a:List Nd):κ (a.length*5) (aO a)=aO a:=ο (by rw [aQ];omega)
theorem aas (x:Nd) (a:List Nd) (ne:a ≠ []) (c:a.length<1000):CO 146 [.agg (lI x),.sl [.sl (κ (a.length*5) (aO a)) a.length true] 1 true] (.ret (.own (aO (a++ [x])) (a++ [x]).length 5)):=by
 simp only [Iz];exact afr x a ne c
theorem ad8 {a:List Nd} {x:Nd} (e:∀ y ∈ a,y.sm) (d:x.sm):∀ y ∈ a++ [x],y.sm:=by
 intro y c;simp only [Xz6,Xx6] at c;rcases c with c|rfl
 .exact e y c
 .exact d
theorem WA (x:Nd) (a b:List Nd) (ne:a ≠ []) (d:a.length<1000) (c:b.length<1000):CO 146 [.agg (lI x),.sl [.sl (κ (a.length*5) (aO a)) a.length true,.sl (κ (b.length*5) (aO b)) b.length true] 2 true] (.ret (.own (aO (a++b++ [x])) (a++b++ [x]).length 5)):=by
 simp only [Iz];exact afs x a b ne d c
theorem ZI {a b:List Nd} {x:Nd} (f:∀ y ∈ a,y.sm) (e:∀ y ∈ b,y.sm) (d:x.sm):∀ y ∈ a++b++ [x],y.sm:=by
 intro y c;simp only [Xz6,Xx6] at c;rcases c with (c|c)|rfl
 .exact f y c
 .exact e y c
 .exact d
theorem ajw (x:Nd) (a b c:List Nd) (ne:a ≠ []) (f:a.length<1000) (d:b.length<1000) (e:c.length<1000):CO 146 [.agg (lI x),.sl [.sl (κ (a.length*5) (aO a)) a.length true,.sl (κ (b.length*5) (aO b)) b.length true,.sl (κ (c.length*5) (aO c)) c.length true] 3 true] (.ret (.own (aO (a++b++c++ [x])) (a++b++c++ [x]).length 5)):=by
 simp only [Iz];exact aft x a b c ne f d e
theorem aof {a b c:List Nd} {x:Nd} (h:∀ y ∈ a,y.sm) (f:∀ y ∈ b,y.sm) (g:∀ y ∈ c,y.sm) (e:x.sm):∀ y ∈ a++b++c++ [x],y.sm:=by
 intro y d;simp only [Xz6,Xx6] at d;rcases d with ((d|d)|d)|rfl
 .exact h y d
 .exact f y d
 .exact g y d
 .exact e
theorem Sr {t:Ty} (e:dm t) (xs:List Int) (nn:Bool) (k:Nat) (c:xs.length<2^63) (d:k<=xs.length):Mk 145 [.sl (iQ aT) 12 true,.ptr 0 0 0] [] t 1 xs nn k:=by
 rcases e with rfl|rfl|rfl|rfl
 .exact ag_ xs nn k c d
 .exact ag9 xs nn k c d
 .exact Ye xs nn k c d
 .exact ahb xs nn k c d
theorem alC {t:Ty} (f:dm t) (xs:List Int) (nn:Bool) (k:Nat) (g:xs.length<2^63) (j:k<=xs.length):kK t 0 1 xs nn k:=by
 obtain ⟨e,k2,d,m,h,i,c⟩:=Sr f xs nn k g j;refine Ql d m h i ?_;rcases f with rfl|rfl|rfl|rfl
 .exact pK [] 2 3 (.n 5 .nil) (.c c .nil)
 .exact pK [] 2 3 (.n 5 .nil) (.c c .nil)
 .exact pK [] 2 3 (.n 5 .nil) (.c c .nil)
 .exact pK [] 2 3 (.n 5 .nil) (.c c .nil)
theorem alE (xs:List Int) (nn:Bool) (k:Nat) (d:xs.length<2^63) (i:k<=xs.length):kK ⟨false,1, -1⟩ 0 5 xs nn k:=by
 obtain ⟨e,k2,c,j,f,g,h⟩:=aha xs nn k d i;exact Ql c j f g (pK [] 2 3 (.n 5 .nil) (.c h .nil))
def kT:Nat->Ty
 |0=>tM
 |1=>tD
 |_=>tP
theorem kd0:CO 63 [ω 1,ω 0] (.ret (.agg [.bool false,ω 1,ω 0])):=cK (.nil)
theorem kd1:CO 63 [ω 0,ω 1] (.ret (.agg [.bool false,ω 0,ω 1])):=cK (.nil)
theorem kd2:CO 63 [ω 0,ω 0] (.ret (.agg [.bool false,ω 0,ω 0])):=cK (.nil)
theorem kd3:CO 64 [] (.ret (.agg [.bool true,ω 0,ω 0])):=cK (.nil)
theorem kd4:CO 63 [ω 1,ω (-1)] (.ret (.agg [.bool false,ω 1,ω (-1)])):=cK (.nil)
theorem kd5:CO 65 [ω 0,ω 5] (.ret (ω 0)):=cK (.nil)
theorem kd6:CO 32 [ω 0] (.ret (.agg [.bool false,ω 1,ω 0])):=cK (.c kd5 (.c kd4 (.c kd3 (.c kd2 (.c kd1 (.c kd0 .nil))))))
theorem kd7:CO 65 [ω 1,ω 5] (.ret (ω 1)):=cK (.nil)
theorem kd8:CO 32 [ω 1] (.ret (.agg [.bool false,ω 0,ω 1])):=cK (.c kd7 (.c kd4 (.c kd3 (.c kd2 (.c kd1 (.c kd0 .nil))))))
theorem kd9:CO 65 [ω 2,ω 5] (.ret (ω 2)):=cK (.nil)
theorem ag6:CO 32 [ω 2] (.ret (.agg [.bool false,ω 0,ω 0])):=cK (.c kd9 (.c kd4 (.c kd3 (.c kd2 (.c kd1 (.c kd0 .nil))))))
theorem Ya {u:Nat} (c:u<3):CO 32 [ω (u:Int)] (.ret (.agg (uO (kT u))))/\dm (kT u):=by
 rcases (show u=0\/u=1\/u=2 by omega) with rfl|rfl|rfl
 .exact ⟨kd6,by simp [dm,kT]⟩
 .exact ⟨kd8,by simp [dm,kT]⟩
 .exact ⟨ag6,by simp [dm,kT]⟩
theorem pT:dm tT:=by simp [dm]
theorem pP:dm tP:=by simp [dm]
def NW (t:Ty):Prop:=t=tM\/t=tD\/t=tP
theorem NW.pl {t:Ty} (h:NW t):dm t:=by rcases h with rfl|rfl|rfl<;>simp [dm]
theorem ap_ {xs:List Int} {nn:Bool} {k lv A k1 s k2:Nat} (F:xs.length<2^63) (c:lv<2^62) (N:bL lv<300) (p:∀ t,dm t->∀ k,k<=xs.length->kK t (lv:Int) (bL lv) xs nn k) (v:((A:Int)==((0:Nat):Int))=false) (C:(decide ((((lv+1):Nat):Int)<=((0:Nat):Int)))=false) (m:k2<=xs.length) (y:aH prog ap 97 [.ptr 0 0 0,ω 5] [dB xs nn k] (.ret (ω (A:Int))) [dB xs nn k1]) (q:aH prog ap 97 [.ptr 0 0 0,ω 5] [dB xs nn k1] (.ret (ω (s:Int))) [dB xs nn k2]) (hs:s=0\/s=1):kK tT ((lv+1:Nat):Int) (bL (lv+1)) xs nn k:=by
 obtain ⟨u,k3,g,i,E⟩:=dH xs nn k2 3 F m (by omega) (by omega);obtain ⟨r,k4,P,h,w⟩:=dH xs nn k3 2 F i (by omega) (by omega);have f:=(Ya g).1;obtain ⟨o,k5,j,G,m0,Q,D⟩:=p (kT u) (Ya g).2 k4 h;obtain ⟨z,k6,n,M,K,O,B⟩:=p (kT u) (Ya g).2 k5 j;have d:=WA (qh (16+(r:Int))) o z G.ne (by omega) (by omega);have J:aJ (qh (16+(r:Int)))=0:=by rcases (show u=0\/u=1\/u=2 by omega) with rfl|rfl|rfl<;>rcases (show r=0\/r=1 by omega) with rfl|rfl<;>kernel_rfl
 have H:dh (qh (16+(r:Int))).op=2:=by rcases (show u=0\/u=1\/u=2 by omega) with rfl|rfl|rfl<;>rcases (show r=0\/r=1 by omega) with rfl|rfl<;>rfl
 have I:uC aT (qh (16+(r:Int))) [(kT u),(kT u)]=(tT,0):=by rcases (show u=0\/u=1\/u=2 by omega) with rfl|rfl|rfl<;>rcases (show r=0\/r=1 by omega) with rfl|rfl<;>kernel_rfl
 refine Ql (e:=o++z++ [qh (16+(r:Int))]) n (.n2 G M J H I) (ZI m0 K (rf _)) (by simp [bL];omega) ?_;rcases hs with rfl|rfl
 .rcases (show u=0\/u=1\/u=2 by omega) with rfl|rfl|rfl<;>rcases (show r=0\/r=1 by omega) with rfl|rfl<;>exact pK [] 5 28 (.k 11 (aB v) (.c (aB C) .nil)) (.c d (.c B (.c D (.c w (.c f (.c E (.c q (.v 27 (.eq (Uf c)) (.c y .nil)))))))))
 .rcases (show u=0\/u=1\/u=2 by omega) with rfl|rfl|rfl<;>rcases (show r=0\/r=1 by omega) with rfl|rfl<;>exact pK [] 5 20 (.k 11 (aB v) (.c (aB C) .nil)) (.c d (.c B (.c D (.c w (.c f (.c E (.c q (.v 27 (.eq (Uf c)) (.c y .nil)))))))))
theorem aqa {xs:List Int} {nn:Bool} {k lv h k1 s k2:Nat} (A:xs.length<2^63) (c:lv<2^62) (y:bL lv<300) (p:∀ t,dm t->∀ k,k<=xs.length->kK t (lv:Int) (bL lv) xs nn k) (u:((h:Int)==((0:Nat):Int))=false) (m:(decide ((((lv+1):Nat):Int)<=((0:Nat):Int)))=false) (d:k2<=xs.length) (w:aH prog ap 97 [.ptr 0 0 0,ω 5] [dB xs nn k] (.ret (ω (h:Int))) [dB xs nn k1]) (r:aH prog ap 97 [.ptr 0 0 0,ω 5] [dB xs nn k1] (.ret (ω (s:Int))) [dB xs nn k2]) (hs:s=2):kK tT ((lv+1:Nat):Int) (bL (lv+1)) xs nn k:=by
 obtain ⟨i,k3,g,j,m0,z,o⟩:=p tT pT k2 d;have f:=aas (qh 20) i j.ne (by omega);have v:aJ (qh 20)=0:=by kernel_rfl
 have n:dh (qh 20).op=1:=by rfl
 have q:uC aT (qh 20) [tT]=(tT,0):=by kernel_rfl
 refine Ql (e:=i++ [qh 20]) g (.n1 j v n q) (ad8 m0 (rf _)) (by simp [bL];omega) ?_;subst hs;exact pK [] 6 36 (.k 8 (aB u) (.c (aB m) .nil)) (.c f (.c o (.c r (.v 27 (.eq (Uf c)) (.c w .nil)))))
theorem aqb {xs:List Int} {nn:Bool} {k lv p k1 s k2:Nat} (N:xs.length<2^63) (g:lv<2^62) (I:bL lv<300) (c:∀ t,dm t->∀ k,k<=xs.length->kK t (lv:Int) (bL lv) xs nn k) (w:((p:Int)==((0:Nat):Int))=false) (D:(decide ((((lv+1):Nat):Int)<=((0:Nat):Int)))=false) (i:k2<=xs.length) (A:aH prog ap 97 [.ptr 0 0 0,ω 5] [dB xs nn k] (.ret (ω (p:Int))) [dB xs nn k1]) (v:aH prog ap 97 [.ptr 0 0 0,ω 5] [dB xs nn k1] (.ret (ω (s:Int))) [dB xs nn k2]) (hs:s=3):kK tT ((lv+1:Nat):Int) (bL (lv+1)) xs nn k:=by
 obtain ⟨m,k3,f,q,m0,M,E⟩:=c tT pT k2 i;obtain ⟨o,k4,d,C,z,J,B⟩:=c tT pT k3 f;obtain ⟨n,k5,h,G,F,K,H⟩:=c tT pT k4 d;have j:=ajw (qh 15) m o n q.ne (by omega) (by omega) (by omega);have y:aJ (qh 15)=0:=by kernel_rfl
 have r:dh (qh 15).op=3:=by rfl
 have u:uC aT (qh 15) [tT,tT,tT]=(tT,0):=by kernel_rfl
 refine Ql (e:=m++o++n++ [qh 15]) h (.n3 q C G y r u) (aof m0 z F (rf _)) (by simp [bL];omega) ?_;subst hs;exact pK [] 7 68 (.k 15 (aB w) (.c (aB D) .nil)) (.c j (.c H (.c B (.c E (.c v (.v 27 (.eq (Uf g)) (.c A .nil)))))))
theorem aqc {xs:List Int} {nn:Bool} {k lv o k1 s k2:Nat} (G:xs.length<2^63) (f:lv<2^62) (H:bL lv<300) (m:∀ t,dm t->∀ k,k<=xs.length->kK t (lv:Int) (bL lv) xs nn k) (w:((o:Int)==((0:Nat):Int))=false) (E:(decide ((((lv+1):Nat):Int)<=((0:Nat):Int)))=false) (h:k2<=xs.length) (B:aH prog ap 97 [.ptr 0 0 0,ω 5] [dB xs nn k] (.ret (ω (o:Int))) [dB xs nn k1]) (v:aH prog ap 97 [.ptr 0 0 0,ω 5] [dB xs nn k1] (.ret (ω (s:Int))) [dB xs nn k2]) (hs:s=4):kK tT ((lv+1:Nat):Int) (bL (lv+1)) xs nn k:=by
 obtain ⟨r,k3,J,d,y⟩:=dH xs nn k2 2 G h (by omega) (by omega);obtain ⟨j,k4,c,p,m0,K,F⟩:=m tT pT k3 d;obtain ⟨n,k5,g,D,A,I,C⟩:=m tT pT k4 c;have i:=WA (qh (18+(r:Int))) j n p.ne (by omega) (by omega);have z:aJ (qh (18+(r:Int)))=0:=by rcases (show r=0\/r=1 by omega) with rfl|rfl<;>kernel_rfl
 have q:dh (qh (18+(r:Int))).op=2:=by rcases (show r=0\/r=1 by omega) with rfl|rfl<;>rfl
 have u:uC aT (qh (18+(r:Int))) [tT,tT]=(tT,0):=by rcases (show r=0\/r=1 by omega) with rfl|rfl<;>kernel_rfl
 refine Ql (e:=j++n++ [qh (18+(r:Int))]) g (.n2 p D z q u) (ZI m0 A (rf _)) (by simp [bL];omega) ?_;subst hs;rcases (show r=0\/r=1 by omega) with rfl|rfl<;>exact pK [] 7 4 (.k 12 (aB w) (.c (aB E) .nil)) (.c i (.c C (.c F (.c y (.c v (.v 27 (.eq (Uf f)) (.c B .nil)))))))
def opF (r:Nat):Int:=([9,10,13,14]:List Int).getD r 0
theorem n26:CO 63 [ω 0,ω 0] (.ret (.agg (uO tP))):=cK .nil
theorem n25:CO 64 [] (.ret (.agg (uO tT))):=cK .nil
theorem ap4 {xs:List Int} {nn:Bool} {k lv w k1 s k2:Nat} (H:xs.length<2^63) (d:lv<2^62) (I:bL lv<300) (n:∀ t,dm t->∀ k,k<=xs.length->kK t (lv:Int) (bL lv) xs nn k) (p:((w:Int)==((0:Nat):Int))=false) (z:(decide ((((lv+1):Nat):Int)<=((0:Nat):Int)))=false) (j:k2<=xs.length) (u:aH prog ap 97 [.ptr 0 0 0,ω 5] [dB xs nn k] (.ret (ω (w:Int))) [dB xs nn k1]) (o:aH prog ap 97 [.ptr 0 0 0,ω 7] [dB xs nn k1] (.ret (ω (s:Int))) [dB xs nn k2]) (hs:s=0\/s=1) {t:Ty} (c:NW t):kK t ((lv+1:Nat):Int) (bL (lv+1)) xs nn k:=by
 obtain ⟨r,k3,K,h,q⟩:=dH xs nn k2 4 H j (by omega) (by omega);obtain ⟨m,k4,g,B,m0,M,A⟩:=n t c.pl k3 h;obtain ⟨v,k5,i,G,F,J,y⟩:=n t c.pl k4 g;have f:=WA (qh (opF r)) m v B.ne (by omega) (by omega);have E:aJ (qh (opF r))=0:=by rcases c with rfl|rfl|rfl<;>rcases (show r=0\/r=1\/r=2\/r=3 by omega) with rfl|rfl|rfl|rfl<;>kernel_rfl
 have C:dh (qh (opF r)).op=2:=by rcases c with rfl|rfl|rfl<;>rcases (show r=0\/r=1\/r=2\/r=3 by omega) with rfl|rfl|rfl|rfl<;>rfl
 have D:uC aT (qh (opF r)) [t,t]=(t,0):=by rcases c with rfl|rfl|rfl<;>rcases (show r=0\/r=1\/r=2\/r=3 by omega) with rfl|rfl|rfl|rfl<;>kernel_rfl
 refine Ql (e:=m++v++ [qh (opF r)]) i (.n2 B G E C D) (ZI m0 F (rf _)) (by simp [bL];omega) ?_;rcases hs with rfl|rfl
 .rcases c with rfl|rfl|rfl<;>rcases (show r=0\/r=1\/r=2\/r=3 by omega) with rfl|rfl|rfl|rfl<;>exact pK [] 5 24 (.k 13 (aB p) (.c (aB z) .nil)) (.c f (.c y (.c A (.c q (.c o (.v 27 (.eq (Uf d)) (.c u .nil)))))))
 .rcases c with rfl|rfl|rfl<;>rcases (show r=0\/r=1\/r=2\/r=3 by omega) with rfl|rfl|rfl|rfl<;>exact pK [] 5 16 (.k 13 (aB p) (.c (aB z) .nil)) (.c f (.c y (.c A (.c q (.c o (.v 27 (.eq (Uf d)) (.c u .nil)))))))
theorem ap5 {xs:List Int} {nn:Bool} {k lv o k1 s k2:Nat} (H:xs.length<2^63) (g:lv<2^62) (E:bL lv<300) (m:∀ t,dm t->∀ k,k<=xs.length->kK t (lv:Int) (bL lv) xs nn k) (v:((o:Int)==((0:Nat):Int))=false) (C:(decide ((((lv+1):Nat):Int)<=((0:Nat):Int)))=false) (h:k2<=xs.length) (z:aH prog ap 97 [.ptr 0 0 0,ω 5] [dB xs nn k] (.ret (ω (o:Int))) [dB xs nn k1]) (u:aH prog ap 97 [.ptr 0 0 0,ω 7] [dB xs nn k1] (.ret (ω (s:Int))) [dB xs nn k2]) (hs:s=2) {t:Ty} (c:NW t):kK t ((lv+1:Nat):Int) (bL (lv+1)) xs nn k:=by
 obtain ⟨j,k3,f,p,m0,G,D⟩:=m t c.pl k2 h;obtain ⟨n,k4,d,B,y,F,A⟩:=m tP pP k3 f;have i:=WA (qh 11) j n p.ne (by omega) (by omega);have w:aJ (qh 11)=0:=by rcases c with rfl|rfl|rfl<;>kernel_rfl
 have q:dh (qh 11).op=2:=by rcases c with rfl|rfl|rfl<;>rfl
 have r:uC aT (qh 11) [t,tP]=(t,0):=by rcases c with rfl|rfl|rfl<;>kernel_rfl
 refine Ql (e:=j++n++ [qh 11]) d (.n2 p B w q r) (ZI m0 y (rf _)) (by simp [bL];omega) ?_;subst hs;rcases c with rfl|rfl|rfl<;>exact pK [] 6 32 (.k 8 (aB v) (.c (aB C) .nil)) (.c i (.c A (.c n26 (.c D (.c u (.v 27 (.eq (Uf g)) (.c z .nil)))))))
theorem ap6 {xs:List Int} {nn:Bool} {k lv o k1 s k2:Nat} (H:xs.length<2^63) (g:lv<2^62) (E:bL lv<300) (m:∀ t,dm t->∀ k,k<=xs.length->kK t (lv:Int) (bL lv) xs nn k) (v:((o:Int)==((0:Nat):Int))=false) (C:(decide ((((lv+1):Nat):Int)<=((0:Nat):Int)))=false) (h:k2<=xs.length) (z:aH prog ap 97 [.ptr 0 0 0,ω 5] [dB xs nn k] (.ret (ω (o:Int))) [dB xs nn k1]) (u:aH prog ap 97 [.ptr 0 0 0,ω 7] [dB xs nn k1] (.ret (ω (s:Int))) [dB xs nn k2]) (hs:s=3) {t:Ty} (c:NW t):kK t ((lv+1:Nat):Int) (bL (lv+1)) xs nn k:=by
 obtain ⟨j,k3,f,p,m0,G,D⟩:=m t c.pl k2 h;obtain ⟨n,k4,d,B,y,F,A⟩:=m tP pP k3 f;have i:=WA (qh 12) j n p.ne (by omega) (by omega);have w:aJ (qh 12)=0:=by rcases c with rfl|rfl|rfl<;>kernel_rfl
 have q:dh (qh 12).op=2:=by rcases c with rfl|rfl|rfl<;>rfl
 have r:uC aT (qh 12) [t,tP]=(t,0):=by rcases c with rfl|rfl|rfl<;>kernel_rfl
 refine Ql (e:=j++n++ [qh 12]) d (.n2 p B w q r) (ZI m0 y (rf _)) (by simp [bL];omega) ?_;subst hs;rcases c with rfl|rfl|rfl<;>exact pK [] 7 64 (.k 9 (aB v) (.c (aB C) .nil)) (.c i (.c A (.c n26 (.c D (.c u (.v 27 (.eq (Uf g)) (.c z .nil)))))))
theorem ap7 {xs:List Int} {nn:Bool} {k lv q k1 s k2:Nat} (O:xs.length<2^63) (h:lv<2^62) (J:bL lv<300) (d:∀ t,dm t->∀ k,k<=xs.length->kK t (lv:Int) (bL lv) xs nn k) (y:((q:Int)==((0:Nat):Int))=false) (E:(decide ((((lv+1):Nat):Int)<=((0:Nat):Int)))=false) (j:k2<=xs.length) (B:aH prog ap 97 [.ptr 0 0 0,ω 5] [dB xs nn k] (.ret (ω (q:Int))) [dB xs nn k1]) (w:aH prog ap 97 [.ptr 0 0 0,ω 7] [dB xs nn k1] (.ret (ω (s:Int))) [dB xs nn k2]) (hs:s=4) {t:Ty} (c:NW t):kK t ((lv+1:Nat):Int) (bL (lv+1)) xs nn k:=by
 obtain ⟨n,k3,g,r,m0,N,F⟩:=d tT pT k2 j;obtain ⟨p,k4,f,D,A,K,C⟩:=d t c.pl k3 g;obtain ⟨o,k5,i,H,G,M,I⟩:=d t c.pl k4 f;have m:=ajw (qh 15) n p o r.ne (by omega) (by omega) (by omega);have z:aJ (qh 15)=0:=by rcases c with rfl|rfl|rfl<;>kernel_rfl
 have u:dh (qh 15).op=3:=by rcases c with rfl|rfl|rfl<;>rfl
 have v:uC aT (qh 15) [tT,t,t]=(t,0):=by rcases c with rfl|rfl|rfl<;>kernel_rfl
 refine Ql (e:=n++p++o++ [qh 15]) i (.n3 r D H z u v) (aof m0 A G (rf _)) (by simp [bL];omega) ?_;subst hs;rcases c with rfl|rfl|rfl<;>exact pK [] 8 128 (.k 13 (aB y) (.c (aB E) .nil)) (.c m (.c I (.c C (.c F (.c n25 (.c w (.v 27 (.eq (Uf h)) (.c B .nil))))))))
theorem WJ {q:RQ} (h:q.ok) (i:q.n<64) (hd:q.d<64) (hp:q.neg=false/\0<q.n) {c:Int} (f:c=21\/c=22\/c=23):aJ (qN c q)=0:=by
 have g:=YY h i hd;have hs:jd q.neg (ae q.n) (ae q.d)=1:=by
  unfold jd;rw [if_pos ⟨pI q h,by rw [aG];exact hp.2⟩,hp.1];rfl
 have d:decide (((0:Nat):Int)<jd q.neg (ae q.n) (ae q.d))=true:=by rw [hs];rfl
 have e:f_ (qN c q)=true:=by
  have:(d_ q.neg (ae q.n) (ae q.d) && decide (((0:Nat):Int)<jd q.neg (ae q.n) (ae q.d)))=true:=by rw [g,d];rfl
  rcases f with rfl|rfl|rfl<;>exact this
 unfold aJ;rw [e];rcases f with rfl|rfl|rfl<;>rfl
theorem ap8 {xs:List Int} {nn:Bool} {k lv o k1 s k2:Nat} (q:xs.length<2^63) (g:lv<2^62) (K:bL lv<300) (z:∀ t,dm t->∀ k,k<=xs.length->kK t (lv:Int) (bL lv) xs nn k) (C:((o:Int)==((0:Nat):Int))=false) (I:(decide ((((lv+1):Nat):Int)<=((0:Nat):Int)))=false) (i:k2<=xs.length) (G:aH prog ap 97 [.ptr 0 0 0,ω 5] [dB xs nn k] (.ret (ω (o:Int))) [dB xs nn k1]) (B:aH prog ap 97 [.ptr 0 0 0,ω 7] [dB xs nn k1] (.ret (ω (s:Int))) [dB xs nn k2]) (hs:s=5) {t:Ty} (c:NW t):kK t ((lv+1:Nat):Int) (bL (lv+1)) xs nn k:=by
 obtain ⟨r,k3,M,f,E⟩:=dH xs nn k2 3 q i (by omega) (by omega);obtain ⟨w,k4,d,D,p,m,v,H⟩:=wo xs nn k3 q f 1 (by omega) (by omega);obtain ⟨n,k5,h,u,m0,N,J⟩:=z t c.pl k4 d;have j:=aas (qN (21+(r:Int)) w) n u.ne (by omega);have F:aJ (qN (21+(r:Int)) w)=0:=by exact WJ D p m (v rfl) (by omega)
 have y:dh (qN (21+(r:Int)) w).op=1:=by rcases c with rfl|rfl|rfl<;>rcases (show r=0\/r=1\/r=2 by omega) with rfl|rfl|rfl<;>rfl
 have A:uC aT (qN (21+(r:Int)) w) [t]=(t,0):=by rcases c with rfl|rfl|rfl<;>rcases (show r=0\/r=1\/r=2 by omega) with rfl|rfl|rfl<;>kernel_rfl
 refine Ql (e:=n++ [qN (21+(r:Int)) w]) h (.n1 u F y A) (ad8 m0 (GG p m)) (by simp [bL];omega) ?_;subst hs;rcases c with rfl|rfl|rfl<;>rcases (show r=0\/r=1\/r=2 by omega) with rfl|rfl|rfl<;>exact pK [] 9 256 (.k 11 (aB C) (.c (aB I) .nil)) (.c j (.c J (.c H (.c E (.c B (.v 27 (.eq (Uf g)) (.c G .nil)))))))
theorem fr0:CO 183 [.sl (iQ aT) 12 true,ω 24,.str zcc4_1] (.ret (.tup [.agg [.bool false,ω 0,ω 0],.bool false])):=kZ (fO aT true 24 zcc4_1 (by decide)) (by kernel_rfl)
theorem fr1:CO 183 [.sl (iQ aT) 12 true,ω 24,.str [107,105,100,115]] (.ret (.tup [.agg [.bool false,ω 0,ω 0],.bool false])):=kZ (fO aT true 24 [107,105,100,115] (by decide)) (by kernel_rfl)
theorem fr2:CO 183 [.sl (iQ aT) 12 true,ω 24,.str zcc4_0] (.ret (.tup [.agg [.bool false,ω 0,ω 0],.bool false])):=kZ (fO aT true 24 zcc4_0 (by decide)) (by kernel_rfl)
theorem fr3:CO 183 [.sl (iQ aT) 12 true,ω 24,.str [115,116,97,121]] (.ret (.tup [.agg [.bool false,ω 0,ω 0],.bool false])):=kZ (fO aT true 24 [115,116,97,121] (by decide)) (by kernel_rfl)
theorem fr4:CO 183 [.sl (iQ aT) 12 true,ω 24,.str [112,111,111,114]] (.ret (.tup [.agg [.bool false,ω 0,ω 0],.bool false])):=kZ (fO aT true 24 [112,111,111,114] (by decide)) (by kernel_rfl)
theorem fr5:CO 183 [.sl (iQ aT) 12 true,ω 24,.str [116,97,120]] (.ret (.tup [.agg [.bool false,ω 0,ω 0],.bool false])):=kZ (fO aT true 24 [116,97,120] (by decide)) (by kernel_rfl)
theorem fr6:CO 183 [.sl (iQ aT) 12 true,ω 24,.str zcc4_2] (.ret (.tup [.agg [.bool false,ω 1,ω 0],.bool true])):=kZ (fO aT true 24 zcc4_2 (by decide)) (by kernel_rfl)
theorem fr7:CO 183 [.sl (iQ aT) 12 true,ω 24,.str [116,101,114,109]] (.ret (.tup [.agg [.bool false,ω 0,ω 1],.bool true])):=kZ (fO aT true 24 [116,101,114,109] (by decide)) (by kernel_rfl)
theorem ac2 {xs:List Int} {nn:Bool} {k:Nat} (d:xs.length<2^63) (f:k<=xs.length):∃ k2,k2<=xs.length/\aH prog ap 148 [.sl (iQ aT) 12 true,.ptr 0 0 0,.agg (uO tM)] [dB xs nn k] (.ret (.tup [.str zcc4_2,.bool true])) [dB xs nn k2]:=by
 obtain ⟨r,k1,g,c,e⟩:=dH xs nn k 1 d f (by omega) (by omega);obtain rfl:r=0:=by omega
 exact ⟨k1,c,pK [] 51 262856579813649 (.n 125 .nil) (.c e (.c fr7 (.c fr6 (.c fr5 (.c fr4 (.c fr5 (.c fr4 (.c fr5 (.c fr4 (.c fr3 (.c fr2 (.c fr1 (.c fr0 .nil)))))))))))))⟩
theorem ac1 {xs:List Int} {nn:Bool} {k:Nat} (d:xs.length<2^63) (f:k<=xs.length):∃ k2,k2<=xs.length/\aH prog ap 148 [.sl (iQ aT) 12 true,.ptr 0 0 0,.agg (uO tD)] [dB xs nn k] (.ret (.tup [.str [116,101,114,109],.bool true])) [dB xs nn k2]:=by
 obtain ⟨r,k1,g,c,e⟩:=dH xs nn k 1 d f (by omega) (by omega);obtain rfl:r=0:=by omega
 exact ⟨k1,c,pK [] 51 271652672835857 (.n 125 .nil) (.c e (.c fr7 (.c fr6 (.c fr5 (.c fr4 (.c fr5 (.c fr4 (.c fr5 (.c fr4 (.c fr3 (.c fr2 (.c fr1 (.c fr0 .nil)))))))))))))⟩
theorem ac3 {xs:List Int} {nn:Bool} {k:Nat}:aH prog ap 148 [.sl (iQ aT) 12 true,.ptr 0 0 0,.agg (uO tP)] [dB xs nn k] (.ret (.tup [.str [],.bool false])) [dB xs nn k]:=pK [] 50 693865137901841 (.n 116 .nil) (.c fr7 (.c fr6 (.c fr5 (.c fr4 (.c fr5 (.c fr4 (.c fr5 (.c fr4 (.c fr3 (.c fr2 (.c fr1 (.c fr0 .nil))))))))))))
theorem alG {xs:List Int} {nn:Bool} {k lv i k1 s k2:Nat} (v:xs.length<2^63) (c:lv<2^62) (B:bL lv<300) (q:∀ t,dm t->∀ k,k<=xs.length->kK t (lv:Int) (bL lv) xs nn k) (w:((i:Int)==((0:Nat):Int))=false) (n:(decide ((((lv+1):Nat):Int)<=((0:Nat):Int)))=false) (d:k2<=xs.length) (A:aH prog ap 97 [.ptr 0 0 0,ω 5] [dB xs nn k] (.ret (ω (i:Int))) [dB xs nn k1]) (u:aH prog ap 97 [.ptr 0 0 0,ω 7] [dB xs nn k1] (.ret (ω (s:Int))) [dB xs nn k2]) (hs:s=6):kK tM ((lv+1:Nat):Int) (bL (lv+1)) xs nn k:=by
 obtain ⟨k3,h,y⟩:=ac2 (nn:=nn) v d;obtain ⟨j,k4,f,m,m0,C,p⟩:=q tM (by simp [dm]) k3 h;have g:=aas ((⟨24,false,[],[],zcc4_2⟩:Nd)) j m.ne (by omega);have z:aJ ((⟨24,false,[],[],zcc4_2⟩:Nd))=0:=by kernel_rfl
 have o:dh ((⟨24,false,[],[],zcc4_2⟩:Nd)).op=1:=by rfl
 have r:uC aT ((⟨24,false,[],[],zcc4_2⟩:Nd)) [tM]=(tM,0):=by kernel_rfl
 refine Ql (e:=j++ [(⟨24,false,[],[],zcc4_2⟩:Nd)]) f (.n1 m z o r) (ad8 m0 (⟨by simp,by simp⟩)) (by simp [bL];omega) ?_;subst hs;exact pK [] 10 0 (.k 15 (aB w) (.c (aB n) .nil)) (.c g (.c p (.c y (.c u (.v 27 (.eq (Uf c)) (.c A .nil))))))
theorem alF {xs:List Int} {nn:Bool} {k lv i k1 s k2:Nat} (v:xs.length<2^63) (c:lv<2^62) (B:bL lv<300) (q:∀ t,dm t->∀ k,k<=xs.length->kK t (lv:Int) (bL lv) xs nn k) (w:((i:Int)==((0:Nat):Int))=false) (n:(decide ((((lv+1):Nat):Int)<=((0:Nat):Int)))=false) (d:k2<=xs.length) (A:aH prog ap 97 [.ptr 0 0 0,ω 5] [dB xs nn k] (.ret (ω (i:Int))) [dB xs nn k1]) (u:aH prog ap 97 [.ptr 0 0 0,ω 7] [dB xs nn k1] (.ret (ω (s:Int))) [dB xs nn k2]) (hs:s=6):kK tD ((lv+1:Nat):Int) (bL (lv+1)) xs nn k:=by
 obtain ⟨k3,h,y⟩:=ac1 (nn:=nn) v d;obtain ⟨j,k4,f,m,m0,C,p⟩:=q tD (by simp [dm]) k3 h;have g:=aas ((⟨24,false,[],[],[116,101,114,109]⟩:Nd)) j m.ne (by omega);have z:aJ ((⟨24,false,[],[],[116,101,114,109]⟩:Nd))=0:=by kernel_rfl
 have o:dh ((⟨24,false,[],[],[116,101,114,109]⟩:Nd)).op=1:=by rfl
 have r:uC aT ((⟨24,false,[],[],[116,101,114,109]⟩:Nd)) [tD]=(tD,0):=by kernel_rfl
 refine Ql (e:=j++ [(⟨24,false,[],[],[116,101,114,109]⟩:Nd)]) f (.n1 m z o r) (ad8 m0 (⟨by simp,by simp⟩)) (by simp [bL];omega) ?_;subst hs;exact pK [] 10 0 (.k 15 (aB w) (.c (aB n) .nil)) (.c g (.c p (.c y (.c u (.v 27 (.eq (Uf c)) (.c A .nil))))))
theorem ap9 {xs:List Int} {nn:Bool} {k lv g k1 s k2:Nat} (n:xs.length<2^63) (c:lv<2^62) (u:bL lv<300) (w:∀ t,dm t->∀ k,k<=xs.length->kK t (lv:Int) (bL lv) xs nn k) (o:((g:Int)==((0:Nat):Int))=false) (i:(decide ((((lv+1):Nat):Int)<=((0:Nat):Int)))=false) (d:k2<=xs.length) (r:aH prog ap 97 [.ptr 0 0 0,ω 5] [dB xs nn k] (.ret (ω (g:Int))) [dB xs nn k1]) (m:aH prog ap 97 [.ptr 0 0 0,ω 7] [dB xs nn k1] (.ret (ω (s:Int))) [dB xs nn k2]) (hs:s=6):kK tP ((lv+1:Nat):Int) (bL (lv+1)) xs nn k:=by
 obtain ⟨e,k3,f,j,h,v,p⟩:=Ye xs nn k2 n d;have q:=ac3 (xs:=xs) (nn:=nn) (k:=k2);refine Ql f j h (by simp [bL];omega) ?_;subst hs;exact pK [] 10 512 (.k 15 (aB o) (.c (aB i) .nil)) (.c p (.c q (.c m (.v 27 (.eq (Uf c)) (.c r .nil)))))
theorem Jn {t:Ty} (p:dm t) {xs:List Int} {nn:Bool} {k lv:Nat} (g:xs.length<2^63) (A:k<=xs.length) (d:lv<2^62) (m:bL lv<300) (n:∀ t,dm t->∀ k,k<=xs.length->kK t (lv:Int) (bL lv) xs nn k):kK t ((lv+1:Nat):Int) (bL (lv+1)) xs nn k:=by
 have f:(decide ((((lv+1):Nat):Int)<=((0:Nat):Int)))=false:=Yq1 (by omega);obtain ⟨v,k1,y,q,i⟩:=dH xs nn k 5 g A (by omega) (by omega);by_cases hz:v=0
 .subst hz;obtain ⟨e,k2,c,z,w,B,r⟩:=Sr p xs nn k1 g q;refine Ql c z w (by simp [bL];omega) ?_;rcases p with rfl|rfl|rfl|rfl
  .exact pK [] 2 2 (.k 4 (aB f) .nil) (.c r (.c i .nil))
  .exact pK [] 2 2 (.k 4 (aB f) .nil) (.c r (.c i .nil))
  .exact pK [] 2 2 (.k 4 (aB f) .nil) (.c r (.c i .nil))
  .exact pK [] 2 2 (.k 4 (aB f) .nil) (.c r (.c i .nil))
 .have o:((v:Int)==((0:Nat):Int))=false:=by simp;omega
  have u:∀ t,NW t->kK t ((lv+1:Nat):Int) (bL (lv+1)) xs nn k:=by
   intro t p;obtain ⟨s,k2,hs,c,j⟩:=dH xs nn k1 7 g q (by omega) (by omega);rcases (show (s=0\/s=1)\/s=2\/s=3\/s=4\/s=5\/s=6 by omega) with h|h|h|h|h|h
   .exact ap4 g d m n o f c i j h p
   .exact ap5 g d m n o f c i j h p
   .exact ap6 g d m n o f c i j h p
   .exact ap7 g d m n o f c i j h p
   .exact ap8 g d m n o f c i j h p
   .rcases p with rfl|rfl|rfl
    .exact alG g d m n o f c i j h
    .exact alF g d m n o f c i j h
    .exact ap9 g d m n o f c i j h
  rcases p with rfl|rfl|rfl|rfl
  .exact u _ (.inl rfl)
  .exact u _ (.inr (.inl rfl))
  .exact u _ (.inr (.inr rfl))
  .obtain ⟨s,k2,hs,c,j⟩:=dH xs nn k1 5 g q (by omega) (by omega);rcases (show (s=0\/s=1)\/s=2\/s=3\/s=4 by omega) with h|h|h|h
   .exact ap_ g d m n o f c i j h
   .exact aqa g d m n o f c i j h
   .exact aqb g d m n o f c i j h
   .exact aqc g d m n o f c i j h
theorem alD {xs:List Int} {nn:Bool} (e:xs.length<2^63) (t:Ty) (d:dm t) (k:Nat) (c:k<=xs.length):kK t ((1:Nat):Int) (bL 1) xs nn k:=
 Jn (lv:=0) d e c (by omega) (by decide) λ_ d k c=>alC d xs nn k e c
theorem SC {xs:List Int} {nn:Bool} (e:xs.length<2^63) (t:Ty) (d:dm t) (k:Nat) (c:k<=xs.length):kK t ((2:Nat):Int) (bL 2) xs nn k:=
 Jn (lv:=1) d e c (by omega) (by decide) λt d k c=>alD e t d k c
def Yc (t:Ty):Prop:=dm t\/t=⟨false,1, -1⟩
theorem aap {t:Ty} (k:Yc t) (xs:List Int) (nn:Bool) (i:xs.length<2^63):∃ e:List Nd,Tm aT e t/\(∀ x ∈ e,x.sm)/\e.length<=13/\CO 57 [.sl (iQ aT) 12 true,.agg (uO t),.sl (iL xs) xs.length nn] (.ret (.own (aO e) e.length 5)):=by
 rcases k with (rfl|rfl|rfl|rfl)|rfl
 .obtain ⟨e,k2,d,f,c,j,g⟩:=SC (nn:=nn) i tM (by simp [dm]) 0 (by omega);have h:CO 57 [.sl (iQ aT) 12 true,.agg (uO tM),.sl (iL xs) xs.length nn] (.ret (.own (κ (e.length*5) (aO e)) e.length 5)):=pK [] 4 1 (.n 11 .nil) (.c g (.c kd6 .nil));rw [Iz] at h;exact ⟨e,f,c,by have:bL 2=13:=rfl;omega,h⟩
 .obtain ⟨e,k2,d,f,c,j,g⟩:=SC (nn:=nn) i tD (by simp [dm]) 0 (by omega);have h:CO 57 [.sl (iQ aT) 12 true,.agg (uO tD),.sl (iL xs) xs.length nn] (.ret (.own (κ (e.length*5) (aO e)) e.length 5)):=pK [] 4 3 (.n 14 .nil) (.c g (.c kd8 (.c kd6 .nil)));rw [Iz] at h;exact ⟨e,f,c,by have:bL 2=13:=rfl;omega,h⟩
 .obtain ⟨e,k2,d,f,c,j,g⟩:=SC (nn:=nn) i tP (by simp [dm]) 0 (by omega);have h:CO 57 [.sl (iQ aT) 12 true,.agg (uO tP),.sl (iL xs) xs.length nn] (.ret (.own (κ (e.length*5) (aO e)) e.length 5)):=pK [] 4 7 (.n 17 .nil) (.c g (.c ag6 (.c kd8 (.c kd6 .nil))));rw [Iz] at h;exact ⟨e,f,c,by have:bL 2=13:=rfl;omega,h⟩
 .obtain ⟨e,k2,d,f,c,j,g⟩:=SC (nn:=nn) i tT (by simp [dm]) 0 (by omega);have h:CO 57 [.sl (iQ aT) 12 true,.agg (uO tT),.sl (iL xs) xs.length nn] (.ret (.own (κ (e.length*5) (aO e)) e.length 5)):=pK [] 4 0 (.n 8 .nil) (.c g .nil);rw [Iz] at h;exact ⟨e,f,c,by have:bL 2=13:=rfl;omega,h⟩
 .obtain ⟨e,k2,d,f,c,j,g⟩:=alE xs nn 0 i (by omega);have h:CO 57 [.sl (iQ aT) 12 true,.agg (uO ⟨false,1, -1⟩),.sl (iL xs) xs.length nn] (.ret (.own (κ (e.length*5) (aO e)) e.length 5)):=pK [] 4 15 (.n 17 .nil) (.c g (.c ag6 (.c kd8 (.c kd6 .nil))));rw [Iz] at h;exact ⟨e,f,c,by have:bL 2=13:=rfl;omega,h⟩
abbrev OV (ls:List Lk) (cs:List Sc) (nl ns:Bool) (k1 v1 k2 v2:List AV):Hp:= [(0,⟨[.sl (dK ls) ls.length nl,.sl (dL cs) cs.length ns],0,false,0,0,true⟩),(1,⟨[.mp k1 v1,.mp k2 v2],0,false,0,0,true⟩)]
abbrev Vam (a:Nat) (b:List Nd):Bool:=decide ((a:Int)<(b.length:Int))
abbrev VaT (a:Nat) (b:List (List Nat)):Prop:=(decide ((a:Int)<(b.length:Int)))=true
abbrev Vbd (a:Nat) (b:List Nd) (c:Nd) (d:List AV):Prop:=(ε ((δ (a:Int))*5) (aO b))=lI c++d
abbrev VbT (a:List AV) (b:List AV) (c:List AV) (d:List AV) (e:Nd):List AV:=[.agg [.mp a b,.mp c d],.agg [ω e.op,.bool e.neg,.str e.num,.str e.den,.str e.name],.nilS]
theorem aby (x:Nd) (o:Oq) (ne g i h:Bool) (k:Nat) (k1 v1 k2 c u q:List AV) (e:List Nd) (A:List (List Nat)) (ls:List Lk) (f:List Sc) {nt:Nat} (w:56<=nt) (v:Vbd k e x u) (t:(ε ((δ (k:Int))*1) (dJ A))= [.sl [] 0 false]++q) (m:Va7 k) (d:Va4 k) (p:VaT k A) (j:(Vam k e)=true) (n:lit true (Vam k e)=true) (r:CO 46 (VbT k1 v1 k2 c x) (Vax o)):ψ nt f19 ⟨[(3,.ptr 0 0 0),(5,.sl (dJ A) A.length h),(7,.ptr 1 0 0),(8,.nilS),(23,.sl (aO e) e.length ne),(24,ω (e.length:Int)),(25,ω (k:Int))],(OV ls f g i k1 v1 k2 c),.dead,[]⟩ (.normal) ⟨[(3,.ptr 0 0 0),(5,.sl (dJ A) A.length h),(7,.ptr 1 0 0),(8,.ref 2 0 0 1),(23,.sl (aO e) e.length ne),(24,ω (e.length:Int)),(25,ω ((k+1:Nat):Int))],(OV ls f g i k1 v1 k2 c++ [(2,⟨(Vae o),0,false,0,4,true⟩)]),.dead,[]⟩:=pN 19 [] 3 1 (.k 12 d (.c p (.k 6 d (.c j (.c n .nil))))) (.v 54 (.eq m) (.c r (.v 32 (.ppt t) (.v 28 (.ppt v) .nil)))) w
theorem abz (ne j f d:Bool) (k:Nat) (k1 v1 k2 g:List AV) (e:List Nd) (A:List (List Nat)) (ls:List Lk) (h:List Sc) {nt:Nat} (i:56<=nt) (c:lit false (Vam k e)=true):ψ nt f19 ⟨[(3,.ptr 0 0 0),(5,.sl (dJ A) A.length d),(7,.ptr 1 0 0),(8,.nilS),(23,.sl (aO e) e.length ne),(24,ω (e.length:Int)),(25,ω (k:Int))],(OV ls h j f k1 v1 k2 g),.dead,[]⟩ (.exit 0) ⟨[(8,.nilS)],[],.dead,[]⟩:=pN 19 [] 1 0 (.c c .nil) (.nil) i
abbrev Vak (a:List (List Nat)) (b:Bool) (c:List Oq) (d:List Nd) (e:Bool) (f:Nat) (g:List Lk) (h:List Sc) (i:Bool) (j:Bool) (k:List AV) (l:List AV) (m:List AV) (n:List AV):St:=⟨[(3,.ptr 0 0 0),(5,.sl (dJ a) a.length b),(7,.ptr 1 0 0),(8,.ref 2 0 0 c.length),(23,.sl (aO d) d.length e),(24,ω (d.length:Int)),(25,ω (f:Int))],(OV g h i j k l m n++ [(2,⟨(dI c),0,false,0,4,true⟩)]),.dead,[]⟩
abbrev Vat (a:List (List Nat)) (b:Bool) (c:List Oq) (d:List Nd) (e:Bool) (f:Nat) (g:List Lk) (h:List Sc) (i:Bool) (j:Bool) (k:List AV) (l:List AV) (m:List AV) (n:List AV) (o:Oq):St:=⟨[(3,.ptr 0 0 0),(5,.sl (dJ a) a.length b),(7,.ptr 1 0 0),(8,.ref 2 0 0 (c.length+1)),(23,.sl (aO d) d.length e),(24,ω (d.length:Int)),(25,ω ((f+1:Nat):Int))],(OV g h i j k l m n++ [(2,⟨(dI (c++ [o])),0,false,0,4,true⟩)]),.dead,[]⟩
abbrev VaL (a:List Oq):Prop:=(Φ (a.length+1) 1099511627776)=true
abbrev VaN (a:List Oq) (b:Oq):Prop:=((κ (a.length*4) (dI a))++ (Vae b))=(dI (a++ [b]))
abbrev Vb2 (a:List Oq):Prop:=(Φ (a.length*4) (ζ (dI a)))=true
theorem agB (x:Nd) (o:Oq) (ne i m j:Bool) (k:Nat) (k1 v1 k2 d z v:List AV) (e:List Nd) (A:List (List Nat)) (c:List Oq) (ls:List Lk) (h:List Sc) {nt:Nat} (C:56<=nt) (B:Vbd k e x z) (y:(ε ((δ (k:Int))*1) (dJ A))= [.sl [] 0 false]++v) (f:VaN c o) (n:Va7 k) (p:VaL c) (t:Vb2 c) (g:Va4 k) (q:VaT k A) (r:(Vam k e)=true) (u:lit true (Vam k e)=true) (w:CO 46 (VbT k1 v1 k2 d x) (Vax o)):ψ nt f19 (Vak A j c e ne k ls h i m k1 v1 k2 d) (.normal) (Vat A j c e ne k ls h i m k1 v1 k2 d o):=pN 19 [] 2 1 (.k 1 p (.c t (.k 10 g (.c q (.k 6 g (.c r (.c u .nil))))))) (.v 54 (.eq n) (.b 53 f (.c w (.v 32 (.ppt y) (.v 28 (.ppt B) .nil))))) C
theorem agC (ne m g f:Bool) (k:Nat) (k1 v1 k2 h:List AV) (e:List Nd) (A:List (List Nat)) (c:List Oq) (ls:List Lk) (i:List Sc) {nt:Nat} (j:56<=nt) (d:lit false (Vam k e)=true):ψ nt f19 (Vak A f c e ne k ls i m g k1 v1 k2 h) (.exit 0) ⟨[(8,.ref 0 0 0 c.length)],[(0,⟨(dI c),0,false,0,4,true⟩)],.dead,[]⟩:=pN 19 [] 1 0 (.c d .nil) (.nil) j
abbrev Van (a:Nat) (b:List Oq):Prop:=(decide ((a:Int)<(b.length:Int)))=true
abbrev VaE (a:Nat) (b:List Oq) (c:Oq) (d:List AV):Prop:=(ε ((0+(δ (a:Int)))*4) (dI b))=vU c++d
theorem agD (x:Nd) (o d:Oq) (ne n q p:Bool) (k g:Nat) (k1 v1 k2 h G B E:List AV) (e:List Nd) (A:List (List Nat)) (c:List Oq) (ls:List Lk) (m:List Sc) {nt:Nat} (I:56<=nt) (H:Vbd k e x G) (D:(ε ((δ (k:Int))*1) (dJ A))= [.sl [ω (g:Int)] 1 false]++B) (f:VaE g c d E) (i:VaN c o) (t:Va7 k) (u:VaL c) (w:Vb2 c) (r:Va4 g) (v:Van g c) (j:Va4 k) (z:VaT k A) (y:(Vam k e)=true) (F:lit true (Vam k e)=true) (C:CO 46 [.agg [.mp k1 v1,.mp k2 h],.agg [ω x.op,.bool x.neg,.str x.num,.str x.den,.str x.name],.sl (Vae d) 1 true] (Vax o)):ψ nt f19 (Vak A p c e ne k ls m n q k1 v1 k2 h) (.normal) (Vat A p c e ne k ls m n q k1 v1 k2 h o):=pN 19 [] 4 3 (.k 1 u (.c w (.n 12 (.a (jR [.bool,.str,.str,.int .i64] f rfl) (.c r (.c v (.k 5 j (.c z (.k 6 j (.c y (.c F .nil))))))))))) (.v 54 (.eq t) (.b 53 i (.c C (.v 43 (.rd [.bool,.str,.str,.int .i64] f rfl) (.v 32 (.ppt D) (.v 28 (.ppt H) .nil)))))) I
theorem agF (x:Nd) (o g d:Oq) (ne r u t:Bool) (k i j:Nat) (k1 v1 k2 m N G J E:List AV) (e:List Nd) (A:List (List Nat)) (c:List Oq) (ls:List Lk) (q:List Sc) {nt:Nat} (P:56<=nt) (O:Vbd k e x N) (I:(ε ((δ (k:Int))*1) (dJ A))= [.sl [ω (i:Int),ω (j:Int)] 2 false]++G) (h:VaE i c g J) (f:VaE j c d E) (n:VaN c o) (w:Va7 k) (y:VaL c) (B:Vb2 c) (v:Va4 j) (z:Van j c) (C:Va4 i) (F:Van i c) (p:Va4 k) (K:VaT k A) (D:(Vam k e)=true) (M:lit true (Vam k e)=true) (H:CO 46 [.agg [.mp k1 v1,.mp k2 m],.agg [ω x.op,.bool x.neg,.str x.num,.str x.den,.str x.name],.sl (Va9 g d) 2 true] (Vax o)):ψ nt f19 (Vak A t c e ne k ls q r u k1 v1 k2 m) (.normal) (Vat A t c e ne k ls q r u k1 v1 k2 m o):=pN 19 [] 5 11 (.k 1 y (.c B (.n 13 (.a (jR [.bool,.str,.str,.int .i64] f rfl) (.c v (.c z (.n 7 (.a (jR [.bool,.str,.str,.int .i64] h rfl) (.c C (.c F (.k 5 p (.c K (.k 6 p (.c D (.c M .nil))))))))))))))) (.v 54 (.eq w) (.b 53 n (.c H (.v 43 (.rd [.bool,.str,.str,.int .i64] f rfl) (.v 43 (.rd [.bool,.str,.str,.int .i64] h rfl) (.v 32 (.ppt I) (.v 28 (.ppt O) .nil))))))) P
theorem agG (x:Nd) (o h d i:Oq) (ne y B z:Bool) (k m n p:Nat) (k1 v1 k2 t T M Q J N:List AV) (e:List Nd) (A:List (List Nat)) (c:List Oq) (ls:List Lk) (w:List Sc) {nt:Nat} (V:56<=nt) (U:Vbd k e x T) (P:(ε ((δ (k:Int))*1) (dJ A))= [.sl [ω (m:Int),ω (n:Int),ω (p:Int)] 3 false]++M) (j:VaE m c h Q) (f:VaE n c d J) (g:VaE p c i N) (u:VaN c o) (D:Va7 k) (E:VaL c) (G:Vb2 c) (C:Va4 p) (F:Van p c) (H:Va4 n) (K:Van n c) (I:Va4 m) (R:Van m c) (v:Va4 k) (S:VaT k A) (q:(Vam k e)=true) (r:lit true (Vam k e)=true) (O:CO 46 [.agg [.mp k1 v1,.mp k2 t],.agg [ω x.op,.bool x.neg,.str x.num,.str x.den,.str x.name],.sl (Vaa h d i) 3 true] (Vax o)):ψ nt f19 (Vak A z c e ne k ls w y B k1 v1 k2 t) (.normal) (Vat A z c e ne k ls w y B k1 v1 k2 t o):=pN 19 [] 6 27 (.k 1 E (.c G (.n 13 (.a (jR [.bool,.str,.str,.int .i64] g rfl) (.c C (.c F (.n 8 (.a (jR [.bool,.str,.str,.int .i64] f rfl) (.c H (.c K (.n 7 (.a (jR [.bool,.str,.str,.int .i64] j rfl) (.c I (.c R (.k 5 v (.c S (.k 6 v (.c q (.c r .nil))))))))))))))))))) (.v 54 (.eq D) (.b 53 u (.c O (.v 43 (.rd [.bool,.str,.str,.int .i64] g rfl) (.v 43 (.rd [.bool,.str,.str,.int .i64] f rfl) (.v 43 (.rd [.bool,.str,.str,.int .i64] j rfl) (.v 32 (.ppt P) (.v 28 (.ppt U) .nil)))))))) V
abbrev Vbt (a:List Nd) (b:Bool) (c:List Lk) (d:Bool) (e:List Sc) (f:Bool):List AV:=[.sl (aO a) a.length b,.agg (Va2 c d e f)]
theorem akR (ne g f h:Bool) (k1 v1 k2 i:List AV) (e:List Nd) (A:List (List Nat)) (d:List Oq) (ls:List Lk) (c:List Sc) (j:CO 24 [.sl (aO e) e.length ne] (.ret (.tup [.sl (dJ A) A.length h,.bool true]))) (m:CO 45 [.agg (Va2 ls g c f)] (.ret (.agg [.mp k1 v1,.mp k2 i]))) (k:aK prog ap [] 56 (.block 0 (.loop (af 0 (ah f19)))) ⟨[(0,.sl (aO e) e.length ne),(1,.agg (Va2 ls g c f)),(3,.ptr 0 0 0),(4,.nilS),(5,.sl (dJ A) A.length h),(6,.bool true),(7,.ptr 1 0 0),(8,.nilS),(9,.dead),(10,.dead),(11,.dead),(13,.dead),(20,.bool false),(23,.sl (aO e) e.length ne),(24,ω (e.length:Int)),(25,ω 0),(26,.dead),(33,.dead),(34,.dead),(35,.dead),(36,.dead)],(OV ls c g f k1 v1 k2 i),.dead,[]⟩ (.normal) ⟨[(8,.ref 0 0 0 d.length)],[(0,⟨(dI d),0,false,0,4,true⟩)],.dead,[]⟩):CO 19 (Vbt e ne ls g c f) (.ret (.own (κ (d.length*4) (dI d)) d.length 4)):=pK [0] 1 0 (.n 4 .nil) (.l k (.c m (.c j .nil)))
theorem akS (ne g d:Bool) (e:List Nd) (ls:List Lk) (c:List Sc) (f:CO 24 [.sl (aO e) e.length ne] (.ret (.tup [.nilS,.bool false]))):CO 19 (Vbt e ne ls g c d) (.ret (.nilS)):=pK [] 1 1 (.n 1 .nil) (.c f .nil)
abbrev VbN (a:List Oq):kW:= .ret (.own (dI a) a.length 4)
theorem akl (o:Oq) (ne g f:Bool) (k:Nat) (r:List AV) (e:List Nd) (c:List Oq) (ls:List Lk) (d:List Sc) (h:VaE k c o r) (j:ω (γ .i64 ((c.length:Int) - ((1:Nat):Int)))=ω (k:Int)) (m:Va4 k) (n:Van k c) (i:lit false ((c.length:Int)==((0:Nat):Int))=true) (p:CO 19 (Vbt e ne ls g d f) (VbN c)):CO 21 (Vbt e ne ls g d f) (Vax o):=pK [] 1 0 (.n 5 (.a (jR [.bool,.str,.str,.int .i64] h rfl) (.c m (.c n (.c i (.n 2 .nil)))))) (.v 18 (.rd [.bool,.str,.str,.int .i64] h rfl) (.v 16 (.eq j) (.c p .nil)))
abbrev VaZ:kW:= .ret (.agg [.bool false,.str [],.str [],ω 11])
theorem akk (ne f d:Bool) (e:List Nd) (ls:List Lk) (c:List Sc) (g:CO 19 (Vbt e ne ls f c d) (.ret (.nilS))) (h:CO 41 [ω 11] VaZ):CO 21 (Vbt e ne ls f c d) VaZ:=pK [] 1 1 (.n 8 .nil) (.c h (.c g .nil))
def trF (E:fH) (A:List (List Nat)):List Nd->List Oq->List Oq
 | [],os=>os
 |x::r,os=>trF E A r (os++ [nN E x ((A.getD os.length []).map λj=>os.getD j zO)])
def bP (E:fH) (e:List Nd):List Oq:=trF E (bJ e) e []
def Fb (E:fH) (e:List Nd):Oq:=if di e=0 then (bP E e).getLastD (.err 11) else .err 11
theorem oD (l:List Oq):(dI l).length=l.length*4:=lD vU 4 (λ_=>rfl) l
theorem iC {l:List Oq} {k:Nat} (h:k<l.length):ε ((0+δ (k:Int))*4) (dI l)=vU (l.getD k zO)++dI (l.drop (k+1)):=by
 rw [aC,Ψ,ξ,π h];exact wV vU 4 (λ_=>rfl) h
theorem lL (l:List Oq) (o:Oq):κ (l.length*4) (dI l)++ [.bool o.n,.str o.a,.str o.d,ω o.e]=dI (l++ [o]):=by
 rw [ο (by rw [oD];exact χ _)];unfold dI;rw [Xq9];rfl
def teO (os:List Oq):AV:=match os with| []=> .nilS|_::_=> .ref 2 0 0 os.length
def teB (os:List Oq):Hp:=match os with| []=> []|_::_=> [(2,⟨dI os,0,false,0,4,true⟩)]
abbrev teS (E:fH) (nl ns ne na:Bool) (e:List Nd) (A:List (List Nat)) (os:List Oq):St:=⟨[(3,.ptr 0 0 0),(5,.sl (dJ A) A.length na),(7,.ptr 1 0 0),(8,teO os),(23,.sl (aO e) e.length ne),(24,ω (e.length:Int)),(25,ω (os.length:Int))],OV E.ls (E.qs.map Sq.c) nl ns (BB E.ls).1 (BB E.ls).2 (Ej (E.qs.map Sq.c)).1 (Ej (E.qs.map Sq.c)).2++teB os,.dead,[]⟩
def afd (os:List Oq):St:=match os with| []=> ⟨[(8,.nilS)],[],.dead,[]⟩|_::_=> ⟨[(8,.ref 0 0 0 os.length)],[(0,⟨dI os,0,false,0,4,true⟩)],.dead,[]⟩
theorem ZT (E:fH) (g f ne d:Bool) (e:List Nd) (A:List (List Nat)) (c:List Oq) (o:Oq):teS E g f ne d e A (c++ [o])=⟨[(3,.ptr 0 0 0),(5,.sl (dJ A) A.length d),(7,.ptr 1 0 0),(8,.ref 2 0 0 (c.length+1)),(23,.sl (aO e) e.length ne),(24,ω (e.length:Int)),(25,ω ((c.length+1:Nat):Int))],OV E.ls (E.qs.map Sq.c) g f (BB E.ls).1 (BB E.ls).2 (Ej (E.qs.map Sq.c)).1 (Ej (E.qs.map Sq.c)).2++ [(2,⟨dI (c++ [o]),0,false,0,4,true⟩)],.dead,[]⟩:=by
 cases c with
 |nil=>rfl
 |cons a r=>
  show (⟨[(3,_),(5,_),(7,_),(8,.ref 2 0 0 (a::r++ [o]).length),(23,_),(24,_),(25,ω (((a::r++ [o]).length:Nat):Int))],_,_,_⟩:St)=_;rw [show (a::r++ [o]).length=(a::r).length+1 from η];rfl
theorem Hl (E:fH) (g f ne d:Bool) (e:List Nd) (A:List (List Nat)) {c:List Oq} (h:0<c.length):teS E g f ne d e A c=⟨[(3,.ptr 0 0 0),(5,.sl (dJ A) A.length d),(7,.ptr 1 0 0),(8,.ref 2 0 0 c.length),(23,.sl (aO e) e.length ne),(24,ω (e.length:Int)),(25,ω (c.length:Int))],OV E.ls (E.qs.map Sq.c) g f (BB E.ls).1 (BB E.ls).2 (Ej (E.qs.map Sq.c)).1 (Ej (E.qs.map Sq.c)).2++ [(2,⟨dI c,0,false,0,4,true⟩)],.dead,[]⟩:=by
 cases c with
 |nil=>simp at h
 |cons a r=>rfl
theorem LM {x:Nd} (h:aJ x=0):TT x:=by
 intro e d;have c:f_ x=true:=by
  cases g:f_ x with
  |true=>rfl
  |false=>
   exfalso;unfold aJ at h;rw [g] at h;cases f:(!R_ x.op||(!gV x.op && !(x.name== [])))<;>rw [f] at h<;>cases h
 unfold f_ at c;rw [show (x.op==((4:Nat):Int))=false from beq_eq_false_iff_ne.2 (by omega),show BA x.op=false from Yq1 (by omega),show Ci x.op=true from Yq0 ⟨e,d⟩] at c;simp only [cond,φ] at c;exact ⟨c.1,by have:=of_decide_eq_true c.2;omega⟩
theorem Ri:∀ (r:List Nd) (d k:Nat),iV r d= .inl k->∀ x ∈ r,aJ x=0
 | [],_,_,_,x,hx=>by cases hx
 | y::r,d,k,h,x,hx=>by
  simp only [iV] at h;split at h
  .rename_i c;split at h
   .cases h
   .rcases List.mem_cons.1 hx with rfl|hx
    .exact c
    .exact Ri r _ k h x hx
  .cases h
theorem jL {e:List Nd} (h:di e=0):(∀ x ∈ e,aJ x=0)/\e.length<=60/\0<e.length:=by
 unfold di at h;split at h
 .cases h
 .rename_i f;cases c:iV e 0 with
  |inl d=>
   refine ⟨Ri e 0 d c,by omega, ?_⟩;cases e with
   |nil=>simp only [iV] at c;cases c;simp [iV] at h
   |cons _ _=>simp
  |inr w=>
   rw [c] at h;exact absurd h (JW _ _ _ c)
structure fH.sm (E:fH):Prop where
 ls:E.ls.length<2^40
 qs:E.qs.length<2^40
 lk:∀ x ∈ E.ls,x.a.length<2^36/\x.d.length<2^36
 sq:∀ s ∈ E.qs,s.l.length<2^40/\∀ b ∈ s.l,b.s28
theorem aeh {nt:Nat} (I:56<=nt) (E:fH) (z D ne C:Bool) {e:List Nd} (hE:E.sm) (hc:di e=0) (W:∀ x ∈ e,x.sm):∀ (r p:List Nd) (c:List Oq),e=p++r->c.length=p.length->(∀ o ∈ c,o.ok)->
  az prog ap [] nt (af 0 (ah f19)) (λ_=> .exit 0) (teS E z D ne C e (bJ e)) afd c (trF E (bJ e) r c):=by
 obtain ⟨hw,h60,Z⟩:=jL hc;obtain ⟨hal,X⟩:=tH hc;intro r
 induction r with
 |nil=>
  intro p c hp n H;rw [Δ] at hp;subst hp;cases c with
  |nil=>exact .done (abz ne z D C 0 _ _ _ _ e (bJ e) E.ls (E.qs.map Sq.c) I (aB (Yq1 (by simp at n;omega))))
  |cons a r=>exact .done (agC ne z D C (a::r).length _ _ _ _ e (bJ e) (a::r) E.ls (E.qs.map Sq.c) I (aB (Yq1 (by omega))))
 | cons x r ih=>
  intro p c hp n H;have O:c.length<e.length:=by rw [hp,n];simp
  have P:e[c.length]=x:=by subst hp;simp [n]
  have G:x ∈ e:=by rw [<- P];exact Xxp O
  have Q:ε (δ (c.length:Int)*5) (aO e)=lI x++aO r:=by subst hp;exact wZ n
  obtain ⟨d,f⟩:=X c.length x (by rw [π O,P]);have M:=Px (A:=bJ e) (k:=c.length) (by omega);have y:=sZ (hw x G);have w:=λ(nn:Bool) (l:List Oq) (Y:l.length=dh x.op) (hk:∀ o ∈ l,o.ok)=>Nb E x nn l y.1 y.2 (LM (hw x G)) Y hk (W x G) hE.sq
  have J:∀ j,(c.getD j zO).ok\/c.length<=j:=λj=>by
   rcases Xq2 j c.length with h|h
   .left;rw [ξ,π h];exact H _ (Xxp h)
   .exact .inr h
  have g:∀ j ∈ (bJ e).getD c.length [],(c.getD j zO).ok:=λj U=>(J j).resolve_right (by have:=f j U;omega)
  have R:∀ l:List Nat,(∀ j ∈ l,(c.getD j zO).ok)->∀ o ∈ c++ [nN E x (l.map λj=>c.getD j zO)],o.ok:=λl Y o B=>by
   rcases List.mem_append.1 B with B|B
   .exact H o B
   .rw [Xx6] at B;subst B;exact NT λo B=>by
     obtain ⟨j,U,rfl⟩:=List.mem_map.1 B;exact Y j U
  have nx:=ih (p++ [x]) (c++ [nN E x (((bJ e).getD c.length []).map λj=>c.getD j zO)]) (by rw [hp];simp) (by simp [n]) (R _ g);refine .next ?_ nx
  rw [ZT];have K:decide (((0:Nat):Int)<=(c.length:Int))=true:=Yq0 (by omega);have N:decide ((c.length:Int)<(((bJ e).length:Nat):Int))=true:=Yq0 (by omega);have v:decide ((c.length:Int)<(e.length:Int))=true:=Yq0 (by omega);have u:=xE (i:=c.length) (by omega);have S:Φ (c.length+1) 1099511627776=true:=Xqe (by omega);have T:Φ (c.length*4) (ζ (dI c))=true:=Xqe (by rw [oD];exact χ _);have m:∀ j,j<c.length->decide (((0:Nat):Int)<=(j:Int))=true/\decide ((j:Int)<(c.length:Int))=true:=λj U=> ⟨Yq0 (by omega),Yq0 (by omega)⟩
  generalize (bJ e).getD c.length []=al at*
  have h3:=yj x.op
  match al,d with
  | [],d=>
   have c0:=(w false [] d (by simp)).args (eG.cons (aU.refl _) (eG.cons (aU.refl _) (eG.cons (aU.nilS false rfl) (eG.refl _))));cases c with
   |nil=>exact aby x _ ne z D C 0 _ _ _ _ _ _ e (bJ e) E.ls (E.qs.map Sq.c) I Q M u K N v (aA v) c0
   |cons a q=>
    exact agB x _ ne z D C _ _ _ _ _ _ _ e (bJ e) (a::q) E.ls (E.qs.map Sq.c) I Q M (lL _ _) u S T K N v (aA v) c0
  | [i],d=>
   have t:=f i (by simp);rw [Hl _ _ _ _ _ _ _ (by omega)];exact agD x _ (c.getD i zO) ne z D C _ i _ _ _ _ _ _ _ e (bJ e) c E.ls (E.qs.map Sq.c) I Q M (iC t) (lL _ _) u S T (m i t).1 (m i t).2 K N v (aA v) (w true [c.getD i zO] d (by simpa using g i (by simp)))
  | [i,j],d=>
   have t:=f i (by simp);have F:=f j (by simp);rw [Hl _ _ _ _ _ _ _ (by omega)];exact agF x _ (c.getD i zO) (c.getD j zO) ne z D C _ i j _ _ _ _ _ _ _ _ e (bJ e) c E.ls (E.qs.map Sq.c) I Q M (iC t) (iC F) (lL _ _) u S T (m j F).1 (m j F).2 (m i t).1 (m i t).2 K N v (aA v) (w true [c.getD i zO,c.getD j zO] d (by
    intro o n;simp at n;rcases n with rfl|rfl
    .exact g i (by simp)
    .exact g j (by simp)))
  | [i,j,h],d=>
   have t:=f i (by simp);have F:=f j (by simp);have V:=f h (by simp);rw [Hl _ _ _ _ _ _ _ (by omega)];exact agG x _ (c.getD i zO) (c.getD j zO) (c.getD h zO) ne z D C _ i j h _ _ _ _ _ _ _ _ _ e (bJ e) c E.ls (E.qs.map Sq.c) I Q M (iC t) (iC F) (iC V) (lL _ _) u S T (m h V).1 (m h V).2 (m j F).1 (m j F).2 (m i t).1 (m i t).2 K N v (aA v) (w true [c.getD i zO,c.getD j zO,c.getD h zO] d (by
    intro o n;simp at n;rcases n with rfl|rfl|rfl
    .exact g i (by simp)
    .exact g j (by simp)
    .exact g h (by simp)))
  |_::_::_::_::_,d=>simp only [ν] at d;omega
theorem xy (E:fH) (A:List (List Nat)):∀ (r:List Nd) (os:List Oq),(trF E A r os).length=os.length+r.length
 | [],os=>by simp [trF]
 |x::r,os=>by rw [trF,xy E A r];simp;omega
theorem I_ (E:fH) (f d ne:Bool) {e:List Nd} (g:di e ≠ 0) (c:∀ x ∈ e,x.sm):CO 19 [.sl (aO e) e.length ne,.agg [.sl (dK E.ls) E.ls.length f,.sl (dL (E.qs.map Sq.c)) (E.qs.map Sq.c).length d]] (.ret .nilS):=
 akS ne f d e E.ls (E.qs.map Sq.c) (ajy e ne (di e) [] (by rw [show (di e==((0:Nat):Int))=false from beq_eq_false_iff_ne.2 g];rfl) (EQ e ne c))
theorem oL (E:fH) (d c ne:Bool) {e:List Nd} (g:E.sm) (i:di e=0) (f:∀ x ∈ e,x.sm):CO 19 [.sl (aO e) e.length ne,.agg [.sl (dK E.ls) E.ls.length d,.sl (dL (E.qs.map Sq.c)) (E.qs.map Sq.c).length c]] (.ret (.own (dI (bP E e)) (bP E e).length 4)):=by
 have j:(bP E e).length=e.length:=by unfold bP;rw [xy];simp
 have k:=(jL i).2.2;have p:=Nc E.ls (E.qs.map Sq.c) d c (Xq8 g.ls (by decide)) (by rw [Xxc];exact Xq8 g.qs (by decide)) g.lk;have m:∀ nt,56<=nt->az prog ap [] nt (af 0 (ah f19)) (λ_=> .exit 0) (teS E d c ne true e (bJ e)) afd [] (bP E e):=λnt o=>aeh o E d c ne true g i f e [] [] rfl rfl (by simp)
 have n:=az.blk (id:=0) (e':= .normal) (s:=⟨[(0,.sl (aO e) e.length ne),(1,.agg [.sl (dK E.ls) E.ls.length d,.sl (dL (E.qs.map Sq.c)) (E.qs.map Sq.c).length c]),(3,.ptr 0 0 0),(4,.nilS),(5,.sl (dJ (bJ e)) (bJ e).length true),(6,.bool true),(7,.ptr 1 0 0),(8,.nilS),(9,.dead),(10,.dead),(11,.dead),(13,.dead),(20,.bool false),(23,.sl (aO e) e.length ne),(24,ω (e.length:Int)),(25,ω 0),(26,.dead),(33,.dead),(34,.dead),(35,.dead),(36,.dead)],OV E.ls (E.qs.map Sq.c) d c (BB E.ls).1 (BB E.ls).2 (Ej (E.qs.map Sq.c)).1 (Ej (E.qs.map Sq.c)).2,.dead,[]⟩) (s':=⟨[(8,.ref 0 0 0 (bP E e).length)],[(0,⟨dI (bP E e),0,false,0,4,true⟩)],.dead,[]⟩) m (by simp) rfl (aN.of ⟨rfl,rfl,rfl,rfl,rfl,rfl,rfl,trivial⟩) (by
  generalize bP E e=t at j;cases t with
  |nil=>simp at j;omega
  |cons a r=>exact aN.refl _)
 have h:=akR ne d c true _ _ _ _ e (bJ e) (bP E e) E.ls (E.qs.map Sq.c) (WC e ne f i) p n;rw [ο (by rw [oD];exact χ _)] at h;exact h
theorem fV (E:fH) (f d ne:Bool) {e:List Nd} (i:E.sm) (c:∀ x ∈ e,x.sm):CO 21 [.sl (aO e) e.length ne,.agg [.sl (dK E.ls) E.ls.length f,.sl (dL (E.qs.map Sq.c)) (E.qs.map Sq.c).length d]] (.ret (fD (Fb E e))):=by
 unfold Fb;by_cases hc:di e=0
 .rw [if_pos hc];have k:=oL E f d ne i hc c;have m:(bP E e).length=e.length:=by unfold bP;rw [xy];simp
  obtain ⟨_,j,g⟩:=jL hc;have h:(bP E e).length - 1<(bP E e).length:=by omega
  have hlast:(bP E e).getLastD (.err 11)=(bP E e).getD ((bP E e).length - 1) zO:=by
   rw [List.getLastD_eq_getLast?,List.getLast?_eq_getElem?,ξ,π h];rfl
  rw [hlast];refine akl _ ne f d ((bP E e).length - 1) _ e (bP E e) E.ls (E.qs.map Sq.c) (iC h) ?_ (Yq0 (by omega)) (Yq0 (by omega)) ?_ k
  .congr 1;rw [show (((bP E e).length:Nat):Int) - ((1:Nat):Int)=(((bP E e).length - 1:Nat):Int) by omega];exact aS (by omega)
  .rw [show ((((bP E e).length:Nat):Int)==((0:Nat):Int))=false from beq_eq_false_iff_ne.2 (by omega)];rfl
 .rw [if_neg hc];exact akk ne f d e E.ls (E.qs.map Sq.c) (I_ E f d ne hc c) (jv 11)
def Gw (ts:List Ty) (a:List Nat):List Ty:=a.map λj=>ts.getD j zT
def DC (l:List Sg):List Nd->Nat->List Nat->List Ty->List Ty ⊕ Int
 | [],_,_,ts=> .inl ts
 |x::r,k,st,ts=>if (uC l x (Gw ts (st.drop (st.length - dh x.op)))).2=0 then DC l r (k+1) (st.take (st.length - dh x.op)++ [k]) (ts++ [(uC l x (Gw ts (st.drop (st.length - dh x.op)))).1]) else .inr (uC l x (Gw ts (st.drop (st.length - dh x.op)))).2
theorem zH {x:Nd} {r:List Nd} {d:Nat} (c:aJ x=0) (h:dh x.op<=d):iV (x::r) d=iV r (d - dh x.op+1):=by
 simp only [iV];rw [if_pos c,if_neg (by omega)]
theorem AA {l:List Sg} {x:Nd} {r:List Nd} {k:Nat} {st ws:List Nat} {ts own:List Ty} {t:Ty} (f:ws.length=dh x.op) (c:Gw ts ws=own) (d:uC l x own=(t,0)):DC l (x::r) k (st++ws) ts=DC l r (k+1) (st++ [k]) (ts++ [t]):=by
 have e:(st++ws).length - dh x.op=st.length:=by rw [η];omega
 simp only [DC,e,Xzm,Yqz];rw [c,d];simp
theorem xf (ts d rest:List Ty) (c:Ty):(ts++(d++ [c])++rest).getD (ts.length+d.length) zT=c:=by
 rw [υ,υ,ξ,Xxa (by omega),Xxa (by omega)];simp
inductive Beg (ps:List (List Nat)):Nat->Nat->Prop where
 |z {i:Nat}:ps[i]? =some []->Beg ps i i
 |s {i c b:Nat} {r:List Nat}:ps[i]? =some (c::r)->c<i->Beg ps c b->Beg ps i b
structure Pf (l:List Sg) (e:List Nd) (u:List Ty) (ws:List Nat) (ps:Nat->List (List Nat)):Prop where
 len:u.length=e.length
 al:∀ k,(ps k).length=e.length
 emp:ws= []->e= []
 arg:∀ r k st,tC (e++r) k st=ps k++tC r (k+e.length) (st++ws.map (k+·))
 beg:∀ k pre post,pre.length=k->∀ i,i<e.length->∃ b,b<=i/\Beg (pre++(ps k++post)) (k+i) (k+b)/\Tm l ((e.drop b).take (i+1 - b)) (u.getD i zT)
 top:∀ w ws',ws=w::ws'->w<e.length/\∀ k pre post,pre.length=k->Beg (pre++(ps k++post)) (k+w) k
theorem Pf.nil (l:List Sg):Pf l [] [] [] (λ_=> []) where
 len:=rfl
 al _:=rfl
 emp _:=rfl
 arg r k st:=by simp
 beg k pre post hk i hi:=absurd hi (Xz5 _)
 top w ws' h:=by cases h
theorem XX {α:Type} {a b:List α} {i:Nat} {z:α} (h:i<a.length):(a++b).getD i z=a.getD i z:=by
 rw [ξ,List.getElem?_append_left h,<- ξ]
theorem Pf.app {l:List Sg} {e a:List Nd} {u n:List Ty} {ws j:List Nat} {ps m:Nat->List (List Nat)} (h:Pf l e u ws ps) (g:Pf l a n j m):Pf l (e++a) (u++n) (ws++j.map (e.length+·)) (λk=>ps k++m (k+e.length)) where
 len:=by rw [η,η,h.len,g.len]
 al k:=by rw [η,η,h.al,g.al]
 emp q:=by
  rw [List.append_eq_nil_iff,List.map_eq_nil_iff] at q;rw [h.emp q.1,g.emp q.2];rfl
 arg r k st:=by
  rw [υ,h.arg,g.arg,η,Xx3,List.map_map,υ,υ,Xxu];congr 4;have:j.map (k+e.length+·)=j.map ((k+·) ∘ (e.length+·)):=List.map_congr_left λx _=>Xxu ..
  rw [this]
 beg k pre post f i hi:=by
  rcases Xq2 i e.length with hl|hl
  .obtain ⟨b,o,d,c⟩:=h.beg k pre (m (k+e.length)++post) f i hl;refine ⟨b,o,by rw [υ];exact d, ?_⟩;rw [Xjv (by omega),Xxn (by rw [Xx0];omega),XX (by rw [h.len];exact hl)];exact c
  .rw [η] at hi;obtain ⟨b,o,d,c⟩:=g.beg (k+e.length) (pre++ps k) post (by rw [η,f,h.al]) (i - e.length) (by omega);refine ⟨e.length+b,by omega, ?_, ?_⟩
   .rw [υ,show k+e.length+(i - e.length)=k+i by omega,Xxu] at d;rw [υ];exact d
   .rw [List.drop_append,Xxv (by omega),Xqi,Xjp,show i+1 - (e.length+b)=i - e.length+1 - b by omega,ξ,Xxa (by rw [h.len];exact hl),h.len,<- ξ];exact c
 top w ws' q:=by
  cases ws with
  |cons w0 w1=>
   obtain ⟨d,c⟩:=h.top w0 w1 rfl;rw [List.cons_append,List.cons.injEq] at q;rw [<- q.1];refine ⟨by rw [η];omega,λk pre post f=> ?_⟩;rw [υ];exact c k pre _ f
  | nil=>
   have t:=h.emp rfl;subst t;have p:ps 0= []:=List.length_eq_zero_iff.1 (h.al 0);cases j with
   |nil=>cases q
   |cons w0 w1=>
    obtain ⟨d,c⟩:=g.top w0 w1 rfl;simp only [Xqi,Xqg,Xqf,Ψ,List.cons.injEq] at q;rw [<- q.1];refine ⟨by simpa using d,λk pre post f=> ?_⟩;have p:ps k= []:=List.length_eq_zero_iff.1 (h.al k);rw [p];exact c k pre post f
theorem Pf.node {l:List Sg} {e:List Nd} {u:List Ty} {ws:List Nat} {ps:Nat->List (List Nat)} {x:Nd} {t:Ty} (h:Pf l e u ws ps) (v:ws.length=dh x.op) (n:Tm l (e++ [x]) t):Pf l (e++ [x]) (u++ [t]) [u.length] (λk=>ps k++ [ws.map (k+·)]):=by
 have key:∀ k pre post,pre.length=k->Beg (pre++(ps k++ [ws.map (k+·)]++post)) (k+e.length) k:=by
  intro k pre post d;have j:(pre++(ps k++ [ws.map (k+·)]++post))[k+e.length]? =some (ws.map (k+·)):=by
   rw [Xxa (by omega),υ,Xxa (by rw [h.al];omega),h.al,d,Xjp,Xzr];rfl
  cases ws with
  |nil=>
   have o:=h.emp rfl;subst o;exact .z j
  |cons w c=>
   obtain ⟨f,g⟩:=h.top w c rfl;refine .s j (by show k+w<_;omega) ?_;rw [υ];exact g k pre _ d
 refine ⟨by simp [h.len],λk=>by simp [h.al],(λq=>by cases q),λr k st=> ?_,λk pre post d i p=> ?_,λw c q=> ?_⟩
 .have f:(st++ws.map (k+·)).length - dh x.op=st.length:=by rw [η,Xxc];omega
  rw [υ,h.arg,Xqt,tC,f,Xzm,Yqz,h.len];simp [Xxu]
 .rw [η,τ] at p;rcases Xq2 i e.length with hl|hl
  .obtain ⟨b,m,f,g⟩:=h.beg k pre ([ws.map (k+·)]++post) d i hl;refine ⟨b,m,by rw [υ];exact f, ?_⟩;rw [Xjv (by omega),Xxn (by rw [Xx0];omega),XX (by rw [h.len];exact hl)];exact g
  .obtain rfl:i=e.length:=by omega
   refine ⟨0,Nat.zero_le _,key k pre post d, ?_⟩;rw [List.drop_zero,ο (by simp),ξ,Xxa (by rw [h.len];exact χ _),h.len,Xzr];exact n
 .simp only [List.cons.injEq] at q;rw [<- q.1,h.len];exact ⟨by simp,key⟩
structure apc (l:List Sg) (e:List Nd) (t:Ty) (u:List Ty):Prop where
 len:e.length=u.length+1
 chk:∀ r d,iV (e++r) d=iV r (d+1)
 typ:∀ r k st ts,ts.length=k->DC l (e++r) k st ts=DC l r (k+e.length) (st++ [k+u.length]) (ts++(u++ [t]))
theorem Tm.runs {l:List Sg} {e:List Nd} {t:Ty} (h:Tm l e t):∃ u,apc l e t u/\∃ ps,Pf l e (u++ [t]) [u.length] ps:=by
 induction h with
 | @n0 x t hw ha ht=>
  refine ⟨[],⟨rfl,λr d=> ?_,λr k st ts i=> ?_⟩,_,(Pf.nil l).node (by rw [ha];rfl) (.n0 hw ha ht)⟩
  .rw [Xqt,zH hw (by omega),ha];rfl
  .have:=AA (l:=l) (x:=x) (r:=r) (k:=k) (st:=st) (ws:= []) (ts:=ts) (own:= []) (t:=t) (by rw [ha];rfl) rfl ht;rw [Δ] at this;simpa using this
 | @n1 x t ta a ma hw ha ht iha=>
  obtain ⟨f,⟨m,o,p⟩,_,w⟩:=iha;refine ⟨f++ [ta],⟨by simp [m],λr d=> ?_,λr k st ts i=> ?_⟩,_,w.node (by rw [ha];rfl) (.n1 ma hw ha ht)⟩
  .rw [υ,o,Xqt,zH hw (by omega),ha];rfl
  .have:=AA (l:=l) (x:=x) (r:=r) (k:=k+a.length) (st:=st) (ws:= [k+f.length]) (ts:=ts++(f++ [ta])) (own:= [ta]) (t:=t) (by rw [ha];rfl) (by
    have:=xf ts f [] ta;rw [Δ,i] at this;simp only [Gw,Xqg,Xxw];rw [this]) ht
   rw [υ,p _ k st ts i,Xqt,this];simp [m,Xxu]
 | @n2 x t ta tb a b ma mb hw ha ht iha ihb=>
  obtain ⟨f,⟨m,o,p⟩,_,w⟩:=iha;obtain ⟨g,⟨z,C,B⟩,_,A⟩:=ihb;refine ⟨f++ [ta]++(g++ [tb]),⟨by simp [m,z];omega,λr d=> ?_,λr k st ts i=> ?_⟩,_,(w.app A).node (by rw [ha];rfl) (.n2 ma mb hw ha ht)⟩
  .rw [υ,υ,o,C,Xqt,zH hw (by omega),ha];rfl
  .have j:(ts++(f++ [ta])).length=k+a.length:=by simp [i,m]
   have:=AA (l:=l) (x:=x) (r:=r) (k:=k+a.length+b.length) (st:=st) (ws:= [k+f.length,k+a.length+g.length]) (ts:=ts++(f++ [ta])++(g++ [tb])) (own:= [ta,tb]) (t:=t) (by rw [ha];rfl) (by
    have q:=xf ts f (g++ [tb]) ta;have v:=xf (ts++(f++ [ta])) g [] tb;rw [i] at q;rw [Δ,j] at v;simp only [Gw,Xqg,Xxw];rw [q,v]) ht
   rw [υ,υ,p _ k st ts i,B _ _ _ _ j,Xqt,υ,Xqt,this];refine congr (congr (congrArg (DC l r) ?_) ?_) ?_
   .simp;omega
   .congr 2;simp;omega
   .simp
 | @n3 x t ta tb tc a b c ma mb mc hw ha ht iha ihb ihc=>
  obtain ⟨f,⟨m,o,p⟩,_,w⟩:=iha;obtain ⟨g,⟨z,C,B⟩,_,A⟩:=ihb;obtain ⟨n,⟨H,F,E⟩,_,G⟩:=ihc;refine ⟨f++ [ta]++(g++ [tb])++(n++ [tc]),⟨by simp [m,z,H];omega,λr d=> ?_,λr k st ts i=> ?_⟩,_,((w.app A).app G).node (by rw [ha];rfl) (.n3 ma mb mc hw ha ht)⟩
  .rw [υ,υ,υ,o,C,F,Xqt,zH hw (by omega),ha];rfl
  .have j:(ts++(f++ [ta])).length=k+a.length:=by simp [i,m]
   have y:(ts++(f++ [ta])++(g++ [tb])).length=k+a.length+b.length:=by simp [i,m,z];omega
   have:=AA (l:=l) (x:=x) (r:=r) (k:=k+a.length+b.length+c.length) (st:=st) (ws:= [k+f.length,k+a.length+g.length,k+a.length+b.length+n.length]) (ts:=ts++(f++ [ta])++(g++ [tb])++(n++ [tc])) (own:= [ta,tb,tc]) (t:=t) (by rw [ha];rfl) (by
    have q:=xf ts f ((g++ [tb])++(n++ [tc])) ta;have v:=xf (ts++(f++ [ta])) g (n++ [tc]) tb;have D:=xf (ts++(f++ [ta])++(g++ [tb])) n [] tc;rw [i,<- υ] at q;rw [j] at v;rw [Δ,y] at D;simp only [Gw,Xqg,Xxw];rw [q,v,D]) ht
   rw [υ,υ,υ,p _ k st ts i,B _ _ _ _ j,E _ _ _ _ y,Xqt,υ,υ,Xqt,Xqt,this];refine congr (congr (congrArg (DC l r) ?_) ?_) ?_
   .simp;omega
   .congr 2;simp;omega
   .simp
theorem Tm.check {l:List Sg} {e:List Nd} {t:Ty} (h:Tm l e t) (g:e.length<=60):di e=0:=by
 obtain ⟨u,⟨f,c,d⟩,_⟩:=h.runs;have:=c [] 0;rw [Δ] at this;unfold di;rw [if_neg (by omega),this];simp [iV]
theorem Ho (E:fH) (e:List Nd):(bP E e).length=e.length:=by unfold bP;rw [xy];simp
structure ED (er:Bool) (t:Ty) (x:Lk):Prop where
 sz:x.a.length<2^36/\x.d.length<2^36
 er:er=false->x.e=0
 vl:x.e=0->∃ q:RQ,q.ok/\iP q=true/\lkV x= .val q/\(t.tr=true->∃ b,q=bR b)
theorem ED.val {w:Bool} {t:Ty} {e:Int} {nm:List UInt8} {q:RQ} (c:IJ 64 q) (d:t.tr=true->∃ b,q=bR b):ED w t ⟨e,nm,q.neg,ae q.n,ae q.d,0⟩ where
 sz:=⟨Xq8 (gB c.2.1 (by omega)) (by decide),Xq8 (gB c.2.2 (by omega)) (by decide)⟩
 er _:=rfl
 vl _:=⟨q,c.1,t_ c (by omega),by
  show xK q.neg (ae q.n) (ae q.d) 0=_;rw [wE c.1];unfold mV;rw [if_pos (t_ c (by omega))],d⟩
theorem ED.err {w:Bool} {t:Ty} {f:Int} {nm:List UInt8} {e:Int} (d:e ≠ 0) (c:w=true):ED w t ⟨f,nm,false,[],[],e⟩ where
 sz:=⟨Xqu _,Xqu _⟩
 er h:=by rw [c] at h;cases h
 vl h:=absurd h d
def zh (er:Bool):List Sg->List Lk->Prop
 | [],[]=>True
 |s::r,x::l=>(x.op=s.op/\x.nm=s.name/\ED er s.ty x)/\zh er r l
 |_,_=>False
def xP:List Sg->List Sq->Prop
 | [],[]=>True
 |s::r,q::l=>(q.nm=s.name/\q.l.length<=8/\(∀ b ∈ q.l,b.s28)/\Iq mF q.l=0)/\xP r l
 |_,_=>False
theorem ae3 {r:Nat} (h:r<4):∃ e:Int,e ≠ 0/\ω (AV.toInt (θ (ε ((0+(δ (r:Int)))*1) [ω 17,ω 16,ω 12,ω 3]) .dead))= ω e/\chk (.int .i64) (θ (ε ((0+(δ (r:Int)))*1) [ω 17,ω 16,ω 12,ω 3]) .dead)=true:=by
 rcases (show r=0\/r=1\/r=2\/r=3 by omega) with rfl|rfl|rfl|rfl
 .exact ⟨17,by decide,rfl,rfl⟩
 .exact ⟨16,by decide,rfl,rfl⟩
 .exact ⟨12,by decide,rfl,rfl⟩
 .exact ⟨3,by decide,rfl,rfl⟩
theorem jP (e:Int):CO 47 [ω e] (Vb5 e):=pK [] 0 0 (.n 5 .nil) (.nil)
def emL (ls:List Lk):AV:=match ls with| []=> .nilS|_::_=> .ref 3 0 0 ls.length
def apt (ls:List Lk):Hp:=match ls with| []=> []|_::_=> [(3,⟨dK ls,0,false,0,6,true⟩)]
def emQ (qs:List Sc):AV:=match qs with| []=> .nilS|_::_=> .ref 4 0 0 qs.length
def apu (qs:List Sc):Hp:=match qs with| []=> []|_::_=> [(4,⟨dL qs,0,false,0,4,true⟩)]
def emP (ls:List Lk):Bool:=match ls with| []=>true|_::_=>false
abbrev RG (sg:List Sg) (ng er:Bool) (xs:List Int) (nn:Bool) (p:Nat × List Lk × List Sc):St:=⟨[(0,.sl (iQ sg) sg.length ng),(2,.bool er),(6,.ptr 0 0 0),(7,.ptr 1 0 0),(8,.ptr 2 0 0),(9,ω ((p.2.1.length+p.2.2.length:Nat):Int))],[(0,⟨[.nilS,.nilS],0,false,0,0,true⟩),(1,⟨[emL p.2.1,emQ p.2.2],0,false,0,0,emP p.2.1⟩),(2,dB xs nn p.1)]++(apt p.2.1++apu p.2.2),.dead,[]⟩
abbrev emO (p:Nat × List Lk × List Sc):St:=⟨[(6,.ptr 0 0 0),(7,.ptr 1 0 0)],[(0,⟨[.nilS,.nilS],0,false,0,0,true⟩),(1,⟨[.ref 2 0 0 p.2.1.length,.ref 3 0 0 p.2.2.length],0,false,0,0,false⟩),(2,⟨dK p.2.1,0,false,0,6,true⟩),(3,⟨dL p.2.2,0,false,0,4,true⟩)],.dead,[]⟩
theorem Ae (l:List Lk):(dK l).length=l.length*6:=lD U3 6 (λ_=>rfl) l
theorem Yi (l:List Lk) (x:Lk):κ (l.length*6) (dK l)++U3 x=dK (l++ [x]):=by
 rw [ο (by rw [Ae];exact χ _)];unfold dK;rw [Xq9];simp
theorem Ap (l:List Sc):(dL l).length=l.length*4:=lD OB 4 (λ_=>rfl) l
theorem Zw (l:List Sc) (x:Sc):κ (l.length*4) (dL l)++OB x=dL (l++ [x]):=by
 rw [ο (by rw [Ap];exact χ _)];unfold dL;rw [Xq9];simp
theorem akp (c:List Sg) (e d:Bool) (xs:List Int) (nn:Bool) (k:Nat) (ls:List Lk) (x:Lk):RG c e d xs nn (k,ls++ [x],[])=⟨[(0,.sl (iQ c) c.length e),(2,.bool d),(6,.ptr 0 0 0),(7,.ptr 1 0 0),(8,.ptr 2 0 0),(9,ω ((ls.length+1:Nat):Int))],[(0,⟨[.nilS,.nilS],0,false,0,0,true⟩),(1,⟨[.ref 3 0 0 (ls.length+1),.nilS],0,false,0,0,false⟩),(2,dB xs nn k),(3,⟨κ (ls.length*6) (dK ls)++U3 x,0,false,0,6,true⟩)],.dead,[]⟩:=by
 rw [Yi];cases ls with
 |nil=>rfl
 |cons a r=>
  show (⟨[(0,_),(2,_),(6,_),(7,_),(8,_),(9,ω (((a::(r++ [x])).length+0:Nat):Int))],[(0,_),(1,⟨[.ref 3 0 0 (a::(r++ [x])).length,_],_,_,_,_,_⟩),(2,_),(3,_)],_,_⟩:St)=_;rw [show (a::(r++ [x])).length=(a::r).length+1 by simp];rfl
theorem aeL (c:List Sg) (e d:Bool) (xs:List Int) (nn:Bool) (k:Nat) (ls:List Lk) (h:ls ≠ []):RG c e d xs nn (k,ls,[])=⟨[(0,.sl (iQ c) c.length e),(2,.bool d),(6,.ptr 0 0 0),(7,.ptr 1 0 0),(8,.ptr 2 0 0),(9,ω (ls.length:Int))],[(0,⟨[.nilS,.nilS],0,false,0,0,true⟩),(1,⟨[.ref 3 0 0 ls.length,.nilS],0,false,0,0,false⟩),(2,dB xs nn k),(3,⟨dK ls,0,false,0,6,true⟩)],.dead,[]⟩:=by
 cases ls with
 |nil=>exact absurd rfl h
 |cons a r=>rfl
theorem Xo (c:List Sg) (e d:Bool) (xs:List Int) (nn:Bool) (k:Nat) (ls:List Lk) (qs:List Sc) (h:ls ≠ []) (f:qs ≠ []):RG c e d xs nn (k,ls,qs)=⟨[(0,.sl (iQ c) c.length e),(2,.bool d),(6,.ptr 0 0 0),(7,.ptr 1 0 0),(8,.ptr 2 0 0),(9,ω ((ls.length+qs.length:Nat):Int))],[(0,⟨[.nilS,.nilS],0,false,0,0,true⟩),(1,⟨[.ref 3 0 0 ls.length,.ref 4 0 0 qs.length],0,false,0,0,false⟩),(2,dB xs nn k),(3,⟨dK ls,0,false,0,6,true⟩),(4,⟨dL qs,0,false,0,4,true⟩)],.dead,[]⟩:=by
 cases ls with
 |nil=>exact absurd rfl h
 |cons a r=>
  cases qs with
  |nil=>exact absurd rfl f
  |cons b t=>rfl
theorem OI {p r:List Sg} {s:Sg} {k:Nat} (h:k=p.length):ε (δ (k:Int)*5) (iQ (p++s::r))=sgC s++iQ r:=by
 subst h;rw [aC];unfold iQ;rw [Xq9,Xxk,<- lD sgC 5 (λ_=>rfl) p,Xzm]
theorem abd (q:List Sg) (Q r:Bool) (s:Sg) (hs:s.op ≠ 24) (xs:List Int) (nn:Bool) (k:Nat) (ls:List Lk) (rx:List AV) (p:ε (δ (ls.length:Int)*5) (iQ q)=sgC s++rx) (hj:ls.length<q.length) (h20:q.length<20) (i:xs.length<2^63) (hk:k<=xs.length):
  ∃ (x:Lk) (V:Nat),V<=xs.length/\x.op=s.op/\x.nm=s.name/\ED r s.ty x/\∀ nt,87<=nt->ψ nt f58 (RG q Q r xs nn (k,ls,[])) .normal (RG q Q r xs nn (V,ls++ [x],[])):=by
 obtain ⟨m,k1,hr0,y,d⟩:=dH xs nn k 80 i hk (by omega) (by omega);obtain ⟨T,k2,hr1,G,C⟩:=dH xs nn k1 9 i y (by omega) (by omega);obtain ⟨Z,k3,F,Y,M⟩:=dH xs nn k2 4 i G (by omega) (by omega);obtain ⟨r3,k4,H,X,N⟩:=dH xs nn k1 4 i y (by omega) (by omega);obtain ⟨e2,U,O,P⟩:=ae3 F;obtain ⟨e3,S,J,K⟩:=ae3 H;have j:=jT ((m:Int) - 20) (by omega) (by omega);have e1:γ .i64 ((m:Int) - ((20:Nat):Int))=(m:Int) - 20:=bG (by omega) (by omega);rw [<- e1] at j;have E:(lX (γ .i64 ((m:Int) - ((20:Nat):Int)))).neg=true->0<(lX (γ .i64 ((m:Int) - ((20:Nat):Int)))).n:=by
  rw [e1];intro h;simp only [lX,decide_eq_true_eq] at h ⊢;omega
 have g:(lX (γ .i64 ((m:Int) - ((20:Nat):Int)))).n<64:=by rw [e1];simp only [lX];omega
 have hd:(lX (γ .i64 ((m:Int) - ((20:Nat):Int)))).d=1:=rfl;generalize lX (γ .i64 ((m:Int) - ((20:Nat):Int)))=w at j E g hd;have hq:qA w=qA ⟨w.neg,w.n,1⟩:=by unfold qA;rw [hd]
 have sw:IJ 64 w:=⟨by obtain ⟨a,b,c⟩:=w;simp only at hd;subst hd;exact Eb E,by omega,by omega⟩
 have B:CO 48 [ω (γ .i64 ((T:Int)+((2:Nat):Int)))] (.ret (qA ⟨false,T+2,1⟩)):=by
  rw [show γ .i64 ((T:Int)+((2:Nat):Int))=((T+2:Nat):Int) from (bG (by omega) (by omega)).trans (by omega)];exact IB _ (by omega)
 have t:=Oc w.neg w.n (T+2) E (by omega) (by omega) (by omega);rw [<- hq] at t;have l1:=yE w.neg w.n (T+2);have sv:IJ 64 (fZ w.neg w.n (T+2)):=⟨mX (by omega),by omega,by omega⟩
 generalize fZ w.neg w.n (T+2)=v at t sv l1;have u:CO 48 [ω (Xxd (m:Int) ((2:Nat):Int))] (.ret (qA (bR (decide (m % 2=1))))):=by
  rw [uV];have:=IB (m % 2) (by omega);rcases (show m % 2=0\/m % 2=1 by omega) with h|h
  .rw [h] at this ⊢;exact this
  .rw [h] at this ⊢;exact this
 have W:bR (decide (m % 2=1))=bR (decide (m % 2=1)):=rfl;have D:IJ 64 (bR (decide (m % 2=1))):=⟨aeF _,by cases decide (m % 2=1)<;>decide,by cases decide (m % 2=1)<;>decide⟩
 generalize hw3:bR (decide (m % 2=1))=w3 at u D;have W:w3=bR (decide (m % 2=1)):=hw3.symm;have I:=jP e2;have R:=jP e3;have f:decide ((ls.length:Int)<(q.length:Int))=true:=Yq0 (by omega);have e:(s.op==((24:Nat):Int))=false:=beq_eq_false_iff_ne.2 hs;have o:ω (γ .i64 ((ls.length:Int)+((1:Nat):Int)))=ω ((ls.length+1:Nat):Int):=xE (by omega);have z:Φ (ls.length+1) 1099511627776=true:=Xqe (by omega);have A:Φ (ls.length*6) (ζ (dK ls))=true:=Xqe (by rw [Ae];exact χ _);have n:∀ (x:Lk) (V nt:Nat),(ls= []->ψ nt f58 (RG q Q r xs nn (k,[],[])) .normal (RG q Q r xs nn (V,[x],[])))->
   (ψ nt f58 ⟨[(0,.sl (iQ q) q.length Q),(2,.bool r),(6,.ptr 0 0 0),(7,.ptr 1 0 0),(8,.ptr 2 0 0),(9,ω (ls.length:Int))],[(0,⟨[.nilS,.nilS],0,false,0,0,true⟩),(1,⟨[.ref 3 0 0 ls.length,.nilS],0,false,0,0,false⟩),(2,dB xs nn k),(3,⟨dK ls,0,false,0,6,true⟩)],.dead,[]⟩ .normal
    ⟨[(0,.sl (iQ q) q.length Q),(2,.bool r),(6,.ptr 0 0 0),(7,.ptr 1 0 0),(8,.ptr 2 0 0),(9,ω ((ls.length+1:Nat):Int))],[(0,⟨[.nilS,.nilS],0,false,0,0,true⟩),(1,⟨[.ref 3 0 0 (ls.length+1),.nilS],0,false,0,0,false⟩),(2,dB xs nn V),(3,⟨κ (ls.length*6) (dK ls)++U3 x,0,false,0,6,true⟩)],.dead,[]⟩)->
   ψ nt f58 (RG q Q r xs nn (k,ls,[])) .normal (RG q Q r xs nn (V,ls++ [x],[])):=by
  intro x V nt h1 h2;by_cases hz:ls= []
  .have h1:=h1 hz;rw [hz];exact h1
  .rw [aeL q Q r xs nn k ls hz,akp];exact h2
 rcases tf ((Xxd (m:Int) ((3:Nat):Int))==((0:Nat):Int)) with d0|d0
 .rcases tf s.ty.tr with d1|d1
  .rcases tf r with d2|d2
   .rcases tf ((Xxd (m:Int) ((7:Nat):Int))==((0:Nat):Int)) with d3|d3
    .refine ⟨⟨s.op,s.name,false,[],[],e2⟩,k3,Y,rfl,rfl,.err U d2,λnt g=> ?_⟩;exact n _ _ nt (λi=>by subst i;exact pN 58 [] 7 61 (.k 12 P (.c (oN Z) (.c (lW F) (.c (aA d3) (.k 1 (aA d2) (.k 6 (aA d1) (.k 5 (aA d0) (.k 2 (aB e) (.k 7 (oN 0) (.c f (.c (aA f) .nil))))))))))) (.v 22 (.eq o) (.c I (.v 73 (.eq O) (.c M (.c u (.c t (.c B (.c C (.c j (.c d (.v 25 (.ppt p) .nil))))))))))) g) (pN 58 [] 6 61 (.k 2 z (.c A (.k 9 P (.c (oN Z) (.c (lW F) (.c (aA d3) (.k 1 (aA d2) (.k 6 (aA d1) (.k 5 (aA d0) (.k 2 (aB e) (.k 7 (oN ls.length) (.c f (.c (aA f) .nil))))))))))))) (.v 22 (.eq o) (.c I (.v 73 (.eq O) (.c M (.c u (.c t (.c B (.c C (.c j (.c d (.v 25 (.ppt p) .nil))))))))))) g)
    .refine ⟨⟨s.op,s.name,w3.neg,ae w3.n,ae w3.d,0⟩,k2,G,rfl,rfl,.val D (λ_=> ⟨_,W⟩),λnt g=> ?_⟩;exact n _ _ nt (λi=>by subst i;exact pN 58 [] 7 29 (.k 11 (aB d3) (.k 1 (aA d2) (.k 6 (aA d1) (.k 5 (aA d0) (.k 2 (aB e) (.k 7 (oN 0) (.c f (.c (aA f) .nil)))))))) (.v 22 (.eq o) (.c u (.c t (.c B (.c C (.c j (.c d (.v 25 (.ppt p) .nil)))))))) g) (pN 58 [] 6 29 (.k 2 z (.c A (.k 8 (aB d3) (.k 1 (aA d2) (.k 6 (aA d1) (.k 5 (aA d0) (.k 2 (aB e) (.k 7 (oN ls.length) (.c f (.c (aA f) .nil)))))))))) (.v 22 (.eq o) (.c u (.c t (.c B (.c C (.c j (.c d (.v 25 (.ppt p) .nil)))))))) g)
   .refine ⟨⟨s.op,s.name,w3.neg,ae w3.n,ae w3.d,0⟩,k2,G,rfl,rfl,.val D (λ_=> ⟨_,W⟩),λnt g=> ?_⟩;exact n _ _ nt (λi=>by subst i;exact pN 58 [] 7 13 (.k 12 (aB d2) (.k 6 (aA d1) (.k 5 (aA d0) (.k 2 (aB e) (.k 7 (oN 0) (.c f (.c (aA f) .nil))))))) (.v 22 (.eq o) (.c u (.c t (.c B (.c C (.c j (.c d (.v 25 (.ppt p) .nil)))))))) g) (pN 58 [] 6 13 (.k 2 z (.c A (.k 9 (aB d2) (.k 6 (aA d1) (.k 5 (aA d0) (.k 2 (aB e) (.k 7 (oN ls.length) (.c f (.c (aA f) .nil))))))))) (.v 22 (.eq o) (.c u (.c t (.c B (.c C (.c j (.c d (.v 25 (.ppt p) .nil)))))))) g)
  .rcases tf r with d2|d2
   .rcases tf ((Xxd (m:Int) ((7:Nat):Int))==((0:Nat):Int)) with d3|d3
    .refine ⟨⟨s.op,s.name,false,[],[],e2⟩,k3,Y,rfl,rfl,.err U d2,λnt g=> ?_⟩;exact n _ _ nt (λi=>by subst i;exact pN 58 [] 7 53 (.k 12 P (.c (oN Z) (.c (lW F) (.c (aA d3) (.k 1 (aA d2) (.k 4 (aB d1) (.k 5 (aA d0) (.k 2 (aB e) (.k 7 (oN 0) (.c f (.c (aA f) .nil))))))))))) (.v 22 (.eq o) (.c I (.v 73 (.eq O) (.c M (.c t (.c B (.c C (.c j (.c d (.v 25 (.ppt p) .nil)))))))))) g) (pN 58 [] 6 53 (.k 2 z (.c A (.k 9 P (.c (oN Z) (.c (lW F) (.c (aA d3) (.k 1 (aA d2) (.k 4 (aB d1) (.k 5 (aA d0) (.k 2 (aB e) (.k 7 (oN ls.length) (.c f (.c (aA f) .nil))))))))))))) (.v 22 (.eq o) (.c I (.v 73 (.eq O) (.c M (.c t (.c B (.c C (.c j (.c d (.v 25 (.ppt p) .nil)))))))))) g)
    .refine ⟨⟨s.op,s.name,v.neg,ae v.n,ae v.d,0⟩,k2,G,rfl,rfl,.val sv (λh=>by rw [d1] at h;cases h),λnt g=> ?_⟩;exact n _ _ nt (λi=>by subst i;exact pN 58 [] 7 21 (.k 11 (aB d3) (.k 1 (aA d2) (.k 4 (aB d1) (.k 5 (aA d0) (.k 2 (aB e) (.k 7 (oN 0) (.c f (.c (aA f) .nil)))))))) (.v 22 (.eq o) (.c t (.c B (.c C (.c j (.c d (.v 25 (.ppt p) .nil))))))) g) (pN 58 [] 6 21 (.k 2 z (.c A (.k 8 (aB d3) (.k 1 (aA d2) (.k 4 (aB d1) (.k 5 (aA d0) (.k 2 (aB e) (.k 7 (oN ls.length) (.c f (.c (aA f) .nil)))))))))) (.v 22 (.eq o) (.c t (.c B (.c C (.c j (.c d (.v 25 (.ppt p) .nil))))))) g)
   .refine ⟨⟨s.op,s.name,v.neg,ae v.n,ae v.d,0⟩,k2,G,rfl,rfl,.val sv (λh=>by rw [d1] at h;cases h),λnt g=> ?_⟩;exact n _ _ nt (λi=>by subst i;exact pN 58 [] 7 5 (.k 12 (aB d2) (.k 4 (aB d1) (.k 5 (aA d0) (.k 2 (aB e) (.k 7 (oN 0) (.c f (.c (aA f) .nil))))))) (.v 22 (.eq o) (.c t (.c B (.c C (.c j (.c d (.v 25 (.ppt p) .nil))))))) g) (pN 58 [] 6 5 (.k 2 z (.c A (.k 9 (aB d2) (.k 4 (aB d1) (.k 5 (aA d0) (.k 2 (aB e) (.k 7 (oN ls.length) (.c f (.c (aA f) .nil))))))))) (.v 22 (.eq o) (.c t (.c B (.c C (.c j (.c d (.v 25 (.ppt p) .nil))))))) g)
 .rcases tf s.ty.tr with d1|d1
  .rcases tf r with d2|d2
   .rcases tf ((Xxd (m:Int) ((7:Nat):Int))==((0:Nat):Int)) with d3|d3
    .refine ⟨⟨s.op,s.name,false,[],[],e3⟩,k4,X,rfl,rfl,.err S d2,λnt g=> ?_⟩;exact n _ _ nt (λi=>by subst i;exact pN 58 [] 7 57 (.k 12 K (.c (oN r3) (.c (lW H) (.c (aA d3) (.k 1 (aA d2) (.k 6 (aA d1) (.k 1 (aB d0) (.k 2 (aB e) (.k 7 (oN 0) (.c f (.c (aA f) .nil))))))))))) (.v 22 (.eq o) (.c R (.v 73 (.eq J) (.c N (.c u (.c j (.c d (.v 25 (.ppt p) .nil)))))))) g) (pN 58 [] 6 57 (.k 2 z (.c A (.k 9 K (.c (oN r3) (.c (lW H) (.c (aA d3) (.k 1 (aA d2) (.k 6 (aA d1) (.k 1 (aB d0) (.k 2 (aB e) (.k 7 (oN ls.length) (.c f (.c (aA f) .nil))))))))))))) (.v 22 (.eq o) (.c R (.v 73 (.eq J) (.c N (.c u (.c j (.c d (.v 25 (.ppt p) .nil)))))))) g)
    .refine ⟨⟨s.op,s.name,w3.neg,ae w3.n,ae w3.d,0⟩,k1,y,rfl,rfl,.val D (λ_=> ⟨_,W⟩),λnt g=> ?_⟩;exact n _ _ nt (λi=>by subst i;exact pN 58 [] 7 25 (.k 11 (aB d3) (.k 1 (aA d2) (.k 6 (aA d1) (.k 1 (aB d0) (.k 2 (aB e) (.k 7 (oN 0) (.c f (.c (aA f) .nil)))))))) (.v 22 (.eq o) (.c u (.c j (.c d (.v 25 (.ppt p) .nil))))) g) (pN 58 [] 6 25 (.k 2 z (.c A (.k 8 (aB d3) (.k 1 (aA d2) (.k 6 (aA d1) (.k 1 (aB d0) (.k 2 (aB e) (.k 7 (oN ls.length) (.c f (.c (aA f) .nil)))))))))) (.v 22 (.eq o) (.c u (.c j (.c d (.v 25 (.ppt p) .nil))))) g)
   .refine ⟨⟨s.op,s.name,w3.neg,ae w3.n,ae w3.d,0⟩,k1,y,rfl,rfl,.val D (λ_=> ⟨_,W⟩),λnt g=> ?_⟩;exact n _ _ nt (λi=>by subst i;exact pN 58 [] 7 9 (.k 12 (aB d2) (.k 6 (aA d1) (.k 1 (aB d0) (.k 2 (aB e) (.k 7 (oN 0) (.c f (.c (aA f) .nil))))))) (.v 22 (.eq o) (.c u (.c j (.c d (.v 25 (.ppt p) .nil))))) g) (pN 58 [] 6 9 (.k 2 z (.c A (.k 9 (aB d2) (.k 6 (aA d1) (.k 1 (aB d0) (.k 2 (aB e) (.k 7 (oN ls.length) (.c f (.c (aA f) .nil))))))))) (.v 22 (.eq o) (.c u (.c j (.c d (.v 25 (.ppt p) .nil))))) g)
  .rcases tf r with d2|d2
   .rcases tf ((Xxd (m:Int) ((7:Nat):Int))==((0:Nat):Int)) with d3|d3
    .refine ⟨⟨s.op,s.name,false,[],[],e3⟩,k4,X,rfl,rfl,.err S d2,λnt g=> ?_⟩;exact n _ _ nt (λi=>by subst i;exact pN 58 [] 7 49 (.k 12 K (.c (oN r3) (.c (lW H) (.c (aA d3) (.k 1 (aA d2) (.k 4 (aB d1) (.k 1 (aB d0) (.k 2 (aB e) (.k 7 (oN 0) (.c f (.c (aA f) .nil))))))))))) (.v 22 (.eq o) (.c R (.v 73 (.eq J) (.c N (.c j (.c d (.v 25 (.ppt p) .nil))))))) g) (pN 58 [] 6 49 (.k 2 z (.c A (.k 9 K (.c (oN r3) (.c (lW H) (.c (aA d3) (.k 1 (aA d2) (.k 4 (aB d1) (.k 1 (aB d0) (.k 2 (aB e) (.k 7 (oN ls.length) (.c f (.c (aA f) .nil))))))))))))) (.v 22 (.eq o) (.c R (.v 73 (.eq J) (.c N (.c j (.c d (.v 25 (.ppt p) .nil))))))) g)
    .refine ⟨⟨s.op,s.name,w.neg,ae w.n,ae w.d,0⟩,k1,y,rfl,rfl,.val sw (λh=>by rw [d1] at h;cases h),λnt g=> ?_⟩;exact n _ _ nt (λi=>by subst i;exact pN 58 [] 7 17 (.k 11 (aB d3) (.k 1 (aA d2) (.k 4 (aB d1) (.k 1 (aB d0) (.k 2 (aB e) (.k 7 (oN 0) (.c f (.c (aA f) .nil)))))))) (.v 22 (.eq o) (.c j (.c d (.v 25 (.ppt p) .nil)))) g) (pN 58 [] 6 17 (.k 2 z (.c A (.k 8 (aB d3) (.k 1 (aA d2) (.k 4 (aB d1) (.k 1 (aB d0) (.k 2 (aB e) (.k 7 (oN ls.length) (.c f (.c (aA f) .nil)))))))))) (.v 22 (.eq o) (.c j (.c d (.v 25 (.ppt p) .nil)))) g)
   .refine ⟨⟨s.op,s.name,w.neg,ae w.n,ae w.d,0⟩,k1,y,rfl,rfl,.val sw (λh=>by rw [d1] at h;cases h),λnt g=> ?_⟩;exact n _ _ nt (λi=>by subst i;exact pN 58 [] 7 1 (.k 12 (aB d2) (.k 4 (aB d1) (.k 1 (aB d0) (.k 2 (aB e) (.k 7 (oN 0) (.c f (.c (aA f) .nil))))))) (.v 22 (.eq o) (.c j (.c d (.v 25 (.ppt p) .nil)))) g) (pN 58 [] 6 1 (.k 2 z (.c A (.k 9 (aB d2) (.k 4 (aB d1) (.k 1 (aB d0) (.k 2 (aB e) (.k 7 (oN ls.length) (.c f (.c (aA f) .nil))))))))) (.v 22 (.eq o) (.c j (.c d (.v 25 (.ppt p) .nil)))) g)
theorem akq (c:List Sg) (e d:Bool) (xs:List Int) (nn:Bool) (k:Nat) (ls:List Lk) (qs:List Sc) (x:Sc) (h:ls ≠ []):RG c e d xs nn (k,ls,qs++ [x])=⟨[(0,.sl (iQ c) c.length e),(2,.bool d),(6,.ptr 0 0 0),(7,.ptr 1 0 0),(8,.ptr 2 0 0),(9,ω ((ls.length+qs.length+1:Nat):Int))],[(0,⟨[.nilS,.nilS],0,false,0,0,true⟩),(1,⟨[.ref 3 0 0 ls.length,.ref 4 0 0 (qs.length+1)],0,false,0,0,false⟩),(2,dB xs nn k),(3,⟨dK ls,0,false,0,6,true⟩),(4,⟨κ (qs.length*4) (dL qs)++OB x,0,false,0,4,true⟩)],.dead,[]⟩:=by
 rw [Zw,Xo c e d xs nn k ls (qs++ [x]) h (by simp),η,τ,Xxu]
theorem abe (c:List Sg) (i h:Bool) (s:Sg) (hs:s.op=24) (xs:List Int) (nn:Bool) (k:Nat) (ls:List Lk) (qs:List Sc) (d:ls ≠ []) (u:List AV) (p:ε (δ ((ls.length+qs.length:Nat):Int)*5) (iQ c)=sgC s++u) (C:ls.length+qs.length<c.length) (t:c.length<20) (v:xs.length<2^63) (z:k<=xs.length):
  ∃ (x:Sq) (k':Nat),k'<=xs.length/\(x.nm=s.name/\x.l.length<=8/\(∀ b ∈ x.l,b.s28)/\Iq mF x.l=0)/\∀ nt,87<=nt->ψ nt f58 (RG c i h xs nn (k,ls,qs)) .normal (RG c i h xs nn (k',ls,qs++ [Sq.c x])):=by
 obtain ⟨bs,k1,m,B,y,w,o⟩:=Zy s xs nn k v z;refine ⟨⟨s.name,s.ty.m,s.ty.d,bs⟩,k1,m,⟨rfl,B,y,w⟩,λnt q=> ?_⟩;rw [akq _ _ _ _ _ _ _ _ _ d];generalize e:ls.length+qs.length=j at*
 have g:decide ((j:Int)<(c.length:Int))=true:=Yq0 (by omega);have f:(s.op==((24:Nat):Int))=true:=by rw [hs];rfl
 have n:ω (γ .i64 ((j:Int)+((1:Nat):Int)))=ω ((j+1:Nat):Int):=xE (by omega);have A:Φ (qs.length+1) 1099511627776=true:=Xqe (by omega);have r:Φ (qs.length*4) (ζ (dL qs))=true:=Xqe (by rw [Ap];exact χ _);by_cases hz:qs= []
 .subst hz;rw [aeL c i h xs nn k ls d];simp only [Xqf,Xq1] at e;subst e;exact pN 58 [] 3 3 (.k 10 (aA f) (.k 7 (oN ls.length) (.c g (.c (aA g) .nil)))) (.v 22 (.eq n) (.c o (.v 25 (.ppt p) .nil))) q
 .rw [Xo c i h xs nn k ls qs d hz,e];exact pN 58 [] 2 3 (.k 2 A (.c r (.k 7 (aA f) (.k 7 (oN j) (.c g (.c (aA g) .nil)))))) (.v 22 (.eq n) (.c o (.v 25 (.ppt p) .nil))) q
theorem Xq (j h:Bool) (xs:List Int) (nn:Bool) (B:xs.length<2^63) (e:List Sg) (i:e.length<20) (ls:List Lk) (f:ls ≠ []):∀ (r p:List Sg) (k:Nat) (qs:List Sc),e=p++r->(∀ s ∈ r,s.op=24)->p.length=ls.length+qs.length->k<=xs.length->(qs ≠ []\/r ≠ [])->
  ∃ (o:Nat) (d:List Sq),xP r d/\∀ nt,87<=nt->az prog ap [] nt (af 0 (ah f58)) (λ_=> .exit 0) (RG e j h xs nn) emO (k,ls,qs) (o,ls,qs++d.map Sq.c):=by
 intro r
 induction r with
 |nil=>
  intro p k qs hp n c t q;refine ⟨k,[],True.intro,λnt g=> ?_⟩;have D:qs ≠ []:=q.resolve_right (by simp);simp only [Xxw,Δ] at hp ⊢;subst hp;refine .done ?_;rw [Xo e j h xs nn k ls qs f D,<- c];have v:decide ((e.length:Int)<(e.length:Int))=false:=Yq1 (by omega);exact pN 58 [] 1 0 (.c (aB v) .nil) (.nil) g
 |cons s r ih=>
  intro p k qs hp n c t q;obtain ⟨x,k1,m,C,A⟩:=abe e j h s (n s (by simp)) xs nn k ls qs f (iQ r) (by rw [hp];exact OI c.symm) (by rw [hp,<- c];simp) i B t;obtain ⟨o,d,z,u⟩:=ih (p++ [s]) k1 (qs++ [Sq.c x]) (by rw [hp];simp) (λy w=>n y (by simp [w])) (by simp [c,Xxu]) m (.inl (by simp));refine ⟨o,x::d,⟨C,z⟩,λnt g=> .next (A nt g) ?_⟩;have:=u nt g;rw [υ] at this;exact this
theorem Xp (z j:Bool) (xs:List Int) (nn:Bool) (B:xs.length<2^63) (h:List Sg) (i:h.length<20) (f:List Sg) (o:∀ s ∈ f,s.op=24) (w:f ≠ []):∀ (r p:List Sg) (k:Nat) (ls:List Lk),h=p++(r++f)->(∀ s ∈ r,s.op ≠ 24)->p.length=ls.length->k<=xs.length->(ls ≠ []\/r ≠ [])->
  ∃ (g:Nat) (e:List Lk) (d:List Sq),zh j r e/\xP f d/\∀ nt,87<=nt->az prog ap [] nt (af 0 (ah f58)) (λ_=> .exit 0) (RG h z j xs nn) emO (k,ls,[]) (g,ls++e,d.map Sq.c):=by
 intro r
 induction r with
 |nil=>
  intro p k ls hp u c v A;obtain ⟨g,d,q,n⟩:=Xq z j xs nn B h i ls (A.resolve_right (by simp)) f p k [] hp o (by simpa using c) v (.inr w);refine ⟨g,[],d,True.intro,q,λnt m=> ?_⟩;have:=n nt m;rw [Xqi] at this;rw [Δ];exact this
 |cons s r ih=>
  intro p k ls hp u c v A;obtain ⟨x,k1,t,F,H,G,D⟩:=abd h z j s (u s (by simp)) xs nn k ls (iQ (r++f)) (by rw [hp];exact OI c.symm) (by rw [hp,<- c];simp) i B v;obtain ⟨g,e,d,q,n,C⟩:=ih (p++ [s]) k1 (ls++ [x]) (by rw [hp];simp) (λy E=>u y (by simp [E])) (by simp [c]) t (.inl (by simp));refine ⟨g,x::e,d,⟨⟨F,H,G⟩,q⟩,n,λnt m=> .next (D nt m) ?_⟩;have:=C nt m;rw [υ] at this;exact this
theorem ako (c:List Sg) (e d nn:Bool) (xs:List Int) (ls:List Lk) (qs:List Sc) (f:aK prog ap [] 87 (.block 0 (.loop (af 0 (ah f58)))) ⟨[(0,.sl (iQ c) c.length e),(1,.sl (iL xs) xs.length nn),(2,.bool d),(6,.ptr 0 0 0),(7,.ptr 1 0 0),(8,.ptr 2 0 0),(9,ω 0),(10,.dead),(11,.dead),(12,.dead),(13,.dead),(20,.dead),(29,.dead),(45,.dead),(57,.dead),(68,.dead)],[(0,⟨[.nilS,.nilS],0,false,0,0,true⟩),(1,⟨[.nilS,.nilS],0,false,0,0,true⟩),(2,⟨[.sl (iL xs) xs.length nn,ω 0],0,false,0,0,true⟩)],.dead,[]⟩ (.normal) ⟨[(6,.ptr 0 0 0),(7,.ptr 1 0 0)],[(0,⟨[.nilS,.nilS],0,false,0,0,true⟩),(1,⟨[.ref 2 0 0 ls.length,.ref 3 0 0 qs.length],0,false,0,0,false⟩),(2,⟨(dK ls),0,false,0,6,true⟩),(3,⟨(dL qs),0,false,0,4,true⟩)],.dead,[]⟩):CO 58 [.sl (iQ c) c.length e,.sl (iL xs) xs.length nn,.bool d] (.ret (.agg [.sl (κ (ls.length*6) (dK ls)) ls.length true,.sl (κ (qs.length*4) (dL qs)) qs.length true])):=pK [0] 0 0 (.n 5 .nil) (.l f .nil)
theorem zh.len {c:Bool}:∀ {r:List Sg} {l:List Lk},zh c r l->l.length=r.length
 | [],[],_=>rfl
 |s::r,x::l,h=>by simp [zh.len h.2]
theorem xP.len:∀ {r:List Sg} {l:List Sq},xP r l->l.length=r.length
 | [],[],_=>rfl
 |s::r,x::l,h=>by simp [xP.len h.2]
theorem zh.get {c:Bool}:∀ {r:List Sg} {l:List Lk},zh c r l->∀ x ∈ l,∃ s ∈ r,x.op=s.op/\x.nm=s.name/\ED c s.ty x
 | [],[],_,x,hx=>by cases hx
 | s::r,y::l,h,x,hx=>by
  rcases List.mem_cons.1 hx with rfl|hx
  .exact ⟨s,by simp,h.1⟩
  .obtain ⟨t,e,d⟩:=zh.get h.2 x hx;exact ⟨t,by simp [e],d⟩
theorem xP.get:∀ {r:List Sg} {l:List Sq},xP r l->∀ x ∈ l,(∃ s ∈ r,x.nm=s.name)/\x.l.length<=8/\(∀ b ∈ x.l,b.s28)/\Iq mF x.l=0
 | [],[],_,x,hx=>by cases hx
 | s::r,y::l,h,x,hx=>by
  rcases List.mem_cons.1 hx with rfl|hx
  .exact ⟨⟨s,by simp,h.1.1⟩,h.1.2⟩
  .obtain ⟨⟨t,e,c⟩,d⟩:=xP.get h.2 x hx;exact ⟨⟨t,by simp [e],c⟩,d⟩
def sgK:List Sg:=aT.take 10
def sgR:List Sg:=aT.drop 10
structure Wi (er:Bool) (E:fH):Prop where
 lk:zh er sgK E.ls
 sc:xP sgR E.qs
theorem Wi.sm {d:Bool} {E:fH} (h:Wi d E):E.sm where
 ls:=by rw [h.lk.len];decide
 qs:=by rw [h.sc.len];decide
 lk x hx:=by
  obtain ⟨s,_,_,_,g⟩:=h.lk.get x hx;exact g.sz
 sq s hs:=by
  obtain ⟨_,e,c,_⟩:=h.sc.get s hs;exact ⟨Xqj e (by decide),c⟩
abbrev tX (E:fH) (nl ns:Bool):AV:= .agg [.sl (dK E.ls) E.ls.length nl,.sl (dL (E.qs.map Sq.c)) (E.qs.map Sq.c).length ns]
theorem agr (d c nn:Bool) (xs:List Int) (e:xs.length<2^63):∃ E:fH,Wi c E/\CO 58 [.sl (iQ aT) 12 d,.sl (iL xs) xs.length nn,.bool c] (.ret (tX E true true)):=by
 obtain ⟨j,ls,qs,i,f,g⟩:=Xp d c xs nn e aT (by decide) sgR (by decide) (by decide) sgK [] 0 [] rfl (by decide) rfl (by omega) (.inr (by decide));refine ⟨⟨ls,qs⟩,⟨i,f⟩, ?_⟩;have h:=ako aT d c nn xs ls (qs.map Sq.c) (az.blk g (by simp) rfl (aN.of ⟨rfl,rfl,rfl,rfl,rfl,rfl,trivial⟩) (aN.refl _));rw [ο (by rw [Ae];exact χ _),ο (by rw [Ap];exact χ _)] at h;exact h
theorem anT (n:Bool) (a d:List UInt8) (e:Int) (c:lit true (!(e==((0:Nat):Int)))=true) (f:CO 47 [ω e] (Vb5 e)):CO 49 [.agg [.bool n,.str a,.str d,ω e]] (Vb5 e):=pK [] 1 1 (.k 6 c (.n 1 .nil)) (.c f .nil)
theorem anU (n:Bool) (a d:List UInt8) (e:Int) (c:Bool) (f:lit true (!c)=true) (h:lit false (!(e==((0:Nat):Int)))=true) (g:CO 81 [Ω n a d] (.ret (.bool c))) (i:CO 47 [ω 3] VbU):CO 49 [.agg [.bool n,.str a,.str d,ω e]] VbU:=pK [] 2 2 (.k 5 f (.k 3 h (.n 1 .nil))) (.c i (.c g .nil))
theorem anV (n:Bool) (a d:List UInt8) (e:Int) (c:Bool) (f:lit false (!c)=true) (h:lit false (!(e==((0:Nat):Int)))=true) (g:CO 81 [Ω n a d] (.ret (.bool c))):CO 49 [.agg [.bool n,.str a,.str d,ω e]] (.ret (.agg [.bool n,.str a,.str d,ω e])):=pK [] 2 0 (.k 9 f (.k 3 h (.n 1 .nil))) (.c g .nil)
abbrev Va1 (a:Oq):kW:= .ret (.agg [.bool a.n,.str a.a,.str a.d,ω a.e])
theorem anz (n:Bool) (a d:List UInt8) (o:Oq) (c:CO 49 [.agg [.bool n,.str a,.str d,ω 0]] (Va1 o)):CO 51 [Ω n a d] (Va1 o):=pK [] 0 0 (.n 8 .nil) (.c c .nil)
theorem an5 (b:Bool) (o:Oq) (c:lit true b=true) (d:Vay) (e:CO 51 [Ω false (ae 1) (ae 1)] (Va1 o)):CO 90 [.bool b] (Va1 o):=pK [] 1 1 (.k 5 c .nil) (.c e (.c d .nil))
theorem an6 (b:Bool) (o:Oq) (c:lit false b=true) (d:CO 48 [ω 0] Vbo) (e:CO 51 [Ω false (ae 0) (ae 1)] (Va1 o)):CO 90 [.bool b] (Va1 o):=pK [] 1 0 (.k 5 c .nil) (.c e (.c d .nil))
theorem am_ (n:Bool) (a d:List UInt8) (c:lit true ((n==false) && ((a==(ae 0)) && ((d==(ae 1)) && true)))=true) (e:CO 48 [ω 0] Vbo):CO 86 [Ω n a d] VaC:=pK [] 1 1 (.c c (.n 3 .nil)) (.c e .nil)
theorem ana (n:Bool) (a d:List UInt8) (c:lit false ((n==false) && ((a==(ae 0)) && ((d==(ae 1)) && true)))=true) (e:CO 48 [ω 0] Vbo) (f:Vay):CO 86 [Ω n a d] (.ret (.bool ((n==false) && ((a==(ae 1)) && ((d==(ae 1)) && true))))):=pK [] 1 0 (.k 3 c (.n 3 .nil)) (.c f (.c e .nil))
abbrev Vad:bu:=⟨[.bool false,.str [],.str [],ω 0],0,false,0,0,true⟩
abbrev VaA (a:List Lk) (b:Bool) (c:List Sc) (d:Bool):bu:=⟨(Va2 a b c d),0,false,0,0,true⟩
abbrev Vb9 (a:Int) (b:List UInt8) (c:Nat) (d:List Lk) (e:Bool) (f:List Sc) (g:Bool):St:=⟨[(1,ω a),(2,.str b),(3,.ptr 0 0 0),(6,.ptr 1 0 0),(7,ω (c:Int))],[(0,(VaA d e f g)),(1,Vad)],.dead,[]⟩
abbrev Vbe (a:Oq):St:=⟨[(6,.ptr 0 0 0)],[(0,⟨(Vae a),0,false,0,0,true⟩)],.dead,[]⟩
theorem alk (nm:List UInt8) (g:Int) (k:Nat) (o:Oq) (lk:Lk) (ls:List Lk) (f:List Sc) (p q:Bool) (i:List AV) {nt:Nat} (r:41<=nt) (c:(ε ((δ (k:Int))*6) (dK ls))=U3 lk++i) (d:Va4 k) (e:(VaU k ls)=true) (h:lit true (lk.nm==nm)=true) (j:lit true (lk.op==g)=true) (m:lit true (VaU k ls)=true) (n:CO 49 [.agg [.bool lk.n,.str lk.a,.str lk.d,ω lk.e]] (Va1 o)):ψ nt f52 (Vb9 g nm k ls p f q) (.ret) (Vbe o):=pN 52 [] 3 7 (.k 5 d (.c e (.k 1 h (.k 1 d (.c e (.k 1 j (.k 1 d (.c e (.k 1 m (.n 1 .nil)))))))))) (.c n (.v 36 (.ppt c) (.v 27 (.ppt c) (.v 18 (.ppt c) .nil)))) r
theorem alm (nm:List UInt8) (e:Int) (k:Nat) (lk:Lk) (ls:List Lk) (d:List Sc) (i g:Bool) (j:List AV) {nt:Nat} (p:41<=nt) (c:(ε ((δ (k:Int))*6) (dK ls))=U3 lk++j) (m:Va7 k) (n:lit false (lk.nm==nm)=true) (h:Va4 k) (f:(VaU k ls)=true) (o:lit true (lk.op==e)=true) (q:lit true (VaU k ls)=true):ψ nt f52 (Vb9 e nm k ls i d g) (.normal) ⟨[(1,ω e),(2,.str nm),(3,.ptr 0 0 0),(6,.ptr 1 0 0),(7,ω ((k+1:Nat):Int))],[(0,(VaA ls i d g)),(1,Vad)],.dead,[]⟩:=pN 52 [] 3 3 (.c n (.k 1 h (.c f (.k 1 o (.k 1 h (.c f (.k 1 q (.n 1 .nil)))))))) (.v 14 (.eq m) (.v 27 (.ppt c) (.v 18 (.ppt c) .nil))) p
theorem aln (nm:List UInt8) (e:Int) (k:Nat) (lk:Lk) (ls:List Lk) (c:List Sc) (g f:Bool) (i:List AV) {nt:Nat} (o:41<=nt) (d:(ε ((δ (k:Int))*6) (dK ls))=U3 lk++i) (j:Va7 k) (m:lit false (lk.op==e)=true) (p:Va4 k) (h:(VaU k ls)=true) (n:lit true (VaU k ls)=true):ψ nt f52 (Vb9 e nm k ls g c f) (.normal) ⟨[(1,ω e),(2,.str nm),(3,.ptr 0 0 0),(6,.ptr 1 0 0),(7,ω ((k+1:Nat):Int))],[(0,(VaA ls g c f)),(1,Vad)],.dead,[]⟩:=pN 52 [] 3 1 (.k 1 m (.k 1 p (.c h (.k 1 n (.n 1 .nil))))) (.v 14 (.eq j) (.v 18 (.ppt d) .nil)) o
theorem alo (nm:List UInt8) (h:Int) (k:Nat) (ls:List Lk) (c:List Sc) (g e:Bool) {nt:Nat} (f:41<=nt) (d:lit false (VaU k ls)=true):ψ nt f52 (Vb9 h nm k ls g c e) (.exit 0) ⟨[(6,.ptr 0 0 0)],[(0,Vad)],.dead,[]⟩:=pN 52 [] 1 0 (.c d (.n 1 .nil)) (.nil) f
theorem ali (nm:List UInt8) (f:Int) (ls:List Lk) (c:List Sc) (e d:Bool) (h:aK prog ap [] 41 (.block 0 (.loop (af 0 (ah f52)))) ⟨[(0,.agg (Va2 ls e c d)),(1,ω f),(2,.str nm),(3,.ptr 0 0 0),(6,.ptr 1 0 0),(7,ω 0),(12,.dead),(32,.dead)],[(0,(VaA ls e c d)),(1,Vad)],.dead,[]⟩ (.normal) ⟨[(6,.ptr 0 0 0)],[(0,Vad)],.dead,[]⟩) (g:CO 47 [ω 12] VaH):CO 52 [.agg (Va2 ls e c d),ω f,.str nm] VaH:=pK [0] 0 0 (.n 5 .nil) (.c g (.l h .nil))
theorem alj (nm:List UInt8) (f:Int) (o:Oq) (ls:List Lk) (c:List Sc) (e d:Bool) (g:aK prog ap [] 41 (.block 0 (.loop (af 0 (ah f52)))) ⟨[(0,.agg (Va2 ls e c d)),(1,ω f),(2,.str nm),(3,.ptr 0 0 0),(6,.ptr 1 0 0),(7,ω 0),(12,.dead),(32,.dead)],[(0,(VaA ls e c d)),(1,Vad)],.dead,[]⟩ (.ret) (Vbe o)):CO 52 [.agg (Va2 ls e c d),ω f,.str nm] (Va1 o):=pK [0] 0 0 (.n 4 .nil) (.l g .nil)
abbrev Vba (a:List UInt8) (b:Nat) (c:List Lk) (d:Bool) (e:List Sc) (f:Bool) (g:RQ):St:=⟨[(1,.str a),(3,.ptr 0 0 0),(5,.ptr 1 0 0),(6,.ptr 2 0 0),(7,ω (b:Int))],[(0,(VaA c d e f)),(1,⟨(Va0 g),0,false,0,0,true⟩),(2,Vad)],.dead,[]⟩
theorem anZ (nm:List UInt8) (k:Nat) (x:RQ) (o:Oq) (c:Sc) (ls:List Lk) (d:List Sc) (q j:Bool) (p:List AV) {nt:Nat} (m:39<=nt) (e:(ε ((δ (k:Int))*4) (dL d))=OB c++p) (f:Va4 k) (g:(Vbc k d)=true) (h:lit true (c.name==nm)=true) (i:lit true (Vbc k d)=true) (n:CO 144 [.agg [.str c.name,ω c.u1,ω c.u2,.sl c.bx c.bn false],.agg (Va0 x)] (.ret (.tup [.agg (Vah o),ω o.e]))):ψ nt f94 (Vba nm k ls q d j x) (.ret) (Vbe o):=pN 94 [] 2 3 (.k 12 f (.c g (.k 1 h (.k 1 f (.c g (.k 1 i (.n 1 .nil))))))) (.c n (.v 29 (.ppt e) (.v 20 (.ppt e) .nil))) m
theorem an0 (nm:List UInt8) (k:Nat) (x:RQ) (e:Sc) (ls:List Lk) (c:List Sc) (g f:Bool) (p:List AV) {nt:Nat} (n:39<=nt) (d:(ε ((δ (k:Int))*4) (dL c))=OB e++p) (i:Va7 k) (j:lit false (e.name==nm)=true) (o:Va4 k) (h:(Vbc k c)=true) (m:lit true (Vbc k c)=true):ψ nt f94 (Vba nm k ls g c f x) (.normal) ⟨[(1,.str nm),(3,.ptr 0 0 0),(5,.ptr 1 0 0),(6,.ptr 2 0 0),(7,ω ((k+1:Nat):Int))],[(0,(VaA ls g c f)),(1,⟨(Va0 x),0,false,0,0,true⟩),(2,Vad)],.dead,[]⟩:=pN 94 [] 2 1 (.c j (.k 1 o (.c h (.k 1 m (.n 1 .nil))))) (.v 16 (.eq i) (.v 20 (.ppt d) .nil)) n
theorem an1 (nm:List UInt8) (k:Nat) (x:RQ) (ls:List Lk) (c:List Sc) (g e:Bool) {nt:Nat} (f:39<=nt) (d:lit false (Vbc k c)=true):ψ nt f94 (Vba nm k ls g c e x) (.exit 0) ⟨[(6,.ptr 0 0 0)],[(0,Vad)],.dead,[]⟩:=pN 94 [] 1 0 (.c d (.n 1 .nil)) (.nil) f
abbrev Vbr (a:List Lk) (b:Bool) (c:List Sc) (d:Bool) (e:List UInt8) (f:RQ):St:=⟨[(0,.agg (Va2 a b c d)),(1,.str e),(2,.agg (Va0 f)),(3,.ptr 0 0 0),(5,.ptr 1 0 0),(6,.ptr 2 0 0),(7,ω 0),(8,.dead),(9,.dead),(14,.dead),(24,.dead)],[(0,(VaA a b c d)),(1,⟨(Va0 f),0,false,0,0,true⟩),(2,Vad)],.dead,[]⟩
theorem anW (nm:List UInt8) (x:RQ) (ls:List Lk) (c:List Sc) (e d:Bool) (g:aK prog ap [] 39 (.block 0 (.loop (af 0 (ah f94)))) (Vbr ls e c d nm x) (.normal) ⟨[(6,.ptr 0 0 0)],[(0,Vad)],.dead,[]⟩) (f:CO 47 [ω 12] VaH):CO 94 [.agg (Va2 ls e c d),.str nm,.agg (Va0 x)] VaH:=pK [0] 0 0 (.n 5 .nil) (.c f (.l g .nil))
theorem anX (nm:List UInt8) (x:RQ) (o:Oq) (ls:List Lk) (c:List Sc) (e d:Bool) (f:aK prog ap [] 39 (.block 0 (.loop (af 0 (ah f94)))) (Vbr ls e c d nm x) (.ret) (Vbe o)):CO 94 [.agg (Va2 ls e c d),.str nm,.agg (Va0 x)] (Va1 o):=pK [0] 0 0 (.n 4 .nil) (.l f .nil)
theorem anb (c e d:Oq) (nn:Bool) (f:lit true (!(c.e==((0:Nat):Int)))=true):CO 53 [.sl (Vaa c e d) 3 nn] (Va1 c):=pK [] 1 1 (.k 11 f (.n 3 .nil)) (.nil)
theorem anc (b:Bool) (c e d:Oq) (nn:Bool) (f:lit true (!b)=true) (h:lit false (!(c.e==((0:Nat):Int)))=true) (g:CO 86 [.agg (Vah c)] (.ret (.bool b))) (i:CO 47 [ω 13] Vab):CO 53 [.sl (Vaa c e d) 3 nn] Vab:=pK [] 2 2 (.k 5 f (.k 5 h (.n 3 .nil))) (.c i (.c g .nil))
theorem ane (b:Bool) (c d e:Oq) (nn:Bool) (g:lit true ((c.n==false) && ((c.a==(ae 1)) && ((c.d==(ae 1)) && true)))=true) (i:lit false (!b)=true) (f:lit false (!(c.e==((0:Nat):Int)))=true) (h:CO 86 [.agg (Vah c)] (.ret (.bool b))) (j:Vay):CO 53 [.sl (Vaa c d e) 3 nn] (Va1 d):=pK [] 3 4 (.k 11 g (.k 5 i (.k 5 f (.n 3 .nil)))) (.c j (.c h .nil))
theorem anf (b:Bool) (c e d:Oq) (nn:Bool) (g:lit false ((c.n==false) && ((c.a==(ae 1)) && ((c.d==(ae 1)) && true)))=true) (i:lit false (!b)=true) (f:lit false (!(c.e==((0:Nat):Int)))=true) (h:CO 86 [.agg (Vah c)] (.ret (.bool b))) (j:Vay):CO 53 [.sl (Vaa c e d) 3 nn] (Va1 d):=pK [] 3 0 (.k 11 g (.k 5 i (.k 5 f (.n 3 .nil)))) (.c j (.c h .nil))
abbrev Vb0 (a:RQ) (b:RQ) (c:Int):Prop:=CO 87 (Vag a b) (Vaz c)
theorem aiH (c:Int) (x y r:RQ) (o:Oq) (e:Vb0 x y c) (f:CO 62 (Vag x y) (Va6 r)) (d:CO 51 (VaO r) (Va1 o)):CO 54 [ω 9,.agg (Va0 x),.agg (Va0 y)] (Va1 o):=pK [] 1 1 (.n 18 .nil) (.c d (.c f (.c e .nil)))
theorem adB (c:Int) (x y r:RQ) (o:Oq) (e:Vb0 x y c) (f:CO 88 (Vag x y) (Va6 r)) (d:CO 51 (VaO r) (Va1 o)):CO 54 [ω 10,.agg (Va0 x),.agg (Va0 y)] (Va1 o):=pK [] 2 2 (.n 19 .nil) (.c d (.c f (.c e .nil)))
theorem adC (c:Int) (x y r:RQ) (o:Oq) (e:Vb0 x y c) (f:CO 89 (Vag x y) (Va6 r)) (d:CO 51 (VaO r) (Va1 o)):CO 54 [ω 11,.agg (Va0 x),.agg (Va0 y)] (Va1 o):=pK [] 3 4 (.n 20 .nil) (.c d (.c f (.c e .nil)))
theorem adD (c:Int) (b:Bool) (x y r:RQ) (d:lit true (!b)=true) (f:Vb0 x y c) (g:CO 60 (Vag x y) (.ret (.tup [.agg (Va0 r),.bool b]))) (e:CO 47 [ω 16] VbS):CO 54 [ω 12,.agg (Va0 x),.agg (Va0 y)] VbS:=pK [] 5 24 (.k 5 d (.n 17 .nil)) (.c e (.c g (.c f .nil)))
theorem adE (c:Int) (b:Bool) (x y r:RQ) (o:Oq) (d:lit false (!b)=true) (f:Vb0 x y c) (g:CO 60 (Vag x y) (.ret (.tup [.agg (Va0 r),.bool b]))) (e:CO 51 (VaO r) (Va1 o)):CO 54 [ω 12,.agg (Va0 x),.agg (Va0 y)] (Va1 o):=pK [] 5 8 (.k 8 d (.n 17 .nil)) (.c e (.c g (.c f .nil)))
theorem adF (c:Int) (x y:RQ) (o:Oq) (d:lit true (decide (((0:Nat):Int)<c))=true) (e:Vb0 x y c) (f:CO 51 (VaO y) (Va1 o)):CO 54 [ω 13,.agg (Va0 x),.agg (Va0 y)] (Va1 o):=pK [] 6 48 (.k 8 d (.n 11 .nil)) (.c f (.c e .nil))
theorem adG (c:Int) (x y:RQ) (o:Oq) (d:lit false (decide (((0:Nat):Int)<c))=true) (e:Vb0 x y c) (f:CO 51 (VaO x) (Va1 o)):CO 54 [ω 13,.agg (Va0 x),.agg (Va0 y)] (Va1 o):=pK [] 6 16 (.k 8 d (.n 11 .nil)) (.c f (.c e .nil))
theorem adH (c:Int) (x y:RQ) (o:Oq) (d:lit true (VaX c)=true) (e:Vb0 x y c) (f:CO 51 (VaO y) (Va1 o)):CO 54 [ω 14,.agg (Va0 x),.agg (Va0 y)] (Va1 o):=pK [] 7 96 (.k 8 d (.n 12 .nil)) (.c f (.c e .nil))
theorem adI (c:Int) (x y:RQ) (o:Oq) (d:lit false (VaX c)=true) (e:Vb0 x y c) (f:CO 51 (VaO x) (Va1 o)):CO 54 [ω 14,.agg (Va0 x),.agg (Va0 y)] (Va1 o):=pK [] 7 32 (.k 8 d (.n 12 .nil)) (.c f (.c e .nil))
theorem adJ (c:Int) (x y:RQ) (o:Oq) (d:Vb0 x y c) (e:CO 90 [.bool (VaX c)] (Va1 o)):CO 54 [ω 16,.agg (Va0 x),.agg (Va0 y)] (Va1 o):=pK [] 7 64 (.n 18 .nil) (.c e (.c d .nil))
theorem adK (c:Int) (x y:RQ) (o:Oq) (d:Vb0 x y c) (e:CO 90 [.bool (c==((0:Nat):Int))] (Va1 o)):CO 54 [ω 17,.agg (Va0 x),.agg (Va0 y)] (Va1 o):=pK [] 8 128 (.n 19 .nil) (.c e (.c d .nil))
abbrev Vau (a:RQ) (b:Bool):Prop:=CO 86 [.agg (Va0 a)] (.ret (.bool b))
theorem adM (c:Int) (x y:RQ) (d:Bool) (e:lit true (!d)=true) (g:Vb0 x y c) (h:Vau x d) (f:CO 47 [ω 13] Vab):CO 54 [ω 18,.agg (Va0 x),.agg (Va0 y)] Vab:=pK [] 10 768 (.k 6 e (.n 17 .nil)) (.c f (.c h (.c g .nil)))
theorem adN (c:Int) (x y:RQ) (d e:Bool) (f:lit true (!e)=true) (j:lit false (!d)=true) (i:Vb0 x y c) (k:Vau x d) (g:Vau y e) (h:CO 47 [ω 13] Vab):CO 54 [ω 18,.agg (Va0 x),.agg (Va0 y)] Vab:=pK [] 10 512 (.k 5 f (.k 3 j (.n 17 .nil))) (.c h (.c g (.c k (.c i .nil))))
theorem adO (c:Int) (x y:RQ) (o:Oq) (d e:Bool) (g:lit true ((x.neg==false) && (((ae x.n)==(ae 1)) && (((ae x.d)==(ae 1)) && true)))=true) (m:lit false (!e)=true) (f:lit false (!d)=true) (k:Vb0 x y c) (n:Vau x d) (h:Vau y e) (j:Vay) (i:CO 90 [.bool ((y.neg==false) && (((ae y.n)==(ae 1)) && (((ae y.d)==(ae 1)) && true)))] (Va1 o)):CO 54 [ω 18,.agg (Va0 x),.agg (Va0 y)] (Va1 o):=pK [] 12 3072 (.k 11 g (.k 8 m (.k 3 f (.n 17 .nil)))) (.c i (.c j (.c h (.c n (.c k .nil)))))
theorem adP (c:Int) (x y:RQ) (o:Oq) (d e:Bool) (g:lit false ((x.neg==false) && (((ae x.n)==(ae 1)) && (((ae x.d)==(ae 1)) && true)))=true) (m:lit false (!e)=true) (f:lit false (!d)=true) (k:Vb0 x y c) (n:Vau x d) (h:Vau y e) (j:Vay) (i:CO 90 [.bool false] (Va1 o)):CO 54 [ω 18,.agg (Va0 x),.agg (Va0 y)] (Va1 o):=pK [] 12 1024 (.k 5 g (.k 8 m (.k 3 f (.n 17 .nil)))) (.c i (.c j (.c h (.c n (.c k .nil)))))
theorem adQ (c:Int) (x y:RQ) (d:Bool) (e:lit true (!d)=true) (g:Vb0 x y c) (h:Vau x d) (f:CO 47 [ω 13] Vab):CO 54 [ω 19,.agg (Va0 x),.agg (Va0 y)] Vab:=pK [] 10 768 (.k 6 e (.n 17 .nil)) (.c f (.c h (.c g .nil)))
theorem adR (c:Int) (x y:RQ) (d e:Bool) (f:lit true (!e)=true) (j:lit false (!d)=true) (i:Vb0 x y c) (k:Vau x d) (g:Vau y e) (h:CO 47 [ω 13] Vab):CO 54 [ω 19,.agg (Va0 x),.agg (Va0 y)] Vab:=pK [] 10 512 (.k 5 f (.k 3 j (.n 17 .nil))) (.c h (.c g (.c k (.c i .nil))))
theorem adS (c:Int) (x y:RQ) (o:Oq) (d e:Bool) (g:lit true ((x.neg==false) && (((ae x.n)==(ae 1)) && (((ae x.d)==(ae 1)) && true)))=true) (m:lit false (!e)=true) (f:lit false (!d)=true) (k:Vb0 x y c) (n:Vau x d) (h:Vau y e) (j:Vay) (i:CO 90 [.bool true] (Va1 o)):CO 54 [ω 19,.agg (Va0 x),.agg (Va0 y)] (Va1 o):=pK [] 12 2048 (.k 5 g (.k 8 m (.k 3 f (.n 17 .nil)))) (.c i (.c j (.c h (.c n (.c k .nil)))))
theorem adT (c:Int) (x y:RQ) (o:Oq) (d e:Bool) (g:lit false ((x.neg==false) && (((ae x.n)==(ae 1)) && (((ae x.d)==(ae 1)) && true)))=true) (m:lit false (!e)=true) (f:lit false (!d)=true) (k:Vb0 x y c) (n:Vau x d) (h:Vau y e) (j:Vay) (i:CO 90 [.bool ((y.neg==false) && (((ae y.n)==(ae 1)) && (((ae y.d)==(ae 1)) && true)))] (Va1 o)):CO 54 [ω 19,.agg (Va0 x),.agg (Va0 y)] (Va1 o):=pK [] 12 0 (.k 11 g (.k 8 m (.k 3 f (.n 17 .nil)))) (.c i (.c j (.c h (.c n (.c k .nil)))))
theorem adm (c e g:List UInt8) (j:Bool) (b:Bool) (x:RQ) (ls:List Lk) (d:List Sc) (k h:Bool) (f:lit true (!b)=true) (i:Vau x b) (m:CO 47 [ω 13] Vab):CO 55 [.agg [ω 20,.bool j,.str e,.str g,.str c],.agg (Va0 x),.agg (Va2 ls k d h)] Vab:=pK [] 2 3 (.k 5 f (.n 5 .nil)) (.c m (.c i .nil))
theorem adn (c e h:List UInt8) (k:Bool) (b:Bool) (x:RQ) (o:Oq) (ls:List Lk) (d:List Sc) (m i:Bool) (f:lit false (!b)=true) (j:Vau x b) (n:CO 48 [ω 0] Vbo) (g:CO 90 [.bool ((x.neg==false) && (((ae x.n)==(ae 0)) && (((ae x.d)==(ae 1)) && true)))] (Va1 o)):CO 55 [.agg [ω 20,.bool k,.str e,.str h,.str c],.agg (Va0 x),.agg (Va2 ls m d i)] (Va1 o):=pK [] 2 1 (.k 8 f (.n 5 .nil)) (.c g (.c n (.c j .nil)))
theorem ado (c:List UInt8) (x p r:RQ) (o:Oq) (ls:List Lk) (d:List Sc) (e f:Bool) (g:CO 91 (Vag x p) (Vaf r)) (h:CO 51 (VaO r) (Va1 o)):CO 55 [.agg [ω 21,.bool p.neg,.str (ae p.n),.str (ae p.d),.str c],.agg (Va0 x),.agg (Va2 ls e d f)] (Va1 o):=pK [] 2 2 (.n 18 .nil) (.c h (.c g .nil))
theorem adp (c:List UInt8) (x p r:RQ) (o:Oq) (ls:List Lk) (d:List Sc) (e f:Bool) (g:CO 92 (Vag x p) (Vaf r)) (h:CO 51 (VaO r) (Va1 o)):CO 55 [.agg [ω 22,.bool p.neg,.str (ae p.n),.str (ae p.d),.str c],.agg (Va0 x),.agg (Va2 ls e d f)] (Va1 o):=pK [] 3 4 (.n 19 .nil) (.c h (.c g .nil))
theorem adq (c:List UInt8) (x p r:RQ) (o:Oq) (ls:List Lk) (d:List Sc) (e f:Bool) (g:CO 93 (Vag x p) (Vaf r)) (h:CO 51 (VaO r) (Va1 o)):CO 55 [.agg [ω 23,.bool p.neg,.str (ae p.n),.str (ae p.d),.str c],.agg (Va0 x),.agg (Va2 ls e d f)] (Va1 o):=pK [] 4 8 (.n 20 .nil) (.c h (.c g .nil))
theorem adr (c g h:List UInt8) (j:Bool) (x:RQ) (o:Oq) (ls:List Lk) (d:List Sc) (f e:Bool) (i:CO 94 [.agg (Va2 ls f d e),.str c,.agg (Va0 x)] (Va1 o)):CO 55 [.agg [ω 24,.bool j,.str g,.str h,.str c],.agg (Va0 x),.agg (Va2 ls f d e)] (Va1 o):=pK [] 4 0 (.n 16 .nil) (.c i .nil)
theorem yO (n:Bool) (a d:List UInt8) (e:Int) (h:e=0->a.length<2^33/\d.length<2^33):CO 49 [.agg [.bool n,.str a,.str d,ω e]] (.ret (fD (xK n a d e))):=by
 unfold xK;by_cases h0:e=0
 .rw [if_pos h0];have c:=mM n a d (h h0).1 (h h0).2;have g:lit false (!(e==((0:Nat):Int)))=true:=by rw [h0];rfl
  cases f:d_ n a d with
  |true=>
   rw [f] at c;rw [if_pos rfl];have:=anV n a d e true rfl g c;obtain ⟨j,i⟩:=iw (nK f).1;show CO 49 _ (.ret (.agg [.bool n,.str (ae (ag a)),.str (ae (ag d)),ω 0]));rw [j,i,<- h0];exact this
  |false=>
   rw [f] at c;rw [if_neg (by simp)];exact anU n a d e false rfl g c (jP 3)
 .rw [if_neg h0];exact anT n a d e (by rw [show (e==((0:Nat):Int))=false from beq_eq_false_iff_ne.2 h0];rfl) (jP e)
theorem Zb (n:Bool) (a d:List UInt8) (h:a.length<2^33/\d.length<2^33):CO 51 [Ω n a d] (.ret (fD (xK n a d 0))):=anz n a d _ (yO n a d 0 (λ_=>h))
theorem Ox {q:RQ} {L:Nat} (h:q.ok) (s:iM L q) (c:L<2^28):CO 51 [qA q] (.ret (fD (mV q))):=by
 rw [<- wE h];have d:=s.1;have e:=s.2;exact Zb _ _ _ ⟨by omega,by omega⟩
theorem VA {q:RQ} (h:q.ok) (c:iP q=true):CO 51 [qA q] (.ret (fD (.val q))):=by
 have:=Ox h (iM.mono (L:=51) (a_ c) (χ _)) (by decide);unfold mV at this;rw [if_pos c] at this;exact this
theorem mP (b:Bool):CO 90 [.bool b] (.ret (fD (Hq b))):=by
 cases b with
 |true=>exact an5 true _ rfl Ai (VA (oI true).1 (oI true).2)
 |false=>exact an6 false _ rfl vZ (VA (oI false).1 (oI false).2)
theorem xm (o:Oq):CO 86 [.agg [.bool o.n,.str o.a,.str o.d]] (.ret (.bool o.bit)):=by
 cases h:((o.n==false) && ((o.a==(ae 0)) && ((o.d==(ae 1)) && true))) with
 |true=>
  have:o.bit=true:=by unfold Oq.bit;rw [h,Bool.or_true]
  rw [this];exact am_ o.n o.a o.d (by rw [h];rfl) vZ
 |false=>
  have:o.bit=((o.n==false) && ((o.a==(ae 1)) && ((o.d==(ae 1)) && true))):=by unfold Oq.bit;rw [h,Bool.or_false];rfl
  rw [this];exact ana o.n o.a o.d (by rw [h];rfl) vZ Ai
theorem WF {o:Oq} (h:o.bit=true):((o.n==false) && ((o.a==(ae 0)) && ((o.d==(ae 1)) && true)))= !o.one:=by
 unfold Oq.bit at h;cases c:o.one with
 |false=>rw [c,Bool.false_or] at h;exact h
 | true=>
  have d:o.a=ae 1:=by
   unfold Oq.one at c;simp only [φ,beq_iff_eq] at c;exact c.2.1
  rw [d,show (ae 1==ae 0)=false by kernel_rfl];cases o.n<;>rfl
theorem abn {x y:RQ} (m:x.ok) (d:y.ok):(iO x y==((0:Nat):Int))=eqO (.val x) (.val y):=by
 by_cases h:x=y
 .rw [h,(jr d d).2.1.2 rfl];simp [eqO]
 .have j:(iO x y==((0:Nat):Int))=false:=beq_eq_false_iff_ne.2 λq=>h ((jr m d).2.1.1 q)
  rw [j];symm;cases f:eqO (.val x) (.val y) with
  |false=>rfl
  |true=>
   refine absurd ?_ h;simp only [eqO,Oq.n,Oq.a,Oq.d,φ,beq_iff_eq,and_true] at f;obtain ⟨k,g,i⟩:=f;have e:=congrArg ag g;have c:=congrArg ag i;rw [aG,aG] at e c;clear g i h j;cases x;cases y;simp only at k e c;subst k e c;rfl
theorem Zh {d:Int} (t:(9<=d/\d<=14)\/(16<=d/\d<=19)) {x y:RQ} (e:x.ok) (f:y.ok) (o:iP x=true) (n:iP y=true):CO 54 [ω d,qA x,qA y] (.ret (fD (N9 d (.val x) (.val y)))):=by
 have i:iM 51 x:=a_ o;have g:iM 51 y:=a_ n;have c:=ae4 e f i g (by decide);have p:d=9\/d=10\/d=11\/d=12\/d=13\/d=14\/d=16\/d=17\/d=18\/d=19:=by omega
 rcases p with rfl|rfl|rfl|rfl|rfl|rfl|rfl|rfl|rfl|rfl
 .exact aiH _ x y _ _ c (YZ e f i g (by decide)) (Ox (eX e f) (yU i g) (by decide))
 .exact adB _ x y _ _ c (Ob e f i g (by decide)) (Ox (iF e f) (yV i g) (by decide))
 .exact adC _ x y _ _ c (Y2 e f i g (by decide)) (Ox (jb e f) (Cj i g) (by decide))
 .show CO 54 _ (.ret (fD (if y.n=0 then .err 16 else mV (fM x y))));by_cases h:y.n=0
  .rw [if_pos h];exact adD _ false x y ⟨false,0,0⟩ rfl c (by
    show CO 60 _ (.ret (.tup [Ω false (ae 0) (ae 0),.bool false]));rw [dC];exact amN (a:=x) f i g (by decide) h) (jP 16)
  .rw [if_neg h];exact adE _ true x y _ _ rfl c (Y4 e f i g (by decide) (by omega)) (Ox (qL e (by omega)) (Cm i g) (by decide))
 .show CO 54 _ (.ret (fD (if 0<iO x y then .val y else .val x)));by_cases h:0<iO x y
  .rw [if_pos h];exact adF _ x y _ (aA (Yq0 h)) c (VA f n)
  .rw [if_neg h];exact adG _ x y _ (aB (Yq1 h)) c (VA e o)
 .show CO 54 _ (.ret (fD (if iO x y<0 then .val y else .val x)));by_cases h:iO x y<0
  .rw [if_pos h];exact adH _ x y _ (aA (Yq0 h)) c (VA f n)
  .rw [if_neg h];exact adI _ x y _ (aB (Yq1 h)) c (VA e o)
 .exact adJ _ x y _ c (mP _)
 .exact adK _ x y _ c (by rw [abn e f];exact mP _)
 .have j:=xm (.val x);have k:=xm (.val y);show CO 54 _ (.ret (fD (if Oq.bit (.val x) && Oq.bit (.val y) then Hq (Oq.one (.val x) && Oq.one (.val y)) else .err 13)));generalize r:Oq.bit (.val x)=x2 at*
  generalize q:Oq.bit (.val y)=x4 at*
  cases x2 with
  |false=>exact adM _ x y false rfl c j (jP 13)
  | true=>
   cases x4 with
   |false=>exact adN _ x y true false rfl rfl c j k (jP 13)
   |true=>
    cases m:Oq.one (.val x) with
    |true=>exact adO _ x y _ true true (by rw [show ((x.neg==false) && (((ae x.n)==(ae 1)) && (((ae x.d)==(ae 1)) && true)))=true from m];rfl) rfl rfl c j k Ai (mP _)
    |false=>exact adP _ x y _ true true (by rw [show ((x.neg==false) && (((ae x.n)==(ae 1)) && (((ae x.d)==(ae 1)) && true)))=false from m];rfl) rfl rfl c j k Ai (mP _)
 .have j:=xm (.val x);have k:=xm (.val y);show CO 54 _ (.ret (fD (if Oq.bit (.val x) && Oq.bit (.val y) then Hq (Oq.one (.val x)||Oq.one (.val y)) else .err 13)));generalize r:Oq.bit (.val x)=x2 at*
  generalize q:Oq.bit (.val y)=x4 at*
  cases x2 with
  |false=>exact adQ _ x y false rfl c j (jP 13)
  | true=>
   cases x4 with
   |false=>exact adR _ x y true false rfl rfl c j k (jP 13)
   |true=>
    cases m:Oq.one (.val x) with
    |true=>exact adS _ x y _ true true (by rw [show ((x.neg==false) && (((ae x.n)==(ae 1)) && (((ae x.d)==(ae 1)) && true)))=true from m];rfl) rfl rfl c j k Ai (mP _)
    |false=>exact adT _ x y _ true true (by rw [show ((x.neg==false) && (((ae x.n)==(ae 1)) && (((ae x.d)==(ae 1)) && true)))=false from m];rfl) rfl rfl c j k Ai (mP _)
theorem Qz (a b c:Oq) (nn:Bool):CO 53 [.sl (vU a++(vU b++vU c)) 3 nn] (.ret (fD (Ut a b c))):=by
 have d:=xm a;unfold Ut;by_cases h:a.e=0
 .rw [if_pos h];have f:lit false (!(a.e==((0:Nat):Int)))=true:=by rw [h];rfl
  cases e:a.bit with
  |false=>rw [e] at d;exact anc false a b c nn rfl f d (jP 13)
  |true=>
   rw [e] at d;cases g:a.one with
   |true=>exact ane true a b c nn (by rw [show ((a.n==false) && ((a.a==(ae 1)) && ((a.d==(ae 1)) && true)))=true from g];rfl) rfl f d Ai
   |false=>exact anf true a b c nn (by rw [show ((a.n==false) && ((a.a==(ae 1)) && ((a.d==(ae 1)) && true)))=false from g];rfl) rfl f d Ai
 .rw [if_neg h];exact anb a b c nn (by rw [show (a.e==((0:Nat):Int))=false from beq_eq_false_iff_ne.2 h];rfl)
structure fH.r33 (E:fH):Prop where
 ls:E.ls.length<2^40
 qs:E.qs.length<2^40
 lk:∀ x ∈ E.ls,x.e=0->x.a.length<2^33/\x.d.length<2^33
 sq:∀ s ∈ E.qs,s.l.length<2^40/\∀ b ∈ s.l,b.s28
abbrev lrZ:bu:=⟨[.bool false,.str [],.str [],ω 0],0,false,0,0,true⟩
abbrev lrS (op:Int) (nm:List UInt8) (ls:List Lk) (cs:List Sc) (nl ns:Bool) (k:Nat):St:=⟨[(1,ω op),(2,.str nm),(3,.ptr 0 0 0),(6,.ptr 1 0 0),(7,ω (k:Int))],[(0,⟨[.sl (dK ls) ls.length nl,.sl (dL cs) cs.length ns],0,false,0,0,true⟩),(1,lrZ)],.dead,[]⟩
abbrev lrO:Option Oq->St
 |none=> ⟨[(6,.ptr 0 0 0)],[(0,lrZ)],.dead,[]⟩
 |some o=> ⟨[(6,.ptr 0 0 0)],[(0,⟨[.bool o.n,.str o.a,.str o.d,.int .i64 o.e],0,false,0,0,true⟩)],.dead,[]⟩
abbrev lrE:Option Oq->bI|none=> .exit 0|some _=> .ret
theorem ab5 {nt:Nat} (i:41<=nt) (c:Int) (nm:List UInt8) (ls:List Lk) (f:List Sc) (g h:Bool) (t:ls.length<2^40) (n:∀ x ∈ ls,x.e=0->x.a.length<2^33/\x.d.length<2^33):∀ (r p:List Lk),ls=p++r->
  az prog ap [] nt (af 0 (ah f52)) lrE (lrS c nm ls f g h) lrO p.length (SB r c nm):=by
 intro r
 induction r with
 |nil=>
  intro p hp;exact .done (alo nm c p.length ls f g h i (aB (Yq1 (by rw [hp];simp))))
 | cons x r ih=>
  intro p hp;have m:p.length<ls.length:=by rw [hp];simp
  have o:ls[p.length]=x:=by subst hp;simp
  have d:=NJ m;rw [o] at d;have j:decide (((0:Nat):Int)<=(p.length:Int))=true:=Yq0 (by omega);have e:decide ((p.length:Int)<(ls.length:Int))=true:=Yq0 (by omega);have k:=ih (p++ [x]) (by rw [hp];simp);rw [η,τ] at k;unfold SB;by_cases h1:c=x.op
  .by_cases h2:nm=x.nm
   .rw [Xke (by rw [h1,h2];simp)];exact .done (alk nm c p.length _ x ls f g h _ i d j e (aA (by rw [h2];exact beq_self_eq_true _)) (aA (by rw [h1];exact beq_self_eq_true _)) (aA e) (yO x.n x.a x.d x.e (n x (by rw [hp];simp))))
   .rw [Xws (by simp [h2])];exact .next (alm nm c p.length x ls f g h _ i d (xE (by omega)) (aB (beq_eq_false_iff_ne.2 λq=>h2 q.symm)) j e (aA (by rw [h1];exact beq_self_eq_true _)) (aA e)) k
  .rw [Xws (by simp [h1])];exact .next (aln nm c p.length x ls f g h _ i d (xE (by omega)) (aB (beq_eq_false_iff_ne.2 λq=>h1 q.symm)) j e (aA e)) k
theorem QC (c:Int) (nm:List UInt8) (ls:List Lk) (d:List Sc) (f e:Bool) (i:ls.length<2^40) (j:∀ x ∈ ls,x.e=0->x.a.length<2^33/\x.d.length<2^33):
  CO 52 [.agg [.sl (dK ls) ls.length f,.sl (dL d) d.length e],ω c,.str nm] (.ret (fD ((SB ls c nm).getD (.err 12)))):=by
 have h:=λnt k=>ab5 (nt:=nt) k c nm ls d f e i j ls [] rfl
 cases g:SB ls c nm with
 |none=>
  rw [g] at h;exact ali nm c ls d f e (az.blk (id:=0) (e':= .normal) (s:=⟨_,_,_,_⟩) (s':=lrO none) h (by simp) rfl (aN.of ⟨rfl,rfl,rfl,rfl,rfl,trivial⟩) (aN.refl _)) (jP 12)
 |some o=>
  rw [g] at h;exact alj nm c o ls d f e (az.blk (id:=0) (e':= .ret) (s:=⟨_,_,_,_⟩) (s':=lrO (some o)) h (by simp) rfl (aN.of ⟨rfl,rfl,rfl,rfl,rfl,trivial⟩) (aN.refl _))
abbrev rdS (nm:List UInt8) (x:RQ) (ls:List Lk) (cs:List Sc) (nl ns:Bool) (k:Nat):St:=⟨[(1,.str nm),(3,.ptr 0 0 0),(5,.ptr 1 0 0),(6,.ptr 2 0 0),(7,ω (k:Int))],[(0,⟨[.sl (dK ls) ls.length nl,.sl (dL cs) cs.length ns],0,false,0,0,true⟩),(1,⟨[.bool x.neg,.str (ae x.n),.str (ae x.d)],0,false,0,0,true⟩),(2,lrZ)],.dead,[]⟩
theorem ada {nt:Nat} (i:39<=nt) (nm:List UInt8) {x:RQ} (t:x.ok) (u:iP x=true) (ls:List Lk) (qs:List Sq) (e g:Bool) (w:qs.length<2^40) (n:∀ s ∈ qs,s.l.length<2^40/\∀ b ∈ s.l,b.s28):∀ (r p:List Sq),qs=p++r->
  az prog ap [] nt (af 0 (ah f94)) lrE (rdS nm x ls (qs.map Sq.c) e g) lrO p.length ((sqO r nm).map λs=>O8 s.l x):=by
 intro r;have c:(qs.map Sq.c).length=qs.length:=Xxc ..
 induction r with
 |nil=>
  intro p hp;exact .done (an1 nm p.length x ls (qs.map Sq.c) e g i (aB (Yq1 (by rw [c,hp];simp))))
 | cons s r ih=>
  intro p hp;have h:p.length<(qs.map Sq.c).length:=by rw [c,hp];simp
  have v:(qs.map Sq.c)[p.length]=s.c:=by subst hp;simp
  have d:=OD h;rw [v] at d;have j:decide (((0:Nat):Int)<=(p.length:Int))=true:=Yq0 (by omega);have f:decide ((p.length:Int)<(((qs.map Sq.c).length:Nat):Int))=true:=Yq0 (by omega);have k:=ih (p++ [s]) (by rw [hp];simp);rw [η,τ] at k;unfold sqO;obtain ⟨m,o⟩:=n s (by rw [hp];simp);by_cases h2:nm=s.nm
  .rw [Xke (by rw [h2];simp)];exact .done (anZ nm p.length x _ s.c ls (qs.map Sq.c) e g _ i d j f (aA (by rw [h2];exact beq_self_eq_true _)) (aA f) (ac5 s.nm s.u1 s.u2 o m t u))
  .rw [Xws (by simp [h2])];exact .next (an0 nm p.length x s.c ls (qs.map Sq.c) e g _ i d (xE (by omega)) (aB (beq_eq_false_iff_ne.2 λq=>h2 q.symm)) j f (aA f)) k
theorem VC (nm:List UInt8) {x:RQ} (g:x.ok) (j:iP x=true) (ls:List Lk) (qs:List Sq) (d c:Bool) (f:qs.length<2^40) (i:∀ s ∈ qs,s.l.length<2^40/\∀ b ∈ s.l,b.s28):
  CO 94 [.agg [.sl (dK ls) ls.length d,.sl (dL (qs.map Sq.c)) (qs.map Sq.c).length c],.str nm,qA x] (.ret (fD (match sqO qs nm with|none=> .err 12|some s=>O8 s.l x))):=by
 have h:=λnt k=>ada (nt:=nt) k nm g j ls qs d c f i qs [] rfl
 cases e:sqO qs nm with
 |none=>
  rw [e] at h;exact anW nm x ls (qs.map Sq.c) d c (az.blk (id:=0) (e':= .normal) (s:=⟨_,_,_,_⟩) (s':=lrO none) h (by simp) rfl (aN.of ⟨rfl,rfl,rfl,rfl,rfl,trivial⟩) (aN.refl _)) (jP 12)
 |some s=>
  rw [e] at h;exact anX nm x _ ls (qs.map Sq.c) d c (az.blk (id:=0) (e':= .ret) (s:=⟨_,_,_,_⟩) (s':=lrO (some (O8 s.l x))) h (by simp) rfl (aN.of ⟨rfl,rfl,rfl,rfl,rfl,trivial⟩) (aN.refl _))
theorem QD (E:fH) (y:Nd) (q r:Bool) {x:RQ} (m:20<=y.op/\y.op<=24) (g:TT y) (d:x.ok) (i:iP x=true) (o:E.r33):
  CO 55 [.agg (lI y),qA x,.agg [.sl (dK E.ls) E.ls.length q,.sl (dL (E.qs.map Sq.c)) (E.qs.map Sq.c).length r]] (.ret (fD (QJ E.qs y.op y.name (vQ y.neg y.num y.den) (.val x)))):=by
 obtain ⟨c,p,n,t,nm⟩:=y;unfold QJ;simp only at m g ⊢;have step:21<=c->c<=23->∃ st:RQ,vQ p n t=st/\st.ok/\iP st=true/\0<jk st/\n=ae st.n/\t=ae st.d/\p=st.neg:=by
  intro v u;obtain ⟨B,z⟩:=g v u;obtain ⟨f,A⟩:=nK B;refine ⟨_,rfl,jJ _ _ _,by rw [uK f];exact A,by rw [<- G_];exact z, ?_, ?_, ?_⟩
  .rw [uK f];exact (iw f).1.symm
  .rw [uK f];exact (iw f).2.symm
  .rw [uK f]
 have k:iM 51 x:=a_ i;have w:c=20\/c=21\/c=22\/c=23\/c=24:=by omega
 rcases w with rfl|rfl|rfl|rfl|rfl
 .rw [if_pos rfl];have j:=xm (.val x);cases h:Oq.bit (.val x) with
  |false=>
   rw [h] at j;exact adm _ _ _ _ false x _ _ _ _ rfl j (jP 13)
  |true=>
   rw [h] at j;refine adn _ _ _ _ true x _ _ _ _ _ rfl j vZ ?_;have e:=WF h;rw [show ((x.neg==false) && (((ae x.n)==(ae 0)) && (((ae x.d)==(ae 1)) && true)))= !Oq.one (.val x) from e];exact mP _
 .obtain ⟨st,e,k1,k2,k3,rfl,rfl,rfl⟩:=step (by decide) (by decide);rw [e,if_neg (by decide),if_neg (by decide),if_pos rfl];exact ado _ x st _ _ _ _ _ _ (GL d k1 k (a_ k2) (by decide) k3) (Ox (jC k1) (BK i k2).2.2 (by decide))
 .obtain ⟨st,e,k1,k2,k3,rfl,rfl,rfl⟩:=step (by decide) (by decide);rw [e,if_neg (by decide),if_neg (by decide),if_neg (by decide),if_pos rfl];exact adp _ x st _ _ _ _ _ _ (aiI d k1 k (a_ k2) (by decide) k3) (Ox (CG d k1).1 (BK i k2).2.1 (by decide))
 .obtain ⟨st,e,k1,k2,k3,rfl,rfl,rfl⟩:=step (by decide) (by decide);rw [e,if_neg (by decide),if_neg (by decide),if_neg (by decide),if_neg (by decide)];exact adq _ x st _ _ _ _ _ _ (Zg d k1 k (a_ k2) (by decide) (by decide) k3) (Ox (CG d k1).2 (BK i k2).1 (by decide))
 .rw [if_neg (by decide),if_pos rfl];exact adr _ _ _ _ x _ _ _ _ _ (VC nm d i E.ls E.qs q r o.qs o.sq)
structure Ro where
 n:Bool
 a:List UInt8
 d:List UInt8
 e:Int
def roC (x:Ro):List AV:= [.bool x.n,.str x.a,.str x.d,ω x.e]
def yN (l:List Ro):List AV:=l.flatMap roC
def BX (x:Ro):Oq:=xK x.n x.a x.d x.e
def nmN:Nd:=⟨3,false,[],[1],[]⟩
def gq (k:Nat):List Nd:=List.replicate k nmN
abbrev I7 (y:Nd) (ls:List Lk) (cs:List Sc) (nl ns:Bool):Hp:= [(0,⟨[ω y.op,.bool y.neg,.str y.num,.str y.den,.str y.name],0,false,0,0,true⟩),(1,⟨[.sl (dK ls) ls.length nl,.sl (dL cs) cs.length ns],0,false,0,0,true⟩),(2,⟨[.bool false,.str [],.str [],ω 0],0,false,0,0,true⟩)]
abbrev VbY (a:List Ro) (b:Bool) (c:Nat):List (Nat × AV):=[(3,.ptr 0 0 0),(5,.ptr 1 0 0),(6,.ptr 2 0 0),(7,.nilS),(8,.nilS),(15,.sl (yN a) a.length b),(16,ω (a.length:Int)),(17,ω (c:Int))]
theorem aku (y:Nd) (x:Ro) (o:Oq) (d f e:Bool) (k:Nat) (p:List AV) (ar:List Ro) (ls:List Lk) (c:List Sc) {nt:Nat} (r:44<=nt) (q:(ε ((δ (k:Int))*4) (yN ar))=roC x++p) (h:Va7 k) (i:Va4 k) (j:(decide ((k:Int)<(ar.length:Int)))=true) (g:lit true (decide ((k:Int)<(ar.length:Int)))=true) (n:CO 42 [ω 0] (.ret (Ω false [] [1]))) (m:CO 43 [.agg [.bool x.n,.str x.a,.str x.d,ω x.e]] (Va1 o)):ψ nt f15 ⟨(VbY ar e k),(I7 y ls c d f),.dead,[]⟩ (.normal) ⟨[(3,.ptr 0 0 0),(5,.ptr 1 0 0),(6,.ptr 2 0 0),(7,.ref 3 0 0 1),(8,.ref 4 0 0 1),(15,.sl (yN ar) ar.length e),(16,ω (ar.length:Int)),(17,ω ((k+1:Nat):Int))],(I7 y ls c d f++ [(3,⟨zcc4_4,0,false,0,5,true⟩),(4,⟨(Vae o),0,false,0,4,true⟩)]),.dead,[]⟩:=pN 15 [] 3 1 (.k 15 i (.c j (.c g .nil))) (.v 17 (.eq h) (.c m (.c n (.v 19 (.ppt q) .nil)))) r
abbrev VbE (a:Nd) (b:List Lk) (c:List Sc) (d:Bool) (e:Bool):St:=⟨[(3,.ptr 0 0 0),(5,.ptr 1 0 0),(6,.ptr 2 0 0),(7,.nilS),(8,.nilS)],(I7 a b c d e),.dead,[]⟩
theorem akv (y:Nd) (e c g:Bool) (k:Nat) (ar:List Ro) (ls:List Lk) (d:List Sc) {nt:Nat} (h:44<=nt) (f:lit false (decide ((k:Int)<(ar.length:Int)))=true):ψ nt f15 ⟨(VbY ar g k),(I7 y ls d e c),.dead,[]⟩ (.exit 0) (VbE y ls d e c):=pN 15 [] 1 0 (.c f .nil) (.nil) h
abbrev Vbl (a:List Oq) (b:List Ro) (c:Bool) (d:Nat) (e:Nd) (f:List Lk) (g:List Sc) (h:Bool) (i:Bool):St:=⟨[(3,.ptr 0 0 0),(5,.ptr 1 0 0),(6,.ptr 2 0 0),(7,.ref 3 0 0 a.length),(8,.ref 4 0 0 a.length),(15,.sl (yN b) b.length c),(16,ω (b.length:Int)),(17,ω (d:Int))],(I7 e f g h i++ [(3,⟨(aO (gq a.length)),0,false,0,5,true⟩),(4,⟨(dI a),0,false,0,4,true⟩)]),.dead,[]⟩
theorem apx (y:Nd) (x:Ro) (o:Oq) (f h g:Bool) (k:Nat) (u:List AV) (ar:List Ro) (c:List Oq) (ls:List Lk) (e:List Sc) {nt:Nat} (w:44<=nt) (v:(ε ((δ (k:Int))*4) (yN ar))=roC x++u) (j:Va7 k) (d:VaL c) (p:Vb2 c) (i:(Φ (c.length*5) (ζ (aO (gq c.length))))=true) (m:Va4 k) (n:(decide ((k:Int)<(ar.length:Int)))=true) (r:lit true (decide ((k:Int)<(ar.length:Int)))=true) (t:CO 42 [ω 0] (.ret (Ω false [] [1]))) (q:CO 43 [.agg [.bool x.n,.str x.a,.str x.d,ω x.e]] (Va1 o)):ψ nt f15 (Vbl c ar g k y ls e f h) (.normal) ⟨[(3,.ptr 0 0 0),(5,.ptr 1 0 0),(6,.ptr 2 0 0),(7,.ref 3 0 0 (c.length+1)),(8,.ref 4 0 0 (c.length+1)),(15,.sl (yN ar) ar.length g),(16,ω (ar.length:Int)),(17,ω ((k+1:Nat):Int))],(I7 y ls e f h++ [(3,⟨((κ (c.length*5) (aO (gq c.length)))++ zcc4_4),0,false,0,5,true⟩),(4,⟨((κ (c.length*4) (dI c))++ (Vae o)),0,false,0,4,true⟩)]),.dead,[]⟩:=pN 15 [] 1 1 (.k 1 d (.c p (.k 6 d (.c i (.k 6 m (.c n (.c r .nil))))))) (.v 17 (.eq j) (.c q (.c t (.v 19 (.ppt v) .nil)))) w
abbrev VaI (a:List Oq) (b:Nd) (c:List Lk) (d:List Sc) (e:Bool) (f:Bool):St:=⟨[(3,.ptr 0 0 0),(5,.ptr 1 0 0),(6,.ptr 2 0 0),(7,.ref 3 0 0 a.length),(8,.ref 4 0 0 a.length)],(I7 b c d e f++ [(3,⟨(aO (gq a.length)),0,false,0,5,true⟩),(4,⟨(dI a),0,false,0,4,true⟩)]),.dead,[]⟩
theorem apy (y:Nd) (f d h:Bool) (k:Nat) (ar:List Ro) (c:List Oq) (ls:List Lk) (e:List Sc) {nt:Nat} (i:44<=nt) (g:lit false (decide ((k:Int)<(ar.length:Int)))=true):ψ nt f15 (Vbl c ar h k y ls e f d) (.exit 0) (VaI c y ls e f d):=pN 15 [] 1 0 (.c g .nil) (.nil) i
abbrev Vac (a:Nd) (b:List Ro) (c:Bool) (d:List Lk) (e:Bool) (f:List Sc) (g:Bool):St:=⟨[(0,.agg [ω a.op,.bool a.neg,.str a.num,.str a.den,.str a.name]),(1,.sl (yN b) b.length c),(2,.agg (Va2 d e f g)),(3,.ptr 0 0 0),(5,.ptr 1 0 0),(6,.ptr 2 0 0),(7,.nilS),(8,.nilS),(10,.dead),(13,.bool (decide (((60:Nat):Int)<(b.length:Int)))),(15,.sl (yN b) b.length c),(16,ω (b.length:Int)),(17,ω 0),(18,.dead),(37,.dead)],(I7 a d f e g),.dead,[]⟩
abbrev Vbf (a:Nd) (b:List Ro) (c:Bool) (d:List Lk) (e:Bool) (f:List Sc) (g:Bool):List AV:=[.agg [ω a.op,.bool a.neg,.str a.num,.str a.den,.str a.name],.sl (yN b) b.length c,.agg (Va2 d e f g)]
abbrev Vbh (a:Nd):List AV:=[.sl [ω a.op,.bool a.neg,.str a.num,.str a.den,.str a.name] 1 true]
abbrev VbJ (a:List Ro):Prop:=lit false (decide (((60:Nat):Int)<(a.length:Int)))=true
theorem agN (y:Nd) (f e g:Bool) (c:Int) (ar:List Ro) (ls:List Lk) (d:List Sc) (h:lit true (!(c==((0:Nat):Int)))=true) (i:VbJ ar) (k:aK prog ap [] 44 (.block 0 (.loop (af 0 (ah f15)))) (Vac y ar g ls f d e) (.normal) (VbE y ls d f e)) (j:CO 44 (Vbh y) (Vaz c)) (m:CO 41 [ω 11] VaZ):CO 15 (Vbf y ar g ls f d e) VaZ:=pK [0] 3 4 (.k 5 h (.k 8 i .nil)) (.c m (.c j (.l k .nil)))
theorem agO (y:Nd) (q:Oq) (e f g:Bool) (c:Int) (k1 v1 k2 h:List AV) (ar:List Ro) (ls:List Lk) (d:List Sc) (i:lit false (!(c==((0:Nat):Int)))=true) (j:VbJ ar) (o:aK prog ap [] 44 (.block 0 (.loop (af 0 (ah f15)))) (Vac y ar g ls e d f) (.normal) (VbE y ls d e f)) (n:CO 44 (Vbh y) (Vaz c)) (k:CO 45 [.agg (Va2 ls e d f)] (.ret (.agg [.mp k1 v1,.mp k2 h]))) (m:CO 46 (VbT k1 v1 k2 h y) (Va1 q)):CO 15 (Vbf y ar g ls e d f) (Va1 q):=pK [0] 3 0 (.k 12 i (.k 8 j .nil)) (.c m (.c k (.c n (.l o .nil))))
abbrev Vbw (a:List Oq) (b:Nd) (c:Int):Prop:=CO 44 [.sl (κ ((a.length+1)*5) ((κ (a.length*5) (aO (gq a.length)))++ [ω b.op,.bool b.neg,.str b.num,.str b.den,.str b.name])) (a.length+1) true] (Vaz c)
theorem akW (y:Nd) (g f h:Bool) (c:Int) (ar:List Ro) (d:List Oq) (ls:List Lk) (e:List Sc) (j:lit true (!(c==((0:Nat):Int)))=true) (k:VaL d) (i:(Φ (d.length*5) (ζ (aO (gq d.length))))=true) (m:VbJ ar) (o:aK prog ap [] 44 (.block 0 (.loop (af 0 (ah f15)))) (Vac y ar h ls g e f) (.normal) (VaI d y ls e g f)) (n:Vbw d y c) (p:CO 41 [ω 11] VaZ):CO 15 (Vbf y ar h ls g e f) VaZ:=pK [0] 2 2 (.k 5 j (.k 1 k (.c i (.k 6 m .nil)))) (.c p (.c n (.l o .nil)))
theorem akX (y:Nd) (q:Oq) (f g h:Bool) (c:Int) (k1 v1 k2 i:List AV) (ar:List Ro) (d:List Oq) (ls:List Lk) (e:List Sc) (k:lit false (!(c==((0:Nat):Int)))=true) (n:VaL d) (j:(Φ (d.length*5) (ζ (aO (gq d.length))))=true) (m:VbJ ar) (t:aK prog ap [] 44 (.block 0 (.loop (af 0 (ah f15)))) (Vac y ar h ls f e g) (.normal) (VaI d y ls e f g)) (r:Vbw d y c) (o:CO 45 [.agg (Va2 ls f e g)] (.ret (.agg [.mp k1 v1,.mp k2 i]))) (p:CO 46 [.agg [.mp k1 v1,.mp k2 i],.agg [ω y.op,.bool y.neg,.str y.num,.str y.den,.str y.name],.sl (κ (d.length*4) (dI d)) d.length true] (Va1 q)):CO 15 (Vbf y ar h ls f e g) (Va1 q):=pK [0] 2 0 (.k 12 k (.k 1 n (.c j (.k 6 m .nil)))) (.c p (.c o (.c r (.l t .nil))))
def eoN (os:List Oq):AV:=match os with| []=> .nilS|_::_=> .ref 3 0 0 os.length
def eoM (os:List Oq):AV:=match os with| []=> .nilS|_::_=> .ref 4 0 0 os.length
def eoB (os:List Oq):Hp:=match os with| []=> []|_::_=> [(3,⟨aO (gq os.length),0,false,0,5,true⟩),(4,⟨dI os,0,false,0,4,true⟩)]
abbrev eoS (y:Nd) (ls:List Lk) (cs:List Sc) (nl ns na:Bool) (ar:List Ro) (os:List Oq):St:=⟨[(3,.ptr 0 0 0),(5,.ptr 1 0 0),(6,.ptr 2 0 0),(7,eoN os),(8,eoM os),(15,.sl (yN ar) ar.length na),(16,ω (ar.length:Int)),(17,ω (os.length:Int))],I7 y ls cs nl ns++eoB os,.dead,[]⟩
abbrev eoO (y:Nd) (ls:List Lk) (cs:List Sc) (nl ns:Bool) (os:List Oq):St:=⟨[(3,.ptr 0 0 0),(5,.ptr 1 0 0),(6,.ptr 2 0 0),(7,eoN os),(8,eoM os)],I7 y ls cs nl ns++eoB os,.dead,[]⟩
theorem of0:CO 42 [ω 0] (.ret (Ω false [] [1])):=kZ (GK 0 (by decide)) (by kernel_rfl)
theorem Vb (k:Nat):κ (k*5) (aO (gq k))++ zcc4_4=aO (gq (k+1)):=by
 rw [ο (by rw [aQ];simp [gq])];unfold gq;rw [List.replicate_succ'];unfold aO;rw [Xq9];rfl
theorem Xu (y:Nd) (ls:List Lk) (e:List Sc) (g f d:Bool) (ar:List Ro) (c:List Oq) (o:Oq):eoS y ls e g f d ar (c++ [o])=⟨[(3,.ptr 0 0 0),(5,.ptr 1 0 0),(6,.ptr 2 0 0),(7,.ref 3 0 0 (c.length+1)),(8,.ref 4 0 0 (c.length+1)),(15,.sl (yN ar) ar.length d),(16,ω (ar.length:Int)),(17,ω ((c.length+1:Nat):Int))],I7 y ls e g f++ [(3,⟨aO (gq (c.length+1)),0,false,0,5,true⟩),(4,⟨dI (c++ [o]),0,false,0,4,true⟩)],.dead,[]⟩:=by
 cases c with
 |nil=>rfl
 |cons a r=>
  show (⟨[(3,_),(5,_),(6,_),(7,.ref 3 0 0 (a::r++ [o]).length),(8,.ref 4 0 0 (a::r++ [o]).length),(15,_),(16,_),(17,ω (((a::r++ [o]).length:Nat):Int))],_++ [(3,⟨aO (gq (a::r++ [o]).length),_,_,_,_,_⟩),_],_,_⟩:St)=_;rw [show (a::r++ [o]).length=(a::r).length+1 from η]
theorem adi {l:List Ro} {k:Nat} {x:Ro} {p r:List Ro} (h:l=p++x::r) (c:k=p.length):ε (δ (k:Int)*4) (yN l)=roC x++yN r:=by
 subst h c;rw [aC];unfold yN;rw [Xq9,Xxk];have d:(Yxu roC p).length=p.length*4:=lD roC 4 (λ_=>rfl) p;rw [<- d,Xzm]
theorem abg {nt:Nat} (n:44<=nt) (y:Nd) (ls:List Lk) (e:List Sc) (f g k:Bool) {ar:List Ro} (D:ar.length<=60) (t:∀ x ∈ ar,x.a.length<2^36/\x.d.length<2^36):∀ (r p:List Ro) (c:List Oq),ar=p++r->c=p.map BX->
  az prog ap [] nt (af 0 (ah f15)) (λ_=> .exit 0) (eoS y ls e f g k ar) (eoO y ls e f g) c (ar.map BX):=by
 intro r
 induction r with
 |nil=>
  intro p c hp m;rw [Δ] at hp;subst hp;subst m;have hd:lit false (decide ((((ar.map BX).length:Nat):Int)<(ar.length:Int)))=true:=aB (Yq1 (by simp));generalize ar.map BX=c at*
  cases c with
  |nil=>exact .done (akv y f g k 0 ar ls e n hd)
  |cons a q=>exact .done (apy y f g k (a::q).length ar (a::q) ls e n hd)
 | cons x r ih=>
  intro p c hp m;have d:c.length=p.length:=by rw [m,Xxc]
  have A:c.length<ar.length:=by rw [hp,d];simp
  have v:=adi hp d;have hs:=t x (by rw [hp];simp);have w:=ih (p++ [x]) (c++ [BX x]) (by rw [hp];simp) (by rw [m];simp);refine .next ?_ w
  rw [Xu];have u:decide (((0:Nat):Int)<=(c.length:Int))=true:=Yq0 (by omega);have o:decide ((c.length:Int)<(ar.length:Int))=true:=Yq0 (by omega);have j:=xE (i:=c.length) (by omega);have B:Φ (c.length+1) 1099511627776=true:=Xqe (by omega);have z:Φ (c.length*4) (ζ (dI c))=true:=Xqe (by rw [oD];exact χ _);have C:Φ (c.length*5) (ζ (aO (gq c.length)))=true:=Xqe (by rw [aQ];simp [gq]);cases c with
  |nil=>exact aku y x (BX x) f g k 0 _ ar ls e n v j u o (aA o) of0 (xu x.n x.a x.d x.e hs.1 hs.2)
  |cons a q=>
   have h:=apx y x (BX x) f g k (a::q).length _ ar (a::q) ls e n v j B z C u o (aA o) of0 (xu x.n x.a x.d x.e hs.1 hs.2);rw [Vb,lL] at h;exact h
def akV (E:fH) (y:Nd) (l:List Oq):Oq:=if di (gq l.length++ [y])=0 then nN E y l else .err 11
theorem ER:∀ (k d:Nat) (r:List Nd),iV (gq k++r) d=iV r (d+k)
 |0,_,_=>rfl
 |k+1,d,r=>by
  show iV (nmN::(gq k++r)) d=_;simp only [iV];rw [if_pos (show aJ nmN=0 by kernel_rfl),if_neg (show ¬ d<dh nmN.op from Xz5 _),ER k _ r];congr 1;show d - 0+1+k=_;omega
theorem ae1 {k:Nat} {y:Nd} (h:di (gq k++ [y])=0):k=dh y.op:=by
 unfold di at h;split at h
 .cases h
 .rw [ER] at h;simp only [iV] at h;by_cases hw:aJ y=0
  .rw [if_pos hw] at h;by_cases hd:0+k<dh y.op
   .rw [if_pos hd] at h;cases h
   .rw [if_neg hd] at h;dsimp only at h;split at h
    .omega
    .cases h
  .rw [if_neg hw] at h;exact absurd h hw
theorem SV (k:Nat):∀ x ∈ gq k,x.sm:=by
 intro x c;rw [List.eq_of_mem_replicate c];exact ⟨by decide,by decide⟩
theorem abA (E:fH) (e f j:Bool) (r:E.sm) (y:Nd) (C:y.sm) {ar:List Ro} (I:ar.length<=60) (v:∀ x ∈ ar,x.a.length<2^36/\x.d.length<2^36):
  CO 15 [.agg (lI y),.sl (yN ar) ar.length j,.agg [.sl (dK E.ls) E.ls.length e,.sl (dL (E.qs.map Sq.c)) (E.qs.map Sq.c).length f]] (.ret (fD (akV E y (ar.map BX)))):=by
 have D:=Nc E.ls (E.qs.map Sq.c) e f (Xq8 r.ls (by decide)) (by rw [Xxc];exact Xq8 r.qs (by decide)) r.lk;have H:∀ nt,44<=nt->az prog ap [] nt (af 0 (ah f15)) (λ_=> .exit 0) (eoS y E.ls (E.qs.map Sq.c) e f j ar) (eoO y E.ls (E.qs.map Sq.c) e f) [] (ar.map BX):=λnt M=>abg M y E.ls (E.qs.map Sq.c) e f j I v ar [] [] rfl rfl
 have u:∀ x ∈ gq ar.length++ [y],x.sm:=λx K=>(List.mem_append.1 K).elim (SV _ x) (λh=>by rw [Xx6] at h;exact h ▸ C)
 have i:=EQ (gq ar.length++ [y]) true u;have d:lit false (decide (((60:Nat):Int)<(ar.length:Int)))=true:=aB (Yq1 (by omega));have c:(ar.map BX).length=ar.length:=Xxc ..;have m:=az.blk (id:=0) (e':= .normal) (s:=⟨[(0,.agg [ω y.op,.bool y.neg,.str y.num,.str y.den,.str y.name]),(1,.sl (yN ar) ar.length j),(2,.agg [.sl (dK E.ls) E.ls.length e,.sl (dL (E.qs.map Sq.c)) (E.qs.map Sq.c).length f]),(3,.ptr 0 0 0),(5,.ptr 1 0 0),(6,.ptr 2 0 0),(7,.nilS),(8,.nilS),(10,.dead),(13,.bool (decide (((60:Nat):Int)<(ar.length:Int)))),(15,.sl (yN ar) ar.length j),(16,ω (ar.length:Int)),(17,ω 0),(18,.dead),(37,.dead)],(I7 y E.ls (E.qs.map Sq.c) e f),.dead,[]⟩) (s':=eoO y E.ls (E.qs.map Sq.c) e f (ar.map BX)) H (by simp) rfl (aN.of ⟨rfl,rfl,rfl,rfl,rfl,rfl,rfl,rfl,trivial⟩) (aN.refl _);have hnode:∀ nn:Bool,di (gq ar.length++ [y])=0->CO 46 [aiN E,.agg (lI y),.sl (dI (ar.map BX)) (ar.map BX).length nn] (.ret (fD (nN E y (ar.map BX)))):=λnn h=>by
  have z:=(jL h).1 y (by simp);have k:=sZ z;exact Nb E y nn (ar.map BX) k.1 k.2 (LM z) (by rw [c];exact ae1 h) (λo J=>by obtain ⟨x,_,rfl⟩:=List.mem_map.1 J;exact Ar _ _ _ _) C r.sq
 unfold akV;rw [c];have N:Φ (ar.length+1) 1099511627776=true:=Xqe (by omega);cases p:ar.map BX with
 | nil=>
  have n:ar.length=0:=by rw [<- c,p];rfl
  rw [p] at m hnode;have F:di (gq ar.length++ [y])=di (gq 0++ [y]):=by rw [n]
  rw [F];rw [n] at i hnode;by_cases hc:di (gq 0++ [y])=0
  .rw [if_pos hc];rw [hc] at i;exact agO y _ e f j 0 _ _ _ _ ar E.ls (E.qs.map Sq.c) (aB rfl) d m i D ((hnode false hc).args (eG.cons (aU.refl _) (eG.cons (aU.refl _) (eG.cons (aU.nilS false rfl) (eG.refl _)))))
  .rw [if_neg hc];exact agN y e f j _ ar E.ls (E.qs.map Sq.c) (aA (by simpa using hc)) d m i (jv 11)
 | cons a q=>
  have n:(a::q).length=ar.length:=by rw [<- c,p]
  rw [p] at m hnode;have t:κ (((a::q).length+1)*5) (κ ((a::q).length*5) (aO (gq (a::q).length))++ [ω y.op,.bool y.neg,.str y.num,.str y.den,.str y.name])=aO (gq (a::q).length++ [y]):=by
   have G:κ ((a::q).length*5) (aO (gq (a::q).length))=aO (gq (a::q).length):=ο (by rw [aQ];simp [gq]);rw [G,ο (by rw [η,aQ];simp [gq];omega)];unfold aO;rw [Xq9];rfl
  have A:Φ ((a::q).length+1) 1099511627776=true:=Xqe (by omega);have B:Φ ((a::q).length*5) (ζ (aO (gq (a::q).length)))=true:=Xqe (by rw [aQ];simp [gq]);have g:CO 44 [.sl (κ (((a::q).length+1)*5) (κ ((a::q).length*5) (aO (gq (a::q).length))++ [ω y.op,.bool y.neg,.str y.num,.str y.den,.str y.name])) ((a::q).length+1) true] (.ret (ω (di (gq ar.length++ [y])))):=by
   rw [t,n];have:=i;rw [show (gq ar.length++ [y]).length=ar.length+1 by simp [gq]] at this;exact this
  have w:κ ((a::q).length*4) (dI (a::q))=dI (a::q):=ο (by rw [oD];exact χ _);by_cases hc:di (gq ar.length++ [y])=0
  .rw [if_pos hc];rw [hc] at g;exact akX y _ e f j 0 _ _ _ _ ar (a::q) E.ls (E.qs.map Sq.c) (aB rfl) A B d m g D (by rw [w];exact hnode true hc)
  .rw [if_neg hc];exact akW y e f j _ ar (a::q) E.ls (E.qs.map Sq.c) (aA (by simpa using hc)) A B d m g (jv 11)
abbrev VbX (a:List Oq) (b:Bool) (c:List Oq) (d:Bool) (e:Nat):St:=⟨[(0,.sl (dI a) a.length b),(1,.sl (dI c) c.length d),(5,ω (e:Int))],[],.dead,[]⟩
theorem akD (a b:List Oq) (o q:Oq) (g m:Bool) (k:Nat) (h rb:List AV) {nt:Nat} (i:26<=nt) (f:(ε ((δ (k:Int))*4) (dI a))=vU o++h) (j:(ε ((δ (k:Int))*4) (dI b))=vU q++rb) (e:lit true (!((o.n==q.n) && ((o.a==q.a) && ((o.d==q.d) && ((o.e==q.e) && true)))))=true) (c:Va4 k) (d:Van k b) (n:Van k a) (p:lit true (decide ((k:Int)<(a.length:Int)))=true):ψ nt f18 (VbX a g b m k) (.ret) ⟨[(4,.bool false)],[],.dead,[]⟩:=pN 18 [] 2 3 (.c e (.k 4 c (.c d (.k 4 c (.c n (.c p .nil)))))) (.v 23 (.ppt j) (.v 19 (.ppt f) .nil)) i
theorem akE (a b:List Oq) (o q:Oq) (e d:Bool) (k:Nat) (m rb:List AV) {nt:Nat} (r:26<=nt) (p:(ε ((δ (k:Int))*4) (dI a))=vU o++m) (n:(ε ((δ (k:Int))*4) (dI b))=vU q++rb) (g:Va7 k) (h:lit false (!((o.n==q.n) && ((o.a==q.a) && ((o.d==q.d) && ((o.e==q.e) && true)))))=true) (c:Va4 k) (f:Van k b) (i:Van k a) (j:lit true (decide ((k:Int)<(a.length:Int)))=true):ψ nt f18 (VbX a e b d k) (.normal) ⟨[(0,.sl (dI a) a.length e),(1,.sl (dI b) b.length d),(5,ω ((k+1:Nat):Int))],[],.dead,[]⟩:=pN 18 [] 2 1 (.c h (.k 4 c (.c f (.k 4 c (.c i (.c j .nil)))))) (.v 5 (.eq g) (.v 23 (.ppt n) (.v 19 (.ppt p) .nil))) r
theorem akF (a b:List Oq) (d f:Bool) (k:Nat) {nt:Nat} (e:26<=nt) (c:lit false (decide ((k:Int)<(a.length:Int)))=true):ψ nt f18 (VbX a d b f k) (.exit 0) ⟨[(4,.dead)],[],.dead,[]⟩:=pN 18 [] 1 0 (.c c .nil) (.nil) e
theorem RN (o q:Oq):CO 17 [.agg (Vae o),.agg (Vae q)] (.ret (.bool ((o.n==q.n) && ((o.a==q.a) && ((o.d==q.d) && ((o.e==q.e) && true)))))):=pK [] 0 0 (.n 8 .nil) (.nil)
theorem agu (a b:List Oq) (d e:Bool) (c:lit true (!((a.length:Int)==(b.length:Int)))=true):CO 18 [.sl (dI a) a.length d,.sl (dI b) b.length e] (.ret (.bool false)):=pK [0] 1 1 (.c c .nil) (.nil)
abbrev VbG (a:List Oq) (b:Bool) (c:List Oq) (d:Bool):St:=⟨[(0,.sl (dI a) a.length b),(1,.sl (dI c) c.length d),(4,.bool false),(5,ω 0),(10,.bool (!((a.length:Int)==(c.length:Int)))),(14,.dead),(25,.dead)],[],.dead,[]⟩
theorem agv (a b:List Oq) (c d:Bool) (e:lit false (!((a.length:Int)==(b.length:Int)))=true) (f:aK prog ap [] 26 (.block 0 (.loop (af 0 (ah f18)))) (VbG a c b d) (.normal) ⟨[(4,.dead)],[],.dead,[]⟩):CO 18 [.sl (dI a) a.length c,.sl (dI b) b.length d] VaC:=pK [0] 1 0 (.c e .nil) (.l f .nil)
theorem agt (a b:List Oq) (c d:Bool) (e:lit false (!((a.length:Int)==(b.length:Int)))=true) (f:aK prog ap [] 26 (.block 0 (.loop (af 0 (ah f18)))) (VbG a c b d) (.ret) ⟨[(4,.bool false)],[],.dead,[]⟩):CO 18 [.sl (dI a) a.length c,.sl (dI b) b.length d] (.ret (.bool false)):=pK [0] 1 0 (.c e .nil) (.l f .nil)
def eqo (o q:Oq):Bool:=(o.n==q.n) && ((o.a==q.a) && ((o.d==q.d) && ((o.e==q.e) && true)))
def Nk:List Oq->List Oq->Bool
 |x::r,y::s=>eqo x y && Nk r s
 |_,_=>true
def abo:Bool->bI
 |true=> .exit 0
 |false=> .ret
def akI:Bool->St
 |true=> ⟨[(4,.dead)],[],.dead,[]⟩
 |false=> ⟨[(4,.bool false)],[],.dead,[]⟩
abbrev akH (a b:List Oq) (na nb:Bool) (k:Nat):St:=⟨[(0,.sl (dI a) a.length na),(1,.sl (dI b) b.length nb),(5,ω (k:Int))],[],.dead,[]⟩
theorem SX {l:List Oq} {k:Nat} {x:Oq} {p r:List Oq} (h:l=p++x::r) (c:k=p.length):ε (δ (k:Int)*4) (dI l)=vU x++dI r:=by
 subst h c;rw [aC];unfold dI;rw [Xq9,Xxk];have d:(Yxu vU p).length=p.length*4:=lD vU 4 (λ_=>rfl) p;rw [<- d,Xzm]
theorem XL {nt:Nat} (i:26<=nt) (a b:List Oq) (f e:Bool) (t:a.length=b.length) (w:a.length<2^40):∀ (r s p q:List Oq),a=p++r->b=q++s->p.length=q.length->
  az prog ap [] nt (af 0 (ah f18)) abo (akH a b f e) akI p.length (Nk r s):=by
 intro r
 induction r with
 |nil=>
  intro s p q hp d h;rw [Δ] at hp;subst hp;exact .done (akF a b f e a.length i (aB (Yq1 (by omega))))
 | cons x r ih=>
  intro s p q hp d h;cases s with
  |nil=>exfalso;rw [hp,d] at t;simp at t;omega
  | cons y s=>
   have v:=SX hp rfl;have n:=SX (k:=p.length) d h;have z:p.length<a.length:=by rw [hp];simp
   have j:decide (((0:Nat):Int)<=(p.length:Int))=true:=Yq0 (by omega);have u:decide ((p.length:Int)<(b.length:Int))=true:=Yq0 (by omega);have g:decide ((p.length:Int)<(a.length:Int))=true:=Yq0 (by omega);unfold Nk;cases o:eqo x y with
   |false=>
    have c:lit true (!eqo x y)=true:=by rw [o];rfl
    exact .done (akD a b x y f e p.length _ _ i v n c j u g (aA g))
   |true=>
    have c:lit false (!eqo x y)=true:=by rw [o];rfl
    have m:=ih s (p++ [x]) (q++ [y]) (by rw [hp];simp) (by rw [d];simp) (by simp [h]);rw [η] at m;exact .next (akE a b x y f e p.length _ _ i v n (xE (by omega)) c j u g (aA g)) m
theorem Jy (a b:List Oq) (c d:Bool) (i:a.length<2^40):CO 18 [.sl (dI a) a.length c,.sl (dI b) b.length d] (.ret (.bool (decide (a.length=b.length) && Nk a b))):=by
 by_cases hl:a.length=b.length
 .rw [Yq0 hl,Bool.true_and];have f:lit false (!((a.length:Int)==(b.length:Int)))=true:=by simp [lit,hl]
  have e:∀ nt,26<=nt->az prog ap [] nt (af 0 (ah f18)) abo (akH a b c d) akI 0 (Nk a b):=λnt h=>XL h a b c d hl i a b [] [] rfl rfl rfl
  cases g:Nk a b with
  |true=>
   rw [g] at e;exact agv a b c d f (az.blk e (by simp [abo]) rfl (aN.of ⟨rfl,rfl,rfl,trivial⟩) (aN.refl _))
  |false=>
   rw [g] at e;exact agt a b c d f (az.blk e (by simp [abo]) rfl (aN.of ⟨rfl,rfl,rfl,trivial⟩) (aN.refl _))
 .rw [Yq1 hl,Bool.false_and];exact agu a b c d (by simp [lit];omega)
theorem I9:∀ a:List Oq,Nk a a=true
 | []=>rfl
 |x::r=>by unfold Nk;rw [I9 r];simp [eqo]
end Go.Proofs.Tryz
