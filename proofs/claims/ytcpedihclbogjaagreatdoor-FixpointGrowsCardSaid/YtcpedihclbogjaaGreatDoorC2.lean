/- Contracts of functions; joined by a program of mine. -/
import Derived.Test.YtcpedihclbogjaaGreatDoorC1
import Derived.Test.YtcpedihclbogjaaGreatDoorM5
set_option linter.unusedSimpArgs false
set_option linter.unusedVariables false
set_option maxRecDepth 100000
open Go AM
open List renaming headD->η,drop->ε,length->θ,take->τ,all->Xz9,map->Xz0,getD->Xje,foldl_append->Xw8,map_append->Xq5,append_assoc->Xqe,map_cons->Xqf,map_nil->Xjc,append_nil->Xqd,nil_append->Xqb,length_cons->ο,length_nil->Ξ,take_length->Xxc,length_append->ξ,all_eq_true->Xzk,take_add_one->Xw5,getElem?_eq_getElem->ν,getD_eq_getElem?_getD->μ,take_append_drop->Xz2,take_of_length_le->Xqa,getD_cons_zero->Xzu,drop_of_length_le->Xjo,length_singleton->Δ,map_drop->Xjy,drop_eq_getElem_cons->Xxk,headD_cons->Xjz,dropWhile_cons->Xx5,singleton_append->Xju,drop_zero->Xx8,tail->Xj0,length_drop->Xx3,length_take->Xq7,replicate->ζ,drop_append->Xkh,replicate_succ->Xxa,replicate_zero->Xzt,length_replicate->Xq9,tail_cons->Xwt
open Int renaming toNat->δ,fdiv->Xq1,tdiv->Xxb,tmod->Xxp,emod_nonneg->Yq6,emod_lt_of_pos->Yqd,tmod_lt_of_pos->Yqe,emod_eq_of_lt->Yql,natAbs_neg->Yxk,natAbs_natCast->Xz4
open IntKind renaming wrap->γ
open AV renaming toInt->Γ,int->Xxx,toBool->Xku,toStr->Xkx,nilS->Yqj,str->Yqp
open Nat renaming ble->Xqr,mod_eq_of_lt->χ,mod_lt->Xq4,add_mul->Xxy,pow_succ->Xxh,mul_comm->Xqj,mul_assoc->Xqv,mul_one->Xqi,le_refl->κ,zero_add->Ψ,eq_zero_or_pos->Xqh,lt_or_ge->Xjg,lt_of_lt_of_le->υ,pow_le_pow_right->Θ,le_trans->Xqs,pow_mul->Xjs,lt_trichotomy->Xz6,mul_le_mul_right->Xqz,one_mul->Xwj,lt_irrefl->Xkb,min_eq_left->Xjp,mul_pos->Xjh,div_le_self->Xxo,gcd->Xxu,gcd_comm->Xkq,gcd_zero_left->Xw6,gcd_le_right->Xve,gcd_pos_of_pos_right->Xzi,div_pos->Xvm,gcd_dvd_left->Yqv,gcd_dvd_right->Xv3,div_self->Yx9,lt_trans->Xzf,sub_zero->Xzc,zero_le->Xqo,lt_of_le_of_lt->φ,mul_le_mul->Xwu,mul_add->Xxq,ble_eq->Xjk,sub_le->Xwn,pow_add->Xxs,ble_eq_true_of_le->Xqc,mul_div_cancel_left->Xw3,exists_eq_add_of_le->Xkc,add_sub_cancel_left->Xwa,gcd_one_right->Xw9,add_zero->Xq3,two_pow_pos->Xqw,div_one->Xvl
open UInt8 renaming ofNat->Xql,toNat->Xxr,toNat_lt->Xk3
open Decidable renaming em->Xjb
open Bool renaming not_false->Xq6,eq_iff_iff->Xzv,and_true->Xwo,not_true->Xxi,not_eq_true'->Xqt,true_or->Xj4,false_or->Xx2,and_eq_true->π,false_eq_true->Xqy,true_and->Xx0
open Option renaming getD->Xwb,isSome->Xz3
namespace Go.Proofs.Tryz
abbrev zcc2_0 : List UInt8 := [97,50,51,52,53,54,55,56,57,48,49,50,51,52,53,54,55,56,57,48]
abbrev zcc2_1 : List AV := [.str [],ω 0,.bool false,.bool false,.bool false]
theorem WJ {nt:Nat} (f:35<=nt) (l o:List Nat) (k:Nat) (e:Bool) (h0:(chk (.int .i64) (η (ε ((δ (k:Int))*1) (aA l)) .dead))=true) (c:(decide (((0:Nat):Int)<=(k:Int)))=true) (d:(decide ((k:Int)<(l.length:Int)))=true) (g:lit true (decide (((0:Nat):Int)<=(k:Int)))=true):ψ nt f88 (Ja (.sl (aA l) l.length e) (k:Int)) (.normal) (wj (.sl (aA l) l.length e) 3 (γ .i64 ((k:Int) - ((1:Nat):Int))) [.int .u8 (γ .u8 (Xq1 (Γ (η (ε ((δ (k:Int))*1) (aA l)) .dead)) (2^(min 16 64)))),.int .u8 (γ .u8 (Xq1 (Γ (η (ε ((δ (k:Int))*1) (aA l)) .dead)) (2^(min 8 64)))),.int .u8 (γ .u8 (Γ (η (ε ((δ (k:Int))*1) (aA l)) .dead)))]):=pJ 88 [] 2 1 (.k 3 h0 (.c c (.c d (.k 1 h0 (.c c (.c d (.k 1 h0 (.c c (.c d (.c g .nil)))))))))) (.nil) f
theorem RO {nt:Nat} (d:35<=nt) (l o:List Nat) (c:Bool):ψ nt f88 (Ja (.sl (aA l) l.length c) (-1)) (.exit 0) (wg (.nilS)):=pJ 88 [] 1 0 (.n 1 .nil) (.nil) d
theorem RP (l o:List Nat) (c:Bool) (d:LB 35 0 f88 ⟨[(0,.sl (aA l) l.length c),(2,.str []),(3,.nilS),(4,ω (γ .i64 ((l.length:Int) - ((1:Nat):Int)))),(9,.dead)],[],.dead,[]⟩ (.normal) (wg (.nilS))) (e:CO 91 [.str []] (.ret (.str (ae (aj []))))):CO 88 [.sl (aA l) l.length c] (.ret (.str (ae (aj [])))):=pK [0] 0 0 (.n 2 .nil) (.c e (.l d .nil))
theorem WI {nt:Nat} (h:35<=nt) (l o:List Nat) (k:Nat) (f:Bool) (h0:(Xqr (o.length+3) 1099511627776)=true) (g:(Xqr (o.length*1) (θ (lg o)))=true) (c:(chk (.int .i64) (η (ε ((δ (k:Int))*1) (aA l)) .dead))=true) (e:(decide (((0:Nat):Int)<=(k:Int)))=true) (d:(decide ((k:Int)<(l.length:Int)))=true) (h5:lit true (decide (((0:Nat):Int)<=(k:Int)))=true):ψ nt f88 (wj (.sl (aA l) l.length f) o.length (k:Int) (lg o)) (.normal) (wj (.sl (aA l) l.length f) (o.length+3) (γ .i64 ((k:Int) - ((1:Nat):Int))) ((τ (o.length*1) (lg o))++ [.int .u8 (γ .u8 (Xq1 (Γ (η (ε ((δ (k:Int))*1) (aA l)) .dead)) (2^(min 16 64)))),.int .u8 (γ .u8 (Xq1 (Γ (η (ε ((δ (k:Int))*1) (aA l)) .dead)) (2^(min 8 64)))),.int .u8 (γ .u8 (Γ (η (ε ((δ (k:Int))*1) (aA l)) .dead)))])):=pJ 88 [] 1 1 (.k 1 h0 (.c g (.k 1 c (.c e (.c d (.k 1 c (.c e (.c d (.k 1 c (.c e (.c d (.c h5 .nil)))))))))))) (.nil) h
theorem RM {nt:Nat} (d:35<=nt) (l o:List Nat) (c:Bool):ψ nt f88 (wj (.sl (aA l) l.length c) o.length (-1) (lg o)) (.exit 0) (wi o.length (lg o)):=pJ 88 [] 1 0 (.n 1 .nil) (.nil) d
theorem RN (l o:List Nat) (d:Bool) (h0:(Nat.beq (θ (τ (o.length*1) (lg o))) o.length)=true) (e:(Xz9 (τ (o.length*1) (lg o)) (chk (.int .u8)))=true) (f:LB 35 0 f88 ⟨[(0,.sl (aA l) l.length d),(2,.str []),(3,.nilS),(4,ω (γ .i64 ((l.length:Int) - ((1:Nat):Int)))),(9,.dead)],[],.dead,[]⟩ (.normal) (wi o.length (lg o))) (g:CO 91 [.str (Xz0 (λc=>Xql (δ (Γ c))) (τ (o.length*1) (lg o)))] (.ret (.str (ae (aj (Xz0 (λc=>Xql (δ (Γ c))) (τ (o.length*1) (lg o)))))))):CO 88 [.sl (aA l) l.length d] (.ret (.str (ae (aj (Xz0 (λc=>Xql (δ (Γ c))) (τ (o.length*1) (lg o))))))):=pK [0] 0 0 (.c h0 (.c e .nil)) (.c g (.l f .nil))
theorem Xe (x:Nat) (h0:lit true (decide (((0:Nat):Int)<(x:Int)))=true) (c:CO 91 [.str [Xql (δ (γ .u8 (Xq1 (x:Int) (2^(min 56 64))))),Xql (δ (γ .u8 (Xq1 (x:Int) (2^(min 48 64))))),Xql (δ (γ .u8 (Xq1 (x:Int) (2^(min 40 64))))),Xql (δ (γ .u8 (Xq1 (x:Int) (2^(min 32 64))))),Xql (δ (γ .u8 (Xq1 (x:Int) (2^(min 24 64))))),Xql (δ (γ .u8 (Xq1 (x:Int) (2^(min 16 64))))),Xql (δ (γ .u8 (Xq1 (x:Int) (2^(min 8 64))))),Xql (δ (γ .u8 (Xq1 (x:Int) (2^(min 0 64)))))]] (.ret (.str (ae (aj [Xql (δ (γ .u8 (Xq1 (x:Int) (2^(min 56 64))))),Xql (δ (γ .u8 (Xq1 (x:Int) (2^(min 48 64))))),Xql (δ (γ .u8 (Xq1 (x:Int) (2^(min 40 64))))),Xql (δ (γ .u8 (Xq1 (x:Int) (2^(min 32 64))))),Xql (δ (γ .u8 (Xq1 (x:Int) (2^(min 24 64))))),Xql (δ (γ .u8 (Xq1 (x:Int) (2^(min 16 64))))),Xql (δ (γ .u8 (Xq1 (x:Int) (2^(min 8 64))))),Xql (δ (γ .u8 (Xq1 (x:Int) (2^(min 0 64)))))]))))):CO 58 [ω (x:Int)] (.ret (.str (ae (aj [Xql (δ (γ .u8 (Xq1 (x:Int) (2^(min 56 64))))),Xql (δ (γ .u8 (Xq1 (x:Int) (2^(min 48 64))))),Xql (δ (γ .u8 (Xq1 (x:Int) (2^(min 40 64))))),Xql (δ (γ .u8 (Xq1 (x:Int) (2^(min 32 64))))),Xql (δ (γ .u8 (Xq1 (x:Int) (2^(min 24 64))))),Xql (δ (γ .u8 (Xq1 (x:Int) (2^(min 16 64))))),Xql (δ (γ .u8 (Xq1 (x:Int) (2^(min 8 64))))),Xql (δ (γ .u8 (Xq1 (x:Int) (2^(min 0 64)))))])))):=pK [] 19 131067 (.k 9 h0 (.k 6 h0 (.k 6 h0 (.k 6 h0 (.k 6 h0 (.k 6 h0 (.k 6 h0 (.k 5 h0 (.n 1 .nil))))))))) (.c c .nil)
theorem Xf (x:Nat) (h0:lit false (decide (((0:Nat):Int)<(x:Int)))=true) (c:CO 91 [.str []] (.ret (.str (ae (aj []))))):CO 58 [ω (x:Int)] (.ret (.str (ae (aj [])))):=pK [] 2 1 (.k 2 h0 (.n 1 .nil)) (.c c .nil)
theorem WV {nt:Nat} (e:35<=nt) (s:List UInt8) (n k:Nat) (h0:(decide (((0:Nat):Int)<=(k:Int)))=true) (c:(decide ((k:Int)<(((θ s):Nat):Int)))=true) (d:lit true (decide ((k:Int)<(((θ s):Nat):Int)))=true):ψ nt f95 (Jb s (n:Int) (k:Int)) (.normal) (Jb s (γ .i64 ((γ .i64 ((n:Int)*2^(min 8 64)))+(γ .i64 ((Xxr (Xje s (δ (k:Int)) 0):Nat):Int)))) (γ .i64 ((k:Int)+((1:Nat):Int)))):=pJ 95 [] 1 1 (.c h0 (.c c (.k 1 d .nil))) (.nil) e
theorem WW {nt:Nat} (c:35<=nt) (s:List UInt8) (n k:Nat) (h0:lit false (decide ((k:Int)<(((θ s):Nat):Int)))=true):ψ nt f95 (Jb s (n:Int) (k:Int)) (.exit 0) (qT (ω (n:Int))):=pJ 95 [] 1 0 (.c h0 .nil) (.nil) c
theorem Sr (s:List UInt8) (n:Nat) (h0:lit false (decide (((127:Nat):Int)<((Xxr (Xje (ae (aj s)) 0 0):Nat):Int)))=true) (c:(decide (((0:Nat):Int)<(((θ (ae (aj s))):Nat):Int)))=true) (d:lit true ((((θ (ae (aj s))):Nat):Int)==((8:Nat):Int))=true) (f:lit false (decide (((8:Nat):Int)<(((θ (ae (aj s))):Nat):Int)))=true) (g:CO 91 [.str s] (.ret (.str (ae (aj s))))) (e:LB 35 0 f95 (UG (ae (aj s)) (decide (((127:Nat):Int)<((Xxr (Xje (ae (aj s)) 0 0):Nat):Int)))) (.normal) (qT (ω (n:Int)))):CO 95 [.str s] (.ret (.tup [ω (n:Int),.bool true])):=pK [0] 3 2 (.c h0 (.k 1 c (.c d (.c f .nil)))) (.l e (.c g .nil))
theorem Ss (s:List UInt8) (n:Nat) (h0:lit false ((((θ (ae (aj s))):Nat):Int)==((8:Nat):Int))=true) (c:lit false (decide (((8:Nat):Int)<(((θ (ae (aj s))):Nat):Int)))=true) (e:CO 91 [.str s] (.ret (.str (ae (aj s))))) (d:LB 35 0 f95 (UG (ae (aj s)) false) (.normal) (qT (ω (n:Int)))):CO 95 [.str s] (.ret (.tup [ω (n:Int),.bool true])):=pK [0] 3 0 (.k 1 h0 (.c c .nil)) (.l d (.c e .nil))
abbrev Va6 (a:List UInt8):Prop:=CO 91 [.str a] (.ret (.str (ae (aj a))))
abbrev Vat (a:Nat):gy:= .ret (.tup [ω (a:Int),.bool true])
theorem ab1 (s:List UInt8) (n b:Nat) (h0:lit false (decide ((b:Int)<(((θ (ae (aj s))):Nat):Int)))=true) (d:Va6 s) (c:CO 95 [.str s] (Vat n)):CO 86 [.str s,ω (b:Int)] (Vat n):=pK [] 1 0 (.c h0 .nil) (.c c (.c d .nil))
theorem aaJ (s:List UInt8) (h0:lit true ((((θ s):Nat):Int)==((0:Nat):Int))=true):CO 130 [.str s] (.ret (.bool true)):=pK [] 1 1 (.c h0 .nil) (.nil)
abbrev VaV (a:List UInt8):Bool:=decide (((0:Nat):Int)<(((θ a):Nat):Int))
theorem aaK (s:List UInt8) (h0:(VaV s)=true) (c:lit false ((((θ s):Nat):Int)==((0:Nat):Int))=true):CO 130 [.str s] (.ret (.bool (!(((Xxr (Xje s 0 0):Nat):Int)==((0:Nat):Int))))):=pK [] 1 0 (.k 1 h0 (.c c .nil)) (.nil)
theorem Si (s t:List UInt8) (h0:lit true (decide ((((θ (ae (aj s))):Nat):Int)<(((θ (ae (aj t))):Nat):Int)))=true) (c:lit true (!((((θ (ae (aj s))):Nat):Int)==(((θ (ae (aj t))):Nat):Int)))=true) (e:Va6 s) (d:Va6 t):CO 51 [.str s,.str t] (.ret (ω (-1))):=pK [] 2 3 (.c h0 (.c c .nil)) (.c d (.c e .nil))
theorem Sj (s t:List UInt8) (h0:lit false (decide ((((θ (ae (aj s))):Nat):Int)<(((θ (ae (aj t))):Nat):Int)))=true) (c:lit true (!((((θ (ae (aj s))):Nat):Int)==(((θ (ae (aj t))):Nat):Int)))=true) (e:Va6 s) (d:Va6 t):CO 51 [.str s,.str t] (.ret (ω 1)):=pK [] 2 1 (.c h0 (.c c .nil)) (.c d (.c e .nil))
theorem Sk (s t:List UInt8) (h0:lit true (dX (ae (aj s)) (ae (aj t)))=true) (c:lit false (!((((θ (ae (aj s))):Nat):Int)==(((θ (ae (aj t))):Nat):Int)))=true) (e:Va6 s) (d:Va6 t):CO 51 [.str s,.str t] (.ret (ω (-1))):=pK [] 2 2 (.c h0 (.c c .nil)) (.c d (.c e .nil))
theorem Sl (s t:List UInt8) (h0:lit true (!(dX (ae (aj s)) (ae (aj t))||(ae (aj s))==(ae (aj t))))=true) (c:lit false (dX (ae (aj s)) (ae (aj t)))=true) (d:lit false (!((((θ (ae (aj s))):Nat):Int)==(((θ (ae (aj t))):Nat):Int)))=true) (f:Va6 s) (e:Va6 t):CO 51 [.str s,.str t] (.ret (ω 1)):=pK [] 3 4 (.c h0 (.c c (.c d .nil))) (.c e (.c f .nil))
theorem Sm (s t:List UInt8) (h0:lit false (!(dX (ae (aj s)) (ae (aj t))||(ae (aj s))==(ae (aj t))))=true) (c:lit false (dX (ae (aj s)) (ae (aj t)))=true) (d:lit false (!((((θ (ae (aj s))):Nat):Int)==(((θ (ae (aj t))):Nat):Int)))=true) (f:Va6 s) (e:Va6 t):CO 51 [.str s,.str t] (.ret (ω 0)):=pK [] 3 0 (.c h0 (.c c (.c d .nil))) (.c e (.c f .nil))
theorem kr (l:List UInt8) (c:UInt8):aj (l++ [c])=aj l*256+c.toNat:=by
 unfold aj;rw [Xw8];rfl
theorem toNat_ofNat {x:Nat} (h:x<256):(Xql x).toNat=x:=by
 rw [UInt8.toNat_ofNat'];exact χ h
def bS (o:List Nat):List UInt8:=o.map Xql
theorem Ym (o:List Nat):Xz0 (λc=>Xql (δ (Γ c))) (lg o)=bS o:=by
 unfold lg bS;rw [List.map_map];rfl
theorem Jg (l:List Nat) (k:Nat):τ k (lg l)=lg (l.take k):=by unfold lg;rw [List.map_take]
def LN (l:List Nat):Nat->List Nat
 |0=> []
 |k+1=> [l.getD k 0 / 65536,l.getD k 0 / 256 % 256,l.getD k 0 % 256]++LN l k
theorem FN (a b:List Nat):bS (a++b)=bS a++bS b:=by unfold bS;rw [Xq5]
theorem HJ {l:List Nat} (c:eN l):∀ (k:Nat) (o:List Nat),k<=l.length->aj (bS (o++LN l k))=aj (bS o)*16777216^k+gr (l.take k)
 |0,o,_=>by simp [LN,gr]
 | k+1,o,h=>by
  simp only [LN];rw [<- Xqe,HJ c k _ (by omega),Aa (by omega)];have hd:=c.getD k;generalize l.getD k 0=d at*
  have e:aj (bS (o++ [d / 65536,d / 256 % 256,d % 256]))=aj (bS o)*16777216+d:=by
   rw [show o++ [d / 65536,d / 256 % 256,d % 256]=((o++ [d / 65536])++ [d / 256 % 256])++ [d % 256] by simp,FN,FN,FN];simp only [bS,Xqf,Xjc];rw [kr,kr,kr,toNat_ofNat (show d / 65536<256 by omega),toNat_ofNat (Xq4 _ (by omega)),toNat_ofNat (Xq4 _ (by omega))];omega
  rw [e,Xxy,Xxh,Xqj (16777216^k) 16777216,Xqv,Xqj d];omega
def P4 (l:List Nat):AV:=match l with| []=> .nilS|x::l=> .ref 0 0 0 (x::l).length
def P5 (l:List Nat):Hp:=match l with| []=> []|x::l=> [(0,⟨lg (x::l),0,false,0,1,true⟩)]
theorem wM {l:List Nat} (h:l ≠ []):P4 l= .ref 0 0 0 l.length:=by cases l with|nil=>exact absurd rfl h|cons _ _=>rfl
theorem wN {l:List Nat} (h:l ≠ []):P5 l= [(0,⟨lg l,0,false,0,1,true⟩)]:=by cases l with|nil=>exact absurd rfl h|cons _ _=>rfl
def WH (l:List Nat) (nn:Bool) (p:Nat × List Nat):St:=⟨[(0,.sl (aA l) l.length nn),(3,P4 p.2),(4,ω ((p.1:Int) - 1))],P5 p.2,.dead,[]⟩
def NL (o:List Nat):St:=⟨[(3,P4 o)],P5 o,.dead,[]⟩
theorem Te (o:List Nat) (a b c:Nat):lg o++ [Xxx .u8 (a:Int),Xxx .u8 (b:Int),Xxx .u8 (c:Int)]=lg (o++ [a,b,c]):=by simp [lg]
theorem TZ:(2:Nat)^16=65536:=by decide
theorem Z8:(2:Nat)^8=256:=by decide
theorem RL {nt:Nat} (g:35<=nt) (l:List Nat) (f:Bool) (p:l.length<2^36) (h:eN l):∀ (k:Nat) (o:List Nat),k<=l.length->o.length+3*k=3*l.length->aB prog ap [] nt (af 0 (am f88)) (λ_=> .exit 0) (WH l f) NL (k,o) (o++LN l k):=by
 intro k
 induction k with
 | zero=>
  intro o _ _;simp only [LN,Xqd];refine .done ?_;unfold WH NL;rcases Xjb (o= []) with rfl|hne
  .exact RO g l [] f
  .rw [wM hne,wN hne];exact RM g l o f
 | succ k ih=>
  intro o q n;have hd:=h.getD k;have m:(((k+1:Nat):Int) - 1)=(k:Int):=by omega
  have j:γ .i64 ((k:Int) - ((1:Nat):Int))=(k:Int) - 1:=cf (by omega) (by omega);have hnext:=ih (o++ [l.getD k 0 / 65536,l.getD k 0 / 256 % 256,l.getD k 0 % 256]) (by omega) (by simp;omega);rw [Xqe] at hnext;simp only [LN];refine .next ?_ hnext
  unfold WH;rw [m];generalize i:l.getD k 0=d at*
  have c:o++ [d / 65536,d / 256 % 256,d % 256] ≠ []:=by simp
  rcases Xjb (o= []) with rfl|hne
  .have e:=WJ g l [] k f;simp (disch:=first|omega|(simp [aq,ay]<;>omega)) only [aF,Xqi,iE,i,dY,dg,bM,bL,bX,j,bo,show min 16 64=16 from rfl,iT,TZ,XT,χ,show min 8 64=8 from rfl,Z8] at e;simp only [Xqb,P4,P5,lg,Xqf,Xjc,ο,Ξ] at e ⊢;apply e<;>first|exact True.intro|omega|assumption|exact rfl
  .have e:=WI g l o k f;rw [wM hne,wN hne,wM c,wN c];simp (disch:=first|omega|(simp [aq,ay]<;>omega)) only [eV,bM,Xqi,ay,aF,iE,i,dY,dg,bL,bX,j,Jg,Xxc,bo,show min 16 64=16 from rfl,iT,TZ,XT,χ,show min 8 64=8 from rfl,Z8,Te] at e;simp only [ξ,ο,Ξ];apply e<;>first|exact True.intro|omega|assumption|exact rfl
theorem NS (l:List Nat) (f:Bool) (m:l.length<2^36) (c:eN l):CO 88 [.sl (aA l) l.length f] (.ret (.str (ae (gr l)))):=by
 have hloop:=λnt (hn:35<=nt)=>RL hn l f m c l.length [] (κ _) (by simp)
 have e:=HJ c l.length [] (κ _);have n:(LN l l.length).length=3*l.length:=by
  have:∀ k,(LN l k).length=3*k:=by
   intro k
   induction k with
   |zero=>rfl
   |succ k ih=>simp only [LN,ξ,ο,Ξ,ih];omega
  exact this _
 have i:γ .i64 ((l.length:Int) - ((1:Nat):Int))=(l.length:Int) - 1:=GA (by omega);simp only [Xqb] at hloop e;rw [Xxc,show aj (bS [])=0 from rfl,Nat.zero_mul,Ψ] at e;generalize LN l l.length=o at*
 rcases Xjb (o= []) with rfl|hne
 .rw [<- e];exact RP l [] f (aB.blk hloop (by simp) rfl (aD.of ⟨rfl,rfl,congrArg _ i,trivial⟩) (aD.of ⟨rfl,trivial⟩)) (eX [] (by simp))
 .have h:=RN l o f;have j:=eX (bS o) (by simp [bS];omega);rw [e] at j;have g:τ o.length (lg o)=lg o:=by rw [Jg,Xxc]
  simp (disch:=first|omega|(simp [aq,ay]<;>omega)) only [Xqi,g,NI,bM,Ym,e] at h;apply h<;>first|exact True.intro|omega|assumption|exact rfl|skip
  .exact ay o
  .have:Xz9 (lg o) (chk (.int .u8))=true:=by
    rw [Xzk];intro x p;obtain ⟨d,_,rfl⟩:=List.mem_map.1 p;rfl
   exact this
  .exact aB.blk hloop (by simp) rfl (aD.of ⟨rfl,rfl,congrArg _ i,trivial⟩) (by unfold NL;rw [wM hne,wN hne];exact aD.of ⟨rfl,trivial⟩)
theorem je (x:Nat) (f:x<9223372036854775808:=by omega):CO 58 [ω (x:Int)] (.ret (.str (ae x))):=by
 rcases Xqh x with rfl|h0
 .exact Xf 0 rfl (eX [] (by simp))
 .have h:=Xe x;have e:∀ k,δ (γ .u8 (Xq1 (x:Int) (2^k)))=x / 2^k % 256:=by
   intro k;rw [iT,XT,aF]
  simp only [show min 56 64=56 from rfl,show min 48 64=48 from rfl,show min 40 64=40 from rfl,show min 32 64=32 from rfl,show min 24 64=24 from rfl,show min 16 64=16 from rfl,show min 8 64=8 from rfl,show min 0 64=0 from rfl,e] at h;have c:=eX [Xql (x / 2^56 % 256),Xql (x / 2^48 % 256),Xql (x / 2^40 % 256),Xql (x / 2^32 % 256),Xql (x / 2^24 % 256),Xql (x / 2^16 % 256),Xql (x / 2^8 % 256),Xql (x / 2^0 % 256)] (by simp);have d:aj [Xql (x / 2^56 % 256),Xql (x / 2^48 % 256),Xql (x / 2^40 % 256),Xql (x / 2^32 % 256),Xql (x / 2^24 % 256),Xql (x / 2^16 % 256),Xql (x / 2^8 % 256),Xql (x / 2^0 % 256)]=x:=by
   have t:∀ y,(Xql (y % 256)).toNat=y % 256:=λy=>toNat_ofNat (Xq4 _ (by omega))
   simp only [aj,List.foldl_cons,List.foldl_nil,t];omega
  rw [d] at c h;apply h
  .rw [bL];exact Yq0 h0
  .exact c
def TP (s:List UInt8) (k:Nat):St:=(Jb s ((aj (s.take k):Nat):Int) (k:Int))
def Gu (s:List UInt8) (k:Nat):St:=(qT (ω ((aj (s.take k):Nat):Int)))
theorem Ab {s:List UInt8} {k:Nat} (h:k<s.length):aj (s.take (k+1))=aj (s.take k)*256+(s.getD k 0).toNat:=by
 rw [Xw5,ν h,μ,ν h];exact kr _ _
theorem Du (s:List UInt8) (k:Nat):aj (s.take k)<=aj s:=by
 rcases Xjg k s.length with h|h
 .have e:s=s.take k++s.drop k:=(Xz2 k s).symm;have:∀ (b a:List UInt8),aj a<=aj (a++b):=by
   intro b
   induction b with
   |nil=>intro a;simp
   |cons c r ih=>
    intro a;have d:=ih (a++ [c]);rw [kr,Xqe] at d;simp only [List.cons_append,Xqb] at d;omega
  calc aj (s.take k)<=aj (s.take k++s.drop k):=this _ _
   _=aj s:=by rw [<- e]
 .rw [Xqa h];exact κ _
theorem M8 {nt:Nat} (i:35<=nt) (s:List UInt8) (hs:s.length<2^40) (q:aj s<9223372036854775808):∀ (d k:Nat),k+d=s.length->aB prog ap [] nt (af 0 (am f95)) (λ_=> .exit 0) (TP s) (Gu s) k s.length:=by
 intro d
 induction d with
 |zero=>
  intro k o;have f:k=s.length:=by omega
  subst f;exact .done (WW i s _ _ (by rw [bL];simp [lit]))
 | succ d ih=>
  intro k o;have g:k<s.length:=by omega
  refine .next ?_ (ih (k+1) (by omega))
  have e:=WV i s (aj (s.take k)) k;rw [aF] at e;have l:=Du s (k+1);have h:=Ab g;have p:(s.getD k 0).toNat<256:=Xk3 _;unfold TP;rw [h];rw [h] at l;generalize (s.getD k 0).toNat=c at*
  generalize aj (s.take k)=v at*
  have m:γ .i64 ((v:Int)*2^(min 8 64))=((v*256:Nat):Int):=by
   rw [show min 8 64=8 from rfl,cf]<;>omega
  have n:(((v*256:Nat):Int))+(c:Int)=((v*256+c:Nat):Int):=by omega
  have j:γ .i64 (c:Int)=(c:Int):=bi (by omega);rw [j,m,n,bi (by omega)] at e;simp (disch:=first|omega|(simp [aq,ay]<;>omega)) only [dg,bM,bL,bX,cA,bi] at e;apply e<;>first|exact True.intro|omega|assumption|exact rfl
theorem tH {x k:Nat}:(ae x).length<=k↔x<2^(8*k):=by
 constructor
 .intro h;have c:=eD (ae x);rw [aE] at c;exact υ c (Θ (by omega) (by omega))
 .exact bN
theorem Wk (s:List UInt8) (hs:s.length<2^40) (k:aj s<9223372036854775808):CO 95 [.str s] (.ret (.tup [ω ((aj s:Nat):Int),.bool true])):=by
 have l:=eX s hs;have d:=aE (aj s);have m:(ae (aj s)).length<=8:=bN (υ k (by decide));have hloop:=λnt (g:35<=nt)=>M8 g (ae (aj s)) (by omega) (by rw [d];exact k) (ae (aj s)).length 0 (by omega)
 have hless:aD (qT (ω ((aj s:Nat):Int))) (Gu (ae (aj s)) (ae (aj s)).length):=by
  unfold Gu;rw [Xxc,d];exact aD.refl _
 have h:=Sr s (aj s);have j:=Ss s (aj s);have f:(ae (aj s)).length=8->((ae (aj s)).getD 0 0).toNat<=127:=by
  intro e;cases g:ae (aj s) with
  |nil=>rw [g] at e;cases e
  |cons c r=>
   rw [g] at e d;rw [ga] at d;have:r.length=7:=by simpa using e
   rw [this,show 256^7=72057594037927936 from rfl] at d;simp only [Xzu];omega
 generalize ae (aj s)=t at*
 by_cases e:t.length=8
 .have i:=f e;simp (disch:=first|omega|(simp [aq,ay]<;>omega)) only [bL,dI,dV,eK,e,bM,qM,decide_true,bX] at h;apply h<;>first|exact True.intro|omega|assumption|exact rfl|skip
  exact aB.blk hloop (by simp) rfl (aD.of ⟨rfl,rfl,rfl,trivial⟩) hless
 .simp (disch:=first|omega|(simp [aq,ay]<;>omega)) only [qM,e,decide_false,dI,Xq6,bL,dV,eK] at j;apply j<;>first|exact True.intro|omega|assumption|exact rfl|skip
  exact aB.blk hloop (by simp) rfl (aD.of ⟨rfl,rfl,rfl,trivial⟩) hless
theorem nr (s:List UInt8) (b:Nat) (hs:s.length<2^40) (e:b<=7) (d:aj s<2^(8*b)):CO 86 [.str s,ω (b:Int)] (.ret (.tup [ω ((aj s:Nat):Int),.bool true])):=by
 have h:=ab1 s (aj s) b;have c:aj s<9223372036854775808:=υ d (Xqs (Θ (by omega) (show 8*b<=63 by omega)) (by decide));have f:=tH.2 d;simp (disch:=first|omega|(simp [aq,ay]<;>omega)) only [bL,dI,dV,eK] at h;exact h (by omega) (eX s hs) (Wk s hs c)
theorem Ow (s:List UInt8):CO 130 [.str s] (.ret (.bool (nR s))):=by
 cases s with
 |nil=>exact aaJ [] rfl
 | cons c r=>
  have h:=aaK (c::r);have e:(!((((c::r).getD 0 0).toNat:Int)==((0:Nat):Int)))=nR (c::r):=by
   simp only [Xzu,nR];by_cases hc:c=0
   .subst hc;rfl
   .have:c.toNat ≠ 0:=λh=>hc (by apply UInt8.toNat_inj.1;simpa using h)
    have d:((c.toNat:Int)==((0:Nat):Int))=false:=by simp;omega
    rw [d];simp [hc]
  rw [e] at h;apply h
  .simp
  .simp [lit];omega
theorem vu:∀ (a b:List UInt8),a.length=b.length->dX a b=decide (aj a<aj b)
 | [],[],_=>rfl
 | [],_::_,h=>by simp at h
 |_::_,[],h=>by simp at h
 | x::a,y::b,h=>by
  have d:a.length=b.length:=by simpa using h
  have j:=vu a b d;have i:=eD a;have k:=eD b;simp only [dX,j];rw [ga,ga,d,show (256:Nat)=2^8 from rfl,<- Xjs];rw [d] at i;have f:decide (x<y)=decide (x.toNat<y.toNat):=by simp [UInt8.lt_iff_toNat_lt]
  have e:(x==y)=decide (x.toNat=y.toNat):=by
   by_cases h:x=y
   .subst h;simp
   .have:x.toNat ≠ y.toNat:=λg=>h (UInt8.toNat_inj.1 g)
    simp [h,this]
  rw [f,e];generalize 2^(8*b.length)=M at*
  generalize aj a=u at*
  generalize aj b=v at*
  generalize x.toNat=p at*
  generalize y.toNat=q at*
  rcases Xz6 p q with h3|h3|h3
  .have c:(p+1)*M<=q*M:=Xqz _ h3;rw [Xxy,Xwj] at c;rw [Yq0 h3,Yq0 (show p*M+u<q*M+v by omega)];rfl
  .subst h3;rw [Yq1 (Xkb _),Yq0 rfl];simp
  .have c:(q+1)*M<=p*M:=Xqz _ h3;rw [Xxy,Xwj] at c;rw [Yq1 (show ¬ p<q by omega),Yq1 (show ¬ p=q by omega),Yq1 (show ¬ p*M+u<q*M+v by omega)];rfl
theorem vP {x y:Nat} (h:(ae x).length<(ae y).length):x<y:=by
 rcases Xjg x y with h1|h1
 .exact h1
 .have c:y<=aj (ae x):=by rw [aE];exact h1
  have:=jR c;omega
theorem C9 (s t:List UInt8) (hs:s.length<2^40) (m:t.length<2^40):CO 51 [.str s,.str t] (.ret (ω (jr (aj s) (aj t)))):=by
 have e:=eX s hs;have f:=eX t m;have k:=aE (aj s);have l:=aE (aj t);unfold jr;by_cases hl:(ae (aj s)).length=(ae (aj t)).length
 .have d:=vu _ _ hl;rw [k,l] at d;have i:(ae (aj s)==ae (aj t))=decide (aj s=aj t):=by
   by_cases h:aj s=aj t
   .rw [h];simp
   .have:ae (aj s) ≠ ae (aj t):=λj=>h (yV j)
    simp [h,this]
  have c:lit false (!((((ae (aj s)).length:Nat):Int)==(((ae (aj t)).length:Nat):Int)))=true:=by rw [hl];simp [lit]
  by_cases h1:aj s<aj t
  .rw [if_pos h1];exact Sk s t (by rw [d,Yq0 h1];rfl) c e f
  .rw [if_neg h1];by_cases g:aj t<aj s
   .rw [if_pos g];exact Sl s t (by rw [d,i,Yq1 h1,Yq1 (show ¬ aj s=aj t by omega)];rfl) (by rw [d,Yq1 h1];rfl) c e f
   .rw [if_neg g];exact Sm s t (by rw [d,i,Yq1 h1,Yq0 (show aj s=aj t by omega)];rfl) (by rw [d,Yq1 h1];rfl) c e f
 .have c:lit true (!((((ae (aj s)).length:Nat):Int)==(((ae (aj t)).length:Nat):Int)))=true:=by rw [qM,Yq1 hl];rfl
  by_cases h1:(ae (aj s)).length<(ae (aj t)).length
  .rw [if_pos (vP h1)];exact Si s t (by rw [bL,Yq0 h1];rfl) c e f
  .have g:=vP (show (ae (aj t)).length<(ae (aj s)).length by omega);rw [if_neg (by omega),if_pos g];exact Sj s t (by rw [bL,Yq1 h1];rfl) c e f
theorem Z0 {nt:Nat} (g:35<=nt) (s:List UInt8) (o:List Nat) (e d k:Nat) (h0:Va3 k) (c:(decide ((k:Int)<(((θ s):Nat):Int)))=true) (f:lit true (decide ((k:Int)<(e:Int)))=true):ag prog ap [] nt (af 2 (am f87)) (Pj s e (d:Int) (k:Int)) (.normal) (Pj s e (γ .i64 ((γ .i64 ((d:Int)*((256:Nat):Int)))+(γ .i64 ((Xxr (Xje s (δ (k:Int)) 0):Nat):Int)))) (γ .i64 ((k:Int)+((1:Nat):Int)))):=pJ 87 [] 1 1 (.c h0 (.c c (.c f .nil))) (.nil) g
theorem Z1 {nt:Nat} (c:35<=nt) (s:List UInt8) (o:List Nat) (e d k:Nat) (h0:lit false (decide ((k:Int)<(e:Int)))=true):ag prog ap [] nt (af 2 (am f87)) (Pj s e (d:Int) (k:Int)) (.exit 2) ⟨[(0,.str s),(3,.nilS),(4,ω (e:Int)),(5,ω (d:Int))],[],.dead,[]⟩:=pJ 87 [] 1 0 (.c h0 .nil) (.nil) c
theorem ZY {nt:Nat} (g:35<=nt) (s:List UInt8) (o:List Nat) (e d k:Nat) (h0:Va3 k) (c:(decide ((k:Int)<(((θ s):Nat):Int)))=true) (f:lit true (decide ((k:Int)<(e:Int)))=true):ag prog ap [] nt (af 2 (am f87)) (Pk s o.length e (d:Int) (k:Int) (aA o)) (.normal) (Pk s o.length e (γ .i64 ((γ .i64 ((d:Int)*((256:Nat):Int)))+(γ .i64 ((Xxr (Xje s (δ (k:Int)) 0):Nat):Int)))) (γ .i64 ((k:Int)+((1:Nat):Int))) (aA o)):=pJ 87 [] 1 1 (.c h0 (.c c (.c f .nil))) (.nil) g
theorem ZZ {nt:Nat} (c:35<=nt) (s:List UInt8) (o:List Nat) (e d k:Nat) (h0:lit false (decide ((k:Int)<(e:Int)))=true):ag prog ap [] nt (af 2 (am f87)) (Pk s o.length e (d:Int) (k:Int) (aA o)) (.exit 2) ⟨[(0,.str s),(3,.ref 0 0 0 o.length),(4,ω (e:Int)),(5,ω (d:Int))],[(0,⟨(aA o),0,false,0,1,true⟩)],.dead,[]⟩:=pJ 87 [] 1 0 (.c h0 .nil) (.nil) c
theorem ZU {nt:Nat} (e:35<=nt) (s:List UInt8) (o:List Nat) (z:Int) (d:Nat) (h0:lit true (decide (((0:Nat):Int)<z))=true) (c:LB 35 2 f87 (Pm s (.dead) z (ω 0) (ω (if ((0:Nat):Int)>(γ .i64 (z - ((3:Nat):Int))) then ((0:Nat):Int) else (γ .i64 (z - ((3:Nat):Int))))) (.bool (decide (((0:Nat):Int)<z)))) (.normal) ⟨[(0,.str s),(4,ω z),(5,ω (d:Int)),(3,.nilS)],[],.dead,[]⟩):ψ nt f87 (Ja (.str s) z) (.normal) (wj (.str s) 1 (γ .i64 (z - ((3:Nat):Int))) [ω (d:Int)]):=pJ 87 [2] 2 1 (.k 3 h0 .nil) (.l c .nil) e
theorem ZV {nt:Nat} (c:35<=nt) (s:List UInt8) (o:List Nat) (z:Int) (d:Nat) (h0:lit false (decide (((0:Nat):Int)<z))=true):ψ nt f87 (Ja (.str s) z) (.exit 0) (wg (.nilS)):=pJ 87 [2] 1 0 (.c h0 .nil) (.nil) c
theorem WN (s:List UInt8) (o:List Nat) (d:Va6 s) (c:LB 35 0 f87 (Pm (ae (aj s)) (.nilS) (((θ (ae (aj s))):Nat):Int) (.dead) (.dead) (.dead)) (.normal) (wg (.nilS))):CO 87 [.str s] (.ret (.nilS)):=pK [0] 0 0 .nil (.l c (.c d .nil))
theorem ZP {nt:Nat} (g:35<=nt) (s:List UInt8) (o:List Nat) (z:Int) (d:Nat) (h0:(Xqr (o.length+1) 1099511627776)=true) (c:(Xqr (o.length*1) (θ (aA o)))=true) (e:lit true (decide (((0:Nat):Int)<z))=true) (f:LB 35 2 f87 ⟨[(0,.str s),(2,.dead),(3,.ref 0 0 0 o.length),(4,ω z),(5,ω 0),(6,ω (if ((0:Nat):Int)>(γ .i64 (z - ((3:Nat):Int))) then ((0:Nat):Int) else (γ .i64 (z - ((3:Nat):Int))))),(12,.bool (decide (((0:Nat):Int)<z))),(20,.dead)],[(0,⟨(aA o),0,false,0,1,true⟩)],.dead,[]⟩ (.normal) ⟨[(0,.str s),(4,ω z),(5,ω (d:Int)),(3,.ref 0 0 0 o.length)],[(0,⟨(aA o),0,false,0,1,true⟩)],.dead,[]⟩):ψ nt f87 (wj (.str s) o.length z (aA o)) (.normal) (wj (.str s) (o.length+1) (γ .i64 (z - ((3:Nat):Int))) ((τ (o.length*1) (aA o))++ [ω (d:Int)])):=pJ 87 [2] 1 1 (.k 1 h0 (.c c (.k 1 e .nil))) (.l f .nil) g
theorem ZQ {nt:Nat} (c:35<=nt) (s:List UInt8) (o:List Nat) (z:Int) (d:Nat) (h0:lit false (decide (((0:Nat):Int)<z))=true):ψ nt f87 (wj (.str s) o.length z (aA o)) (.exit 0) (wi o.length (aA o)):=pJ 87 [2] 1 0 (.c h0 .nil) (.nil) c
theorem WM (s:List UInt8) (o:List Nat) (d:Va6 s) (c:LB 35 0 f87 (Pm (ae (aj s)) (.nilS) (((θ (ae (aj s))):Nat):Int) (.dead) (.dead) (.dead)) (.normal) (wi o.length (aA o))):CO 87 [.str s] (.ret (.own (τ (o.length*1) (aA o)) o.length 1)):=pK [0] 0 0 .nil (.l c (.c d .nil))
def NZ (s:List UInt8) (o:List Nat) (e j k:Nat):St:=⟨[(0,.str s),(3,Lj o),(4,ω (e:Int)),(5,ω ((aj ((s.take k).drop j):Nat):Int)),(6,ω (k:Int))],Ll o,.dead,[]⟩
def NY (s:List UInt8) (o:List Nat) (e d:Nat):St:=⟨[(0,.str s),(3,Lj o),(4,ω (e:Int)),(5,ω (d:Int))],Ll o,.dead,[]⟩
theorem Kx {s:List UInt8} {j k:Nat} (h:k<s.length) (c:j<=k):aj ((s.take (k+1)).drop j)=aj ((s.take k).drop j)*256+(s.getD k 0).toNat:=by
 rw [Xw5,ν h,List.drop_append_of_le_length (by simp;omega),μ,ν h];exact kr _ _
theorem Iq {s:List UInt8} {j k:Nat} (h:k<=j+3):aj ((s.take k).drop j)<16777216:=by
 have c:=eD ((s.take k).drop j);have d:((s.take k).drop j).length<=3:=by simp;omega
 exact υ c (Xqs (Θ (by omega) (show 8*((s.take k).drop j).length<=24 by omega)) (by decide))
theorem RV {nt:Nat} (h:35<=nt) (s:List UInt8) (o:List Nat) (e j:Nat) (hs:s.length<2^40) (u:e<=s.length) (t:e<=j+3):∀ (n k:Nat),k+n=e->j<=k->aB prog ap [] nt (af 2 (am f87)) (λ_=> .exit 2) (NZ s o e j) (NY s o e) k (aj ((s.take e).drop j)):=by
 intro n
 induction n with
 | zero=>
  intro k r f;have i:k=e:=by omega
  subst i;refine .done ?_;unfold NZ NY;rcases Xjb (o= []) with rfl|hne
  .exact Z1 h s [] k _ k (by rw [bL];simp [lit])
  .rw [fu hne,fw hne];exact ZZ h s o k _ k (by rw [bL];simp [lit])
 | succ n ih=>
  intro k r f;refine .next ?_ (ih (k+1) (by omega) (by omega))
  have l:k<s.length:=by omega
  have v:=Iq (s:=s) (j:=j) (k:=k) (by omega);have x:(s.getD k 0).toNat<256:=Xk3 _;have q:=Kx l f;unfold NZ;rw [q];generalize p:(s.getD k 0).toNat=c at*
  generalize aj ((s.take k).drop j)=d at*
  clear ih q;have w:γ .i64 ((d:Int)*((256:Nat):Int))=((d*256:Nat):Int):=by rw [cf]<;>omega
  have m:(((d*256:Nat):Int))+(c:Int)=((d*256+c:Nat):Int):=by omega
  rcases Xjb (o= []) with rfl|hne
  .have g:=Z0 h s [] e d k;simp (disch:=first|omega|(simp [aq,ay]<;>omega)) only [dg,bM,bL,bX,xN,bi,aF,p,m,cA] at g;apply g<;>first|exact True.intro|omega|assumption|exact rfl
  .have g:=ZY h s o e d k;rw [fu hne,fw hne];simp (disch:=first|omega|(simp [aq,ay]<;>omega)) only [dg,bM,bL,bX,xN,bi,aF,p,m,cA] at g;apply g<;>first|exact True.intro|omega|assumption|exact rfl
def Kw (s:List UInt8) (p:Int × List Nat):St:=⟨[(0,.str s),(3,Lj p.2),(4,ω p.1)],Ll p.2,.dead,[]⟩
def Io (o:List Nat):St:=⟨[(3,Lj o)],Ll o,.dead,[]⟩
theorem RU {nt:Nat} (g:35<=nt) (s:List UInt8) (o:List Nat) (e:Nat) (hs:s.length<2^38) (k:e<=s.length) (h0:0<e) (l:o.length<2^39):
  ψ nt f87 (Kw s ((e:Int),o)) .normal (Kw s ((e:Int) - 3,o++ [aj ((s.take e).drop (e - 3))])):=by
 have hloop:=λnt (g:35<=nt)=>RV g s o e (e - 3) (by omega) k (by omega) (e - (e - 3)) (e - 3) (by omega) (κ _)
 have i:γ .i64 ((e:Int) - ((3:Nat):Int))=(e:Int) - 3:=cf (by omega) (by omega);have h:(if ((0:Nat):Int)>(e:Int) - 3 then ((0:Nat):Int) else (e:Int) - 3)=((e - 3:Nat):Int):=by
  split<;>omega
 have f:aj ((s.take (e - 3)).drop (e - 3))=0:=by
  rw [Xjo (by simp;omega)];rfl
 have j:(ε (e - 3) (τ e s)).length<=3:=by simp;omega
 unfold Kw;generalize aj ((s.take e).drop (e - 3))=d at*
 rcases Xjb (o= []) with rfl|hne
 .have c:=ZU g s [] (e:Int) d;rw [i,h] at c;simp (disch:=first|omega|(simp [aq,ay]<;>omega)) only [bL,bX,bM] at c;simp only [Xqb,Lj,Ll,aA,Xqf,Xjc,ο,Ξ] at c ⊢;apply c
  .omega
  .refine aB.blk hloop (by simp) rfl ?_ (aD.of ⟨rfl,rfl,rfl,rfl,trivial⟩);unfold NZ;rw [f];exact aD.of ⟨rfl,rfl,rfl,rfl,rfl,trivial⟩
 .have c:=ZP g s o (e:Int) d;rw [i,h] at c;rw [fu hne,fw hne,fu (gO _ _),fw (gO _ _)];simp (disch:=first|omega|(simp [aq,ay]<;>omega)) only [eV,bM,Xqi,fH,bL,bX,gI,Xxc,mS] at c;simp only [ξ,Δ];apply c<;>first|exact True.intro|omega|assumption|exact rfl|skip
  .refine aB.blk hloop (by simp) rfl ?_ ?_
   .unfold NZ;rw [f,fu hne,fw hne];exact aD.of ⟨rfl,rfl,rfl,rfl,rfl,trivial⟩
   .unfold NY;rw [fu hne,fw hne];exact aD.of ⟨rfl,rfl,rfl,rfl,trivial⟩
theorem NU {nt:Nat} (d:35<=nt) (s:List UInt8) (o:List Nat) (z:Int) (e:z<=0):ψ nt f87 (Kw s (z,o)) (.exit 0) (Io o):=by
 unfold Kw Io;have c:lit false (decide (((0:Nat):Int)<z))=true:=by simp [lit];exact e
 rcases Xjb (o= []) with rfl|hne
 .exact ZV d s [] z 0 c
 .rw [fu hne,fw hne];exact ZQ d s o z 0 c
theorem YB {s:List UInt8} {e:Nat} (g:e<=s.length):aj (s.take e)=16777216*aj (s.take (e - 3))+aj ((s.take e).drop (e - 3)):=by
 have c:∀ (b a:List UInt8),aj (a++b)=aj a*256^b.length+aj b:=by
  intro b a;unfold aj;rw [Xw8,A5];rfl
 have hs:s.take e=s.take (e - 3)++(s.take e).drop (e - 3):=by
  have d:=Xz2 (e - 3) (s.take e);rw [List.take_take,Xjp (by omega)] at d;exact d.symm
 have f:=c ((s.take e).drop (e - 3)) (s.take (e - 3));rw [<- hs] at f;rw [f];rcases Xjg e 3 with h3|h3
 .have:e - 3=0:=by omega
  rw [this];simp [aj]
 .have:((s.take e).drop (e - 3)).length=3:=by simp;omega
  rw [this,Xqj,show 256^3=16777216 from rfl]
theorem NV {nt:Nat} (g:35<=nt) (s:List UInt8) (hs:s.length<2^38) (l:nR s=true):∀ (n e:Nat) (o:List Nat),e<n->e<=s.length->o.length+e<2^39->aB prog ap [] nt (af 0 (am f87)) (λ_=> .exit 0) (Kw s) Io ((e:Int),o) (o++cI (aj (s.take e))):=by
 intro n
 induction n with
 |zero=>intro e o h;omega
 | succ n ih=>
  intro e o h d u;rcases Xqh e with rfl|h0
  .have:aj (s.take 0)=0:=rfl;rw [this,fU,Xqd];exact .done (NU g s o _ (by omega))
  .have t:0<aj (s.take e):=by
    cases s with
    |nil=>simp at d;omega
    | cons c r=>
     have q:c ≠ 0:=by simpa [nR] using l
     have f:0<c.toNat:=by
      rcases Xqh c.toNat with h|h
      .exact absurd (by apply UInt8.toNat_inj.1;simpa using h) q
      .exact h
     obtain ⟨e',rfl⟩:∃ e',e=e'+1:=⟨e - 1,by omega⟩
     rw [List.take_succ_cons,ga];have:=Xjh f (show 0<256^(r.take e').length from Nat.pow_pos (by omega));omega
   have p:=YB d;have hd:=Iq (s:=s) (j:=e - 3) (k:=e) (by omega);have hstep:=RU g s o e hs d h0 (by omega);rw [oY t,show aj (s.take e) % 16777216=aj ((s.take e).drop (e - 3)) by omega,show aj (s.take e) / 16777216=aj (s.take (e - 3)) by omega];rcases Xjg e 3 with h3|h3
   .have i:e - 3=0:=by omega
    have m:aj (s.take (e - 3))=0:=by rw [i];rfl
    rw [m,fU];exact .next hstep (.done (NU g s _ _ (by omega)))
   .have hnext:=ih (e - 3) (o++ [aj ((s.take e).drop (e - 3))]) (by omega) (by omega) (by simp;omega);rw [Xqe] at hnext;rw [show ((e:Int) - 3)=((e - 3:Nat):Int) by omega] at hstep;exact .next hstep hnext
theorem Ua (s:List UInt8) (hs:s.length<2^37):CO 87 [.str s] (.ret (.sl (aA (cI (aj s))) (cI (aj s)).length false)):=by
 have d:=eX s (by omega);have e:(ae (aj s)).length<=s.length:=jR (κ _);have c:=aE (aj s);have hloop:=λnt (hn:35<=nt)=>NV hn (ae (aj s)) (by omega) (tG _) ((ae (aj s)).length+1) (ae (aj s)).length [] (by omega) (κ _) (by simp;omega)
 rw [Xxc,c,Xqb] at hloop;generalize hd:cI (aj s)=o at*
 rcases Xjb (o= []) with rfl|hne
 .have h:=WN s [] d (aB.blk hloop (by simp) rfl (aD.of ⟨rfl,rfl,rfl,trivial⟩) (aD.of ⟨rfl,trivial⟩));exact h.out (gz.ret rfl rfl (bC.nilS false rfl))
 .have h:=(WM s o d (aB.blk hloop (by simp) rfl (aD.of ⟨rfl,rfl,rfl,trivial⟩) (by unfold Io;rw [fu hne,fw hne];exact aD.of ⟨rfl,trivial⟩))).thaw (by simp);simp only [ny,thaw,Xqi,gI,Xxc] at h;exact h.out (gz.sl1 _ _ _)
theorem ac1 (s t:List UInt8) (x y q r:Nat) (h0:(!((y:Int)==((0:Nat):Int)))=true) (d:lit false ((((θ (ae (aj t))):Nat):Int)==((0:Nat):Int))=true) (h:Va6 t) (f:CO 86 [.str s,ω 7] (Vat x)) (g:CO 86 [.str (ae (aj t)),ω 7] (Vat y)) (c:CO 58 [ω (γ .i64 (Xxb (x:Int) (y:Int)))] (Vaj q)) (e:CO 58 [ω (Xxp (x:Int) (y:Int))] (Vaj r)):CO 90 [.str s,.str t] (.ret (.tup [.str (ae q),.str (ae r),.bool true])):=pK [0] 3 6 (.c h0 (.c h0 (.k 2 d .nil))) (.c e (.c c (.c g (.c f (.c h .nil)))))
theorem Dd (s t:List UInt8) (hs:s.length<=7) (v:t.length<=7) (h0:0<aj t):CO 90 [.str s,.str t] (.ret (.tup [.str (ae (aj s / aj t)),.str (ae (aj s % aj t)),.bool true])):=by
 have r:=eX t (by omega);have d:=aE (aj t);have n:(ae (aj t)).length<=t.length:=jR (κ _);have j:ae (aj t) ≠ []:=λh=>by have:=db.1 h;omega
 have f:((ae (aj t)).length=0)=False:=by simp;exact j
 have i:aj s<2^(8*7):=υ (eD s) (Θ (by omega) (by omega));have e:aj t<2^(8*7):=υ (eD t) (Θ (by omega) (by omega));have k:=nr s 7 (by omega) (by omega) i;have c:=nr (ae (aj t)) 7 (by omega) (by omega) (by rw [d];exact e);rw [d] at c;have m:aj s<9223372036854775808:=υ i (by decide);have l:aj t<9223372036854775808:=υ e (by decide);have o:=Xxo (aj s) (aj t);have p:=Nat.mod_le (aj s) (aj t);have u:=je (aj s / aj t);have q:=je (aj s % aj t);have h:=ac1 s t (aj s) (aj t) (aj s / aj t) (aj s % aj t);have g:(aj t=0)=False:=by simp;omega
 clear i e hs;simp (disch:=first|omega|(simp [aq,ay]<;>omega)) only [qM,g,decide_false,Xq6,f,dI,FT,bi,FU] at h;apply h<;>first|exact True.intro|omega|assumption|exact rfl
theorem aaC {nt:Nat} (c:25<=nt) (s t q r:List UInt8) (h0:lit true (decide (((0:Nat):Int)<(((θ t):Nat):Int)))=true) (d:CO 90 [.str s,.str t] (.ret (.tup [.str q,.str r,.bool true]))):ψ nt f89 (oN s (.str t)) (.normal) (oN t (.str r)):=pJ 89 [] 1 1 (.c h0 .nil) (.c d .nil) c
theorem aaD {nt:Nat} (c:25<=nt) (s t q r:List UInt8) (h0:lit false (decide (((0:Nat):Int)<(((θ t):Nat):Int)))=true):ψ nt f89 (oN s (.str t)) (.exit 0) (iw (.str s)):=pJ 89 [] 1 0 (.c h0 .nil) (.nil) c
theorem aaA (s t g:List UInt8) (e:Va6 s) (d:Va6 t) (c:LB 25 0 f89 ⟨[(0,.str (ae (aj s))),(1,.str (ae (aj t))),(4,.str []),(6,.dead),(14,.dead)],[],.dead,[]⟩ (.normal) (iw (.str g))):CO 89 [.str s,.str t] (.ret (.str g)):=pK [0] 0 0 .nil (.l c (.c d (.c e .nil)))
def aaB (p:Nat × Nat):St:=(oN (ae p.1) (.str (ae p.2)))
def T_ (x:Nat):St:=(iw (.str (ae x)))
theorem KG {nt:Nat} (g:25<=nt):∀ (n y x:Nat),y<n->(ae x).length<=7->(ae y).length<=7->aB prog ap [] nt (af 0 (am f89)) (λ_=> .exit 0) aaB T_ (x,y) (Xxu x y):=by
 intro n
 induction n with
 |zero=>intro y x h;omega
 | succ n ih=>
  intro y x h i f;rcases Xqh y with rfl|h0
  .rw [Nat.gcd_zero_right];refine .done ?_;unfold aaB T_;rw [cF];exact aaD g (ae x) [] [] [] rfl
  .have k:=Xq4 x h0;have j:(ae (x % y)).length<=7:=by
    have:x % y<=aj (ae y):=by rw [aE];omega
    have:=jR this;omega
   have hnext:=ih (x % y) y (by omega) f j;rw [show Xxu y (x % y)=Xxu x y by rw [Xkq y,<- Nat.gcd_rec,Xkq]] at hnext;refine .next ?_ hnext
   have d:=Dd (ae x) (ae y) i f (by rw [aE];exact h0);rw [aE,aE] at d;have e:ae y ≠ []:=λh=>by have:=db.1 h;omega
   have c:0<(ae y).length:=by
    cases d:ae y with
    |nil=>exact absurd d e
    |cons _ _=>simp
   exact aaC g (ae x) (ae y) _ _ (by rw [bL,bX];exact Yq0 c) d
theorem ID (s t:List UInt8) (hs:s.length<=7) (e:t.length<=7):CO 89 [.str s,.str t] (.ret (.str (ae (Xxu (aj s) (aj t))))):=by
 have f:(ae (aj s)).length<=s.length:=jR (κ _);have d:(ae (aj t)).length<=t.length:=jR (κ _);exact aaA s t _ (eX s (by omega)) (eX t (by omega)) (aB.blk (λnt c=>KG c (aj t+1) (aj t) (aj s) (by omega) (by omega) (by omega)) (by simp) rfl (aD.of ⟨rfl,rfl,trivial⟩) (aD.of ⟨rfl,trivial⟩))
abbrev Vae (a:List UInt8):Prop:=CO 130 [.str a] (.ret (.bool (nR a)))
theorem aae (c:Bool) (n d:List UInt8) (g:Nat) (h0:lit true (!(nR n))=true) (f:Vae n) (e:Vae d):CO 85 [Ω c n d] VaG:=pK [] 3 7 (.k 2 h0 (.n 2 .nil)) (.c e (.c f .nil))
theorem aaf (c:Bool) (n d:List UInt8) (g:Nat) (h0:lit true (!(nR d))=true) (e:lit false (!(nR n))=true) (h:Vae n) (f:Vae d):CO 85 [Ω c n d] VaG:=pK [] 3 6 (.k 1 h0 (.c e (.n 2 .nil))) (.c f (.c h .nil))
theorem aag (c:Bool) (n d:List UInt8) (g:Nat) (h0:lit true (d== [])=true) (e:lit false (!(nR d))=true) (f:lit false (!(nR n))=true) (i:Vae n) (h:Vae d):CO 85 [Ω c n d] VaG:=pK [] 3 4 (.c h0 (.k 1 e (.c f (.n 2 .nil)))) (.c h (.c i .nil))
theorem aah (c:Bool) (n d:List UInt8) (g:Nat) (h0:lit true (!c)=true) (f:lit true (n== [])=true) (h:lit false (d== [])=true) (l:lit false (!(nR d))=true) (i:lit false (!(nR n))=true) (m:Vae n) (j:Vae d) (k:CO 58 [ω 1] VaH) (e:CO 51 [.str d,.str (ae 1)] (.ret (ω (jr (aj d) (aj (ae 1)))))):CO 85 [Ω c n d] (.ret (.bool ((jr (aj d) (aj (ae 1)))==((0:Nat):Int)))):=pK [] 5 24 (.k 1 h0 (.k 1 f (.k 1 h (.k 1 l (.c i (.n 2 .nil)))))) (.c e (.c k (.c j (.c m .nil))))
theorem aai (c:Bool) (n d:List UInt8) (g:Nat) (h0:lit false (!c)=true) (e:lit true (n== [])=true) (f:lit false (d== [])=true) (j:lit false (!(nR d))=true) (h:lit false (!(nR n))=true) (k:Vae n) (i:Vae d):CO 85 [Ω c n d] VaG:=pK [] 5 8 (.c h0 (.k 1 e (.k 1 f (.k 1 j (.c h (.n 2 .nil)))))) (.c i (.c k .nil))
theorem aaj (c:Bool) (n d:List UInt8) (g:Nat) (h0:lit false (n== [])=true) (f:lit false (d== [])=true) (h:lit false (!(nR d))=true) (l:lit false (!(nR n))=true) (m:Vae n) (j:Vae d) (k:CO 89 [.str n,.str d] (Vaj g)) (e:CO 58 [ω 1] VaH) (i:CO 51 [.str (ae g),.str (ae 1)] (.ret (ω (jr (aj (ae g)) (aj (ae 1)))))):CO 85 [Ω c n d] (.ret (.bool ((jr (aj (ae g)) (aj (ae 1)))==((0:Nat):Int)))):=pK [] 4 0 (.k 2 h0 (.k 1 f (.k 1 h (.c l (.n 2 .nil))))) (.c i (.c e (.c k (.c j (.c m .nil)))))
theorem aab (c:Bool) (n d:List UInt8) (g:Nat) (h0:lit true (n== [])=true) (e:CO 58 [ω 1] (.ret (.str (ae 1)))):CO 49 [.bool c,.str n,.str d] (.ret (Ω false [] (ae 1))):=pK [] 1 1 (.k 4 h0 .nil) (.c e .nil)
theorem aac (c:Bool) (n d:List UInt8) (g:Nat) (h0:lit false (n== [])=true) (h:CO 89 [.str n,.str d] (.ret (.str (ae g)))) (e:CO 90 [.str n,.str (ae g)] (.ret (.tup [.str (ae (aj n / g)),.str (ae (aj n % g)),.bool true]))) (f:CO 90 [.str d,.str (ae g)] (.ret (.tup [.str (ae (aj d / g)),.str (ae (aj d % g)),.bool true]))):CO 49 [.bool c,.str n,.str d] (.ret (Ω c (ae (aj n / g)) (ae (aj d / g)))):=pK [] 1 0 (.k 4 h0 .nil) (.c f (.c e (.c h .nil)))
theorem aan (c:Bool) (n d:List UInt8) (h0:lit true (!(gM c n d))=true) (f:CO 85 [Ω c n d] (.ret (.bool (gM c n d)))) (e:CO 58 [ω 1] VaH):CO 47 [Ω c n d] (.ret (Ω false [] (ae 1))):=pK [] 1 1 (.k 4 h0 (.n 3 .nil)) (.c e (.c f .nil))
theorem aao (c:Bool) (n d:List UInt8) (h0:lit false (!(gM c n d))=true) (e:CO 85 [Ω c n d] (.ret (.bool (gM c n d)))):CO 47 [Ω c n d] (.ret (Ω c n d)):=pK [] 1 0 (.k 7 h0 (.n 3 .nil)) (.c e .nil)
theorem aad (v:Int) (x z:Nat) (h0:lit true (decide (((0:Nat):Int)<=v))=true) (d:CO 58 [ω v] (Vaj z)) (c:CO 58 [ω 1] VaH):CO 27 [ω v] (.ret (Ω false (ae z) (ae 1))):=pK [] 1 1 (.k 4 h0 .nil) (.c c (.c d .nil))
theorem aak (c g:Bool) (n d e f:List UInt8) (h0:lit true (e== [])=true) (h:CO 47 [Ω c n d] (.ret (Ω g e f))):CO 54 [Ω c n d] (.ret (ω 0)):=pK [] 1 1 (.c h0 (.n 5 .nil)) (.c h .nil)
theorem aal (c f:Bool) (n d e h:List UInt8) (h0:lit true f=true) (g:lit false (e== [])=true) (i:CO 47 [Ω c n d] (.ret (Ω f e h))):CO 54 [Ω c n d] (.ret (ω (-1))):=pK [] 2 2 (.c h0 (.k 1 g (.n 5 .nil))) (.c i .nil)
theorem aam (c f:Bool) (n d e h:List UInt8) (h0:lit false f=true) (g:lit false (e== [])=true) (i:CO 47 [Ω c n d] (.ret (Ω f e h))):CO 54 [Ω c n d] (.ret (ω 1)):=pK [] 2 0 (.c h0 (.k 1 g (.n 5 .nil))) (.c i .nil)
theorem Xo (s t:List UInt8) (x y z:Nat) (e:CO 86 [.str s,ω 3] (Vat x)) (d:CO 86 [.str t,ω 4] (Vat y)) (c:CO 58 [ω (γ .i64 ((x:Int)*(y:Int)))] (Vaj z)):CO 48 [.str s,.str t] (Vaj z):=pK [] 2 3 (.n 2 .nil) (.c c (.c d (.c e .nil)))
theorem IV {x:Nat}:((jr x (aj (ae 1)))==((0:Nat):Int))=decide (x=1):=by
 rw [aE];unfold jr;rcases Xz6 x 1 with h|h|h
 .rw [if_pos h,Yq1 (by omega)];rfl
 .rw [if_neg (by omega),if_neg (by omega),Yq0 h];rfl
 .rw [if_neg (by omega),if_pos h,Yq1 (by omega)];rfl
theorem G2 (c:Bool) (n d:List UInt8) (A:n.length<=7) (hd:d.length<=7):CO 85 [Ω c n d] (.ret (.bool (gM c n d))):=by
 have k:=Ow n;have l:=Ow d;have v:=je 1;have x:(ae 1).length<=1:=bN (by omega);have z:=C9 d (ae 1) (by omega) (by omega);have y:=ID n d A hd;have q:=@IV (aj d);cases f:nR n with
 |false=>
  have e:gM c n d=false:=by unfold gM;rw [f];rfl
  rw [e];exact aae c n d 0 (by rw [f];rfl) k l
 | true=>
  cases g:nR d with
  |false=>
   have e:gM c n d=false:=by unfold gM;rw [g];simp
   rw [e];exact aaf c n d 0 (by rw [g];rfl) (by rw [f];rfl) k l
  | true=>
   have t:=(kQ n).1 f;have u:=(kQ d).1 g;by_cases hd0:d= []
   .have e:gM c n d=false:=by
     subst hd0;unfold gM;simp [show aj []=0 from rfl]
    rw [e];exact aag c n d 0 (by rw [hd0];rfl) (by rw [g];rfl) (by rw [f];rfl) k l
   .have m:0<aj d:=by
     rcases Xqh (aj d) with h|h
     .rw [h,cF] at u;exact absurd u.symm hd0
     .exact h
    have j:(d== [])=false:=by simpa using hd0
    by_cases hn0:n= []
    .have i:(n== [])=true:=by simpa using hn0
     have p:aj n=0:=by rw [hn0];rfl
     cases c with
     | false=>
      have h:=aah false n d 0 rfl (by rw [i];rfl) (by rw [j];rfl) (by rw [g];rfl) (by rw [f];rfl) k l v z;rw [q] at h;have e:gM false n d=decide (aj d=1):=by
       rw [Xzv,iF,p,Xw6];simp [f,g];omega
      rw [e];exact h
     | true=>
      have h:=aai true n d 0 rfl (by rw [i];rfl) (by rw [j];rfl) (by rw [g];rfl) (by rw [f];rfl) k l;have e:gM true n d=false:=by
       rw [Bool.eq_false_iff];intro h;have:=(iF.1 h).2.2.2.2 rfl;omega
      rw [e];exact h
    .have i:(n== [])=false:=by simpa using hn0
     have o:0<aj n:=by
      rcases Xqh (aj n) with h|h
      .rw [h,cF] at t;exact absurd t.symm hn0
      .exact h
     have w:(ae (Xxu (aj n) (aj d))).length<=d.length:=jR (Xve _ m);have r:=C9 (ae (Xxu (aj n) (aj d))) (ae 1) (by omega) (by omega);have h:=aaj c n d (Xxu (aj n) (aj d)) (by rw [i];rfl) (by rw [j];rfl) (by rw [g];rfl) (by rw [f];rfl) k l y v r;rw [IV,aE] at h;have e:gM c n d=decide (Xxu (aj n) (aj d)=1):=by
      rw [Xzv,iF];simp [f,g,m,o]
     rw [e];exact h
structure RQ where
 neg:Bool
 n:Nat
 d:Nat
def RQ.ok (q:RQ):Prop:=0<q.d/\Xxu q.n q.d=1/\(q.neg=true->0<q.n)
def qA (q:RQ):AV:= .agg [.bool q.neg,.str (ae q.n),.str (ae q.d)]
def q0:RQ:=⟨false,0,1⟩
def gT (neg:Bool) (n d:Nat):RQ:=⟨neg && decide (0<n),n / Xxu n d,d / Xxu n d⟩
def vQ (neg:Bool) (n d:List UInt8):RQ:=if gM neg n d=true then ⟨neg,aj n,aj d⟩ else q0
theorem vS:q0.ok:=⟨by decide,by decide,by simp [q0]⟩
theorem px (q:RQ) (h:q.ok):gM q.neg (ae q.n) (ae q.d)=true:=by
 rw [iF,aE,aE];exact ⟨tG _,tG _,h⟩
theorem H3 {c:Bool} {n d:List UInt8} (h:gM c n d=true):Ω c n d=qA ⟨c,aj n,aj d⟩:=by
 obtain ⟨e,f,_⟩:=iF.1 h;unfold qA;rw [(kQ n).1 e,(kQ d).1 f]
theorem cV (c:Bool) (n d:List UInt8):(vQ c n d).ok:=by
 unfold vQ;split
 .rename_i h;obtain ⟨_,_,f,e,h5⟩:=iF.1 h;exact ⟨f,e,h5⟩
 .exact vS
theorem tD {e:Bool} {n d:Nat} (h:0<d):(gT e n d).ok:=by
 have c:0<Xxu n d:=Xzi _ h;refine ⟨Xvm (Xve _ h) c, ?_, ?_⟩
 .show Xxu (n / Xxu n d) (d / Xxu n d)=1;rw [Nat.gcd_div (Yqv _ _) (Xv3 _ _),Yx9 c]
 .intro f;have:0<n:=by simp [gT] at f;exact f.2
  exact Xvm (Nat.gcd_le_left _ this) c
theorem jE (c:Bool) (n d:List UInt8) (g:n.length<=7:=by omega) (hd:d.length<=7:=by omega):CO 47 [Ω c n d] (.ret (qA (vQ c n d))):=by
 have f:=G2 c n d g hd;unfold vQ;cases e:gM c n d with
 |false=>
  have h:=aan c n d (by rw [e];rfl) f (je 1);rw [if_neg (by simp)];unfold qA q0;rw [cF];exact h
 |true=>
  have h:=aao c n d (by rw [e];rfl) f;rw [if_pos rfl,<- H3 e];exact h
theorem ni (c:Bool) (n d:Nat) (k:(ae n).length<=7) (hd:(ae d).length<=7) (h0:0<d):CO 49 [.bool c,.str (ae n),.str (ae d)] (.ret (qA (gT c n d))):=by
 have g:=ID (ae n) (ae d) k hd;rw [aE,aE] at g;have e:0<Xxu n d:=Xzi _ h0;have l:(ae (Xxu n d)).length<=(ae d).length:=jR (by rw [aE];exact Xve _ h0);have i:=Dd (ae n) (ae (Xxu n d)) k (by omega) (by rw [aE];exact e);have j:=Dd (ae d) (ae (Xxu n d)) hd (by omega) (by rw [aE];exact e);simp only [aE] at i j;rcases Xqh n with rfl|hp
 .have h:=aab c (ae 0) (ae d) 0 (by rw [cF];rfl) (je 1);unfold qA gT;simp only [Xkb,decide_false,Bool.and_false,Xw6,Nat.zero_div,Yx9 h0,cF];rw [cF] at h;exact h
 .have f:ae n ≠ []:=λh=>by have:=db.1 h;omega
  have h:=aac c (ae n) (ae d) (Xxu n d) (by simp [lit,f]);simp only [aE] at h;unfold qA gT;simp only [hp,decide_true,Xwo];exact h g i j
def fQ (q:RQ):Int:=if q.n=0 then 0 else if q.neg then -1 else 1
theorem sn (c:Bool) (n d:List UInt8):ml c n d=fQ (vQ c n d):=by
 unfold ml fQ vQ;cases f:gM c n d with
 |false=>simp [q0]
 | true=>
  simp only [true_and,if_true];by_cases h:0<aj n
  .have e:¬ aj n=0:=by omega
   simp [h,e]
  .have e:aj n=0:=by omega
   simp [e]
theorem Kz (c:Bool) (n d:List UInt8) (j:n.length<=7:=by omega) (hd:d.length<=7:=by omega):CO 54 [Ω c n d] (.ret (ω (ml c n d))):=by
 have f:=jE c n d j hd;rw [sn];generalize vQ c n d=q at*
 obtain ⟨i,N,D⟩:=q;unfold qA at f;unfold fQ;simp only at f ⊢;rcases Xqh N with rfl|hp
 .rw [if_pos rfl];exact aak c i n d (ae 0) (ae D) (by rw [cF];rfl) f
 .have g:ae N ≠ []:=λh=>by have:=db.1 h;omega
  have e:(ae N== [])=false:=by simpa using g
  rw [if_neg (by omega)];cases i with
  |true=>exact aal c true n d (ae N) (ae D) rfl (by rw [e];rfl) f
  |false=>exact aam c false n d (ae N) (ae D) rfl (by rw [e];rfl) f
def sY (neg:Bool) (n d:List UInt8) (a:Nat):Bool:=((neg==false) && ((n==(ae a)) && ((d==(ae 1)) && true)))
theorem bp (a:Nat) (c:a<9223372036854775808:=by omega):CO 27 [ω (a:Int)] (.ret (C8 false a 1)):=
 aad (a:Int) 0 a (by simp [lit]) (je a c) (je 1)
def Jw:List UInt8:= [97,98,99,100,101,102,103,104,105,106,107,108,109,110,111,112,113,114,115,116,117,118,119,120,121,122,48,49,50,51,52,53,54,55,56,57,95]
def inN (c:Nat):Bool:=(decide (97<=c) && decide (c<=122))||(decide (48<=c) && decide (c<=57))||decide (c=95)
def Jv:List Bool:=(List.range 256).map inN
def B_:List AV:=Jv.map AV.bool
theorem Vd:CO 207 [.str Jw] (.ret (.tup [.agg B_,.bool true])):=AU th (lf:=3000) (n:=4) (ans:= []) .nil (by kernel_rfl)
theorem YJ (d:List AV) (c:Nat) (h0:(chk .bool (η (ε (0+((δ (c:Int))*1)) d) .dead))=true) (e:(decide (((0:Nat):Int)<=(c:Int)))=true) (f:(decide ((c:Int)<((256:Nat):Int)))=true):CO 234 [.pp d 0,.int .u8 (c:Int)] (.ret (.bool (Xku (η (ε (0+((δ (c:Int))*1)) d) .dead)))):=pK [] 0 0 (.c h0 (.c e (.c f .nil))) (.nil)
theorem adq {nt:Nat} (f:16<=nt) (s:List UInt8) (c:List AV) (b:Bool) (h0:lit true (!b)=true) (d:(decide (((0:Nat):Int)<(((θ s):Nat):Int)))=true) (e:lit true (decide (((0:Nat):Int)<(((θ s):Nat):Int)))=true) (g:CO 234 [.pp c 0,.int .u8 ((Xxr (Xje s 0 0):Nat):Int)] (.ret (.bool b))):ψ nt f208 (oN s (.pp c 0)) (.exit 0) (iw (.str s)):=pJ 208 [] 2 3 (.c h0 (.k 1 d (.c e .nil))) (.c g .nil) f
theorem adr {nt:Nat} (g:16<=nt) (s:List UInt8) (c:List AV) (b:Bool) (h0:(decide (((1:Nat):Int)<=(((θ s):Nat):Int)))=true) (d:(decide ((((θ s):Nat):Int)<=(((θ s):Nat):Int)))=true) (e:lit false (!b)=true) (h:(decide (((0:Nat):Int)<(((θ s):Nat):Int)))=true) (f:lit true (decide (((0:Nat):Int)<(((θ s):Nat):Int)))=true) (i:CO 234 [.pp c 0,.int .u8 ((Xxr (Xje s 0 0):Nat):Int)] (.ret (.bool b))):ψ nt f208 (oN s (.pp c 0)) (.normal) (oN (ε 1 (τ (δ (((θ s):Nat):Int)) s)) (.pp c 0)):=pJ 208 [] 2 1 (.k 1 h0 (.c d (.c e (.k 1 h (.c f .nil))))) (.c i .nil) g
theorem ads {nt:Nat} (d:16<=nt) (s:List UInt8) (c:List AV) (b:Bool) (h0:lit false (decide (((0:Nat):Int)<(((θ s):Nat):Int)))=true):ψ nt f208 (oN s (.pp c 0)) (.exit 0) (iw (.str s)):=pJ 208 [] 1 0 (.c h0 .nil) (.nil) d
theorem ab6 (s r:List UInt8) (c:List AV) (d:LB 16 0 f208 ⟨[(0,.str s),(1,.pp c 0),(4,.str []),(7,.dead),(12,.dead)],[],.dead,[]⟩ (.normal) (iw (.str r))):CO 208 [.str s,.pp c 0] (.ret (.str r)):=pK [0] 0 0 .nil (.l d .nil)
theorem adt {nt:Nat} (f:22<=nt) (s:List UInt8) (c:List AV) (b:Bool) (h0:lit true (!b)=true) (d:(decide (((0:Nat):Int)<=(γ .i64 ((((θ s):Nat):Int) - ((1:Nat):Int)))))=true) (e:(decide ((γ .i64 ((((θ s):Nat):Int) - ((1:Nat):Int)))<(((θ s):Nat):Int)))=true) (g:lit true (VaV s)=true) (h:CO 234 [.pp c 0,.int .u8 ((Xxr (Xje s (δ (γ .i64 ((((θ s):Nat):Int) - ((1:Nat):Int)))) 0):Nat):Int)] (.ret (.bool b))):ψ nt f209 (oN s (.pp c 0)) (.exit 0) (iw (.str s)):=pJ 209 [] 2 3 (.c h0 (.c d (.c e (.c g .nil)))) (.c h .nil) f
theorem adu {nt:Nat} (g:22<=nt) (s:List UInt8) (c:List AV) (b:Bool) (h0:(decide (((0:Nat):Int)<=(γ .i64 ((((θ s):Nat):Int) - ((1:Nat):Int)))))=true) (d:(decide ((γ .i64 ((((θ s):Nat):Int) - ((1:Nat):Int)))<=(((θ s):Nat):Int)))=true) (e:lit false (!b)=true) (h:(decide ((γ .i64 ((((θ s):Nat):Int) - ((1:Nat):Int)))<(((θ s):Nat):Int)))=true) (f:lit true (VaV s)=true) (i:CO 234 [.pp c 0,.int .u8 ((Xxr (Xje s (δ (γ .i64 ((((θ s):Nat):Int) - ((1:Nat):Int)))) 0):Nat):Int)] (.ret (.bool b))):ψ nt f209 (oN s (.pp c 0)) (.normal) (oN (ε 0 (τ (δ (γ .i64 ((((θ s):Nat):Int) - ((1:Nat):Int)))) s)) (.pp c 0)):=pJ 209 [] 2 1 (.k 1 h0 (.c d (.c e (.c h0 (.c h (.c f .nil)))))) (.c i .nil) g
theorem adv {nt:Nat} (d:22<=nt) (s:List UInt8) (c:List AV) (b:Bool) (h0:lit false (VaV s)=true):ψ nt f209 (oN s (.pp c 0)) (.exit 0) (iw (.str s)):=pJ 209 [] 1 0 (.c h0 .nil) (.nil) d
theorem ab9 (s r:List UInt8) (c:List AV) (d:LB 22 0 f209 ⟨[(0,.str s),(1,.pp c 0),(4,.str []),(7,.dead),(15,.dead)],[],.dead,[]⟩ (.normal) (iw (.str r))):CO 209 [.str s,.pp c 0] (.ret (.str r)):=pK [0] 0 0 .nil (.l d .nil)
theorem Vc:B_=Jv.map AV.bool:=rfl
def fC (c:UInt8):Bool:=inN c.toNat
theorem P8 (i:Fin 256):Jv.getD i.val false=inN i.val:=by
 rw [Jv,μ,List.getElem?_map,List.getElem?_range i.isLt];rfl
theorem L5 (c:UInt8):CO 234 [.pp B_ 0,.int .u8 (c.toNat:Int)] (.ret (.bool (fC c))):=by
 have e:c.toNat<256:=Xk3 c;have g:Jv.length=256:=by rw [Jv,List.length_map,List.length_range]
 have f:η (ε c.toNat B_) .dead= .bool (fC c):=by
  have d:=P8 ⟨c.toNat,e⟩;simp only at d;rw [Vc,<- Xjy,Xxk (by omega),Xqf,Xjz];rw [μ,ν (by omega)] at d;unfold fC;rw [<- d];rfl
 have h:=YJ B_ c.toNat;rw [aF,Ψ,Xqi,f] at h;exact h rfl (by rw [dg];exact Yq0 (by omega)) (by rw [bL];exact Yq0 e)
def abX (s:List UInt8):St:=(oN s (.pp B_ 0))
def Uh (s:List UInt8):St:=(iw (.str s))
theorem S5 {nt:Nat} (d:16<=nt):∀ (s:List UInt8),s.length<2^40->aB prog ap [] nt (af 0 (am f208)) (λ_=> .exit 0) abX Uh s (s.dropWhile fC):=by
 intro s
 induction s with
 |nil=>exact λ_=> .done (ads d [] B_ true rfl)
 | cons c s ih=>
  intro i;simp only [ο] at i;rw [Xx5];have e:=L5 c;cases f:fC c with
  |true=>
   rw [f] at e;refine .next ?_ (by simpa using ih (by omega))
   have h:=adr d (c::s) B_ true;have g:ε 1 (τ (s.length+1) (c::s))=s:=by simp
   simp only [ο,Xzu] at h;simp (disch:=first|omega|(simp [aq,ay]<;>omega)) only [dg,bM,Xxi,dI,Xq6,bL,bX,aF,g] at h;apply h<;>first|exact True.intro|omega|assumption|exact rfl
  |false=>
   rw [f] at e;refine .done ?_;have h:=adq d (c::s) B_ false;simp only [ο,Xzu] at h;simp (disch:=first|omega|(simp [aq,ay]<;>omega)) only [Xq6,bX,bL,bM] at h;apply h<;>first|exact True.intro|omega|assumption|exact rfl
def Px (s:List UInt8):List UInt8:=(s.reverse.dropWhile fC).reverse
theorem Py (s:List UInt8) (c:UInt8):Px (s++ [c])=if fC c=true then Px s else s++ [c]:=by
 unfold Px;rw [List.reverse_append];simp only [List.reverse_cons,List.reverse_nil,Xqb,Xju,Xx5];by_cases h:fC c=true
 .simp [h]
 .simp [h]
theorem Ta {nt:Nat} (e:22<=nt):∀ (k:Nat) (s:List UInt8),s.length=k->k<2^40->aB prog ap [] nt (af 0 (am f209)) (λ_=> .exit 0) abX Uh s (Px s):=by
 intro k
 induction k with
 |zero=>
  intro s hs _;have:s= []:=List.eq_nil_of_length_eq_zero hs;subst this;exact .done (adv e [] B_ true rfl)
 | succ k ih=>
  intro s hs m;rcases List.eq_nil_or_concat s with rfl|⟨s',c,rfl⟩
  .simp at hs
  .rw [List.concat_eq_append] at hs ⊢;have d:s'.length=k:=by simpa using hs
   rw [Py];have i:=L5 c;have g:(s'++ [c]).getD s'.length 0=c:=by simp
   have j:s'.length+1 - 1=s'.length:=rfl;have f:τ s'.length (s'++ [c])=s':=by simp
   cases l:fC c with
   |true=>
    rw [l] at i;rw [if_pos rfl];refine .next ?_ (ih s' d (by omega))
    have h:=adu e (s'++ [c]) B_ true;simp (disch:=first|omega|(simp [aq,ay]<;>omega)) only [ξ,ο,Ξ,Ψ,iM,j,dg,bM,Xxi,dI,Xq6,bL,bX,aF,g,f,Xx8] at h;apply h<;>first|exact True.intro|omega|assumption|exact rfl
   |false=>
    rw [l] at i;rw [if_neg (by simp)];refine .done ?_;have h:=adt e (s'++ [c]) B_ false;simp (disch:=first|omega|(simp [aq,ay]<;>omega)) only [Xq6,bX,ξ,ο,Ξ,Ψ,iM,j,dg,bM,bL,aF,g] at h;apply h<;>first|exact True.intro|omega|assumption|exact rfl
theorem Tb (s u v:List UInt8) (h0:lit true (s== [])=true):CO 180 [.str s,.str Jw] (.ret (.str s)):=pK [] 2 3 (.k 1 h0 .nil) (.nil)
theorem Tc (s u v:List UInt8) (h0:lit false (s== [])=true) (e:CO 207 [.str Jw] (.ret (.tup [.agg B_,.bool true]))) (c:CO 209 [.str s,.pp B_ 0] (.ret (.str u))) (d:CO 208 [.str u,.pp B_ 0] (.ret (.str v))):CO 180 [.str s,.str Jw] (.ret (.str v)):=pK [] 5 16 (.k 5 h0 .nil) (.c d (.c c (.c e .nil)))
theorem Ry (s v:List UInt8) (h0:lit true (s== [])=true):CO 150 [.str s] (.ret (.bool false)):=pK [] 4 15 (.k 3 h0 .nil) (.nil)
theorem Rz (s v:List UInt8) (h0:lit true (decide (((20:Nat):Int)<(((θ s):Nat):Int)))=true) (c:lit false (s== [])=true):CO 150 [.str s] (.ret (.bool false)):=pK [] 4 14 (.k 2 h0 (.c c .nil)) (.nil)
theorem RA (s v:List UInt8) (h0:lit true (decide (((Xxr (Xje s 0 0):Nat):Int)<((97:Nat):Int)))=true) (c:(decide (((0:Nat):Int)<(((θ s):Nat):Int)))=true) (d:lit false (decide (((20:Nat):Int)<(((θ s):Nat):Int)))=true) (e:lit false (s== [])=true):CO 150 [.str s] (.ret (.bool false)):=pK [] 4 12 (.k 1 h0 (.k 1 c (.c d (.c e .nil)))) (.nil)
theorem RB (s v:List UInt8) (h0:lit true (decide (((122:Nat):Int)<((Xxr (Xje s 0 0):Nat):Int)))=true) (c:(decide (((0:Nat):Int)<(((θ s):Nat):Int)))=true) (d:lit false (decide (((Xxr (Xje s 0 0):Nat):Int)<((97:Nat):Int)))=true) (f:lit false (decide (((20:Nat):Int)<(((θ s):Nat):Int)))=true) (e:lit false (s== [])=true):CO 150 [.str s] (.ret (.bool false)):=pK [] 4 8 (.c h0 (.k 1 c (.c d (.k 1 c (.c f (.c e .nil)))))) (.nil)
theorem RC (s v:List UInt8) (h0:lit false (decide (((122:Nat):Int)<((Xxr (Xje s 0 0):Nat):Int)))=true) (c:(decide (((0:Nat):Int)<(((θ s):Nat):Int)))=true) (d:lit false (decide (((Xxr (Xje s 0 0):Nat):Int)<((97:Nat):Int)))=true) (f:lit false (decide (((20:Nat):Int)<(((θ s):Nat):Int)))=true) (e:lit false (s== [])=true) (g:CO 180 [.str s,.str Jw] (.ret (.str v))):CO 150 [.str s] (.ret (.bool (v== []))):=pK [] 4 0 (.c h0 (.k 1 c (.c d (.k 1 c (.c f (.c e .nil)))))) (.c g .nil)
def vO (s:List UInt8):Bool:= !(s== []) && decide (s.length<=20) && decide (97<=(s.getD 0 0).toNat) && decide ((s.getD 0 0).toNat<=122) && s.all fC
theorem Cr {p:UInt8->Bool}:∀ {l:List UInt8},l.dropWhile p= []↔∀ x ∈ l,p x=true
 | []=>by simp
 |c::l=>by
  rw [Xx5];cases h:p c with
  |true=>simp [h,Cr (l:=l)]
  |false=>simp [h]
theorem PD {s:List UInt8}:(Px s).dropWhile fC= []↔s.all fC=true:=by
 unfold Px;rw [Xzk];constructor
 .intro h;have e:∀ x ∈ (s.reverse.dropWhile fC),fC x=true:=by
   intro x c;exact Cr.1 h x (by simpa using c)
  have f:s.reverse.dropWhile fC= []:=by
   cases hd:s.reverse.dropWhile fC with
   |nil=>rfl
   | cons y r=>
    exfalso;have d:=e y (by rw [hd];simp);have g:∀ (l:List UInt8),l.dropWhile fC=y::r->fC y=false:=by
     intro l
     induction l with
     |nil=>intro h;simp at h
     | cons z l ih=>
      intro h;rw [Xx5] at h;split at h
      .exact ih h
      .rename_i i;cases h;simpa using i
    rw [g _ hd] at d;cases d
  intro x c;exact Cr.1 f x (by simpa using c)
 .intro h;have:s.reverse.dropWhile fC= []:=Cr.2 λx c=>h x (by simpa using c)
  rw [this];rfl
theorem XR (s:List UInt8) (hs:s.length<2^40):CO 208 [.str s,.pp B_ 0] (.ret (.str (s.dropWhile fC))):=
 ab6 s _ B_ (aB.blk (λnt c=>S5 c s hs) (by simp) rfl (aD.of ⟨rfl,rfl,trivial⟩) (aD.of ⟨rfl,trivial⟩))
theorem XS (s:List UInt8) (hs:s.length<2^40):CO 209 [.str s,.pp B_ 0] (.ret (.str (Px s))):=
 ab9 s _ B_ (aB.blk (λnt c=>Ta c _ s rfl hs) (by simp) rfl (aD.of ⟨rfl,rfl,trivial⟩) (aD.of ⟨rfl,trivial⟩))
theorem S_ (s:List UInt8):(Px s).length<=s.length:=by
 unfold Px;rw [List.length_reverse];have:=(List.dropWhile_sublist fC (l:=s.reverse)).length_le;simpa using this
theorem Td (s:List UInt8) (hs:s.length<2^40):CO 180 [.str s,.str Jw] (.ret (.str ((Px s).dropWhile fC))):=by
 by_cases h:s= []
 .subst h;exact Tb [] [] [] rfl
 .have c:=S_ s;exact Tc s _ _ (by simp [lit,h]) Vd (XS s hs) (XR _ (by omega))
theorem jm (s:List UInt8):CO 150 [.str s] (.ret (.bool (vO s))):=by
 unfold vO;by_cases h0:s= []
 .subst h0;exact Ry [] [] rfl
 .have c:(s== [])=false:=by simpa using h0
  have f:0<s.length:=by cases s with|nil=>exact absurd rfl h0|cons _ _=>simp
  rw [c];by_cases h1:s.length<=20
  .have d:lit false (decide (((20:Nat):Int)<(s.length:Int)))=true:=by rw [bL];simp [lit,h1]
   have cl:decide (((0:Nat):Int)<(s.length:Int))=true:=by rw [bL];exact Yq0 f
   rw [Yq0 h1];by_cases h2:97<=(s.getD 0 0).toNat
   .rw [Yq0 h2];have g:lit false (decide (((s.getD 0 0).toNat:Int)<((97:Nat):Int)))=true:=by rw [bL];simp only [lit,Xqt];exact Yq1 (by omega)
    by_cases h3:(s.getD 0 0).toNat<=122
    .rw [Yq0 h3];have i:lit false (decide (((122:Nat):Int)<((s.getD 0 0).toNat:Int)))=true:=by rw [bL];simp only [lit,Xqt];exact Yq1 (by omega)
     have h:=RC s _ i cl g d (by rw [c];rfl) (Td s (by omega));have e:((Px s).dropWhile fC== [])=s.all fC:=by
      rw [Xzv,<- PD];simp
     rw [e] at h;exact h
    .rw [Yq1 h3];exact RB s [] (by rw [bL];exact Yq0 (by omega)) cl g d (by rw [c];rfl)
   .rw [Yq1 h2];exact RA s [] (by rw [bL];exact Yq0 (by omega)) cl d (by rw [c];rfl)
  .rw [Yq1 h1];exact Rz s [] (by rw [bL];exact Yq0 (by omega)) (by rw [c];rfl)
def gH:List AV:= [.str [],ω 0,.bool false,.bool false,.bool false,.str [36],ω 0,.bool true,.bool false,.bool false,.str [],ω 0,.bool true,.bool false,.bool false,.str [],ω 0,.bool true,.bool false,.bool false,.str [],ω 0,.bool true,.bool false,.bool false,.str [102,97,99,116,46],ω 0,.bool false,.bool true,.bool false,.str [111,119,110,46],ω 0,.bool false,.bool true,.bool false,.str [112,114,105,111,114,46],ω 0,.bool false,.bool true,.bool false,.str [115,112,111,117,115,101,46],ω 0,.bool false,.bool true,.bool false,.str [97,100,100],ω 2,.bool false,.bool false,.bool false,.str [115,117,98],ω 2,.bool false,.bool false,.bool false,.str [109,117,108],ω 2,.bool false,.bool false,.bool false,.str [100,105,118],ω 2,.bool false,.bool false,.bool false,.str [109,105,110],ω 2,.bool false,.bool false,.bool false,.str [109,97,120],ω 2,.bool false,.bool false,.bool false,.str [105,102],ω 3,.bool false,.bool false,.bool false,.str [108,101,115,115],ω 2,.bool false,.bool false,.bool false,.str [101,113,117,97,108],ω 2,.bool false,.bool false,.bool false,.str [97,110,100],ω 2,.bool false,.bool false,.bool false,.str [111,114],ω 2,.bool false,.bool false,.bool false,.str [110,111,116],ω 1,.bool false,.bool false,.bool false,.str [100,111,119,110],ω 1,.bool false,.bool false,.bool true,.str [117,112],ω 1,.bool false,.bool false,.bool true,.str [110,101,97,114],ω 1,.bool false,.bool false,.bool true,.str [114,97,116,101,46],ω 1,.bool false,.bool true,.bool false]
theorem ZR (c:Int) (h0:lit true (decide (c<((1:Nat):Int)))=true):CO 149 [ω c] (.ret (.tup [.agg zcc2_1,.bool false])):=pK [] 2 3 (.k 7 h0 .nil) (.nil)
theorem ZS (c:Int) (h0:lit true (decide (((24:Nat):Int)<c))=true) (d:lit false (decide (c<((1:Nat):Int)))=true):CO 149 [ω c] (.ret (.tup [.agg zcc2_1,.bool false])):=pK [] 2 2 (.k 6 h0 (.c d .nil)) (.nil)
theorem ZT (c:Int) (h0:(chk .str (η (ε (0+((δ c)*5)) gH) .dead))=true) (d:(chk (.int .i64) (η (Xj0 (ε (0+((δ c)*5)) gH)) .dead))=true) (e:(chk .bool (η (Xj0 (Xj0 (ε (0+((δ c)*5)) gH))) .dead))=true) (i:(chk .bool (η (Xj0 (Xj0 (Xj0 (ε (0+((δ c)*5)) gH)))) .dead))=true) (g:(chk .bool (η (Xj0 (Xj0 (Xj0 (Xj0 (ε (0+((δ c)*5)) gH))))) .dead))=true) (h5:(decide (((0:Nat):Int)<=c))=true) (h:(decide (c<((25:Nat):Int)))=true) (h7:lit false (decide (((24:Nat):Int)<c))=true) (f:lit false (decide (c<((1:Nat):Int)))=true):CO 149 [ω c] (.ret (.tup [.agg [.str (Xkx (η (ε (0+((δ c)*5)) gH) .dead)),ω (Γ (η (Xj0 (ε (0+((δ c)*5)) gH)) .dead)),.bool (Xku (η (Xj0 (Xj0 (ε (0+((δ c)*5)) gH))) .dead)),.bool (Xku (η (Xj0 (Xj0 (Xj0 (ε (0+((δ c)*5)) gH)))) .dead)),.bool (Xku (η (Xj0 (Xj0 (Xj0 (Xj0 (ε (0+((δ c)*5)) gH))))) .dead))],.bool true])):=pK [] 2 0 (.k 6 h0 (.c d (.c e (.c i (.c g (.c h5 (.c h (.c h7 (.c f .nil))))))))) (.nil)
def gb (op:Int):Nat:=if op=15 then 3 else if (9<=op/\op<=14)\/(16<=op/\op<=19) then 2 else if 20<=op/\op<=24 then 1 else 0
def Ey (op:Int):Bool:=decide ((5<=op/\op<=8)\/op=24)
def Ek (op:Int):Bool:=decide (1<=op/\op<=4)
def Hk (op:Int):Bool:=decide (21<=op/\op<=23)
def PK (op:Int):List UInt8:=Xkx (η (ε (0+((δ op)*5)) gH) .dead)
theorem EG {c:Int} (h:1<=c) (d:c<=24):c=1\/c=2\/c=3\/c=4\/c=5\/c=6\/c=7\/c=8\/c=9\/c=10\/c=11\/c=12\/c=13\/c=14\/c=15\/c=16\/c=17\/c=18\/c=19\/c=20\/c=21\/c=22\/c=23\/c=24:=by omega
abbrev shA (op:Int):AV:= .agg [.str (PK op),ω ((gb op:Nat):Int),.bool (Ek op),.bool (Ey op),.bool (Hk op)]
theorem ZX {c:Int} (h:1<=c) (d:c<=24):CO 149 [ω c] (.ret (.tup [shA c,.bool true])):=by
 rcases EG h d with rfl|rfl|rfl|rfl|rfl|rfl|rfl|rfl|rfl|rfl|rfl|rfl|rfl|rfl|rfl|rfl|rfl|rfl|rfl|rfl|rfl|rfl|rfl|rfl
 all_goals exact ZT _ rfl rfl rfl rfl rfl rfl rfl rfl rfl
theorem WO {c:Int} (h:c<1\/24<c):CO 149 [ω c] (.ret (.tup [.agg zcc2_1,.bool false])):=by
 by_cases h1:c<1
 .exact ZR c (by simp [lit];omega)
 .exact ZS c (by simp [lit];omega) (by simp [lit];omega)
theorem Ho {c:Int} (h:1<=c) (d:c<=24):η (ε (c.toNat*5+1) gH) .dead= ω ((gb c:Nat):Int):=by
 rcases EG h d with rfl|rfl|rfl|rfl|rfl|rfl|rfl|rfl|rfl|rfl|rfl|rfl|rfl|rfl|rfl|rfl|rfl|rfl|rfl|rfl|rfl|rfl|rfl|rfl
 all_goals rfl
def Q6 (op:Int):Bool:=decide (1<=op/\op<=24)
theorem bJ (c:Int):CO 149 [ω c] (.ret (.tup [shA c,.bool (Q6 c)])):=by
 by_cases h:1<=c/\c<=24
 .have e:Q6 c=true:=Yq0 h;rw [e];exact ZX h.1 h.2
 .have e:Q6 c=false:=Yq1 h;have f:gb c=0:=by unfold gb;(repeat' split)<;>omega
  have j:Ek c=false:=by unfold Ek;rw [decide_eq_false_iff_not];omega
  have d:Ey c=false:=by unfold Ey;rw [decide_eq_false_iff_not];omega
  have i:Hk c=false:=by unfold Hk;rw [decide_eq_false_iff_not];omega
  have g:PK c= []:=by
   unfold PK;by_cases h1:c<1
   .have:c.toNat=0:=by omega
    rw [this];rfl
   .have k:gH.length=125:=by decide
    rw [Xjo (by omega)];rfl
  unfold shA;rw [e,f,j,d,i,g];exact WO (by omega)
structure Nd where
 op:Int
 neg:Bool
 num:List UInt8
 den:List UInt8
 name:List UInt8
def oP (x:Nd):List AV:= [ω x.op,.bool x.neg,.str x.num,.str x.den,.str x.name]
def Nd.sm (x:Nd):Prop:=x.num.length<2^33/\x.den.length<2^33
def fX (x:Nd):Bool:=cond (x.op==((4:Nat):Int)) (sY x.neg x.num x.den 0||sY x.neg x.num x.den 1) (cond (Ek x.op) (cT x.neg x.num x.den) (cond (Hk x.op) (cT x.neg x.num x.den && decide (((0:Nat):Int)<ml x.neg x.num x.den)) ((x.neg==false) && ((x.num== []) && ((x.den== []) && true)))))
def aJ (x:Nd):Int:=cond (!Q6 x.op||(!Ey x.op && !(x.name== []))) 11 (cond (!fX x) 11 (cond (Ey x.op && !vO x.name) 12 0))
theorem PL (x:Nd) (e:x.sm):CO 106 [.agg (oP x)] (.ret (ω (aJ x))):=by
 have d:x.num.length<2^36:=Xzf e.1 (by decide);have c:x.den.length<2^36:=Xzf e.2 (by decide);rcases tf (Q6 x.op) with b0|b0
 .rcases tf (Ey x.op) with b1|b1
  .rcases tf (x.op==((4:Nat):Int)) with b2|b2
   .rcases tf ((x.neg==false) && ((x.num==(ae 0)) && ((x.den==(ae 1)) && true))) with b3|b3
    .rcases tf (vO x.name) with b4|b4
     .rw [show aJ x=0 by simp only [aJ,fX,sY,b0,b1,b2,b3,b4]<;>rfl];exact pK [] 8 88 (.c (aI b4) (.k 1 (ax b1) (.k 2 (ax b3) (.k 3 (ax b2) (.k 2 (aI b1) (.k 1 (aI b0) (.n 2 .nil))))))) (.c (jm x.name) (.c (gV) (.c (bJ x.op) .nil)))
     .rw [show aJ x=12 by simp only [aJ,fX,sY,b0,b1,b2,b3,b4]<;>rfl];exact pK [] 8 216 (.c (bu b4) (.k 1 (ax b1) (.k 2 (ax b3) (.k 3 (ax b2) (.k 2 (aI b1) (.k 1 (aI b0) (.n 2 .nil))))))) (.c (jm x.name) (.c (gV) (.c (bJ x.op) .nil)))
    .rcases tf ((x.neg==false) && ((x.num==(ae 1)) && ((x.den==(ae 1)) && true))) with b4|b4
     .rcases tf (vO x.name) with b5|b5
      .rw [show aJ x=0 by simp only [aJ,fX,sY,b0,b1,b2,b3,b4,b5]<;>rfl];exact pK [] 8 72 (.c (aI b5) (.k 1 (ax b1) (.k 1 (aI b4) (.k 3 (aw b3) (.k 3 (ax b2) (.k 2 (aI b1) (.k 1 (aI b0) (.n 2 .nil)))))))) (.c (jm x.name) (.c (pQ) (.c (gV) (.c (bJ x.op) .nil))))
      .rw [show aJ x=12 by simp only [aJ,fX,sY,b0,b1,b2,b3,b4,b5]<;>rfl];exact pK [] 8 200 (.c (bu b5) (.k 1 (ax b1) (.k 1 (aI b4) (.k 3 (aw b3) (.k 3 (ax b2) (.k 2 (aI b1) (.k 1 (aI b0) (.n 2 .nil)))))))) (.c (jm x.name) (.c (pQ) (.c (gV) (.c (bJ x.op) .nil))))
     .rw [show aJ x=11 by simp only [aJ,fX,sY,b0,b1,b2,b3,b4]<;>rfl];exact pK [] 6 40 (.c (bu b4) (.k 3 (aw b3) (.k 3 (ax b2) (.k 2 (aI b1) (.k 1 (aI b0) (.n 2 .nil)))))) (.c (pQ) (.c (gV) (.c (bJ x.op) .nil)))
   .rcases tf (Ek x.op) with b3|b3
    .rcases tf (cT x.neg x.num x.den) with b4|b4
     .rcases tf (vO x.name) with b5|b5
      .rw [show aJ x=0 by simp only [aJ,fX,sY,b0,b1,b2,b3,b4,b5]<;>rfl];exact pK [] 8 80 (.c (aI b5) (.k 1 (ax b1) (.k 1 (aI b4) (.k 3 (ax b3) (.k 1 (aw b2) (.k 2 (aI b1) (.k 1 (aI b0) (.n 2 .nil)))))))) (.c (jm x.name) (.c (cJ x.neg x.num x.den d c) (.c (bJ x.op) .nil)))
      .rw [show aJ x=12 by simp only [aJ,fX,sY,b0,b1,b2,b3,b4,b5]<;>rfl];exact pK [] 8 208 (.c (bu b5) (.k 1 (ax b1) (.k 1 (aI b4) (.k 3 (ax b3) (.k 1 (aw b2) (.k 2 (aI b1) (.k 1 (aI b0) (.n 2 .nil)))))))) (.c (jm x.name) (.c (cJ x.neg x.num x.den d c) (.c (bJ x.op) .nil)))
     .rw [show aJ x=11 by simp only [aJ,fX,sY,b0,b1,b2,b3,b4]<;>rfl];exact pK [] 6 48 (.c (bu b4) (.k 3 (ax b3) (.k 1 (aw b2) (.k 2 (aI b1) (.k 1 (aI b0) (.n 2 .nil)))))) (.c (cJ x.neg x.num x.den d c) (.c (bJ x.op) .nil))
    .rcases tf (Hk x.op) with b4|b4
     .rcases tf (cT x.neg x.num x.den) with b5|b5
      .rcases tf (decide (((0:Nat):Int)<(ml x.neg x.num x.den))) with b6|b6
       .rcases tf (vO x.name) with b7|b7
        .rw [show aJ x=0 by simp only [aJ,fX,sY,b0,b1,b2,b3,b4,b5,b6,b7]<;>rfl];exact pK [] 10 352 (.c (aI b7) (.k 1 (ax b1) (.k 1 (aI b6) (.k 3 (ax b5) (.k 3 (ax b4) (.k 1 (aw b3) (.k 1 (aw b2) (.k 2 (aI b1) (.k 1 (aI b0) (.n 2 .nil)))))))))) (.c (jm x.name) (.c (gF x.neg x.num x.den d c) (.c (cJ x.neg x.num x.den d c) (.c (bJ x.op) .nil))))
        .rw [show aJ x=12 by simp only [aJ,fX,sY,b0,b1,b2,b3,b4,b5,b6,b7]<;>rfl];exact pK [] 10 864 (.c (bu b7) (.k 1 (ax b1) (.k 1 (aI b6) (.k 3 (ax b5) (.k 3 (ax b4) (.k 1 (aw b3) (.k 1 (aw b2) (.k 2 (aI b1) (.k 1 (aI b0) (.n 2 .nil)))))))))) (.c (jm x.name) (.c (gF x.neg x.num x.den d c) (.c (cJ x.neg x.num x.den d c) (.c (bJ x.op) .nil))))
       .rw [show aJ x=11 by simp only [aJ,fX,sY,b0,b1,b2,b3,b4,b5,b6]<;>rfl];exact pK [] 8 224 (.c (bu b6) (.k 3 (ax b5) (.k 3 (ax b4) (.k 1 (aw b3) (.k 1 (aw b2) (.k 2 (aI b1) (.k 1 (aI b0) (.n 2 .nil)))))))) (.c (gF x.neg x.num x.den d c) (.c (cJ x.neg x.num x.den d c) (.c (bJ x.op) .nil)))
      .rw [show aJ x=11 by simp only [aJ,fX,sY,b0,b1,b2,b3,b4,b5]<;>rfl];exact pK [] 8 160 (.k 1 (aw b5) (.k 3 (ax b4) (.k 1 (aw b3) (.k 1 (aw b2) (.k 2 (aI b1) (.k 1 (aI b0) (.n 2 .nil))))))) (.c (cJ x.neg x.num x.den d c) (.c (bJ x.op) .nil))
     .rcases tf ((x.neg==false) && ((x.num== []) && ((x.den== []) && true))) with b5|b5
      .rcases tf (vO x.name) with b6|b6
       .rw [show aJ x=0 by simp only [aJ,fX,sY,b0,b1,b2,b3,b4,b5,b6]<;>rfl];exact pK [] 9 128 (.c (aI b6) (.k 1 (ax b1) (.k 1 (aI b5) (.k 3 (aw b4) (.k 1 (aw b3) (.k 1 (aw b2) (.k 2 (aI b1) (.k 1 (aI b0) (.n 2 .nil))))))))) (.c (jm x.name) (.c (bJ x.op) .nil))
       .rw [show aJ x=12 by simp only [aJ,fX,sY,b0,b1,b2,b3,b4,b5,b6]<;>rfl];exact pK [] 9 384 (.c (bu b6) (.k 1 (ax b1) (.k 1 (aI b5) (.k 3 (aw b4) (.k 1 (aw b3) (.k 1 (aw b2) (.k 2 (aI b1) (.k 1 (aI b0) (.n 2 .nil))))))))) (.c (jm x.name) (.c (bJ x.op) .nil))
      .rw [show aJ x=11 by simp only [aJ,fX,sY,b0,b1,b2,b3,b4,b5]<;>rfl];exact pK [] 7 64 (.c (bu b5) (.k 3 (aw b4) (.k 1 (aw b3) (.k 1 (aw b2) (.k 2 (aI b1) (.k 1 (aI b0) (.n 2 .nil))))))) (.c (bJ x.op) .nil)
  .rcases tf (x.name== []) with b2|b2
   .rcases tf (x.op==((4:Nat):Int)) with b3|b3
    .rcases tf ((x.neg==false) && ((x.num==(ae 0)) && ((x.den==(ae 1)) && true))) with b4|b4
     .rw [show aJ x=0 by simp only [aJ,fX,sY,b0,b1,b2,b3,b4]<;>rfl];exact pK [] 8 26 (.k 1 (aw b1) (.k 2 (ax b4) (.k 3 (ax b3) (.k 1 (aI b2) (.k 1 (bu b1) (.k 1 (aI b0) (.n 2 .nil))))))) (.c (gV) (.c (bJ x.op) .nil))
     .rcases tf ((x.neg==false) && ((x.num==(ae 1)) && ((x.den==(ae 1)) && true))) with b5|b5
      .rw [show aJ x=0 by simp only [aJ,fX,sY,b0,b1,b2,b3,b4,b5]<;>rfl];exact pK [] 8 10 (.k 1 (aw b1) (.k 1 (aI b5) (.k 3 (aw b4) (.k 3 (ax b3) (.k 1 (aI b2) (.k 1 (bu b1) (.k 1 (aI b0) (.n 2 .nil)))))))) (.c (pQ) (.c (gV) (.c (bJ x.op) .nil)))
      .rw [show aJ x=11 by simp only [aJ,fX,sY,b0,b1,b2,b3,b4,b5]<;>rfl];exact pK [] 6 42 (.c (bu b5) (.k 3 (aw b4) (.k 3 (ax b3) (.k 1 (aI b2) (.k 1 (bu b1) (.k 1 (aI b0) (.n 2 .nil))))))) (.c (pQ) (.c (gV) (.c (bJ x.op) .nil)))
    .rcases tf (Ek x.op) with b4|b4
     .rcases tf (cT x.neg x.num x.den) with b5|b5
      .rw [show aJ x=0 by simp only [aJ,fX,sY,b0,b1,b2,b3,b4,b5]<;>rfl];exact pK [] 8 18 (.k 1 (aw b1) (.k 1 (aI b5) (.k 3 (ax b4) (.k 1 (aw b3) (.k 1 (aI b2) (.k 1 (bu b1) (.k 1 (aI b0) (.n 2 .nil)))))))) (.c (cJ x.neg x.num x.den d c) (.c (bJ x.op) .nil))
      .rw [show aJ x=11 by simp only [aJ,fX,sY,b0,b1,b2,b3,b4,b5]<;>rfl];exact pK [] 6 50 (.c (bu b5) (.k 3 (ax b4) (.k 1 (aw b3) (.k 1 (aI b2) (.k 1 (bu b1) (.k 1 (aI b0) (.n 2 .nil))))))) (.c (cJ x.neg x.num x.den d c) (.c (bJ x.op) .nil))
     .rcases tf (Hk x.op) with b5|b5
      .rcases tf (cT x.neg x.num x.den) with b6|b6
       .rcases tf (decide (((0:Nat):Int)<(ml x.neg x.num x.den))) with b7|b7
        .rw [show aJ x=0 by simp only [aJ,fX,sY,b0,b1,b2,b3,b4,b5,b6,b7]<;>rfl];exact pK [] 10 98 (.k 1 (aw b1) (.k 1 (aI b7) (.k 3 (ax b6) (.k 3 (ax b5) (.k 1 (aw b4) (.k 1 (aw b3) (.k 1 (aI b2) (.k 1 (bu b1) (.k 1 (aI b0) (.n 2 .nil)))))))))) (.c (gF x.neg x.num x.den d c) (.c (cJ x.neg x.num x.den d c) (.c (bJ x.op) .nil)))
        .rw [show aJ x=11 by simp only [aJ,fX,sY,b0,b1,b2,b3,b4,b5,b6,b7]<;>rfl];exact pK [] 8 226 (.c (bu b7) (.k 3 (ax b6) (.k 3 (ax b5) (.k 1 (aw b4) (.k 1 (aw b3) (.k 1 (aI b2) (.k 1 (bu b1) (.k 1 (aI b0) (.n 2 .nil))))))))) (.c (gF x.neg x.num x.den d c) (.c (cJ x.neg x.num x.den d c) (.c (bJ x.op) .nil)))
       .rw [show aJ x=11 by simp only [aJ,fX,sY,b0,b1,b2,b3,b4,b5,b6]<;>rfl];exact pK [] 8 162 (.k 1 (aw b6) (.k 3 (ax b5) (.k 1 (aw b4) (.k 1 (aw b3) (.k 1 (aI b2) (.k 1 (bu b1) (.k 1 (aI b0) (.n 2 .nil)))))))) (.c (cJ x.neg x.num x.den d c) (.c (bJ x.op) .nil))
      .rcases tf ((x.neg==false) && ((x.num== []) && ((x.den== []) && true))) with b6|b6
       .rw [show aJ x=0 by simp only [aJ,fX,sY,b0,b1,b2,b3,b4,b5,b6]<;>rfl];exact pK [] 9 2 (.k 1 (aw b1) (.k 1 (aI b6) (.k 3 (aw b5) (.k 1 (aw b4) (.k 1 (aw b3) (.k 1 (aI b2) (.k 1 (bu b1) (.k 1 (aI b0) (.n 2 .nil))))))))) (.c (bJ x.op) .nil)
       .rw [show aJ x=11 by simp only [aJ,fX,sY,b0,b1,b2,b3,b4,b5,b6]<;>rfl];exact pK [] 7 66 (.c (bu b6) (.k 3 (aw b5) (.k 1 (aw b4) (.k 1 (aw b3) (.k 1 (aI b2) (.k 1 (bu b1) (.k 1 (aI b0) (.n 2 .nil)))))))) (.c (bJ x.op) .nil)
   .rw [show aJ x=11 by simp only [aJ,fX,sY,b0,b1,b2]<;>rfl];exact pK [] 3 6 (.c (bu b2) (.k 1 (bu b1) (.k 1 (aI b0) (.n 2 .nil)))) (.c (bJ x.op) .nil)
 .rw [show aJ x=11 by simp only [aJ,fX,sY,b0]<;>rfl];exact pK [] 2 3 (.k 1 (bu b0) (.n 2 .nil)) (.c (bJ x.op) .nil)
def aO (l:List Nd):List AV:=l.flatMap oP
theorem acA {nt:Nat} (j:35<=nt) (l:List Nd) (e:Bool) (k d:Nat) (w:Int) (x:Nd) (r:List Nd) (c:(ε ((δ (k:Int))*5) (aO l))=oP x++aO r) (h0:lit true (!(w==((0:Nat):Int)))=true) (f:(decide (((0:Nat):Int)<=(k:Int)))=true) (i:(decide ((k:Int)<(l.length:Int)))=true) (m:lit true (decide ((k:Int)<(l.length:Int)))=true) (g:CO 106 [.agg [ω x.op,.bool x.neg,.str x.num,.str x.den,.str x.name]] (.ret (ω w))):ψ nt f64 (tT (.sl (aO l) l.length e) l.length (k:Int) (d:Int)) (.ret) (v_ w):=
 have h:ψ nt f64 (tT (.sl (aO l) l.length e) l.length (k:Int) (d:Int)) (.ret) ⟨[(2,ω w)],[(0,⟨[ω x.op,.bool x.neg,.str x.num,.str x.den,.str x.name],0,false,0,0,true⟩)],.dead,[]⟩:=pJ 64 [] 2 3 (.c h0 (.k 11 f (.c i (.c m .nil)))) (.c g (.v 14 (.ppt c) .nil)) j
 h.forgetD 0 ⟨[ω x.op,.bool x.neg,.str x.num,.str x.den,.str x.name],0,false,0,0,true⟩ (by intro v h;cases h) (by decide) rfl ⟨Fz.same rfl,trivial⟩ rfl rfl
theorem acB {nt:Nat} (n:35<=nt) (l:List Nd) (e:Bool) (k d:Nat) (w:Int) (x:Nd) (r:List Nd) (c:(ε ((δ (k:Int))*5) (aO l))=oP x++aO r) (h0:lit true (decide ((γ .i64 ((d:Int) - (Γ (η (ε ((0+((δ x.op)*5))+1) gH) .dead))))<((0:Nat):Int)))=true) (g:(chk (.int .i64) (η (ε ((0+((δ x.op)*5))+1) gH) .dead))=true) (i:(decide (((0:Nat):Int)<=x.op))=true) (j:(decide (x.op<((25:Nat):Int)))=true) (m:lit false (!(w==((0:Nat):Int)))=true) (h5:(decide (((0:Nat):Int)<=(k:Int)))=true) (o:(decide ((k:Int)<(l.length:Int)))=true) (h7:lit true (decide ((k:Int)<(l.length:Int)))=true) (f:CO 106 [.agg [ω x.op,.bool x.neg,.str x.num,.str x.den,.str x.name]] (.ret (ω w))):ψ nt f64 (tT (.sl (aO l) l.length e) l.length (k:Int) (d:Int)) (.ret) (v_ 11):=
 have h:ψ nt f64 (tT (.sl (aO l) l.length e) l.length (k:Int) (d:Int)) (.ret) ⟨[(2,ω 11)],[(0,⟨[ω x.op,.bool x.neg,.str x.num,.str x.den,.str x.name],0,false,0,0,true⟩)],.dead,[]⟩:=pJ 64 [] 3 5 (.c h0 (.c g (.c i (.c j (.k 1 m (.k 11 h5 (.c o (.c h7 .nil)))))))) (.c f (.v 14 (.ppt c) .nil)) n
 h.forgetD 0 ⟨[ω x.op,.bool x.neg,.str x.num,.str x.den,.str x.name],0,false,0,0,true⟩ (by intro v h;cases h) (by decide) rfl ⟨Fz.same rfl,trivial⟩ rfl rfl
theorem acC {nt:Nat} (n:35<=nt) (l:List Nd) (c:Bool) (k d:Nat) (w:Int) (x:Nd) (r:List Nd) (e:(ε ((δ (k:Int))*5) (aO l))=oP x++aO r) (h0:lit false (decide ((γ .i64 ((d:Int) - (Γ (η (ε ((0+((δ x.op)*5))+1) gH) .dead))))<((0:Nat):Int)))=true) (g:(chk (.int .i64) (η (ε ((0+((δ x.op)*5))+1) gH) .dead))=true) (i:(decide (((0:Nat):Int)<=x.op))=true) (j:(decide (x.op<((25:Nat):Int)))=true) (m:lit false (!(w==((0:Nat):Int)))=true) (h5:(decide (((0:Nat):Int)<=(k:Int)))=true) (o:(decide ((k:Int)<(l.length:Int)))=true) (h7:lit true (decide ((k:Int)<(l.length:Int)))=true) (f:CO 106 [.agg [ω x.op,.bool x.neg,.str x.num,.str x.den,.str x.name]] (.ret (ω w))):ψ nt f64 (tT (.sl (aO l) l.length c) l.length (k:Int) (d:Int)) (.normal) (tT (.sl (aO l) l.length c) l.length (γ .i64 ((k:Int)+((1:Nat):Int))) (γ .i64 ((γ .i64 ((d:Int) - (Γ (η (ε ((0+((δ x.op)*5))+1) gH) .dead))))+((1:Nat):Int)))):=
 have h:ψ nt f64 (tT (.sl (aO l) l.length c) l.length (k:Int) (d:Int)) (.normal) ⟨[(10,.sl (aO l) l.length c),(11,ω (l.length:Int)),(12,ω (γ .i64 ((k:Int)+((1:Nat):Int)))),(3,ω (γ .i64 ((γ .i64 ((d:Int) - (Γ (η (ε ((0+((δ x.op)*5))+1) gH) .dead))))+((1:Nat):Int))))],[(0,⟨[ω x.op,.bool x.neg,.str x.num,.str x.den,.str x.name],0,false,0,0,true⟩)],.dead,[]⟩:=pJ 64 [] 3 1 (.c h0 (.c g (.c i (.c j (.k 1 m (.k 11 h5 (.c o (.c h7 .nil)))))))) (.c f (.v 14 (.ppt e) .nil)) n
 h.forgetD 0 ⟨[ω x.op,.bool x.neg,.str x.num,.str x.den,.str x.name],0,false,0,0,true⟩ (by intro v h;cases h) (by decide) rfl ⟨Fz.same rfl,Fz.same rfl,Fz.same rfl,Fz.same rfl,trivial⟩ rfl rfl
theorem LS {nt:Nat} (e:35<=nt) (l:List Nd) (c:Bool) (k d:Nat) (w:Int) (h0:lit false (decide ((k:Int)<(l.length:Int)))=true):ψ nt f64 (tT (.sl (aO l) l.length c) l.length (k:Int) (d:Int)) (.exit 0) (wg (ω (d:Int))):=pJ 64 [] 1 0 (.c h0 .nil) (.nil) e
abbrev VaO (a:List Nd) (b:Bool):List AV:=[.sl (aO a) a.length b]
theorem YC (l:List Nd) (c:Bool) (d:Nat) (h0:lit true (decide (((60:Nat):Int)<(l.length:Int)))=true):CO 64 (VaO l c) (.ret (ω 2)):=pK [0] 1 1 (.c h0 .nil) (.nil)
abbrev VaW (a:List Nd):Prop:=lit false (decide (((60:Nat):Int)<(a.length:Int)))=true
theorem YD (l:List Nd) (c:Bool) (d:Nat) (h0:lit true (!((d:Int)==((1:Nat):Int)))=true) (e:VaW l) (f:LB 35 0 f64 (Ph (.sl (aO l) l.length c) (decide (((60:Nat):Int)<(l.length:Int))) (.sl (aO l) l.length c) l.length) (.normal) (wg (ω (d:Int)))):CO 64 (VaO l c) (.ret (ω 11)):=pK [0] 2 2 (.c h0 (.c e .nil)) (.l f .nil)
theorem YE (l:List Nd) (c:Bool) (d:Nat) (h0:lit false (!((d:Int)==((1:Nat):Int)))=true) (e:VaW l) (f:LB 35 0 f64 (Ph (.sl (aO l) l.length c) (decide (((60:Nat):Int)<(l.length:Int))) (.sl (aO l) l.length c) l.length) (.normal) (wg (ω (d:Int)))):CO 64 (VaO l c) (.ret (ω 0)):=pK [0] 2 0 (.c h0 (.c e .nil)) (.l f .nil)
theorem YF (l:List Nd) (c:Bool) (w:Int) (h0:VaW l) (d:LB 35 0 f64 (Ph (.sl (aO l) l.length c) (decide (((60:Nat):Int)<(l.length:Int))) (.sl (aO l) l.length c) l.length) (.ret) (v_ w)):CO 64 (VaO l c) (.ret (ω w)):=pK [0] 1 0 (.c h0 .nil) (.l d .nil)
theorem Ez (x:Nd) (r:List Nd):aO (x::r)=oP x++aO r:=rfl
theorem Ij (a b:List Nd):aO (a++b)=aO a++aO b:=by unfold aO;rw [List.flatMap_append]
theorem qw (l:List Nd):(aO l).length=l.length*5:=by
 induction l with
 |nil=>rfl
 |cons x r ih=>rw [Ez,ξ,ih,ο];simp [oP];omega
theorem xd {p r:List Nd} {x:Nd} {k:Nat} (h:k=p.length):ε (δ (k:Int)*5) (aO (p++x::r))=oP x++aO r:=by
 subst h;rw [aF,Ij,Ez,<- qw,List.drop_left]
def jQ:List Nd->Nat->Nat ⊕ Int
 | [],d=> .inl d
 |x::r,d=>if aJ x=0 then (if d<gb x.op then .inr 11 else jQ r (d - gb x.op+1)) else .inr (aJ x)
def bO (l:List Nd):Int:=if 60<l.length then 2 else match jQ l 0 with| .inl d=>if d=1 then 0 else 11| .inr w=>w
def Qe:Nat ⊕ Int->a_
 | .inl _=> .exit 0
 | .inr _=> .ret
def JC (l:List Nd) (nn:Bool) (p:Nat × Nat):St:=(tT (.sl (aO l) l.length nn) l.length (p.1:Int) (p.2:Int))
def HM:Nat ⊕ Int->St
 | .inl d=>(wg (.int .i64 (d:Int)))
 | .inr w=>(v_ w)
theorem FM (c:Int):gb c<=3:=by unfold gb;(repeat' split)<;>omega
theorem qc {x:Nd} (h:aJ x=0):1<=x.op/\x.op<=24:=by
 cases c:Q6 x.op with
 |true=>simpa [Q6] using c
 |false=>unfold aJ at h;rw [c] at h;simp at h
theorem LU {nt:Nat} (n:35<=nt) (l p r:List Nd) (f:Bool) (x:Nd) (d:Nat) (y:x.sm) (o:l=p++x::r) (v:l.length<2^40) (hd:d<2^41):
  (¬ aJ x=0->ψ nt f64 (JC l f (p.length,d)) .ret (HM (.inr (aJ x))))/\
  (aJ x=0->d<gb x.op->ψ nt f64 (JC l f (p.length,d)) .ret (HM (.inr 11)))/\
  (aJ x=0->¬ d<gb x.op->ψ nt f64 (JC l f (p.length,d)) .normal (JC l f (p.length+1,d - gb x.op+1))):=by
 have g:ε (δ (p.length:Int)*5) (aO l)=oP x++aO r:=by rw [o];exact xd rfl
 have q:p.length+(r.length+1)=l.length:=by rw [o];simp
 have t:=PL x y;have u:=FM x.op;unfold JC HM;refine ⟨λe=> ?_,λe w=> ?_,λe w=> ?_⟩
 .have c:=acA n l f p.length d (aJ x) x r g;have j:(!(aJ x==((0:Nat):Int)))=true:=by simpa using e
  simp (disch:=first|omega|(simp [aq,ay]<;>omega)) only [j,bX,dg,bM,bL] at c;apply c<;>first|exact True.intro|omega|assumption|exact rfl
 .obtain ⟨i,h⟩:=qc e;have m:=Ho i h;rw [e] at t;have c:=acB n l f p.length d 0 x r g;have k:γ .i64 ((d:Int) - ((gb x.op:Nat):Int))=(d:Int) - (gb x.op:Int):=cf (by omega) (by omega);simp (disch:=first|omega|(simp [aq,ay]<;>omega)) only [Ψ,m,bo,k,bX,bM,dY,dI,dV,NK,dg,bL] at c;apply c<;>first|exact True.intro|omega|assumption|exact rfl
 .obtain ⟨i,h⟩:=qc e;have m:=Ho i h;rw [e] at t;have c:=acC n l f p.length d 0 x r g;have k:γ .i64 ((d:Int) - ((gb x.op:Nat):Int))=((d - gb x.op:Nat):Int):=by rw [cf]<;>omega
  simp (disch:=first|omega|(simp [aq,ay]<;>omega)) only [Ψ,m,bo,k,bL,dI,dV,eK,dY,bM,NK,dg,bX,cA,bi] at c;apply c<;>first|exact True.intro|omega|assumption|exact rfl
theorem Qg {nt:Nat} (g:35<=nt) (l:List Nd) (e:Bool) (c:l.length<2^40) (f:∀ x ∈ l,x.sm):∀ (r p:List Nd) (d:Nat),p++r=l->d<=p.length->aB prog ap [] nt (af 0 (am f64)) Qe (JC l e) HM (p.length,d) (jQ r d):=by
 intro r
 induction r with
 |nil=>
  intro p d h _;have hp:p.length=l.length:=by rw [<- h];simp
  rw [hp];exact .done (LS g l e l.length d 0 (by rw [bL];simp [lit]))
 | cons x r ih=>
  intro p d h hd;have m:p.length+(r.length+1)=l.length:=by rw [<- h];simp
  obtain ⟨i,j,k⟩:=LU g l p r e x d (f x (by rw [<- h];simp)) h.symm c (by omega);simp only [jQ];by_cases h1:aJ x=0
  .rw [if_pos h1];by_cases h2:d<gb x.op
   .rw [if_pos h2];exact .done (j h1 h2)
   .rw [if_neg h2];have hnext:=ih (p++ [x]) (d - gb x.op+1) (by simp [h]) (by simp;omega);rw [ξ,Δ] at hnext;exact .next (k h1 h2) hnext
  .rw [if_neg h1];exact .done (i h1)
theorem oW (l:List Nd) (c:Bool) (f:∀ x ∈ l,x.sm):CO 64 [.sl (aO l) l.length c] (.ret (ω (bO l))):=by
 unfold bO;by_cases h60:60<l.length
 .rw [if_pos h60];exact YC l c 0 (by rw [bL];exact Yq0 h60)
 .rw [if_neg h60];have e:lit false (decide (((60:Nat):Int)<(l.length:Int)))=true:=by rw [bL];simp only [lit,Xqt];exact Yq1 h60
  have hloop:=λnt (hn:35<=nt)=>Qg hn l c (by omega) f l [] 0 rfl (by simp)
  cases g:jQ l 0 with
  | inl d=>
   rw [g] at hloop;by_cases hd:d=1
   .have h:=YE l c d (by rw [qM,Yq0 hd];rfl) e;simp only [if_pos hd];exact h (aB.blk hloop (by simp [Qe]) rfl (aD.of ⟨rfl,rfl,rfl,rfl,trivial⟩) (aD.of ⟨rfl,trivial⟩))
   .have h:=YD l c d (by rw [qM,Yq1 hd];rfl) e;simp only [if_neg hd];exact h (aB.blk hloop (by simp [Qe]) rfl (aD.of ⟨rfl,rfl,rfl,rfl,trivial⟩) (aD.of ⟨rfl,trivial⟩))
  |inr w=>
   rw [g] at hloop;exact YF l c w e (aB.blk hloop (by simp [Qe]) rfl (aD.of ⟨rfl,rfl,rfl,rfl,trivial⟩) (aD.of ⟨rfl,trivial⟩))
theorem Ye {nt:Nat} (m:45<=nt) (l:List Nd) (c:Bool) (k:Nat) (C:List AV) (o own:List Nat) (x:Nd) (r:List Nd) (d:(ε ((δ (k:Int))*5) (aO l))=oP x++aO r) (h0:(decide ((γ .i64 (((0:Nat):Int) - (Γ (η (ε ((0+((δ x.op)*5))+1) gH) .dead))))=0))=true) (i:(Xqr (((0+(δ (k:Int)))*1)+1) (θ C))=true) (e:(decide (((0:Nat):Int)<=(k:Int)))=true) (f:(decide ((k:Int)<(l.length:Int)))=true) (j:(chk (.int .i64) (η (ε ((0+((δ x.op)*5))+1) gH) .dead))=true) (h5:(decide (((0:Nat):Int)<=x.op))=true) (n:(decide (x.op<((25:Nat):Int)))=true) (h7:lit true (decide ((k:Int)<(l.length:Int)))=true) (g:CO 96 [.nilS] (.ret (.sl (aA own) own.length false))):ψ nt f59 (Pa (.sl (aO l) l.length c) l.length k l.length C) (.normal) (E_ (.sl (aO l) l.length c) l.length (γ .i64 ((k:Int)+((1:Nat):Int))) l.length 1 (τ ((0+(δ (k:Int)))*1) C++ [.sl (aA own) own.length false]++ε (((0+(δ (k:Int)))*1)+1) C) [ω (k:Int)]):=
 have h:ψ nt f59 (Pa (.sl (aO l) l.length c) l.length k l.length C) (.normal) (Uj (.sl (aO l) l.length c) l.length (γ .i64 ((k:Int)+((1:Nat):Int))) l.length 1 (τ ((0+(δ (k:Int)))*1) C++ [.sl (aA own) own.length false]++ε (((0+(δ (k:Int)))*1)+1) C) [ω (k:Int)] [ω x.op,.bool x.neg,.str x.num,.str x.den,.str x.name]):=pJ 59 [] 2 1 (.k 4 h0 (.c i (.c e (.c f (.c h0 (.k 1 j (.c h5 (.c n (.k 7 e (.c f (.c h7 .nil))))))))))) (.c g (.v 20 (.ppt d) .nil)) m
 h.forgetD 2 ⟨[ω x.op,.bool x.neg,.str x.num,.str x.den,.str x.name],0,false,0,0,true⟩ (by intro v h;cases h) (by decide) rfl ⟨Fz.same rfl,Fz.same rfl,Fz.same rfl,Fz.same rfl,Fz.same rfl,trivial⟩ ⟨rfl,wJ.same rfl,by decide,rfl,wJ.same rfl,by decide,rfl⟩ rfl
theorem Jt {nt:Nat} (d:45<=nt) (l:List Nd) (c:Bool) (k:Nat) (C:List AV) (e own:List Nat) (h0:lit false (decide ((k:Int)<(l.length:Int)))=true):ψ nt f59 (Pa (.sl (aO l) l.length c) l.length k l.length C) (.exit 0) ⟨[(4,.ref 0 0 0 l.length)],[(0,⟨C,0,false,0,1,true⟩)],.dead,[]⟩:=pJ 59 [] 1 0 (.c h0 .nil) (.nil) d
theorem Yc {nt:Nat} (u:45<=nt) (l:List Nd) (d:Bool) (k:Nat) (C:List AV) (c own:List Nat) (x:Nd) (r:List Nd) (f:(ε ((δ (k:Int))*5) (aO l))=oP x++aO r) (h0:(Xqr (((δ (γ .i64 ((c.length:Int) - (Γ (η (ε ((0+((δ x.op)*5))+1) gH) .dead))))) - 0)+1) 1099511627776)=true) (o:(Xqr (((δ (γ .i64 ((c.length:Int) - (Γ (η (ε ((0+((δ x.op)*5))+1) gH) .dead))))) - 0)*1) (θ (aA c)))=true) (i:(decide (((0:Nat):Int)<=(γ .i64 ((c.length:Int) - (Γ (η (ε ((0+((δ x.op)*5))+1) gH) .dead))))))=true) (j:(decide ((γ .i64 ((c.length:Int) - (Γ (η (ε ((0+((δ x.op)*5))+1) gH) .dead))))<=(c.length:Int)))=true) (q:(Xqr (((0+(δ (k:Int)))*1)+1) (θ C))=true) (h5:(decide (((0:Nat):Int)<=(k:Int)))=true) (m:(decide ((k:Int)<(l.length:Int)))=true) (h7:(decide ((c.length:Int)<=(c.length:Int)))=true) (p:(chk (.int .i64) (η (ε ((0+((δ x.op)*5))+1) gH) .dead))=true) (t:(decide (((0:Nat):Int)<=x.op))=true) (g:(decide (x.op<((25:Nat):Int)))=true) (e:lit true (decide ((k:Int)<(l.length:Int)))=true) (n:az prog ap 96 [.ref 0 0 (0+(δ (γ .i64 ((c.length:Int) - (Γ (η (ε ((0+((δ x.op)*5))+1) gH) .dead)))))) ((δ (c.length:Int)) - (δ (γ .i64 ((c.length:Int) - (Γ (η (ε ((0+((δ x.op)*5))+1) gH) .dead))))))] [⟨(aA c),0,false,0,1,true⟩] (.ret (.sl (aA own) own.length false)) [⟨(aA c),0,false,0,1,true⟩]):ψ nt f59 (E_ (.sl (aO l) l.length d) l.length (k:Int) l.length c.length C (aA c)) (.normal) (E_ (.sl (aO l) l.length d) l.length (γ .i64 ((k:Int)+((1:Nat):Int))) l.length (((δ (γ .i64 ((c.length:Int) - (Γ (η (ε ((0+((δ x.op)*5))+1) gH) .dead))))) - 0)+1) (τ ((0+(δ (k:Int)))*1) C++ [.sl (aA own) own.length false]++ε (((0+(δ (k:Int)))*1)+1) C) ((τ (((δ (γ .i64 ((c.length:Int) - (Γ (η (ε ((0+((δ x.op)*5))+1) gH) .dead))))) - 0)*1) (aA c))++ [ω (k:Int)])):=
 have h:ψ nt f59 (E_ (.sl (aO l) l.length d) l.length (k:Int) l.length c.length C (aA c)) (.normal) (Uj (.sl (aO l) l.length d) l.length (γ .i64 ((k:Int)+((1:Nat):Int))) l.length (((δ (γ .i64 ((c.length:Int) - (Γ (η (ε ((0+((δ x.op)*5))+1) gH) .dead))))) - 0)+1) (τ ((0+(δ (k:Int)))*1) C++ [.sl (aA own) own.length false]++ε (((0+(δ (k:Int)))*1)+1) C) ((τ (((δ (γ .i64 ((c.length:Int) - (Γ (η (ε ((0+((δ x.op)*5))+1) gH) .dead))))) - 0)*1) (aA c))++ [ω (k:Int)]) [ω x.op,.bool x.neg,.str x.num,.str x.den,.str x.name]):=pJ 59 [] 1 1 (.k 1 h0 (.c o (.k 2 i (.c j (.c q (.c h5 (.c m (.c i (.c j (.c h7 (.c p (.c t (.c g (.k 7 h5 (.c m (.c e .nil)))))))))))))))) (.c n (.v 20 (.ppt f) .nil)) u
 h.forgetD 2 ⟨[ω x.op,.bool x.neg,.str x.num,.str x.den,.str x.name],0,false,0,0,true⟩ (by intro v h;cases h) (by decide) rfl ⟨Fz.same rfl,Fz.same rfl,Fz.same rfl,Fz.same rfl,Fz.same rfl,trivial⟩ ⟨rfl,wJ.same rfl,by decide,rfl,wJ.same rfl,by decide,rfl⟩ rfl
theorem Js {nt:Nat} (e:45<=nt) (l:List Nd) (d:Bool) (k:Nat) (C:List AV) (c own:List Nat) (h0:lit false (decide ((k:Int)<(l.length:Int)))=true):ψ nt f59 (E_ (.sl (aO l) l.length d) l.length (k:Int) l.length c.length C (aA c)) (.exit 0) ⟨[(4,.ref 0 0 0 l.length)],[(0,⟨C,0,false,0,1,true⟩),(1,⟨(aA c),0,false,0,1,true⟩)],.dead,[]⟩:=pJ 59 [] 1 0 (.c h0 .nil) (.nil) e
theorem Tu (l:List Nd) (c:Bool) (w:Int) (C:List AV) (h0:lit true (!(w==((0:Nat):Int)))=true) (d:CO 64 (VaO l c) (.ret (ω w))):CO 59 (VaO l c) (.ret (.tup [.nilS,.bool false])):=pK [0] 1 1 (.c h0 .nil) (.c d .nil)
theorem Yd (l:List Nd) (c:Bool) (w:Int) (C:List AV) (h0:(decide (((0:Nat):Int)<=(l.length:Int)))=true) (d:(decide ((l.length:Int)=(l.length:Int)))=true) (e:(decide ((l.length:Int)<=((1099511627776:Nat):Int)))=true) (g:lit false (!(w==((0:Nat):Int)))=true) (h:CO 64 (VaO l c) (.ret (ω w))) (f:LB 45 0 f59 (Uk (.sl (aO l) l.length c) (δ (l.length:Int)) (!(w==((0:Nat):Int))) (.sl (aO l) l.length c) l.length (dA (δ (l.length:Int)) [.nilS])) (.normal) ⟨[(4,.ref 0 0 0 l.length)],[(0,⟨C,0,false,0,1,true⟩)],.dead,[]⟩):CO 59 (VaO l c) (.ret (.tup [.own (τ (l.length*1) C) l.length 1,.bool true])):=pK [0] 1 0 (.c h0 (.c d (.c e (.c g .nil)))) (.l f (.c h .nil))
theorem YH:CO 96 [.nilS] (.ret (.nilS)):=pK [] 1 1 (.n 1 .nil) (.nil)
theorem YG (c:List Nat) (i n:Nat) (h0:(Nat.beq (θ (τ (n*1) (ε (i*1) (aA c)))) (n*1))=true) (d:(Xqr (0+n) 1099511627776)=true):az prog ap 96 [.ref 0 0 i n] [⟨(aA c),0,false,0,1,true⟩] (.ret (.own (τ ((0+n)*1) ([]++(τ (n*1) (ε (i*1) (aA c))))) (0+n) 1)) [⟨(aA c),0,false,0,1,true⟩]:=pK [] 1 0 (.c h0 (.c d (.n 3 .nil))) (.nil)
def uq:List Nd->Nat->List Nat->List (List Nat)
 | [],_,_=> []
 |x::r,k,st=>st.drop (st.length - gb x.op)::uq r (k+1) (st.take (st.length - gb x.op)++ [k])
def bt (l:List Nd):List (List Nat):=uq l 0 []
def B6 (a:List Nat):AV:= .sl (aA a) a.length false
def aZ (ll:List (List Nat)):List AV:=ll.map B6
def X8:List Nd->Nat->List Nat->List Nat
 | [],_,st=>st
 |x::r,k,st=>X8 r (k+1) (st.take (st.length - gb x.op)++ [k])
theorem DL (r:List Nd):∀ k c,(uq r k c).length=r.length:=by
 induction r with
 |nil=>intros;rfl
 |cons x r ih=>intro k c;simp only [uq,ο,ih]
def agE (st:List Nat):AV:=match st with| []=> .nilS|x::l=> .ref 1 0 0 (x::l).length
def XY (st:List Nat):Hp:=match st with| []=> []|x::l=> [(1,⟨aA (x::l),0,false,0,1,true⟩)]
theorem FK {l:List Nat} (h:l ≠ []):agE l= .ref 1 0 0 l.length:=by cases l with|nil=>exact absurd rfl h|cons _ _=>rfl
theorem BW {l:List Nat} (h:l ≠ []):XY l= [(1,⟨aA l,0,false,0,1,true⟩)]:=by cases l with|nil=>exact absurd rfl h|cons _ _=>rfl
def BX (l:List Nd) (nn:Bool) (p:Nat × List Nat × List AV):St:=⟨[(15,.sl (aO l) l.length nn),(16,ω (l.length:Int)),(17,ω (p.1:Int)),(4,.ref 0 0 0 l.length),(5,agE p.2.1)],(0,⟨p.2.2,0,false,0,1,true⟩)::XY p.2.1,.dead,[]⟩
def AJ (l:List Nd) (p:List Nat × List AV):St:=⟨[(4,.ref 0 0 0 l.length)],(0,⟨p.2,0,false,0,1,true⟩)::XY p.1,.dead,[]⟩
theorem JF:az prog ap 96 [.nilS] [] (.ret (.sl (aA []) ([]:List Nat).length false)) []:=YH.out (gz.ret rfl rfl (bC.nilS false rfl))
theorem LY (c:List Nat) (i n:Nat) (h:i+n=c.length) (k:c.length<2^40):az prog ap 96 [.ref 0 0 i n] [⟨aA c,0,false,0,1,true⟩] (.ret (.sl (aA (c.drop i)) n false)) [⟨aA c,0,false,0,1,true⟩]:=by
 have g:=YG c i n;have j:n<=c.length:=by omega
 have f:τ n (ε i (aA c))=aA (c.drop i):=by
  rw [Ma,gI,Xqa (by simp;omega)]
 have d:(aA (c.drop i)).length=n:=by rw [fH,Xx3];omega
 simp (disch:=first|omega|(simp [aq,ay]<;>omega)) only [Xqi,f,d,NI,decide_true,Ψ,eV,bM,Xqb] at g;have e:=(g True.intro (by omega)).thaw (by simp);simp only [ny,thaw,Xqi] at e;rw [Xqa (by rw [Xq7,d];omega),Xqa (by omega)] at e;exact e.out (gz.sl1 _ _ _)
theorem P2 {nt:Nat} (q:45<=nt) (l p r:List Nd) (g:Bool) (x:Nd) (c:List Nat) (C C2:List AV) (k:l=p++x::r) (B:l.length<2^39) (i:1<=x.op/\x.op<=24) (j:gb x.op<=c.length) (v:c.length<=p.length) (n:C.length=l.length)
  (hset:τ p.length C++ [B6 (c.drop (c.length - gb x.op))]++ε (p.length+1) C=C2):
  ψ nt f59 (BX l g (p.length,c,C)) .normal (BX l g (p.length+1,c.take (c.length - gb x.op)++ [p.length],C2)):=by
 have e:ε (δ (p.length:Int)*5) (aO l)=oP x++aO r:=by rw [k];exact xd rfl
 have t:p.length+(r.length+1)=l.length:=by rw [k];simp
 obtain ⟨y,w⟩:=i;have o:=Ho y w;unfold BX;simp only;rw [FK (gO _ _),BW (gO _ _)];rcases Xjb (c= []) with rfl|hne
 .have h0:gb x.op=0:=by simpa using j
  have d:=Ye q l g p.length C [] [] x r e;simp only [Ξ,Nat.zero_sub,List.drop_nil,List.take_nil,Xqb] at hset ⊢;unfold B6 at hset;have h:=JF;simp (disch:=first|omega|(simp [aq,ay]<;>omega)) only [Ψ,o,h0,bo,iM,Xzc,bM,aF,Xqi,n,eV,dg,bL,dY,bX,Ξ,cA,bi] at d;simp only [agE,XY,aA,Xqf,Xjc,ο,Ξ,Ψ] at d hset h ⊢;rw [hset] at d;apply d<;>first|exact True.intro|omega|assumption|exact rfl|skip
 .have A:=LY c (c.length - gb x.op) (gb x.op) (by omega) (by omega);have d:=Yc q l g p.length C c (c.drop (c.length - gb x.op)) x r e;rw [FK hne,BW hne];unfold B6 at hset;generalize E:c.length - gb x.op=m at*
  have f:(c.drop m).length=gb x.op:=by rw [Xx3];omega
  have D:γ .i64 ((c.length:Int) - ((gb x.op:Nat):Int))=(m:Int):=by rw [cf]<;>omega
  have u:c.length - m=gb x.op:=by omega
  rw [f] at d hset;have z:(c.take m).length=m:=by rw [Xq7];omega
  simp (disch:=first|omega|(simp [aq,ay]<;>omega)) only [Ψ,o,bo,D,aF,Xzc,eV,bM,Xqi,fH,dg,n,bL,dY,bX,u,cA,bi,hset,gI,mS] at d;simp only [ξ,Δ,z];apply d<;>first|exact True.intro|omega|assumption|exact rfl|skip
theorem Qf {r:List Nd} {d e:Nat} {x:Nd} (h:jQ (x::r) d= .inl e):(1<=x.op/\x.op<=24)/\gb x.op<=d/\jQ r (d - gb x.op+1)= .inl e:=by
 simp only [jQ] at h;by_cases h1:aJ x=0
 .rw [if_pos h1] at h;by_cases h2:d<gb x.op
  .rw [if_pos h2] at h;cases h
  .rw [if_neg h2] at h;exact ⟨qc h1,by omega,h⟩
 .rw [if_neg h1] at h;cases h
theorem qg (c:List (List Nat)):(aZ c).length=c.length:=by simp [aZ]
theorem Ju (done:List (List Nat)) (a:List Nat) (m:Nat):τ done.length (aZ done++ζ (m+1) Yqj)++ [B6 a]++ε (done.length+1) (aZ done++ζ (m+1) Yqj)=aZ (done++ [a])++ζ m Yqj:=by
 have c:=qg done;rw [List.take_append_of_le_length (by omega),Xqa (by omega),Xkh,Xjo (by omega),Xqb,show done.length+1 - (aZ done).length=1 by omega,Xxa,List.drop_succ_cons,Xx8];unfold aZ;rw [Xq5];rfl
theorem P1 {nt:Nat} (o:45<=nt) (l:List Nd) (i:Bool) (m:l.length<2^39) (e:Nat):∀ (r p:List Nd) (c:List Nat) (done:List (List Nat)),p++r=l->jQ r c.length= .inl e->c.length<=p.length->done.length=p.length->aB prog ap [] nt (af 0 (am f59)) (λ_=> .exit 0) (BX l i) (AJ l) (p.length,c,aZ done++ζ r.length .nilS) (X8 r p.length c,aZ (done++uq r p.length c)):=by
 intro r
 induction r with
 | nil=>
  intro p c done h q g hd;have hp:p.length=l.length:=by rw [<- h];simp
  rw [hp];simp only [uq,X8,Xqd,Ξ,Xzt];refine .done ?_;unfold BX AJ;have t:ψ nt f59 (BX l i (l.length,c,aZ done)) (.exit 0) (AJ l (c,aZ done)):=by
   unfold BX AJ;rcases Xjb (c= []) with rfl|hne
   .exact Jt o l i l.length (aZ done) [] [] (by rw [bL];simp [lit])
   .simp only;rw [FK hne,BW hne];exact Js o l i l.length (aZ done) c [] (by rw [bL];simp [lit])
  exact t
 | cons x r ih=>
  intro p c done h q g hd;obtain ⟨j,k,n⟩:=Qf q;have u:p.length+(r.length+1)=l.length:=by rw [<- h];simp
  have d:(c.take (c.length - gb x.op)++ [p.length]).length=c.length - gb x.op+1:=by
   rw [ξ,Xq7,Δ,Xjp (by omega)]
  have hnext:=ih (p++ [x]) (c.take (c.length - gb x.op)++ [p.length]) (done++ [c.drop (c.length - gb x.op)]) (by simp [h]) (by rw [d];exact n) (by rw [d];simp;omega) (by simp [hd]);rw [ξ,Δ,Xqe] at hnext;simp only [uq,X8,ο];have f:=Ju done (c.drop (c.length - gb x.op)) r.length;rw [hd] at f;have hstep:=P2 o l p r i x c (aZ done++ζ (r.length+1) .nilS) _ h.symm m j k g (by rw [ξ,qg,Xq9];omega) f;exact .next hstep hnext
theorem Ol (n:Nat):dA n [Yqj]=ζ n Yqj:=by
 unfold dA
 induction n with
 |zero=>rfl
 |succ n ih=>rw [Xxa,List.flatten_cons,ih,Xxa];rfl
theorem FZ {l:List Nd} (h:bO l=0):l.length<=60/\jQ l 0= .inl 1:=by
 unfold bO at h;by_cases h60:60<l.length
 .rw [if_pos h60] at h;cases h
 .rw [if_neg h60] at h;refine ⟨by omega, ?_⟩;have e:∀ (r:List Nd) (d:Nat) (w:Int),jQ r d= .inr w->w ≠ 0:=by
   intro r
   induction r with
   |nil=>intro d w h;cases h
   | cons x r ih=>
    intro d w h;simp only [jQ] at h;by_cases h1:aJ x=0
    .rw [if_pos h1] at h;by_cases h2:d<gb x.op
     .rw [if_pos h2] at h;cases h;decide
     .rw [if_neg h2] at h;exact ih _ _ h
    .rw [if_neg h1] at h;cases h;exact h1
  cases c:jQ l 0 with
  |inl d=>
   rw [c] at h;by_cases hd:d=1
   .rw [hd]
   .simp only [if_neg hd] at h;cases h
  |inr w=>rw [c] at h;exact absurd h (e l 0 w c)
theorem P7 (l:List Nd) (d:Bool) (i:∀ x ∈ l,x.sm) (n:bO l=0):CO 59 [.sl (aO l) l.length d] (.ret (.tup [.sl (aZ (bt l)) l.length true,.bool true])):=by
 have e:τ l.length (aZ (bt l))=aZ (bt l):=Xqa (by rw [qg];unfold bt;rw [DL];omega)
 suffices hown:CO 59 [.sl (aO l) l.length d] (.ret (.tup [.own (aZ (bt l)) l.length 1,.bool true])) by
  have h:=hown.thaw (by simp);simp only [ny,Xqf,Xjc,thaw,Xqi,e] at h;exact h
 have g:=oW l d i;obtain ⟨q,j⟩:=FZ n;rw [n] at g;have hloop:=λnt (hn:45<=nt)=>P1 hn l d (by omega) 1 l [] [] [] rfl j (by simp) rfl
 have f:(bt l).length=l.length:=DL l 0 [];have h:=Yd l d 0 (aZ (bt l));simp (disch:=first|omega|(simp [aq,ay]<;>omega)) only [dg,bM,decide_true,dI,dV,NK,aF,Ol,Xqi,e] at h;have p:(aZ (bt l)).length=l.length:=by rw [qg,f]
 have r:l.length<1099511627776:=by omega
 apply h<;>first|exact True.intro|omega|assumption|exact rfl|skip
 intro nt m;have k:=aB.blk (s:=BX l d (0,[],ζ l.length Yqj)) (s':=AJ l (X8 l 0 [],aZ (bt l))) (id:=0) hloop (by simp) rfl (aD.refl _) (aD.refl _) nt m;unfold BX AJ at k;simp only [agE,XY] at k;have c:=k.weak (s':=(Uk (.sl (aO l) l.length d) l.length false (.sl (aO l) l.length d) l.length (ζ l.length Yqj))) (aD.of ⟨rfl,rfl,rfl,rfl,rfl,trivial⟩) (aD.refl _);rcases Xjb (X8 l 0 []= []) with he|he
 .rw [he] at c;exact c
 .have o:=BW he;unfold XY at o;rw [o] at c;exact c.forget 1 _ (by intro v h;cases h) (by decide) rfl ⟨Fz.same rfl,trivial⟩ ⟨rfl,wJ.same rfl,by decide,rfl⟩
theorem wd1 {k:Nat} (h:k<2^62):ω (γ .i64 ((k:Int)+((1:Nat):Int)))= ω ((k+1:Nat):Int):=by
 have e:γ .i64 ((k:Int)+((1:Nat):Int))=((k+1:Nat):Int):=by rw [cf]<;>omega
 rw [e]
theorem kT (k:Nat):decide (((0:Nat):Int)<=(k:Int))=true:=Yq0 (by omega)
theorem aS {k n:Nat} (h:k<n):decide ((k:Int)<(n:Int))=true:=Yq0 (by omega)
theorem ku {k:Nat} (h:k<2^62):ω (γ .i64 ((k:Int)+((1:Nat):Int)))= ω ((k+1:Nat):Int):=by
 have e:γ .i64 ((k:Int)+((1:Nat):Int))=((k+1:Nat):Int):=by rw [cf]<;>omega
 rw [e]
theorem ux {k n:Nat} (h:n<=k):decide ((k:Int)<(n:Int))=false:=Yq1 (by omega)
theorem Vu {k n:Nat} (h:k<=n):decide ((k:Int)<=(n:Int))=true:=Yq0 (by omega)
def xK (w:List UInt8):List UInt8->Nat
 | []=>0
 |c::r=>if w.any (λb=>c==b) then xK w r+1 else 0
theorem HH (w:List UInt8):∀ s,xK w s<=s.length
 | []=>κ _
 |c::r=>by
  unfold xK;split
  .have:=HH w r;simp only [ο];omega
  .exact Xqo _
theorem Yu (a b:UInt8):((a.toNat:Int)==(b.toNat:Int))=(a==b):=by
 by_cases h:a=b
 .subst h;simp
 .have:a.toNat ≠ b.toNat:=λe=>h (UInt8.toNat_inj.1 e)
  rw [beq_eq_false_iff_ne.2 h,beq_eq_false_iff_ne.2 (by omega)]
def PV (o:Option (Nat × List AV)) (s:List UInt8) (bg:Int) (bd:Bool):List aM:=match o with
 |none=> [⟨[.str s,.nilS,.int .i64 bg,.bool bd],0,false,0,0,true⟩]
 |some q=> [⟨[.str s,.ref 1 0 0 q.1,.int .i64 bg,.bool bd],0,false,0,0,false⟩,⟨q.2,0,false,0,5,true⟩]
def UT (o:Option (Nat × List AV)) (s:List UInt8) (bg:Int) (bd:Bool):Hp:=match o with
 |none=> [(0,⟨[.str s,.nilS,.int .i64 bg,.bool bd],0,false,0,0,true⟩)]
 |some q=> [(0,⟨[.str s,.ref 1 0 0 q.1,.int .i64 bg,.bool bd],0,false,0,0,false⟩),(1,⟨q.2,0,false,0,5,true⟩)]
def wix (s w:List UInt8) (bg:Int) (bd:Bool) (o:Option (Nat × List AV)) (n:Nat) (p:Nat × Bool):St:=⟨[(0,.ptr 0 0 0),(1,.str w),(5,ω (n:Int)),(6,.bool p.2),(7,ω (p.1:Int))],(UT o s bg bd),.dead,[]⟩
def wox (s w:List UInt8) (bg:Int) (bd:Bool) (o:Option (Nat × List AV)) (n:Nat) (inn:Bool):St:=⟨[(0,.ptr 0 0 0),(1,.str w),(5,ω (n:Int)),(6,.bool inn)],(UT o s bg bd),.dead,[]⟩
theorem wlx {nt:Nat} (i:55<=nt) (s w:List UInt8) (g:Int) (m:Bool) (o:Option (Nat × List AV)) (n:Nat) (h:n<s.length) (j:w.length<2^40):∀ (d k:Nat) (c:Bool),k+d=w.length->
  aB prog ap (PV o s g m) nt (af 2 (am f144)) (λ_=> .exit 2) (wix s w g m o n) (wox s w g m o n) (k,c) (c||(w.drop k).any (λb=>s.getD n 0==b)):=by
 intro d
 induction d with
 |zero=>
  intro k c q;have f:(decide ((k:Int)<(((θ w):Nat):Int)))=false:=Yq1 (by omega);rw [Xjo (by omega),List.any_nil,Bool.or_false];exact .done (by cases o<;>exact pN 144 [] 1 0 (.c (aw f) .nil) (.nil) i)
 | succ d ih=>
  intro k c q;have f:(decide ((k:Int)<(((θ w):Nat):Int)))=true:=Yq0 (by omega);have e:k<w.length:=by omega
  have j:k<2^62:=by omega
  have p:(w.drop k).any (λb=>s.getD n 0==b)=(s.getD n 0==w.getD k 0||(w.drop (k+1)).any (λb=>s.getD n 0==b)):=by
   rw [Xxk e,List.any_cons,μ,μ (l:=w),ν e];rfl
  rw [p];rcases tf c with b1|b1
  .have:=ih (k+1) true (by omega);rw [Xj4] at this;rw [show (c||(s.getD n 0==w.getD k 0||(w.drop (k+1)).any (λb=>s.getD n 0==b)))=true by rw [b1,Xj4]];exact .next (by cases o<;>exact pN 144 [] 2 3 (.c (ax b1) (.c (ax f) .nil)) (.v 7 (.eq (wd1 j)) .nil) i) this
  .have:=ih (k+1) (s.getD n 0==w.getD k 0) (by omega);rw [show (c||(s.getD n 0==w.getD k 0||(w.drop (k+1)).any (λb=>s.getD n 0==b)))=(s.getD n 0==w.getD k 0||(w.drop (k+1)).any (λb=>s.getD n 0==b)) by rw [b1,Xx2]];rw [<- Yu (s.getD n 0) (w.getD k 0)] at this ⊢;exact .next (by cases o<;>exact pN 144 [] 2 1 (.c (kT k) (.c (aS e) (.c (kT n) (.c (aS h) (.k 1 (aw b1) (.c (ax f) .nil)))))) (.v 7 (.eq (wd1 j)) .nil) i) this
def wsx (s w:List UInt8) (bg:Int) (bd:Bool) (o:Option (Nat × List AV)) (n:Nat):St:=⟨[(0,.ptr 0 0 0),(1,.str w),(5,ω (n:Int))],(UT o s bg bd),.dead,[]⟩
def wrx (s w:List UInt8) (bg:Int) (bd:Bool) (o:Option (Nat × List AV)) (n:Nat):St:=⟨[(0,.ptr 0 0 0),(5,ω (n:Int))],(UT o s bg bd),.dead,[]⟩
theorem wmx {nt:Nat} (k:55<=nt) (s w:List UInt8) (d:Int) (e:Bool) (o:Option (Nat × List AV)) (hs:s.length<2^40) (q:w.length<2^40):∀ (r p:List UInt8),p++r=s->
  aB prog ap (PV o s d e) nt (af 0 (am f144)) (λ_=> .exit 0) (wsx s w d e o) (wrx s w d e o) p.length (p.length+xK w r):=by
 intro r
 induction r with
 |nil=>
  intro p hp;have t:p.length=s.length:=by rw [<- hp];simp
  generalize p.length=n at*
  have l:(decide ((n:Int)<(((θ s):Nat):Int)))=false:=Yq1 (by omega);exact .done (by cases o<;>exact pN 144 [2] 1 0 (.c (aw l) (.n 1 .nil)) (.nil) k)
 | cons c r ih=>
  intro p hp;have t:p.length<s.length:=by rw [<- hp];simp
  have u:s.getD p.length 0=c:=by rw [<- hp,μ];simp
  have i:=ih (p++ [c]) (by rw [<- hp];simp);rw [ξ,Δ] at i;unfold xK;generalize p.length=n at*
  have l:(decide ((n:Int)<(((θ s):Nat):Int)))=true:=Yq0 (by omega);have m:n<2^62:=by omega
  have g:∀ f,f=w.any (λb=>c==b)->gk prog ap (PV o s d e) 55 (.block 2 (.loop (af 2 (am f144)))) ⟨[(0,.ptr 0 0 0),(1,.str w),(4,.dead),(5,ω (n:Int)),(6,.bool false),(7,ω 0),(8,.dead),(15,.bool (decide ((n:Int)<(((θ s):Nat):Int)))),(19,.dead),(36,.dead)],(UT o s d e),.dead,[]⟩ (.normal) ⟨[(0,.ptr 0 0 0),(1,.str w),(5,ω (n:Int)),(6,.bool f)],(UT o s d e),.dead,[]⟩:=by
   intro f j;have h:∀ nt,55<=nt->aB prog ap (PV o s d e) nt (af 2 (am f144)) (λ_=> .exit 2) (wix s w d e o n) (wox s w d e o n) (0,false) f:=by
    intro nt k;have:=wlx k s w d e o n t q w.length 0 false (Ψ _);rw [Xx8,u,Xx2,<- j] at this;exact this
   exact aB.blk h (by simp) rfl (aD.of ⟨rfl,rfl,rfl,rfl,rfl,trivial⟩) (aD.of ⟨rfl,rfl,rfl,rfl,trivial⟩)
  rcases tf (w.any (λb=>c==b)) with b1|b1
  .rw [if_pos b1];have j:(true:Bool)=w.any (λb=>c==b):=b1.symm;have g:=g true j;rw [show n+(xK w r+1)=n+1+xK w r by omega];have q:=m;exact .next (by cases o<;>exact pN 144 [2] 2 1 (.k 1 (ax l) (.n 1 .nil)) (.v 38 (.eq (wd1 q)) (.l g .nil)) k) i
  .rw [if_neg (by rw [b1];decide)];have j:(false:Bool)=w.any (λb=>c==b):=b1.symm;have g:=g false j;exact .done (by cases o<;>exact pN 144 [2] 2 3 (.k 1 (ax l) (.n 1 .nil)) (.l g .nil) k)
theorem wfx (s w:List UInt8) (d:Int) (e:Bool) (o:Option (Nat × List AV)) (n:Nat) (c:n<=s.length) (f:gk prog ap (PV o s d e) 55 (.block 0 (.loop (af 0 (am f144)))) ⟨[(0,.ptr 0 0 0),(1,.str w),(4,.str []),(5,ω 0),(6,.dead),(7,.dead),(8,.dead),(15,.dead),(19,.dead),(36,.dead)],(UT o s d e),.dead,[]⟩ (.normal) ⟨[(0,.ptr 0 0 0),(5,ω (n:Int))],(UT o s d e),.dead,[]⟩):az prog ap 144 [.ptr 0 0 0,.str w] (PV o s d e) (.ret (.str (ε 0 (τ (δ (n:Int)) s)))) (PV o (ε (δ (n:Int)) (τ (δ (((θ s):Nat):Int)) s)) d e):=by cases o<;>exact pK [0] 0 0 (.k 1 (kT n) (.c (Vu c) (.c (Vu (κ s.length)) (.k 2 (kT n) (.c (Vu c) (.n 1 .nil)))))) (.l f .nil)
theorem ct (s w:List UInt8) (c:Int) (d:Bool) (o:Option (Nat × List AV)) (hs:s.length<2^40) (f:w.length<2^40):az prog ap 144 [.ptr 0 0 0,.str w] (PV o s c d) (.ret (.str (ε 0 (τ (δ ((xK w s:Nat):Int)) s)))) (PV o (ε (δ ((xK w s:Nat):Int)) (τ (δ (((θ s):Nat):Int)) s)) c d):=by
 have h:∀ nt,55<=nt->aB prog ap (PV o s c d) nt (af 0 (am f144)) (λ_=> .exit 0) (wsx s w c d o) (wrx s w c d o) 0 (xK w s):=by
  intro nt e;have:=wmx e s w c d o hs f s [] rfl;rw [Ξ,Ψ] at this;exact this
 exact wfx s w c d o (xK w s) (HH w s) (aB.blk h (by simp) rfl (aD.of ⟨rfl,rfl,rfl,trivial⟩) (aD.of ⟨rfl,rfl,trivial⟩))
theorem MZ (l:List Nat) (y:Nat):∃ z m,l++ [y]=z::m/\m.length=l.length:=by
 cases l with
 |nil=>exact ⟨y,[],rfl,rfl⟩
 |cons b l=>exact ⟨b,l++ [y],rfl,by simp⟩
theorem Vs {s:List UInt8} (h:s.length<2^35):(cI (aj s)).length<2^35:=by
 have c:(cI (aj s)).length<=s.length:=Cl (υ (eD s) (by rw [Xjs];exact Nat.pow_le_pow_left (by decide) _));omega
theorem NE (s t:List UInt8) (hs:s.length<=3) (h:t.length<=4):CO 48 [.str s,.str t] (.ret (.str (ae (aj s*aj t)))):=by
 have f:aj s<2^(8*3):=υ (eD s) (Θ (by omega) (by omega));have g:aj t<2^(8*4):=υ (eD t) (Θ (by omega) (by omega));have s1:=nr s 3 (by omega) (by omega) f;have e:=nr t 4 (by omega) (by omega) g;have c:aj s*aj t<9223372036854775808:=φ (Xwu (show aj s<=16777215 by omega) (show aj t<=4294967295 by omega)) (by omega);have d:=je (aj s*aj t) c;rw [<- Tk c] at d;exact Xo s t _ _ _ s1 e d
theorem acV {nt:Nat} (G:68<=nt) (u v o:List Nat) (w e:Bool) (i j c a x y:Nat) (k:Xxx .u32 (Γ (η (ε ((δ (j:Int))*1) (ak v)) .dead))= .int .u32 (y:Int)) (m:Xxx .u64 (γ .u64 (a:Int))= .int .u64 (a:Int)) (p:Xxx .u64 (γ .u64 (y:Int))= .int .u64 (y:Int)) (r:Xxx .u64 (γ .u64 ((a:Int)*(y:Int)))= .int .u64 (((a*y):Nat):Int)) (h:Xxx .u32 (Γ (η (ε ((0+(δ (((i+j):Nat):Int)))*1) (ak o)) .dead))= .int .u32 (x:Int)) (f:Xxx .u64 (γ .u64 (x:Int))= .int .u64 (x:Int)) (l:Xxx .u64 (γ .u64 ((((a*y):Nat):Int)+(x:Int)))= .int .u64 (((a*y+x):Nat):Int)) (q:Xxx .u64 (γ .u64 ((((a*y+x):Nat):Int)+(c:Int)))= .int .u64 (((a*y+x+c):Nat):Int)) (d:ω (γ .i64 ((i:Int)+(j:Int)))= ω (((i+j):Nat):Int)) (g:Xxx .u32 (γ .u32 (((a*y+x+c):Nat):Int))= .int .u32 ((((a*y+x+c) % 4294967296):Nat):Int)) (n:Xxx .u64 (Xq1 (((a*y+x+c):Nat):Int) (2^(min 32 64)))= .int .u64 ((((a*y+x+c) / 4294967296):Nat):Int)) (t:ω (γ .i64 ((j:Int)+((1:Nat):Int)))= ω (((j+1):Nat):Int)) (C:(Xqr (((0+(δ (((i+j):Nat):Int)))*1)+1) (θ (ak o)))=true) (B:(decide (((0:Nat):Int)<=(((i+j):Nat):Int)))=true) (z:(decide ((((i+j):Nat):Int)<(o.length:Int)))=true) (D:(chk (.int .u32) (η (ε ((0+(δ (((i+j):Nat):Int)))*1) (ak o)) .dead))=true) (F:(chk (.int .u32) (η (ε ((δ (j:Int))*1) (ak v)) .dead))=true) (E:Va3 j) (A:(decide ((j:Int)<(v.length:Int)))=true):ag prog ap [] nt (af 2 (am f184)) (I9 (Vam v e) o.length i (.int .u32 (a:Int)) (.int .u64 (c:Int)) (Vam u w) u.length i (Vam v e) v.length j (ak o)) (.normal) (I9 (Vam v e) o.length i (.int .u32 (a:Int)) (.int .u64 ((((a*y+x+c) / 4294967296):Nat):Int)) (Vam u w) u.length i (Vam v e) v.length (j+1) (τ ((0+(δ (((i+j):Nat):Int)))*1) (ak o)++ [.int .u32 ((((a*y+x+c) % 4294967296):Nat):Int)]++ε (((0+(δ (((i+j):Nat):Int)))*1)+1) (ak o))):=pN 184 [] 1 1 (.c C (.c B (.c z (.k 1 D (.c B (.c z (.c F (.c E (.c A (.c (ax A) .nil)))))))))) (.v 56 (.eq t) (.v 54 (.eq n) (.v 52 (.eq g) (.v 50 (.eq d) (.v 46 (.eq q) (.v 44 (.eq l) (.v 43 (.eq f) (.v 42 (.eq h) (.v 40 (.eq d) (.v 36 (.eq r) (.v 35 (.eq p) (.v 33 (.eq m) (.v 31 (.eq k) .nil))))))))))))) G
theorem acW {nt:Nat} (g:68<=nt) (u v o:List Nat) (e d:Bool) (i j c a x y:Nat) (f:(decide ((j:Int)<(v.length:Int)))=false):ag prog ap [] nt (af 2 (am f184)) (I9 (Vam v d) o.length i (.int .u32 (a:Int)) (.int .u64 (c:Int)) (Vam u e) u.length i (Vam v d) v.length j (ak o)) (.exit 2) (Pi (Vam v d) o.length i (.int .u64 (c:Int)) (Vam u e) u.length i (ak o)):=pN 184 [] 1 0 (.c (aw f) .nil) (.nil) g
theorem acX {nt:Nat} (t:68<=nt) (u v o c:List Nat) (e d:Bool) (i a f:Nat) (h:Xxx .u32 (Γ (η (ε ((δ (i:Int))*1) (ak u)) .dead))= .int .u32 (a:Int)) (g:ω (γ .i64 ((i:Int)+(v.length:Int)))= ω (((i+v.length):Nat):Int)) (j:Xxx .u32 (γ .u32 (f:Int))= .int .u32 (f:Int)) (k:ω (γ .i64 ((i:Int)+((1:Nat):Int)))= ω (((i+1):Nat):Int)) (m:(Xqr (((0+(δ (((i+v.length):Nat):Int)))*1)+1) (θ (ak c)))=true) (w:(decide (((0:Nat):Int)<=(((i+v.length):Nat):Int)))=true) (q:(decide ((((i+v.length):Nat):Int)<(c.length:Int)))=true) (p:(chk (.int .u32) (η (ε ((δ (i:Int))*1) (ak u)) .dead))=true) (r:Va3 i) (l:(decide ((i:Int)<(u.length:Int)))=true) (n:LB 68 2 f184 ⟨[(0,.dead),(1,.sl (ak v) v.length d),(4,.dead),(5,.ref 0 0 0 o.length),(6,ω (i:Int)),(7,.int .u32 (a:Int)),(8,.int .u64 0),(9,.dead),(10,.dead),(11,.dead),(18,.sl (ak u) u.length e),(19,ω (u.length:Int)),(20,ω (i:Int)),(21,.bool (decide ((i:Int)<(u.length:Int)))),(25,.sl (ak v) v.length d),(26,ω (v.length:Int)),(27,ω 0),(28,.dead)],[(0,⟨(ak o),0,false,0,1,true⟩)],.dead,[]⟩ (.normal) (Pi (.sl (ak v) v.length d) c.length i (.int .u64 (f:Int)) (.sl (ak u) u.length e) u.length i (ak c))):ψ nt f184 (I_ (Vam v d) o.length (Vam u e) u.length i (ak o)) (.normal) (I_ (Vam v d) c.length (Vam u e) u.length (i+1) (τ ((0+(δ (((i+v.length):Nat):Int)))*1) (ak c)++ [.int .u32 (f:Int)]++ε (((0+(δ (((i+v.length):Nat):Int)))*1)+1) (ak c))):=pN 184 [2] 1 1 (.c m (.c w (.c q (.c p (.c r (.c l (.c (ax l) .nil))))))) (.v 65 (.eq k) (.v 63 (.eq j) (.v 61 (.eq g) (.l n (.v 24 (.eq h) .nil))))) t
theorem acY {nt:Nat} (e:68<=nt) (u v o h:List Nat) (c f:Bool) (i a g:Nat) (d:(decide ((i:Int)<(u.length:Int)))=false):ψ nt f184 (I_ (Vam v f) o.length (Vam u c) u.length i (ak o)) (.exit 0) (zQ o.length (ak o)):=pN 184 [] 1 0 (.c (aw d) .nil) (.nil) e
theorem R3 (a b w:List Nat) (c d:Bool) (z:Nat) (g:(decide (((0:Nat):Int)<=(γ .i64 ((a.length:Int)+(b.length:Int)))))=true) (h:(decide ((γ .i64 ((a.length:Int)+(b.length:Int)))=(γ .i64 ((a.length:Int)+(b.length:Int)))))=true) (f:(decide ((γ .i64 ((a.length:Int)+(b.length:Int)))<=((1099511627776:Nat):Int)))=true) (i:CO 186 [.sl (τ (w.length*1) (ak w)) w.length true] (Val z)) (e:LB 68 0 f184 ⟨[(0,.sl (ak a) a.length c),(1,.sl (ak b) b.length d),(4,.nilS),(5,.ref 0 0 0 (δ (γ .i64 ((a.length:Int)+(b.length:Int))))),(6,.dead),(7,.dead),(8,.dead),(9,.dead),(10,.dead),(11,.dead),(18,.sl (ak a) a.length c),(19,ω (a.length:Int)),(20,ω 0),(21,.dead),(25,.dead),(26,.dead),(27,.dead),(28,.dead)],[(0,⟨(dA (δ (γ .i64 ((a.length:Int)+(b.length:Int)))) [.int .u32 0]),0,false,0,1,true⟩)],.dead,[]⟩ (.normal) (zQ w.length (ak w))):CO 184 (VaQ a c b d) (Val z):=pK [0] 0 0 (.c g (.c h (.c f .nil))) (.c i (.l e .nil))
def prI (u v:List Nat) (na nb:Bool) (i a:Nat) (p:Nat × List Nat × Nat):St:=(I9 (.sl (ak v) v.length nb) p.2.1.length i (.int .u32 (a:Int)) (.int .u64 (p.2.2:Int)) (.sl (ak u) u.length na) u.length i (.sl (ak v) v.length nb) v.length p.1 (ak p.2.1))
def prJ (u v:List Nat) (na nb:Bool) (i:Nat) (p:List Nat × Nat):St:=(Pi (.sl (ak v) v.length nb) p.1.length i (.int .u64 (p.2:Int)) (.sl (ak u) u.length na) u.length i (ak p.1))
def prO (u v:List Nat) (na nb:Bool) (p:Nat × List Nat):St:=(I_ (.sl (ak v) v.length nb) p.2.length (.sl (ak u) u.length na) u.length p.1 (ak p.2))
def prR (o:List Nat):St:=(zQ o.length (ak o))
def Ah (a:Nat):List Nat->List Nat->Nat->List Nat × Nat
 |x::m,y::v,c=>((a*y+x+c) % 4294967296::(Ah a m v ((a*y+x+c) / 4294967296)).1,(Ah a m v ((a*y+x+c) / 4294967296)).2)
 |_,_,c=>([],c)
theorem EI {a x y c:Nat} (d:a<4294967296) (h:x<4294967296) (g:y<4294967296) (e:c<4294967296):a*y<18446744073709551616/\a*y+x+c<18446744073709551616/\(a*y+x+c) / 4294967296<4294967296:=by
 have f:a*y<=4294967295*4294967295:=Xwu (by omega) (by omega);omega
theorem C5 {a:Nat} (d:a<4294967296):∀ (m v:List Nat) (c:Nat),m.length=v.length->c<4294967296->bG m->bG v->(Ah a m v c).2<4294967296/\bG (Ah a m v c).1/\(Ah a m v c).1.length=v.length/\aC (Ah a m v c).1+4294967296^v.length*(Ah a m v c).2=aC m+a*aC v+c
 | [],[],c,_,hc,_,_=> ⟨hc,bG.nil,rfl,by simp [Ah,aC]⟩
 |x::m,y::v,c,hl,hc,hm,hv=>by
  obtain ⟨_,_,f⟩:=EI d hm.head hv.head hc;obtain ⟨g,e,i,j⟩:=C5 d m v _ (by simpa using hl) f hm.tail hv.tail;simp only [Ah];refine ⟨g,bG.cons (Xq4 _ (by omega)) e,by simp [i], ?_⟩;simp only [aC,ο,Xxh];rw [Xqj (4294967296^v.length),Xqv,Xxq,Nat.mul_left_comm a];omega
 | [],_::_,_,h,_,_,_=>by simp at h
 |_::_,[],_,h,_,_,_=>by simp at h
def Iv (v:List Nat):List Nat->List Nat->List Nat
 | [],m=>m
 |a::u,m=>((Ah a m v 0).1++ [(Ah a m v 0).2]).headD 0::Iv v u ((Ah a m v 0).1++ [(Ah a m v 0).2]).tail
theorem Iw {v:List Nat} (e:bG v):∀ (u m:List Nat),bG u->bG m->m.length=v.length->bG (Iv v u m)/\(Iv v u m).length=u.length+v.length/\aC (Iv v u m)=aC m+aC u*aC v
 | [],m,_,hm,hl=> ⟨hm,by simp [Iv,hl],by simp [Iv,aC]⟩
 | a::u,m,hu,hm,hl=>by
  obtain ⟨f,h,l,n⟩:=C5 hu.head m v 0 hl (by omega) hm e;obtain ⟨z,c,h5,o⟩:=MZ (Ah a m v 0).1 (Ah a m v 0).2;have d:bG (z::c):=by rw [<- h5];exact bG.app h (bG.cons f bG.nil)
  have j:aC (z::c)=aC m+a*aC v:=by
   rw [<- h5,jH,l];simp only [aC];omega
  simp only [Iv,h5,Xjz,Xwt];obtain ⟨i,g,k⟩:=Iw e u c hu.tail d.tail (by omega);refine ⟨bG.cons d.head i,by simp [g];omega, ?_⟩;simp only [aC] at j ⊢;rw [k,Xxy,Xxq,Xqv];omega
theorem O3 {p s:List Nat} {x y k:Nat} (h:k=p.length):τ ((0+(δ (k:Int)))*1) (ak (p++x::s))++ [Xxx .u32 (y:Int)]++ε (((0+(δ (k:Int)))*1)+1) (ak (p++x::s))=ak (p++y::s):=by
 subst h;exact uh
theorem CE {p s:List Nat} {x k:Nat} (h:k=p.length):(η (ε ((δ (k:Int))*1) (ak (p++x::s))) .dead)= .int .u32 (x:Int):=by
 subst h;rw [uf];rfl
theorem Wi {p s:List Nat} {x k:Nat} (h:k=p.length):(η (ε ((0+(δ (k:Int)))*1) (ak (p++x::s))) .dead)= .int .u32 (x:Int):=by
 rw [Ψ];exact CE h
theorem wdp {a b:Nat} (h:a+b<9223372036854775808):ω (γ .i64 ((a:Int)+(b:Int)))= ω ((a+b:Nat):Int):=by
 rw [cA,bi h]
theorem adA {a b:Nat} (h:a+b<18446744073709551616):Xxx .u64 (γ .u64 ((a:Int)+(b:Int)))= .int .u64 ((a+b:Nat):Int):=by
 rw [cA,lu,χ h]
theorem adz {a:Nat} (h:a<18446744073709551616):Xxx .u64 (γ .u64 (a:Int))= .int .u64 (a:Int):=by
 rw [lu,χ h]
theorem ady {a:Nat} (h:a<4294967296):Xxx .u32 (γ .u32 (a:Int))= .int .u32 (a:Int):=by
 rw [nC,χ h]
theorem Q7 {nt:Nat} (B:68<=nt) (u u1 u2 v:List Nat) (i j:Bool) (a:Nat) (P:u=u1++a::u2) (D:a<4294967296) (W:bG v) (U:u.length<2^38) (F:v.length<2^38):∀ (w m e d pp z:List Nat) (c:Nat),e++w=v->m.length=w.length->d.length=e.length->pp.length=u1.length->bG m->c<4294967296->
  aB prog ap [] nt (af 2 (am f184)) (λ_=> .exit 2) (prI u v i j u1.length a) (prJ u v i j u1.length) (e.length,pp++d++m++z,c) (pp++d++(Ah a m w c).1++z,(Ah a m w c).2):=by
 intro w
 induction w with
 |nil=>
  intro m e d pp z c g h r t h5 C;have R:m= []:=List.length_eq_zero_iff.1 (by simpa using h);subst R;have k:e=v:=by simpa using g
  simp only [Ah];exact .done (acW B u v _ i j _ _ _ a 0 0 (by rw [k];exact Yq1 (by omega)))
 | cons y w ih=>
  intro m e d pp z c g h r t h5 C;cases m with
  |nil=>simp at h
  | cons x m=>
   have E:e.length+(w.length+1)=v.length:=by rw [<- g];simp
   have V:u1.length+(u2.length+1)=u.length:=by rw [P];simp
   have G:y<4294967296:=W y (by rw [<- g];simp);have Y:=h5.head;obtain ⟨X,b2,M⟩:=EI D h5.head G C;have f:=ih m (e++ [y]) (d++ [(a*y+x+c) % 4294967296]) pp z ((a*y+x+c) / 4294967296) (by simp [g]) (by simpa using h) (by simp [r]) t h5.tail M;simp only [Ah];rw [ξ,Δ] at f;have J:pp++d++x::m++z=(pp++d)++x::(m++z):=by simp
   have T:pp++(d++ [(a*y+x+c) % 4294967296])++m++z=(pp++d)++(a*y+x+c) % 4294967296::(m++z):=by simp
   have K:pp++(d++ [(a*y+x+c) % 4294967296])++(Ah a m w ((a*y+x+c) / 4294967296)).1++z=pp++d++(a*y+x+c) % 4294967296::(Ah a m w ((a*y+x+c) / 4294967296)).1++z:=by simp
   rw [K] at f;refine .next ?_ f
   have A:u1.length+e.length=(pp++d).length:=by rw [ξ];omega
   have q:((pp++d)++x::(m++z)).length=(pp++d).length+(m++z).length+1:=by simp;omega
   have hlen2:((pp++d)++(a*y+x+c) % 4294967296::(m++z)).length=((pp++d)++x::(m++z)).length:=by simp
   have Q:=Wi (p:=pp++d) (s:=m++z) (x:=x) A;have I:(η (ε ((δ (e.length:Int))*1) (ak v)) .dead)= .int .u32 (y:Int):=by rw [<- g];exact CE rfl
   have S:=O3 (p:=pp++d) (s:=m++z) (x:=x) (y:=(a*y+x+c) % 4294967296) A;unfold prI;simp only [J,T,hlen2];have hs:=acV B u v ((pp++d)++x::(m++z)) i j u1.length e.length c a x y;rw [S,Q,I] at hs;have n:u1.length<u.length:=by omega
   have l:e.length<v.length:=by omega
   have o:u1.length+e.length<((pp++d)++x::(m++z)).length:=by omega
   have w1:Xxx .u32 (γ .u32 (((a*y+x+c):Nat):Int))= .int .u32 ((((a*y+x+c) % 4294967296):Nat):Int):=by rw [nC]
   have O:Xxx .u64 (Xq1 (((a*y+x+c):Nat):Int) (2^(min 32 64)))= .int .u64 ((((a*y+x+c) / 4294967296):Nat):Int):=by rw [show min 32 64=32 from rfl,iT]
   have H:Xxx .u64 (γ .u64 ((a:Int)*(y:Int)))= .int .u64 ((a*y:Nat):Int):=by rw [<- Int.natCast_mul,lu,χ X]
   have N:Xqr (((0+(δ (((u1.length+e.length):Nat):Int)))*1)+1) (θ (ak ((pp++d)++x::(m++z))))=true:=by
    rw [Xjk,aF,aq];omega
   have Z:a*y+x<18446744073709551616:=by omega
   apply hs<;>first|exact rfl|exact wdp (by omega)|exact adA (by omega)|exact w1|exact O|exact H|exact adz (by omega)|exact N|exact kT _|exact aS n|exact aS l|exact aS o
theorem N8 {nt:Nat} (j:68<=nt) (u v:List Nat) (h i:Bool) (e:bG u) (D:bG v) (A:u.length<2^38) (k:v.length<2^38):∀ (u2 u1 m pp:List Nat),u1++u2=u->m.length=v.length->pp.length=u1.length->bG m->
  aB prog ap [] nt (af 0 (am f184)) (λ_=> .exit 0) (prO u v h i) prR (u1.length,pp++m++ζ u2.length 0) (pp++Iv v u2 m):=by
 intro u2
 induction u2 with
 |nil=>
  intro u1 m pp c l n o;have B:u1=u:=by simpa using c
  simp only [Iv,Ξ,Xzt,Xqd];exact .done (acY j u v _ [] h i _ 0 0 (by rw [B];exact Yq1 (by omega)))
 | cons a u2 ih=>
  intro u1 m pp c l n o;have O:u1.length+(u2.length+1)=u.length:=by rw [<- c];simp
  have C:a<4294967296:=e a (by rw [<- c];simp);obtain ⟨K,H,Q,R⟩:=C5 C m v 0 l (by omega) o D;have t:=λnt (j:68<=nt)=>Q7 j u u1 u2 v h i a c.symm C D A k v m [] [] pp (ζ (u2.length+1) 0) 0 rfl l rfl n o (by omega)
  simp only [Iv];generalize Ah a m v 0=r at*
  obtain ⟨z,g,h5,S⟩:=MZ r.1 r.2;have F:bG (z::g):=by rw [<- h5];exact bG.app H (bG.cons K bG.nil)
  have d:=ih (u1++ [a]) g (pp++ [z]) (by simp [c]) (by omega) (by simp [n]) F.tail;simp only [h5,Xjz,Xwt];rw [ξ,Δ] at d;have I:pp++ [z]++Iv v u2 g=pp++z::Iv v u2 g:=by simp
  rw [I] at d;refine .next ?_ d
  rw [Xqd] at t;have N:u1.length+v.length=(pp++r.1).length:=by rw [ξ];omega
  have G:pp++r.1++ζ (u2.length+1) 0=(pp++r.1)++0::ζ u2.length 0:=by rw [Xxa]
  have P:pp++ [z]++g++ζ u2.length 0=(pp++r.1)++r.2::ζ u2.length 0:=by
   rw [Xqe pp,Xju,<- h5];simp
  have E:(η (ε ((δ (u1.length:Int))*1) (ak u)) .dead)= .int .u32 (a:Int):=by rw [<- c];exact CE rfl
  have M:=O3 (p:=pp++r.1) (s:=ζ u2.length 0) (x:=0) (y:=r.2) N;rw [G] at t;have f:((pp++r.1)++0::ζ u2.length 0).length=((pp++r.1)++r.2::ζ u2.length 0).length:=by simp
  have hlen2:((pp++r.1)++0::ζ u2.length 0).length=(pp++r.1).length+u2.length+1:=by simp;omega
  have hs:=acX j u v (pp++m++ζ (u2.length+1) 0) ((pp++r.1)++0::ζ u2.length 0) h i u1.length a r.2;rw [M,E] at hs;have q:u1.length<u.length:=by omega
  have w:u1.length+v.length<((pp++r.1)++0::ζ u2.length 0).length:=by omega
  have J:Xqr (((0+(δ (((u1.length+v.length):Nat):Int)))*1)+1) (θ (ak ((pp++r.1)++0::ζ u2.length 0)))=true:=by
   rw [Xjk,aF,aq];omega
  unfold prO;simp only [P,ο];rw [<- f];apply hs<;>first|exact rfl|exact wdp (by omega)|exact ady (by omega)|exact J|exact kT _|exact aS q|exact aS w|skip
  exact aB.blk t (by simp) rfl (aD.of ⟨rfl,rfl,rfl,rfl,rfl,rfl,rfl,rfl,rfl,rfl,rfl,trivial⟩) (aD.refl _)
theorem R4 (a b:List Nat) (c g:Bool) (e:bG a) (d:bG b) (q:a.length<2^37) (t:b.length<2^37):CO 184 [.sl (ak a) a.length c,.sl (ak b) b.length g] (.ret (.sl (ak (digs (aC a*aC b))) (digs (aC a*aC b)).length true)):=by
 obtain ⟨l,r,k⟩:=Iw d a (ζ b.length 0) e (λx i=>by rw [(List.mem_replicate.1 i).2];omega) (by simp);have m:aC (ζ b.length 0)=0:=by
  generalize b.length=n
  induction n with
  |zero=>rfl
  |succ n ih=>rw [Xxa];simp only [aC,ih]
 rw [m,Ψ] at k;have o:∀ nt,68<=nt->aB prog ap [] nt (af 0 (am f184)) (λ_=> .exit 0) (prO a b c g) prR (0,ζ (a.length+b.length) 0) (Iv b a (ζ b.length 0)):=λnt j=>by
  have:=N8 j a b c g e d (by omega) (by omega) a [] (ζ b.length 0) [] rfl (by simp) rfl (λx i=>by rw [(List.mem_replicate.1 i).2];omega);rw [Xqb,Xqb,List.replicate_append_replicate,Nat.add_comm] at this;exact this
 generalize Iv b a (ζ b.length 0)=w at*
 have f:=R3 a b w c g (aC a*aC b);have p:γ .i64 ((a.length:Int)+(b.length:Int))=((a.length+b.length:Nat):Int):=by rw [cA,bi (by omega)]
 rw [p,aF,lP] at f;have h:=aB.blk (s:=prO a b c g (0,ζ (a.length+b.length) 0)) (s':=prR w) (id:=0) o (by simp) rfl (aD.refl _) (aD.refl _);unfold prO at h;simp only [Xq9] at h;exact f (Yq0 (by omega)) (Yq0 rfl) (Yq0 (by omega)) (wm w _ _ rfl (by rw [gJ l,k]) (by omega)) λnt j=>(h nt j).weak (aD.of ⟨rfl,rfl,rfl,rfl,rfl,trivial⟩) (aD.refl _)
theorem RG (s t:List UInt8) (hs:s.length<2^36) (f:t.length<2^36):CO 160 [.str s,.str t] (.ret (.str (ae (aj s*aj t)))):=by
 have d:=mH (s:=s) (n:=2^34) (by omega);have c:=mH (s:=t) (n:=2^34) (by omega);have e:=JJ d c;have h:=R4 (digs (aj s)) (digs (aj t)) true true (bG.digs _) (bG.digs _) (by omega) (by omega);rw [cO,cO] at h;exact WE s t _ (pL s (by omega)) (pL t (by omega)) h (mZ _ _ true (qH _) (by omega) (by omega))
theorem WS (s t:List UInt8) (x y z:Nat) (w:List Nat) (e:CO 86 [.str s,ω 7] (Vat x)) (d:CO 86 [.str t,ω 7] (Vat y)) (c:CO 58 [ω (γ .i64 ((x:Int)+(y:Int)))] (Vaj z)):CO 50 [.str s,.str t] (Vaj z):=pK [] 2 3 (.n 2 .nil) (.c c (.c d (.c e .nil)))
theorem aaL (s t:List UInt8) (x y z:Nat) (w:List Nat) (g:(decide ((jr (aj s) (aj t))<((0:Nat):Int)))=false) (h:CO 51 [.str s,.str t] (.ret (ω (jr (aj s) (aj t))))) (f:CO 87 [.str s] (.ret (.sl (aA (cI (aj s))) (cI (aj s)).length false))) (d:CO 87 [.str t] (.ret (.sl (aA (cI (aj t))) (cI (aj t)).length false))) (c:CO 92 [.sl (aA (cI (aj s))) (cI (aj s)).length false,.sl (aA (cI (aj t))) (cI (aj t)).length false] (.ret (.sl (aA (cI z)) (cI z).length false))) (e:CO 88 [.sl (aA (cI z)) (cI z).length false] (Vaj z)):CO 52 [.str s,.str t] (.ret (.tup [.str (ae z),.bool true])):=pK [] 1 0 (.c (aw g) .nil) (.c e (.c c (.c d (.c f (.c h .nil)))))
theorem KA (s t:List UInt8) (hs:s.length<=7) (g:t.length<=7):CO 50 [.str s,.str t] (.ret (.str (ae (aj s+aj t)))):=by
 have d:aj s<2^(8*7):=υ (eD s) (Θ (by omega) (by omega));have e:aj t<2^(8*7):=υ (eD t) (Θ (by omega) (by omega));have s1:=nr s 7 (by omega) (by omega) d;have c:=je (aj s+aj t);have f:γ .i64 (((aj s:Nat):Int)+((aj t:Nat):Int))=((aj s+aj t:Nat):Int):=by rw [cA,bi (by omega)]
 rw [<- f] at c;exact WS s t _ _ _ [] s1 (nr t 7 (by omega) (by omega) e) c
theorem O6 (x y:Nat):decide (jr x y<((0:Nat):Int))=decide (x<y):=by
 unfold jr;by_cases h:x<y
 .rw [if_pos h,Yq0 h];rfl
 .rw [if_neg h,Yq1 h];split<;>rfl
theorem Qm {x y:Nat} (h:y<=x) (d:(cI x).length<2^36):(cI y).length<2^36:=by
 have c:=Dt (eN.dig x);rw [kq] at c;exact φ (Cl (φ h c)) d
theorem KO (s t:List UInt8) (hs:s.length<2^35) (f:t.length<2^35) (h:aj t<=aj s):CO 52 [.str s,.str t] (.ret (.tup [.str (ae (aj s - aj t)),.bool true])):=by
 have e:=Vs (s:=s) hs;have d:=Qm (Xwn (aj s) (aj t)) (by omega);have c:=NS (cI (aj s - aj t)) false d (eN.dig _);rw [kq] at c;exact aaL s t 0 0 _ [] (by rw [O6];exact Yq1 (by omega)) (C9 s t (by omega) (by omega)) (Ua s (by omega)) (Ua t (by omega)) (NA _ _ false false h (by omega)) c
theorem aaQ (d s1:Bool) (e c i j:List UInt8) (a b r:RQ) (g:(gM d e c)=false) (h:CO 115 [Ω d e c] (.ret (.bool (gM d e c)))) (f:CO 75 [ω 0] (.ret (Ω false (ae 0) (ae 1)))):CO 158 [Ω d e c] (.ret (Ω false (ae 0) (ae 1))):=pK [] 1 1 (.k 4 (bu g) (.n 3 .nil)) (.c f (.c h .nil))
theorem aaR (d s1:Bool) (e c h i:List UInt8) (a b r:RQ) (f:(gM d e c)=true) (g:CO 115 [Ω d e c] (.ret (.bool (gM d e c)))):CO 158 [Ω d e c] (.ret (Ω d e c)):=pK [] 1 0 (.k 7 (aI f) (.n 3 .nil)) (.c g .nil)
abbrev Va0 (a:RQ):gy:= .ret (.agg [.bool a.neg,.str (ae a.n),.str (ae a.d)])
abbrev VaJ (a:Bool) (b:List UInt8) (c:List UInt8) (d:RQ):Prop:=CO 158 [Ω a b c] (Va0 d)
theorem aaF (d s1:Bool) (e c h i:List UInt8) (a b r:RQ) (f:a.neg=false) (g:VaJ d e c a):CO 171 [Ω d e c] (.ret (.agg [.bool (!((ae a.n)== [])),.str (ae a.n),.str (ae a.d)])):=pK [] 1 1 (.k 9 (bu f) (.n 5 .nil)) (.c g .nil)
theorem aaG (d s1:Bool) (e c h i:List UInt8) (a b r:RQ) (f:a.neg=true) (g:VaJ d e c a):CO 171 [Ω d e c] (.ret (Ω false (ae a.n) (ae a.d))):=pK [] 1 0 (.k 8 (aI f) (.n 5 .nil)) (.c g .nil)
abbrev Vaf (a:RQ) (b:RQ):Prop:=CO 160 [.str (ae a.n),.str (ae b.d)] (.ret (.str (ae (a.n*b.d))))
abbrev Vap (a:RQ) (b:RQ):List AV:=[.str (ae (a.n*b.d)),.str (ae (b.n*a.d))]
abbrev VaD (a:RQ) (b:RQ):Prop:=CO 160 [.str (ae a.d),.str (ae b.d)] (.ret (.str (ae (a.d*b.d))))
theorem Sb (d s1:Bool) (g c e f:List UInt8) (a b r:RQ) (m:(a.neg==b.neg)=true) (o:VaJ d g c a) (l:VaJ s1 e f b) (n:Vaf a b) (i:Vaf b a) (k:VaD a b) (j:CO 123 (Vap a b) (.ret (.str (ae ((a.n*b.d)+(b.n*a.d)))))) (h:CO 159 [.bool a.neg,.str (ae ((a.n*b.d)+(b.n*a.d))),.str (ae (a.d*b.d))] (Va0 r)):CO 170 [Ω d g c,Ω s1 e f] (Va0 r):=pK [] 1 1 (.k 5 (ax m) (.n 16 .nil)) (.c h (.c j (.c k (.c i (.c n (.c l (.c o .nil)))))))
abbrev VaI (a:RQ) (b:RQ):gy:= .ret (.tup [.str (ae ((a.n*b.d) - (b.n*a.d))),.bool true])
theorem Sd (d s1:Bool) (g c e f:List UInt8) (a b r:RQ) (m:(a.neg==b.neg)=false) (o:VaJ d g c a) (l:VaJ s1 e f b) (n:Vaf a b) (i:Vaf b a) (k:VaD a b) (j:CO 195 (Vap a b) (VaI a b)) (h:CO 159 [.bool a.neg,.str (ae ((a.n*b.d) - (b.n*a.d))),.str (ae (a.d*b.d))] (Va0 r)):CO 170 [Ω d g c,Ω s1 e f] (Va0 r):=pK [] 2 2 (.k 6 (aw m) (.n 16 .nil)) (.c h (.c j (.c k (.c i (.c n (.c l (.c o .nil)))))))
theorem Sa (d s1:Bool) (g c e f:List UInt8) (a b r:RQ) (n:(a.neg==b.neg)=false) (p:VaJ d g c a) (m:VaJ s1 e f b) (o:Vaf a b) (i:Vaf b a) (k:VaD a b) (j:CO 195 (Vap a b) (.ret (.tup [.str [],.bool false]))) (h:CO 195 (Vap b a) (VaI b a)) (l:CO 159 [.bool b.neg,.str (ae ((b.n*a.d) - (a.n*b.d))),.str (ae (a.d*b.d))] (Va0 r)):CO 170 [Ω d g c,Ω s1 e f] (Va0 r):=pK [] 2 0 (.k 6 (aw n) (.n 16 .nil)) (.c l (.c h (.c j (.c k (.c i (.c o (.c m (.c p .nil))))))))
abbrev Vag (a:RQ):List AV:=[.bool a.neg,.str (ae a.n),.str (ae a.d)]
theorem aaM (d s1:Bool) (g c e f:List UInt8) (a b r:RQ) (i:CO 171 [Ω s1 e f] (Va0 b)) (h:CO 170 [Ω d g c,.agg (Vag b)] (Va0 r)):CO 124 [Ω d g c,Ω s1 e f] (Va0 r):=pK [] 0 0 (.n 10 .nil) (.c h (.c i .nil))
theorem aaz (d s1:Bool) (g c e f:List UInt8) (a b r:RQ) (i:CO 124 [Ω d g c,Ω s1 e f] (Va0 r)) (h:CO 107 [.agg (Vag r)] (.ret (ω (fQ r)))):CO 76 [Ω d g c,Ω s1 e f] (.ret (ω (fQ r))):=pK [] 0 0 (.n 6 .nil) (.c h (.c i .nil))
theorem aaE (d s1:Bool) (g c e f:List UInt8) (a b r:RQ) (l:VaJ d g c a) (j:VaJ s1 e f b) (k:CO 160 [.str (ae a.n),.str (ae b.n)] (.ret (.str (ae (a.n*b.n))))) (h:VaD a b) (i:CO 159 [.bool (!(a.neg==b.neg)),.str (ae (a.n*b.n)),.str (ae (a.d*b.d))] (Va0 r)):CO 121 [Ω d g c,Ω s1 e f] (Va0 r):=pK [] 0 0 (.n 18 .nil) (.c i (.c h (.c k (.c j (.c l .nil)))))
theorem aaH (d s1:Bool) (g c e f:List UInt8) (a b r:RQ) (i:((ae b.n)== [])=true) (j:VaJ d g c a) (h:VaJ s1 e f b):CO 114 [Ω d g c,Ω s1 e f] (.ret (.tup [Ω false [] [],.bool false])):=pK [] 1 1 (.k 4 (ax i) (.n 9 .nil)) (.c h (.c j .nil))
theorem aaI (d s1:Bool) (g c e f:List UInt8) (a b r:RQ) (k:((ae b.n)== [])=false) (m:VaJ d g c a) (j:VaJ s1 e f b) (l:Vaf a b) (h:CO 160 [.str (ae a.d),.str (ae b.n)] (.ret (.str (ae (a.d*b.n))))) (i:CO 159 [.bool (!(a.neg==b.neg)),.str (ae (a.n*b.d)),.str (ae (a.d*b.n))] (Va0 r)):CO 114 [Ω d g c,Ω s1 e f] (.ret (.tup [.agg (Vag r),.bool true])):=pK [] 1 0 (.k 10 (aw k) (.n 9 .nil)) (.c i (.c h (.c l (.c j (.c m .nil)))))
theorem aat (d s1:Bool) (e c h i:List UInt8) (a b r:RQ) (f:((ae a.n)== [])=false) (g:CO 47 [Ω d e c] (.ret (.agg [.bool a.neg,.str (ae a.n),.str (ae a.d)]))):CO 93 [Ω d e c] (.ret (Ω (!a.neg) (ae a.n) (ae a.d))):=pK [] 1 1 (.k 9 (bu f) (.n 5 .nil)) (.c g .nil)
theorem aau (d s1:Bool) (e c h i:List UInt8) (a b r:RQ) (f:((ae a.n)== [])=true) (g:CO 47 [Ω d e c] (.ret (.agg [.bool a.neg,.str (ae a.n),.str (ae a.d)]))):CO 93 [Ω d e c] (.ret (.agg [.bool a.neg,.str (ae a.n),.str (ae a.d)])):=pK [] 1 0 (.k 7 (aI f) (.n 5 .nil)) (.c g .nil)
abbrev Vah (a:RQ) (b:RQ):Prop:=CO 48 [.str (ae a.n),.str (ae b.d)] (.ret (.str (ae (a.n*b.d))))
abbrev VaE (a:RQ) (b:RQ):Prop:=CO 48 [.str (ae a.d),.str (ae b.d)] (.ret (.str (ae (a.d*b.d))))
theorem R5 (d s1:Bool) (g c e f:List UInt8) (a b r:RQ) (m:(a.neg==b.neg)=true) (o:CO 47 [Ω d g c] (Va0 a)) (l:CO 47 [Ω s1 e f] (Va0 b)) (n:Vah a b) (i:Vah b a) (k:VaE a b) (j:CO 50 (Vap a b) (.ret (.str (ae ((a.n*b.d)+(b.n*a.d)))))) (h:CO 49 [.bool a.neg,.str (ae ((a.n*b.d)+(b.n*a.d))),.str (ae (a.d*b.d))] (Va0 r)):CO 22 [Ω d g c,Ω s1 e f] (Va0 r):=pK [] 1 1 (.k 5 (ax m) (.n 16 .nil)) (.c h (.c j (.c k (.c i (.c n (.c l (.c o .nil)))))))
theorem R6 (e s1:Bool) (d f c g:List UInt8) (a b r:RQ) (i:(decide (((0:Nat):Int)<=(jr (a.n*b.d) (b.n*a.d))))=true) (q:(a.neg==b.neg)=false) (j:CO 47 [Ω e d f] (Va0 a)) (l:CO 47 [Ω s1 c g] (Va0 b)) (o:Vah a b) (p:Vah b a) (n:VaE a b) (m:CO 51 (Vap a b) (.ret (ω (jr (a.n*b.d) (b.n*a.d))))) (h:CO 52 (Vap a b) (VaI a b)) (k:CO 49 [.bool a.neg,.str (ae ((a.n*b.d) - (b.n*a.d))),.str (ae (a.d*b.d))] (Va0 r)):CO 22 [Ω e d f,Ω s1 c g] (Va0 r):=pK [] 2 2 (.k 5 (ax i) (.c (aw q) (.n 16 .nil))) (.c k (.c h (.c m (.c n (.c p (.c o (.c l (.c j .nil))))))))
theorem R7 (e s1:Bool) (d f c g:List UInt8) (a b r:RQ) (i:(decide (((0:Nat):Int)<=(jr (a.n*b.d) (b.n*a.d))))=false) (q:(a.neg==b.neg)=false) (j:CO 47 [Ω e d f] (Va0 a)) (l:CO 47 [Ω s1 c g] (Va0 b)) (o:Vah a b) (p:Vah b a) (n:VaE a b) (m:CO 51 (Vap a b) (.ret (ω (jr (a.n*b.d) (b.n*a.d))))) (h:CO 52 (Vap b a) (VaI b a)) (k:CO 49 [.bool b.neg,.str (ae ((b.n*a.d) - (a.n*b.d))),.str (ae (a.d*b.d))] (Va0 r)):CO 22 [Ω e d f,Ω s1 c g] (Va0 r):=pK [] 2 0 (.k 5 (aw i) (.c (aw q) (.n 16 .nil))) (.c k (.c h (.c m (.c n (.c p (.c o (.c l (.c j .nil))))))))
theorem aaw (d s1:Bool) (g c e f:List UInt8) (a b r:RQ) (i:CO 93 [Ω s1 e f] (Va0 b)) (h:CO 22 [Ω d g c,.agg (Vag b)] (Va0 r)):CO 55 [Ω d g c,Ω s1 e f] (Va0 r):=pK [] 0 0 (.n 10 .nil) (.c h (.c i .nil))
theorem aar (d s1:Bool) (g c e f:List UInt8) (a b r:RQ) (i:CO 55 [Ω d g c,Ω s1 e f] (Va0 r)) (h:CO 54 [.agg (Vag r)] (.ret (ω (fQ r)))):CO 25 [Ω d g c,Ω s1 e f] (.ret (ω (fQ r))):=pK [] 0 0 (.n 6 .nil) (.c h (.c i .nil))
theorem aav (d s1:Bool) (g c e f:List UInt8) (a b r:RQ) (k:((ae b.n)== [])=false) (m:CO 47 [Ω d g c] (Va0 a)) (j:CO 47 [Ω s1 e f] (Va0 b)) (l:Vah a b) (h:CO 48 [.str (ae a.d),.str (ae b.n)] (.ret (.str (ae (a.d*b.n))))) (i:CO 49 [.bool (!(a.neg==b.neg)),.str (ae (a.n*b.d)),.str (ae (a.d*b.n))] (Va0 r)):CO 32 [Ω d g c,Ω s1 e f] (.ret (.tup [.agg (Vag r),.bool true])):=pK [] 1 0 (.k 10 (aw k) (.n 9 .nil)) (.c i (.c h (.c l (.c j (.c m .nil)))))
def jB (q:RQ):RQ:=⟨!q.neg && decide (0<q.n),q.n,q.d⟩
def iC (a b:RQ):RQ:=if a.neg=b.neg then gT a.neg (a.n*b.d+b.n*a.d) (a.d*b.d) else if b.n*a.d<=a.n*b.d then gT a.neg (a.n*b.d - b.n*a.d) (a.d*b.d) else gT b.neg (b.n*a.d - a.n*b.d) (a.d*b.d)
def gG (a b:RQ):RQ:=iC a (jB b)
def ep (a b:RQ):Int:=fQ (gG a b)
def eH (a b:RQ):RQ:=gT (!(a.neg==b.neg)) (a.n*b.n) (a.d*b.d)
def bB (a b:RQ):RQ:=gT (!(a.neg==b.neg)) (a.n*b.d) (a.d*b.n)
theorem fT {q:RQ} (h:q.ok):vQ q.neg (ae q.n) (ae q.d)=q:=by
 unfold vQ;rw [if_pos (px q h),aE,aE]
theorem kS {q:RQ} (h:q.ok):(jB q).ok:=by
 refine ⟨h.1,h.2.1,λc=> ?_⟩;simp only [jB,π,decide_eq_true_eq] at c;exact c.2
theorem eP {a b:RQ} (c:a.ok) (d:b.ok):(iC a b).ok:=by
 have hd:0<a.d*b.d:=Xjh c.1 d.1;unfold iC;split
 .exact tD hd
 .split
  .exact tD hd
  .exact tD hd
theorem tF {a b:RQ} (c:a.ok) (d:b.ok):(eH a b).ok:=tD (Xjh c.1 d.1)
theorem jT {a b:RQ} (c:a.ok) (d:0<b.n):(bB a b).ok:=tD (Xjh c.1 d)
theorem rR (x:Nat):x<2^(8*(ae x).length):=tH.1 (κ _)
theorem bU (x y:Nat):(ae (x*y)).length<=(ae x).length+(ae y).length:=by
 refine bN ?_;rw [Xxq,Xxs];exact Nat.mul_lt_mul'' (rR x) (rR y)
theorem jb {x y:Nat} (h:x<=y):(ae x).length<=(ae y).length:=bN (φ h (rR y))
theorem wZ (x y:Nat):(ae (x+y)).length<=(ae x).length+(ae y).length+1:=by
 refine bN ?_;have d:=υ (rR x) (Θ (n:=2) (by omega) (show 8*(ae x).length<=8*((ae x).length+(ae y).length) by omega));have c:=υ (rR y) (Θ (n:=2) (by omega) (show 8*(ae y).length<=8*((ae x).length+(ae y).length) by omega));rw [show 8*((ae x).length+(ae y).length+1)=8*((ae x).length+(ae y).length)+8 by omega,Xxs];generalize 2^(8*((ae x).length+(ae y).length))=P at*
 omega
theorem TR (s:List UInt8):(ae (aj s)).length<=s.length:=bN (eD s)
theorem eA (s:Bool) (n d:List UInt8):(ae (vQ s n d).n).length<=n.length/\(ae (vQ s n d).d).length<=d.length+1:=by
 unfold vQ;split
 .exact ⟨TR n,Nat.le_succ_of_le (TR d)⟩
 .refine ⟨by show (ae 0).length<=_;rw [cF];simp, ?_⟩;show (ae 1).length<=_;have:(ae 1).length<=1:=bN (by decide);omega
theorem jk (c:Bool) (n d:Nat):(ae (gT c n d).n).length<=(ae n).length/\(ae (gT c n d).d).length<=(ae d).length:=
 ⟨jb (Xxo _ _),jb (Xxo _ _)⟩
theorem tA (a b:RQ) (L:Nat) (c:(ae a.n).length<=L) (e:(ae a.d).length<=L) (i:(ae b.n).length<=L) (h:(ae b.d).length<=L):(ae (iC a b).n).length<=4*L+1/\(ae (iC a b).d).length<=2*L:=by
 have g:=bU a.n b.d;have d:=bU b.n a.d;have f:=bU a.d b.d;have s1:=wZ (a.n*b.d) (b.n*a.d);unfold iC;split
 .have:=jk a.neg (a.n*b.d+b.n*a.d) (a.d*b.d);omega
 .split
  .have:=jk a.neg (a.n*b.d - b.n*a.d) (a.d*b.d);have:=jb (Xwn (a.n*b.d) (b.n*a.d));omega
  .have:=jk b.neg (b.n*a.d - a.n*b.d) (a.d*b.d);have:=jb (Xwn (b.n*a.d) (a.n*b.d));omega
theorem yZ (x y:Nat) (c:(ae x).length<2^34:=by omega) (d:(ae y).length<2^34:=by omega):CO 160 [.str (ae x),.str (ae y)] (.ret (.str (ae (x*y)))):=by
 have h:=RG (ae x) (ae y) (by omega) (by omega);rw [aE,aE] at h;exact h
theorem TW (x y:Nat) (c:(ae x).length<2^34:=by omega) (d:(ae y).length<2^34:=by omega):CO 123 [.str (ae x),.str (ae y)] (.ret (.str (ae (x+y)))):=by
 have h:=Rx (ae x) (ae y) (by omega) (by omega);rw [aE,aE] at h;exact h
theorem TY (x y:Nat) (e:(ae x).length<2^34) (d:(ae y).length<2^34) (c:y<=x):CO 195 [.str (ae x),.str (ae y)] (.ret (.tup [.str (ae (x - y)),.bool true])):=by
 have h:=RK (ae x) (ae y) (by omega) (by omega) (by rw [aE,aE];exact c);rw [aE,aE] at h;exact h
theorem ZM (x y:Nat) (e:(ae x).length<2^34) (d:(ae y).length<2^34) (c:x<y):CO 195 [.str (ae x),.str (ae y)] (.ret (.tup [.str [],.bool false])):=
 RJ (ae x) (ae y) (by omega) (by omega) (by rw [aE,aE];exact c)
theorem zn (x y:Nat) (c:(ae x).length<=3:=by omega) (d:(ae y).length<=4:=by omega):CO 48 [.str (ae x),.str (ae y)] (.ret (.str (ae (x*y)))):=by
 have h:=NE (ae x) (ae y) (by omega) (by omega);rw [aE,aE] at h;exact h
theorem Eh (x y L:Nat) (f:(ae x).length<=L) (e:(ae y).length<=L):(ae (x+y)).length<=L+1:=by
 refine bN ?_;have c:=υ (rR x) (Θ (n:=2) (by omega) (show 8*(ae x).length<=8*L by omega));have d:=υ (rR y) (Θ (n:=2) (by omega) (show 8*(ae y).length<=8*L by omega));rw [show 8*(L+1)=8*L+8 by omega,Xxs];generalize 2^(8*L)=P at*
 omega
theorem aap (x y:Nat) (c:(ae x).length<=7) (d:(ae y).length<=7):CO 50 [.str (ae x),.str (ae y)] (.ret (.str (ae (x+y)))):=by
 have h:=KA (ae x) (ae y) (by omega) (by omega);rw [aE,aE] at h;exact h
theorem T9 (x y:Nat) (e:(ae x).length<2^33) (d:(ae y).length<2^33) (c:y<=x):CO 52 [.str (ae x),.str (ae y)] (.ret (.tup [.str (ae (x - y)),.bool true])):=by
 have h:=KO (ae x) (ae y) (by omega) (by omega) (by rw [aE,aE];exact c);rw [aE,aE] at h;exact h
theorem aaq (x y:Nat) (c:(ae x).length<2^33) (d:(ae y).length<2^33):CO 51 [.str (ae x),.str (ae y)] (.ret (ω (jr x y))):=by
 have h:=C9 (ae x) (ae y) (by omega) (by omega);rw [aE,aE] at h;exact h
theorem Bz (c:Bool) (n d:Nat) (e:(ae n).length<2^33) (hd:(ae d).length<2^33) (h0:0<d):CO 159 [.bool c,.str (ae n),.str (ae d)] (.ret (qA (gT c n d))):=by
 have h:=Np c (ae n) (ae d) (by omega) (by omega) (by rw [aE];exact h0);rw [aE,aE] at h;exact h
theorem OJ (q:RQ) (c:q.ok) (d:(ae q.n).length<2^33) (hd:(ae q.d).length<2^33):CO 107 [.agg [.bool q.neg,.str (ae q.n),.str (ae q.d)]] (.ret (ω (fQ q))):=by
 have h:=gF q.neg (ae q.n) (ae q.d) (by omega) (by omega);rw [sn,fT c] at h;exact h
theorem aax (q:RQ) (c:q.ok) (d:(ae q.n).length<=7) (hd:(ae q.d).length<=7):CO 54 [.agg [.bool q.neg,.str (ae q.n),.str (ae q.d)]] (.ret (ω (fQ q))):=by
 have h:=Kz q.neg (ae q.n) (ae q.d);rw [sn,fT c] at h;exact h
theorem jU (c:Bool) (n d:List UInt8) (g:n.length<2^33:=by omega) (hd:d.length<2^33:=by omega):CO 158 [Ω c n d] (.ret (qA (vQ c n d))):=by
 have f:=nj c n d;unfold vQ;cases e:gM c n d with
 |false=>
  rw [e] at f;have h:=aaQ c false n d [] [] q0 q0 q0 e (by rw [e];exact f) gV;rw [if_neg (by simp)];exact h
 |true=>
  rw [e] at f;have h:=aaR c false n d [] [] q0 q0 q0 e (by rw [e];exact f);rw [if_pos rfl,<- H3 e];exact h
theorem OH (c:Bool) (n d:List UInt8) (i:n.length<2^33) (hd:d.length<2^33):CO 171 [Ω c n d] (.ret (qA (jB (vQ c n d)))):=by
 have g:=jU c n d i hd;generalize vQ c n d=a at*
 have e:(!((ae a.n)== []))=decide (0<a.n):=by
  rcases Xqh a.n with h|h
  .rw [h,cF];rfl
  .rw [Yq0 h,Xqt,Yq2];intro h0;rw [db] at h0;omega
 unfold jB qA;cases f:a.neg with
 |false=>
  have h:=aaF c false n d [] [] a q0 q0 f g;rw [e] at h;exact h
 |true=>exact aaG c false n d [] [] a q0 q0 f g
theorem R9 (c:Bool) (n d:List UInt8) (j:n.length<=7) (hd:d.length<=7):CO 93 [Ω c n d] (.ret (qA (jB (vQ c n d)))):=by
 have g:=jE c n d j hd;have k:=cV c n d;generalize vQ c n d=a at*
 unfold jB qA;rcases Xqh a.n with h|h
 .have f:a.neg=false:=by
   cases i:a.neg with
   |false=>rfl
   |true=>have:=k.2.2 i;omega
  have e:=aau c false n d [] [] a q0 q0 (by rw [h,cF];rfl) g;rw [f,Yq1 (by omega)];rw [f] at e;exact e
 .have e:=aat c false n d [] [] a q0 q0 (by rw [Yq2];intro h0;rw [db] at h0;omega) g;rw [Yq0 h,Xwo];exact e
theorem zG (g s1:Bool) (f c d e:List UInt8) (z:f.length<2^29) (A:c.length<2^29) (D:d.length<2^29) (u:e.length<2^29):CO 170 [Ω g f c,Ω s1 d e] (.ret (qA (iC (vQ g f c) (vQ s1 d e)))):=by
 have j:=jU g f c;have m:=jU s1 d e;obtain ⟨B,v⟩:=eA g f c;obtain ⟨C,x⟩:=eA s1 d e;have n:=cV g f c;have o:=cV s1 d e;generalize vQ g f c=a at*
 generalize vQ s1 d e=b at*
 have hd:0<a.d*b.d:=Xjh n.1 o.1;have r:=bU a.n b.d;have p:=bU b.n a.d;have t:=bU a.d b.d;have k:=yZ a.n b.d;have l:=yZ b.n a.d;have i:=yZ a.d b.d;have q:=wZ (a.n*b.d) (b.n*a.d);have y:=jb (Xwn (a.n*b.d) (b.n*a.d));have w:=jb (Xwn (b.n*a.d) (a.n*b.d));unfold iC;by_cases hs:a.neg=b.neg
 .rw [if_pos hs];exact Sb g s1 f c d e a b _ (by rw [hs];exact beq_self_eq_true _) j m k l i (TW _ _) (Bz a.neg _ _ (by omega) (by omega) hd)
 .rw [if_neg hs];have h:(a.neg==b.neg)=false:=beq_eq_false_iff_ne.2 hs;by_cases hl:b.n*a.d<=a.n*b.d
  .rw [if_pos hl];exact Sd g s1 f c d e a b _ h j m k l i (TY _ _ (by omega) (by omega) hl) (Bz a.neg _ _ (by omega) (by omega) hd)
  .rw [if_neg hl];exact Sa g s1 f c d e a b _ h j m k l i (ZM _ _ (by omega) (by omega) (by omega)) (TY _ _ (by omega) (by omega) (by omega)) (Bz b.neg _ _ (by omega) (by omega) hd)
theorem zJ (g s1:Bool) (f e c d:List UInt8) (i:f.length<2^29) (k:e.length<2^29) (p:c.length<2^28) (o:d.length<2^28):CO 124 [Ω g f e,Ω s1 c d] (.ret (qA (gG (vQ g f e) (vQ s1 c d)))):=by
 have j:=OH s1 c d (by omega) (by omega);obtain ⟨m,n⟩:=eA s1 c d;have l:=kS (cV s1 c d);unfold gG;have h:=zG g (jB (vQ s1 c d)).neg f e (ae (jB (vQ s1 c d)).n) (ae (jB (vQ s1 c d)).d) i k (φ m (by omega)) (φ n (by omega));rw [fT l] at h;exact aaM g s1 f e c d q0 _ _ j h
theorem zH (g s1:Bool) (f c d e:List UInt8) (n:f.length<2^28) (o:c.length<2^28) (m:d.length<2^28) (i:e.length<2^28):CO 76 [Ω g f c,Ω s1 d e] (.ret (ω (ep (vQ g f c) (vQ s1 d e)))):=by
 have h:=zJ g s1 f c d e (by omega) (by omega) m i;obtain ⟨q,r⟩:=eA g f c;obtain ⟨k,l⟩:=eA s1 d e;have j:(gG (vQ g f c) (vQ s1 d e)).ok:=eP (cV _ _ _) (kS (cV _ _ _));have p:=tA (vQ g f c) (jB (vQ s1 d e)) (2^29) (by omega) (by omega) (Xqs k (by omega)) (Xqs l (by omega));exact aaz g s1 f c d e q0 q0 _ h (OJ _ j (by unfold gG;omega) (by unfold gG;omega))
theorem zI (g s1:Bool) (f c d e:List UInt8) (q:f.length<2^29) (r:c.length<2^29) (v:d.length<2^29) (n:e.length<2^29) (h0:0<(vQ s1 d e).n):CO 114 [Ω g f c,Ω s1 d e] (.ret (.tup [qA (bB (vQ g f c) (vQ s1 d e)),.bool true])):=by
 have j:=jU g f c;have k:=jU s1 d e;obtain ⟨t,o⟩:=eA g f c;obtain ⟨u,p⟩:=eA s1 d e;have i:=cV g f c;generalize vQ g f c=a at*
 generalize vQ s1 d e=b at*
 have m:=bU a.n b.d;have l:=bU a.d b.n;exact aaI g s1 f c d e a b (bB a b) (by rw [Yq2];intro h;rw [db] at h;omega) j k (yZ a.n b.d) (yZ a.d b.n) (Bz _ _ _ (by omega) (by omega) (Xjh i.1 h0))
theorem EV (g s1:Bool) (f e c d:List UInt8) (j:f.length<2^29) (k:e.length<2^29) (m:c.length<2^29) (l:d.length<2^29) (h0:(vQ s1 c d).n=0):CO 114 [Ω g f e,Ω s1 c d] (.ret (.tup [Ω false [] [],.bool false])):=by
 have h:=jU g f e;have i:=jU s1 c d;exact aaH g s1 f e c d _ _ q0 (by rw [h0,cF];rfl) h i
theorem Iz (g s1:Bool) (f e c d:List UInt8) (D:f.length<=3) (E:e.length<=2) (H:c.length<=3) (y:d.length<=3) (k:(ae (vQ s1 c d).d).length<=3):CO 22 [Ω g f e,Ω s1 c d] (.ret (qA (iC (vQ g f e) (vQ s1 c d)))):=by
 have j:=jE g f e;have o:=jE s1 c d;obtain ⟨F,z⟩:=eA g f e;obtain ⟨G,B⟩:=eA s1 c d;have q:=cV g f e;have r:=cV s1 c d;generalize vQ g f e=a at*
 generalize vQ s1 c d=b at*
 have t:(ae b.d).length<=3:=k;have hd:0<a.d*b.d:=Xjh q.1 r.1;have w:=bU a.n b.d;have u:=bU b.n a.d;have x:=bU a.d b.d;have l:=zn a.n b.d;have m:=zn b.n a.d;have i:=zn a.d b.d;have v:=Eh (a.n*b.d) (b.n*a.d) 6 (by omega) (by omega);have C:=jb (Xwn (a.n*b.d) (b.n*a.d));have A:=jb (Xwn (b.n*a.d) (a.n*b.d));unfold iC;by_cases hs:a.neg=b.neg
 .rw [if_pos hs];exact R5 g s1 f e c d a b _ (by rw [hs];exact beq_self_eq_true _) j o l m i (aap _ _ (by omega) (by omega)) (ni a.neg _ _ (by omega) (by omega) hd)
 .rw [if_neg hs];have h:(a.neg==b.neg)=false:=beq_eq_false_iff_ne.2 hs;have p:=aaq (a.n*b.d) (b.n*a.d) (by omega) (by omega);by_cases hl:b.n*a.d<=a.n*b.d
  .rw [if_pos hl];have n:decide (((0:Nat):Int)<=jr (a.n*b.d) (b.n*a.d))=true:=by unfold jr;rw [if_neg (by omega)];split<;>rfl
   exact R6 g s1 f e c d a b _ n h j o l m i p (T9 _ _ (by omega) (by omega) hl) (ni a.neg _ _ (by omega) (by omega) hd)
  .rw [if_neg hl];have n:decide (((0:Nat):Int)<=jr (a.n*b.d) (b.n*a.d))=false:=by unfold jr;rw [if_pos (by omega)];rfl
   exact R7 g s1 f e c d a b _ n h j o l m i p (T9 _ _ (by omega) (by omega) (by omega)) (ni b.neg _ _ (by omega) (by omega) hd)
theorem R_ (g s1:Bool) (f e c d:List UInt8) (k:f.length<=3) (m:e.length<=2) (o:c.length<=3) (p:d.length<=2):CO 55 [Ω g f e,Ω s1 c d] (.ret (qA (gG (vQ g f e) (vQ s1 c d)))):=by
 have l:=R9 s1 c d (by omega) (by omega);obtain ⟨n,j⟩:=eA s1 c d;have i:=kS (cV s1 c d);unfold gG;have h:=Iz g (jB (vQ s1 c d)).neg f e (ae (jB (vQ s1 c d)).n) (ae (jB (vQ s1 c d)).d) k m (Xqs n o) (Xqs j (by omega)) (by rw [fT i];exact Xqs j (by omega));rw [fT i] at h;exact aaw g s1 f e c d q0 _ _ l h
theorem R8 (g s1:Bool) (f e c d:List UInt8) (v:f.length<=3) (w:e.length<=2) (j:c.length<=3) (k:d.length<=2):CO 25 [Ω g f e,Ω s1 c d] (.ret (ω (ep (vQ g f e) (vQ s1 c d)))):=by
 have h:=R_ g s1 f e c d (by omega) (by omega) j k;obtain ⟨x,t⟩:=eA g f e;obtain ⟨n,l⟩:=eA s1 c d;have m:(gG (vQ g f e) (vQ s1 c d)).ok:=eP (cV _ _ _) (kS (cV _ _ _));have i:(ae (gG (vQ g f e) (vQ s1 c d)).n).length<=7/\(ae (gG (vQ g f e) (vQ s1 c d)).d).length<=7:=by
  have u:(ae (jB (vQ s1 c d)).n).length<=3:=Xqs n j;have o:(ae (jB (vQ s1 c d)).d).length<=3:=Xqs l (by omega);unfold gG;generalize jB (vQ s1 c d)=b at*
  generalize vQ g f e=a at*
  have q:=bU a.n b.d;have p:=bU b.n a.d;have r:=bU a.d b.d;have s1:=Eh (a.n*b.d) (b.n*a.d) 6 (by omega) (by omega);unfold iC;split
  .have:=jk a.neg (a.n*b.d+b.n*a.d) (a.d*b.d);omega
  .split
   .have:=jk a.neg (a.n*b.d - b.n*a.d) (a.d*b.d);have:=jb (Xwn (a.n*b.d) (b.n*a.d));omega
   .have:=jk b.neg (b.n*a.d - a.n*b.d) (a.d*b.d);have:=jb (Xwn (b.n*a.d) (a.n*b.d));omega
 exact aar g s1 f e c d q0 q0 _ h (aax _ m i.1 i.2)
theorem C6 (g s1:Bool) (f c d e:List UInt8) (q:f.length<=3) (r:c.length<=2) (v:d.length<=3) (n:e.length<=2) (h0:0<(vQ s1 d e).n):CO 32 [Ω g f c,Ω s1 d e] (.ret (.tup [qA (bB (vQ g f c) (vQ s1 d e)),.bool true])):=by
 have j:=jE g f c;have k:=jE s1 d e;obtain ⟨t,o⟩:=eA g f c;obtain ⟨u,p⟩:=eA s1 d e;have i:=cV g f c;generalize vQ g f c=a at*
 generalize vQ s1 d e=b at*
 have m:=bU a.n b.d;have l:=bU a.d b.n;exact aav g s1 f c d e a b (bB a b) (by rw [Yq2];intro h;rw [db] at h;omega) j k (zn a.n b.d) (zn a.d b.n) (ni _ _ _ (by omega) (by omega) (Xjh i.1 h0))
theorem IE (g s1:Bool) (f c d e:List UInt8) (q:f.length<2^29) (r:c.length<2^29) (v:d.length<2^29) (n:e.length<2^29):CO 121 [Ω g f c,Ω s1 d e] (.ret (qA (eH (vQ g f c) (vQ s1 d e)))):=by
 have i:=jU g f c;have j:=jU s1 d e;obtain ⟨t,o⟩:=eA g f c;obtain ⟨u,p⟩:=eA s1 d e;have h:=cV g f c;have k:=cV s1 d e;generalize vQ g f c=a at*
 generalize vQ s1 d e=b at*
 have m:=bU a.n b.n;have l:=bU a.d b.d;exact aaE g s1 f c d e a b (eH a b) i j (yZ a.n b.n) (yZ a.d b.d) (Bz _ _ _ (by omega) (by omega) (Xjh h.1 k.1))
def eG (a:Int) (n:Nat):Nat:=(a % (n:Int)).toNat
theorem cW {a:Int} {n:Nat} (h:0<n:=by omega):eG a n<n:=by
 unfold eG;have c:=Yq6 a (b:=(n:Int)) (by omega);have d:=Yqd a (b:=(n:Int)) (by omega);omega
theorem wF {k:Nat} (h:k<4611686018427387904:=by omega):ω (γ .i64 (((1:Nat):Int)+(k:Int)))= ω ((1+k:Nat):Int):=by
 have e:γ .i64 (((1:Nat):Int)+(k:Int))=((1+k:Nat):Int):=by rw [cf]<;>omega
 rw [e]
theorem ZJ (a n:Int) (h0:lit true (decide ((Xxp a n)<((0:Nat):Int)))=true) (c:(!(n==((0:Nat):Int)))=true):CO 35 [ω a,ω n] (.ret (ω (γ .i64 ((Xxp a n)+n)))):=pK [] 1 1 (.c h0 (.c c .nil)) (.nil)
theorem ZK (a n:Int) (h0:lit false (decide ((Xxp a n)<((0:Nat):Int)))=true) (c:(!(n==((0:Nat):Int)))=true):CO 35 [ω a,ω n] (.ret (ω (Xxp a n))):=pK [] 1 0 (.c h0 (.c c .nil)) (.nil)
theorem fW (a:Int) (n:Nat) (l:0<n:=by omega) (d:n<=4611686018427387904:=by omega):CO 35 [ω a,ω (n:Int)] (.ret (ω ((eG a n:Nat):Int))):=by
 have c:(!((n:Int)==((0:Nat):Int)))=true:=by
  rw [beq_eq_false_iff_ne.2 (by omega)];rfl
 have i:=Yqe a (b:=(n:Int)) (by omega);have j: -(n:Int)<Xxp a n:=by
  have:=Yqe (-a) (b:=(n:Int)) (by omega);rw [Int.neg_tmod] at this;omega
 have f:=Yq6 a (b:=(n:Int)) (by omega);have k:=Yqd a (b:=(n:Int)) (by omega);have h5:Xxp a n % (n:Int)=a % (n:Int):=by
  have e:=Int.mul_tdiv_add_tmod a (n:Int);have:a=Xxp a n+(n:Int)*(Xxb a n):=by omega
  conv=>rhs;rw [this,Int.add_mul_emod_self_left]
 have g:((eG a n:Nat):Int)=a % (n:Int):=Int.toNat_of_nonneg f;rw [g];by_cases h:Xxp a n<0
 .have hp:=ZJ a n (by simpa [lit] using h) c;have e:γ .i64 (Xxp a n+(n:Int))=a % (n:Int):=by
   rw [cf (by omega) (by omega)];rw [<- h5,<- Int.add_emod_right,Yql (by omega) (by omega)]
  rw [e] at hp;exact hp
 .have hp:=ZK a n (by simp only [lit,Xqt,decide_eq_false_iff_not];exact h) c;have e:Xxp a n=a % (n:Int):=by rw [<- h5,Yql (by omega) (by omega)]
  rw [e] at hp;exact hp
theorem uU (a:Int) (k:Nat) (h0:(chk .str (η (ε ((0+(δ (k:Int)))*1) [.str [97],.str [98],.str [116,97,120],.str [119,97,103,101],.str [120,95,49],.str zcc2_0]) .dead))=true) (c:Va3 k) (d:(decide ((k:Int)<((6:Nat):Int)))=true) (e:CO 35 [ω a,ω 6] (.ret (ω (k:Int)))):CO 34 [ω a] (.ret (.str (Xkx (η (ε ((0+(δ (k:Int)))*1) [.str [97],.str [98],.str [116,97,120],.str [119,97,103,101],.str [120,95,49],.str zcc2_0]) .dead)))):=pK [] 0 0 (.c h0 (.c c (.c d .nil))) (.c e .nil)
def aV (k:Nat):List UInt8:= [[97],[98],[116,97,120],[119,97,103,101],[120,95,49],zcc2_0].getD k []
theorem fD (a:Int):CO 34 [ω a] (.ret (.str (aV (eG a 6)))):=by
 have c:=fW a 6;have d:=cW (a:=a) (n:=6);generalize eG a 6=k at*
 match k,d,c with
 |0,_,c=>exact uU a 0 rfl rfl rfl c
 |1,_,c=>exact uU a 1 rfl rfl rfl c
 |2,_,c=>exact uU a 2 rfl rfl rfl c
 |3,_,c=>exact uU a 3 rfl rfl rfl c
 |4,_,c=>exact uU a 4 rfl rfl rfl c
 |5,_,c=>exact uU a 5 rfl rfl rfl c
theorem Rn (q0 h v:Int) (f g e z C c d y:Nat) (w:RQ) (G:f<4611686018427387904) (u:g<4611686018427387904) (E:e<4611686018427387904) (x:z<4611686018427387904) (F:C<4611686018427387904) (D:c<4611686018427387904) (k:d<4611686018427387904) (H:y<4611686018427387904) (h0:lit true ((e:Int)==((3:Nat):Int))=true) (A:lit false ((e:Int)==((2:Nat):Int))=true) (B:lit false ((e:Int)==((1:Nat):Int))=true) (p:CO 35 [ω q0,ω 1000] (.ret (ω (f:Int)))) (r:CO 58 [ω (f:Int)] (Vaj f)) (q:CO 35 [ω h,ω 60] (.ret (ω (g:Int)))) (o:CO 58 [ω (((1+g):Nat):Int)] (.ret (.str (ae (1+g))))) (t:CO 35 [ω v,ω 4] (.ret (ω (e:Int)))) (m:CO 35 [ω q0,ω 7] (.ret (ω (c:Int)))) (n:CO 58 [ω (c:Int)] (Vaj c)) (j:CO 35 [ω h,ω 7] (.ret (ω (d:Int)))) (i:CO 58 [ω (((1+d):Nat):Int)] (.ret (.str (ae (1+d))))) (l:CO 49 [.bool (decide (q0<((0:Nat):Int))),.str (ae c),.str (ae (1+d))] (Va0 w)):CO 36 [.agg [ω q0,ω h,ω v]] (Va0 w):=pK [] 3 4 (.k 13 h0 (.c A (.c B (.n 9 .nil)))) (.c l (.c i (.v 59 (.eq (wF k)) (.c j (.c n (.c m (.c t (.c o (.v 12 (.eq (wF u)) (.c q (.c r (.c p .nil))))))))))))
theorem Yt {a b:Nat} (h:a=b):(((a:Int))==(b:Int))=true:=by subst h;simp
theorem Tx {a b:Nat} (h:a ≠ b):(((a:Int))==(b:Int))=false:=beq_eq_false_iff_ne.2 (by omega)
theorem Nu (q0 c d:Int) (o:eG d 4=3):CO 36 [.agg [ω q0,ω c,ω d]] (.ret (qA (gT (decide (q0<((0:Nat):Int))) (eG q0 7) (1+(eG c 7))))):=by
 have f:(eG q0 1000)<4611686018427387904:=υ (cW) (by omega);have h:(eG c 60)<4611686018427387904:=υ (cW) (by omega);have m:(eG d 4)<4611686018427387904:=υ (cW) (by omega);have i:(eG q0 4611686018427387904)<4611686018427387904:=υ (cW) (by omega);have j:(eG c 4611686018427387904)<4611686018427387904:=υ (cW) (by omega);have g:(eG q0 7)<4611686018427387904:=υ (cW) (by omega);have e:(eG c 7)<4611686018427387904:=υ (cW) (by omega);have l:(eG q0 2147483648)<4611686018427387904:=υ (cW) (by omega);have h7:=cW (a:=q0) (n:=7);have p:=cW (a:=c) (n:=7);exact Rn q0 c d (eG q0 1000) (eG c 60) (eG d 4) (eG q0 4611686018427387904) (eG c 4611686018427387904) (eG q0 7) (eG c 7) (eG q0 2147483648) (gT (decide (q0<((0:Nat):Int))) (eG q0 7) (1+(eG c 7))) f h m i j g e l (ax (Yt (by omega))) (aw (Tx (by omega))) (aw (Tx (by omega))) (fW q0 1000) (je (eG q0 1000) (by have:=f;omega)) (fW c 60) (je (1+(eG c 60)) (by have:=h;omega)) (fW d 4) (fW q0 7) (je (eG q0 7) (by have:=g;omega)) (fW c 7) (je (1+(eG c 7)) (by have:=e;omega)) (ni _ _ _ (Xqs (bN (k:=1) (by omega)) (by decide)) (Xqs (bN (k:=1) (by omega)) (by decide)) (by omega))
theorem ce0:CO 91 [.str [0,0,0,0,0,0,0,1]] (.ret (.str [1])):=cK (.nil)
theorem ce1:CO 58 [ω 1] (.ret (.str [1])):=cK (.c ce0 .nil)
theorem ce2:CO 91 [.str [0,0,0,0,0,0,0,100]] (.ret (.str [100])):=cK (.nil)
theorem ce3:CO 58 [ω 100] (.ret (.str [100])):=cK (.c ce2 .nil)
theorem vg {x:Nat} (h:x<2^128):(ae x).length<2^33:=φ (bN (k:=16) h) (by decide)
theorem HW {w:RQ} (d:w.ok) (c:w.n<2^128) (hd:w.d<2^128):cT w.neg (ae w.n) (ae w.d)=true:=by
 have e:=iH c;have f:=iH hd;unfold cT;rw [px w d,aE,aE,Yq0 (by omega),Yq0 (by omega)];rfl
theorem XD {w:RQ} (d:w.ok) (c:w.neg=false) (e:0<w.n):ml w.neg (ae w.n) (ae w.d)=1:=by
 unfold ml;rw [if_pos ⟨px w d,by rw [aE];exact e⟩,c];rfl
theorem sx (a:Nat):vQ false (ae a) (ae 1)=⟨false,a,1⟩:=fT (q:=⟨false,a,1⟩) ⟨by simp,by simp,by simp⟩
theorem Nw (a b:Nat) (f:a<16777216) (d:0<b) (c:b<16777216):∃ w:RQ,w.n<16777216/\w.d<16777216/\w.ok/\w.neg=false/\CO 32 [Ω false (ae a) (ae 1),Ω false (ae b) (ae 1)] (.ret (.tup [qA w,.bool true])):=by
 have j:(ae a).length<=3:=bN (k:=3) (by omega);have g:(ae b).length<=3:=bN (k:=3) (by omega);have e:(ae 1).length<=2:=bN (k:=2) (by omega);have h:=C6 false false (ae a) (ae 1) (ae b) (ae 1) j e g e (by rw [sx];exact d);rw [sx,sx] at h;have i:=jT (a:=⟨false,a,1⟩) (b:=⟨false,b,1⟩) ⟨by simp,by simp,by simp⟩ d;refine ⟨_, ?_, ?_,i, ?_,h⟩
 .unfold bB gT;exact φ (Xxo _ _) (by simpa using f)
 .unfold bB gT;exact φ (Xxo _ _) (by simpa using c)
 .simp [bB,gT]
def iL (l:List Int):List AV:=l.map λa=> ω a
theorem Q4 {a:List Int} {i:Nat} (h:i<a.length):ε (δ (i:Int)*1) (iL a)= [ω (a.getD i 0)]++iL (a.drop (i+1)):=by
 unfold iL;rw [aF,Xqi,<- Xjy,Xxk h,μ,ν h];rfl
theorem XU {a b:Nat} (h:a<=b) (c:b<2^62):ω (γ .i64 ((b:Int) - (a:Int)))= ω ((b - a:Nat):Int):=by
 have e:γ .i64 ((b:Int) - (a:Int))=((b - a:Nat):Int):=by rw [cf]<;>omega
 rw [e]
theorem js (m n:Nat):ω (Xxp (m:Int) (n:Int))= ω ((m % n:Nat):Int):=by
 rw [Int.ofNat_tmod]
theorem h5 (m:Nat):m % 5<4611686018427387904:=by omega
theorem h7 (m:Nat):m % 7<4611686018427387904:=by omega
theorem acb (m:Nat):ω (γ .i64 (((21:Nat):Int)+((m % 3:Nat):Int)))= ω ((21+m % 3:Nat):Int):=by
 have e:γ .i64 (((21:Nat):Int)+((m % 3:Nat):Int))=((21+m % 3:Nat):Int):=by rw [cf]<;>omega
 rw [e]
theorem cR (a b:Nat) (h:a<=b:=by omega):decide ((a:Int)<=(b:Int))=true:=Yq0 (by omega)
theorem eu (a b:Nat) (h:b<a:=by omega):decide ((a:Int)<=(b:Int))=false:=Yq1 (by omega)
theorem lj (a b:Nat) (h:a<b:=by omega):decide ((a:Int)<(b:Int))=true:=Yq0 (by omega)
theorem iI (a b:Nat) (h:b<=a:=by omega):decide ((a:Int)<(b:Int))=false:=Yq1 (by omega)
theorem Cv (a b:Nat) (h:a=b:=by omega):((a:Int)==(b:Int))=true:=by subst h;simp
theorem dH (a b:Nat) (h:a ≠ b:=by omega):((a:Int)==(b:Int))=false:=beq_eq_false_iff_ne.2 (by omega)
theorem sJ (a:Nat) (h:a<=1099511627776:=by omega):Xqr a 1099511627776=true:=Xqc h
def apN (os:List Nd) (k:Nat):AV:=match os with| []=> .nilS|_::_=> .ref 0 0 0 k
def hpN (os:List Nd):Hp:=match os with| []=> []|a::r=> [(0,⟨aO (a::r),0,false,0,5,true⟩)]
def LH (xs:List Int) (nn:Bool) (p:Nat × Nat × List Nd × Nat):St:=⟨[(0,.sl (iL xs) xs.length nn),(3,apN p.2.2.1 p.2.1),(4,ω (p.2.2.2:Int)),(5,ω (p.1:Int))],hpN p.2.2.1,.dead,[]⟩
def Yq (p:Nat × List Nd × Nat):St:=⟨[(3,apN p.2.1 p.1),(4,ω (p.2.2:Int))],hpN p.2.1,.dead,[]⟩
structure XX (os:List Nd) (n dp k:Nat):Prop where
 sm:∀ x ∈ os,x.sm
 len:os.length=n
 hn:n<=4*k
 hd:dp<=k
 h0:n=0->dp=0
 h1:n ≠ 0->1<=dp
theorem dG {a b:List Nd} (h:∀ x ∈ a,x.sm) (c:∀ x ∈ b,x.sm):∀ x ∈ a++b,x.sm:=λx d=>(List.mem_append.1 d).elim (h x) (c x)
theorem dz {os:List Nd} {n:Nat} (h:os.length=n) (c:List Nd):τ (n*5) (aO os)++aO c=aO (os++c):=by
 rw [Xqa (by rw [qw];omega),Ij]
theorem pP (m:Nat) (h:m<16777216):(ae m).length<8589934592:=vg (by omega)
theorem acy (i:List Int) (t:Bool) (os:List Nd) (n f k m c:Nat) (x:Int) (P:List AV) (w:RQ) (z:List UInt8) (y:XX os n f k) (j:k<12) (g:k<i.length) (B:(ε ((δ (k:Int))*1) (iL i))= [ω x]++P) (W:m<60) (U:c<16) (K:w.n<16777216) (Q:w.d<16777216)
  (c60:CO 35 [ω (γ .i64 (Xxb x ((16:Nat):Int))),ω ((60:Nat):Int)] (.ret (ω (m:Int)))) (c16:CO 35 [ω x,ω ((16:Nat):Int)] (.ret (ω (c:Int))))
  (cq:CO 32 [Ω false (ae (1+m % 5)) (ae 1),Ω false (ae (1+m % 7)) (ae 1)] (.ret (.tup [qA w,.bool true]))) (cp:CO 34 [ω ((m % 4:Nat):Int)] (.ret (.str z))):
  ∃ (ys:List Nd) (dp':Nat),XX (os++ys) (n+ys.length) dp' (k+1)/\∀ nt,152<=nt->ψ nt f37 (LH i t (k,n,os,f)) .normal (LH i t (k+1,n+ys.length,os++ys,dp')):=by
 have d:=y.len;have M:=y.hn;have T:=y.hd;have q:f<2^62:=by omega
 have A:k<2^62:=by omega
 have G:c<2^62:=by omega
 have R:=pP (m % 12) (by omega);have X:=pP (m % 5) (by omega);have V:=pP 1 (by omega);have O:=pP w.n (by omega);have N:=pP w.d (by omega);cases os with
 | nil=>
  have F:n=0:=by simpa using d.symm
  have S:=y.h0 F;subst F;obtain ⟨s,hs⟩:∃ s,((η (ε ((0+(δ (((m % 2):Nat):Int)))*1) [.str [120],.str [121]]) .dead))=Yqp s:=by
   have:m % 2=0\/m % 2=1:=by omega
   rcases this with e|e<;>rw [e]<;>exact ⟨_,rfl⟩
  have C:chk .str ((η (ε ((0+(δ (((m % 2):Nat):Int)))*1) [.str [120],.str [121]]) .dead))=true:=by rw [hs];rfl
  have D:Yqp (Xkx (η (ε ((0+(δ (((m % 2):Nat):Int)))*1) [.str [120],.str [121]]) .dead))=Yqp s:=by rw [hs];rfl
  have E:(10<=c/\c<=12/\f=0)\/(14<=c/\f=0)\/(c=13/\f=0)\/(6<=c/\c<=9/\f=0)\/(c<=3/\f=0)\/(c=4/\f=0)\/(c=5/\f=0):=by omega
  rcases E with h|h|h|h|h|h|h
  .refine ⟨[⟨1,false,(ae ((m % 12))),(ae 1),[]⟩],(f+1),⟨dG y.sm (by simp [Nd.sm]<;>omega),by simp,by simp;omega,by omega,by simp,λ_=>by omega⟩,λnt p=> ?_⟩;exact pN 37 [] 14 103 (.k 8 (aw (dH c 13)) (.c (aw (dH c 5)) (.c (aw (dH c 4)) (.c (aw (eu 14 c)) (.c (aw (iI c 4)) (.k 2 (aw (eu 1 f)) (.c (ax (lj c 13)) (.c (ax (cR 10 c)) (.k 1 (aw (eu 2 f)) (.c (ax (cR 6 c)) (.k 2 (kT k) (.c (aS g) (.c (ax (aS j)) (.c (ax (aS g)) .nil)))))))))))))) (.v 21 (.eq (ku A)) (.v 135 (.eq (ku q)) (.c (bp (m % 12)) (.v 91 (.eq (js m 12)) (.c c16 (.c c60 (.v 24 (.ppt B) .nil))))))) p
  .refine ⟨[⟨6,false,[],[],z⟩],(f+1),⟨dG y.sm (by simp [Nd.sm]<;>omega),by simp,by simp;omega,by omega,by simp,λ_=>by omega⟩,λnt p=> ?_⟩;exact pN 37 [] 14 551 (.k 8 (aw (dH c 13)) (.c (aw (dH c 5)) (.c (aw (dH c 4)) (.k 2 (ax (cR 14 c)) (.c (aw (iI c 4)) (.k 3 (aw (iI c 13)) (.c (ax (cR 10 c)) (.k 1 (aw (eu 2 f)) (.c (ax (cR 6 c)) (.k 2 (kT k) (.c (aS g) (.c (ax (aS j)) (.c (ax (aS g)) .nil))))))))))))) (.v 21 (.eq (ku A)) (.v 135 (.eq (ku q)) (.c cp (.v 101 (.eq (js m 4)) (.c (bp (m % 12)) (.v 91 (.eq (js m 12)) (.c c16 (.c c60 (.v 24 (.ppt B) .nil))))))))) p
  .refine ⟨[⟨5,false,[],[],[99]⟩,⟨1,false,(ae ((m % 12))),(ae 1),[]⟩,⟨1,false,(ae ((m % 5))),(ae 1),[]⟩,⟨15,false,[],[],[]⟩],(f+1),⟨dG y.sm (by simp [Nd.sm]<;>omega),by simp,by simp;omega,by omega,by simp,λ_=>by omega⟩,λnt p=> ?_⟩;exact pN 37 [] 14 4135 (.k 9 (ax (Cv c 13)) (.c (aw (dH c 5)) (.c (aw (dH c 4)) (.c (aw (eu 14 c)) (.c (aw (iI c 4)) (.k 3 (aw (iI c 13)) (.c (ax (cR 10 c)) (.k 1 (aw (eu 2 f)) (.c (ax (cR 6 c)) (.k 2 (kT k) (.c (aS g) (.c (ax (aS j)) (.c (ax (aS g)) .nil))))))))))))) (.v 21 (.eq (ku A)) (.v 135 (.eq (ku q)) (.c (bp (m % 5)) (.v 124 (.eq (js m 5)) (.c (bp (m % 12)) (.v 91 (.eq (js m 12)) (.c c16 (.c c60 (.v 24 (.ppt B) .nil))))))))) p
  .refine ⟨[⟨1,false,(ae ((m % 12))),(ae 1),[]⟩],(f+1),⟨dG y.sm (by simp [Nd.sm]<;>omega),by simp,by simp;omega,by omega,by simp,λ_=>by omega⟩,λnt p=> ?_⟩;exact pN 37 [] 14 7 (.k 8 (aw (dH c 13)) (.c (aw (dH c 5)) (.c (aw (dH c 4)) (.c (aw (eu 14 c)) (.c (aw (iI c 4)) (.k 4 (aw (eu 10 c)) (.k 1 (aw (eu 2 f)) (.c (ax (cR 6 c)) (.k 2 (kT k) (.c (aS g) (.c (ax (aS j)) (.c (ax (aS g)) .nil)))))))))))) (.v 21 (.eq (ku A)) (.v 135 (.eq (ku q)) (.c (bp (m % 12)) (.v 91 (.eq (js m 12)) (.c c16 (.c c60 (.v 24 (.ppt B) .nil))))))) p
  .refine ⟨[⟨6,false,[],[],z⟩],(f+1),⟨dG y.sm (by simp [Nd.sm]<;>omega),by simp,by simp;omega,by omega,by simp,λ_=>by omega⟩,λnt p=> ?_⟩;exact pN 37 [] 14 771 (.k 8 (aw (dH c 13)) (.c (aw (dH c 5)) (.c (aw (dH c 4)) (.k 3 (ax (lj c 4)) (.k 4 (aw (eu 10 c)) (.k 2 (aw (eu 6 c)) (.k 2 (kT k) (.c (aS g) (.c (ax (aS j)) (.c (ax (aS g)) .nil)))))))))) (.v 21 (.eq (ku A)) (.v 135 (.eq (ku q)) (.c cp (.v 101 (.eq (js m 4)) (.c (bp (m % 12)) (.v 91 (.eq (js m 12)) (.c c16 (.c c60 (.v 24 (.ppt B) .nil))))))))) p
  .refine ⟨[⟨8,false,[],[],z⟩],(f+1),⟨dG y.sm (by simp [Nd.sm]<;>omega),by simp,by simp;omega,by omega,by simp,λ_=>by omega⟩,λnt p=> ?_⟩;exact pN 37 [] 14 1027 (.k 8 (aw (dH c 13)) (.c (aw (dH c 5)) (.k 2 (ax (Cv c 4)) (.c (aw (eu 14 c)) (.c (aw (iI c 4)) (.k 4 (aw (eu 10 c)) (.k 2 (aw (eu 6 c)) (.k 2 (kT k) (.c (aS g) (.c (ax (aS j)) (.c (ax (aS g)) .nil))))))))))) (.v 21 (.eq (ku A)) (.v 135 (.eq (ku q)) (.c cp (.v 107 (.eq (js m 4)) (.c (bp (m % 12)) (.v 91 (.eq (js m 12)) (.c c16 (.c c60 (.v 24 (.ppt B) .nil))))))))) p
  .refine ⟨[⟨5,false,[],[],s⟩],(f+1),⟨dG y.sm (by simp [Nd.sm]<;>omega),by simp,by simp;omega,by omega,by simp,λ_=>by omega⟩,λnt p=> ?_⟩;exact pN 37 [] 14 2051 (.k 8 (aw (dH c 13)) (.k 1 C (.c (cR 0 (m % 2)) (.c (lj (m % 2) 2) (.k 1 (ax (Cv c 5)) (.c (aw (dH c 4)) (.c (aw (eu 14 c)) (.c (aw (iI c 4)) (.k 4 (aw (eu 10 c)) (.k 2 (aw (eu 6 c)) (.k 2 (kT k) (.c (aS g) (.c (ax (aS j)) (.c (ax (aS g)) .nil)))))))))))))) (.v 21 (.eq (ku A)) (.v 135 (.eq (ku q)) (.v 116 (.eq D) (.v 114 (.eq (js m 2)) (.c (bp (m % 12)) (.v 91 (.eq (js m 12)) (.c c16 (.c c60 (.v 24 (.ppt B) .nil))))))))) p
 | cons a r=>
  have F:n ≠ 0:=by simp at d;omega
  have u:(Xqr (n*5) (θ (aO (a::r))))=true:=Xqc (by rw [qw,d];exact κ _);obtain ⟨s,hs⟩:∃ s,((η (ε ((0+(δ (((m % 2):Nat):Int)))*1) [.str [120],.str [121]]) .dead))=Yqp s:=by
   have:m % 2=0\/m % 2=1:=by omega
   rcases this with e|e<;>rw [e]<;>exact ⟨_,rfl⟩
  have C:chk .str ((η (ε ((0+(δ (((m % 2):Nat):Int)))*1) [.str [120],.str [121]]) .dead))=true:=by rw [hs];rfl
  have D:Yqp (Xkx (η (ε ((0+(δ (((m % 2):Nat):Int)))*1) [.str [120],.str [121]]) .dead))=Yqp s:=by rw [hs];rfl
  have E:(6<=c/\c<=9/\2<=f)\/(c=12/\2<=f)\/(10<=c/\c<=11/\2<=f)\/(14<=c/\2<=f)\/(c=13/\2<=f)\/(c=12/\f=1)\/(10<=c/\c<=11/\f=1)\/(10<=c/\c<=12/\f=0)\/(14<=c/\f<=1)\/(c=13/\f<=1)\/(6<=c/\c<=9/\f<=1)\/c<=3\/c=4\/c=5:=by omega
  rcases E with h|h|h|h|h|h|h|h|h|h|h|h|h|h
  .obtain ⟨o,J⟩:∃ o,(η (ε ((0+(δ (((c - 6):Nat):Int)))*1) [ω 9,ω 13,ω 14,ω 9]) .dead)=ω o:=by
    have:c - 6=0\/c - 6=1\/c - 6=2\/c - 6=3:=by omega
    rcases this with e|e|e|e<;>rw [e]<;>exact ⟨_,rfl⟩
   have H:chk (.int .i64) (η (ε ((0+(δ (((c - 6):Nat):Int)))*1) [ω 9,ω 13,ω 14,ω 9]) .dead)=true:=by rw [J];rfl
   have I:ω (Γ (η (ε ((0+(δ (((c - 6):Nat):Int)))*1) [ω 9,ω 13,ω 14,ω 9]) .dead))=ω o:=by rw [J];rfl
   refine ⟨[⟨o,false,[],[],[]⟩],(f - 1),⟨dG y.sm (by simp [Nd.sm]<;>omega),by simp [<- d],by simp;omega,by omega,by simp,λ_=>by omega⟩,λnt p=> ?_⟩;have l:ψ nt f37 (iQ (.sl (iL i) i.length t) n f k (aO (a::r))) .normal (iQ (.sl (iL i) i.length t) (n+1) (f - 1) (k+1) ((τ (n*5) (aO (a::r)))++ [ω o,.bool false,.str [],.str [],.str []])):=pN 37 [] 5 31 (.k 1 (sJ (n+1)) (.c u (.k 1 H (.c (cR 0 (c - 6)) (.c (lj (c - 6) 4) (.c (ax (lj c 10)) (.c (ax (cR 2 f)) (.c (ax (cR 6 c)) (.k 2 (kT k) (.c (aS g) (.c (ax (aS j)) (.c (ax (aS g)) .nil)))))))))))) (.v 21 (.eq (ku A)) (.v 51 (.eq (XU (a:=1) (by omega) q)) (.v 46 (.eq I) (.v 44 (.eq (XU (a:=6) (by omega) G)) (.c c16 (.c c60 (.v 24 (.ppt B) .nil))))))) p;have v:τ (n*5) (aO (a::r))++ [ω o,.bool false,.str [],.str [],.str []]=aO ((a::r)++ [⟨o,false,[],[],[]⟩]):=dz d [⟨o,false,[],[],[]⟩];rw [v] at l;exact l
  .refine ⟨[⟨(((21+m % 3):Nat):Int),w.neg,(ae w.n),(ae w.d),[]⟩],f,⟨dG y.sm (by simp [Nd.sm]<;>omega),by simp [<- d],by simp;omega,by omega,by simp,λ_=>by omega⟩,λnt p=> ?_⟩;have l:ψ nt f37 (iQ (.sl (iL i) i.length t) n f k (aO (a::r))) .normal (iQ (.sl (iL i) i.length t) (n+1) f (k+1) ((τ (n*5) (aO (a::r)))++ [ω (((21+m % 3):Nat):Int),.bool w.neg,.str (ae w.n),.str (ae w.d),.str []])):=pN 37 [] 9 495 (.k 1 (sJ (n+1)) (.c u (.k 5 (ax (Cv c 12)) (.k 3 (ax (cR 1 f)) (.c (ax (lj c 13)) (.c (ax (cR 10 c)) (.c (aw (iI c 10)) (.c (ax (cR 2 f)) (.c (ax (cR 6 c)) (.k 2 (kT k) (.c (aS g) (.c (ax (aS j)) (.c (ax (aS g)) .nil))))))))))))) (.v 21 (.eq (ku A)) (.v 79 (.eq (acb m)) (.v 78 (.eq (js m 3)) (.c cq (.c (bp (1+m % 7)) (.v 69 (.eq (wF (h7 m))) (.v 68 (.eq (js m 7)) (.c (bp (1+m % 5)) (.v 65 (.eq (wF (h5 m))) (.v 64 (.eq (js m 5)) (.c c16 (.c c60 (.v 24 (.ppt B) .nil))))))))))))) p;have v:τ (n*5) (aO (a::r))++ [ω (((21+m % 3):Nat):Int),.bool w.neg,.str (ae w.n),.str (ae w.d),.str []]=aO ((a::r)++ [⟨(((21+m % 3):Nat):Int),w.neg,(ae w.n),(ae w.d),[]⟩]):=dz d [⟨(((21+m % 3):Nat):Int),w.neg,(ae w.n),(ae w.d),[]⟩];rw [v] at l;exact l
  .refine ⟨[⟨3,w.neg,(ae w.n),(ae w.d),[]⟩,⟨11,false,[],[],[]⟩],f,⟨dG y.sm (by simp [Nd.sm]<;>omega),by simp [<- d],by simp;omega,by omega,by simp,λ_=>by omega⟩,λnt p=> ?_⟩;have l:ψ nt f37 (iQ (.sl (iL i) i.length t) n f k (aO (a::r))) .normal (iQ (.sl (iL i) i.length t) (n+2) f (k+1) ((τ (n*5) (aO (a::r)))++ [ω 3,.bool w.neg,.str (ae w.n),.str (ae w.d),.str [],ω 11,.bool false,.str [],.str [],.str []])):=pN 37 [] 9 239 (.k 1 (sJ (n+2)) (.c u (.k 4 (aw (dH c 12)) (.k 3 (ax (cR 1 f)) (.c (ax (lj c 13)) (.c (ax (cR 10 c)) (.c (aw (iI c 10)) (.c (ax (cR 2 f)) (.c (ax (cR 6 c)) (.k 2 (kT k) (.c (aS g) (.c (ax (aS j)) (.c (ax (aS g)) .nil))))))))))))) (.v 21 (.eq (ku A)) (.c cq (.c (bp (1+m % 7)) (.v 69 (.eq (wF (h7 m))) (.v 68 (.eq (js m 7)) (.c (bp (1+m % 5)) (.v 65 (.eq (wF (h5 m))) (.v 64 (.eq (js m 5)) (.c c16 (.c c60 (.v 24 (.ppt B) .nil))))))))))) p;have v:τ (n*5) (aO (a::r))++ [ω 3,.bool w.neg,.str (ae w.n),.str (ae w.d),.str [],ω 11,.bool false,.str [],.str [],.str []]=aO ((a::r)++ [⟨3,w.neg,(ae w.n),(ae w.d),[]⟩,⟨11,false,[],[],[]⟩]):=dz d [⟨3,w.neg,(ae w.n),(ae w.d),[]⟩,⟨11,false,[],[],[]⟩];rw [v] at l;exact l
  .refine ⟨[⟨6,false,[],[],z⟩],(f+1),⟨dG y.sm (by simp [Nd.sm]<;>omega),by simp [<- d],by simp;omega,by omega,by simp,λ_=>by omega⟩,λnt p=> ?_⟩;have l:ψ nt f37 (iQ (.sl (iL i) i.length t) n f k (aO (a::r))) .normal (iQ (.sl (iL i) i.length t) (n+1) (f+1) (k+1) ((τ (n*5) (aO (a::r)))++ [ω 6,.bool false,.str [],.str [],.str z])):=pN 37 [] 13 559 (.k 1 (sJ (n+1)) (.c u (.k 6 (aw (dH c 13)) (.c (aw (dH c 5)) (.c (aw (dH c 4)) (.k 2 (ax (cR 14 c)) (.c (aw (iI c 4)) (.k 3 (aw (iI c 13)) (.c (ax (cR 10 c)) (.c (aw (iI c 10)) (.c (ax (cR 2 f)) (.c (ax (cR 6 c)) (.k 2 (kT k) (.c (aS g) (.c (ax (aS j)) (.c (ax (aS g)) .nil)))))))))))))))) (.v 21 (.eq (ku A)) (.v 135 (.eq (ku q)) (.c cp (.v 101 (.eq (js m 4)) (.c (bp (m % 12)) (.v 91 (.eq (js m 12)) (.c c16 (.c c60 (.v 24 (.ppt B) .nil))))))))) p;have v:τ (n*5) (aO (a::r))++ [ω 6,.bool false,.str [],.str [],.str z]=aO ((a::r)++ [⟨6,false,[],[],z⟩]):=dz d [⟨6,false,[],[],z⟩];rw [v] at l;exact l
  .refine ⟨[⟨5,false,[],[],[99]⟩,⟨1,false,(ae ((m % 12))),(ae 1),[]⟩,⟨1,false,(ae ((m % 5))),(ae 1),[]⟩,⟨15,false,[],[],[]⟩],(f+1),⟨dG y.sm (by simp [Nd.sm]<;>omega),by simp [<- d],by simp;omega,by omega,by simp,λ_=>by omega⟩,λnt p=> ?_⟩;have l:ψ nt f37 (iQ (.sl (iL i) i.length t) n f k (aO (a::r))) .normal (iQ (.sl (iL i) i.length t) (n+4) (f+1) (k+1) ((τ (n*5) (aO (a::r)))++ [ω 5,.bool false,.str [],.str [],.str [99],ω 1,.bool false,.str (ae ((m % 12))),.str (ae 1),.str [],ω 1,.bool false,.str (ae ((m % 5))),.str (ae 1),.str [],ω 15,.bool false,.str [],.str [],.str []])):=pN 37 [] 13 4143 (.k 1 (sJ (n+4)) (.c u (.k 7 (ax (Cv c 13)) (.c (aw (dH c 5)) (.c (aw (dH c 4)) (.c (aw (eu 14 c)) (.c (aw (iI c 4)) (.k 3 (aw (iI c 13)) (.c (ax (cR 10 c)) (.c (aw (iI c 10)) (.c (ax (cR 2 f)) (.c (ax (cR 6 c)) (.k 2 (kT k) (.c (aS g) (.c (ax (aS j)) (.c (ax (aS g)) .nil)))))))))))))))) (.v 21 (.eq (ku A)) (.v 135 (.eq (ku q)) (.c (bp (m % 5)) (.v 124 (.eq (js m 5)) (.c (bp (m % 12)) (.v 91 (.eq (js m 12)) (.c c16 (.c c60 (.v 24 (.ppt B) .nil))))))))) p;have v:τ (n*5) (aO (a::r))++ [ω 5,.bool false,.str [],.str [],.str [99],ω 1,.bool false,.str (ae ((m % 12))),.str (ae 1),.str [],ω 1,.bool false,.str (ae ((m % 5))),.str (ae 1),.str [],ω 15,.bool false,.str [],.str [],.str []]=aO ((a::r)++ [⟨5,false,[],[],[99]⟩,⟨1,false,(ae ((m % 12))),(ae 1),[]⟩,⟨1,false,(ae ((m % 5))),(ae 1),[]⟩,⟨15,false,[],[],[]⟩]):=dz d [⟨5,false,[],[],[99]⟩,⟨1,false,(ae ((m % 12))),(ae 1),[]⟩,⟨1,false,(ae ((m % 5))),(ae 1),[]⟩,⟨15,false,[],[],[]⟩];rw [v] at l;exact l
  .refine ⟨[⟨(((21+m % 3):Nat):Int),w.neg,(ae w.n),(ae w.d),[]⟩],f,⟨dG y.sm (by simp [Nd.sm]<;>omega),by simp [<- d],by simp;omega,by omega,by simp,λ_=>by omega⟩,λnt p=> ?_⟩;have l:ψ nt f37 (iQ (.sl (iL i) i.length t) n f k (aO (a::r))) .normal (iQ (.sl (iL i) i.length t) (n+1) f (k+1) ((τ (n*5) (aO (a::r)))++ [ω (((21+m % 3):Nat):Int),.bool w.neg,.str (ae w.n),.str (ae w.d),.str []])):=pN 37 [] 9 487 (.k 1 (sJ (n+1)) (.c u (.k 5 (ax (Cv c 12)) (.k 3 (ax (cR 1 f)) (.c (ax (lj c 13)) (.c (ax (cR 10 c)) (.k 1 (aw (eu 2 f)) (.c (ax (cR 6 c)) (.k 2 (kT k) (.c (aS g) (.c (ax (aS j)) (.c (ax (aS g)) .nil)))))))))))) (.v 21 (.eq (ku A)) (.v 79 (.eq (acb m)) (.v 78 (.eq (js m 3)) (.c cq (.c (bp (1+m % 7)) (.v 69 (.eq (wF (h7 m))) (.v 68 (.eq (js m 7)) (.c (bp (1+m % 5)) (.v 65 (.eq (wF (h5 m))) (.v 64 (.eq (js m 5)) (.c c16 (.c c60 (.v 24 (.ppt B) .nil))))))))))))) p;have v:τ (n*5) (aO (a::r))++ [ω (((21+m % 3):Nat):Int),.bool w.neg,.str (ae w.n),.str (ae w.d),.str []]=aO ((a::r)++ [⟨(((21+m % 3):Nat):Int),w.neg,(ae w.n),(ae w.d),[]⟩]):=dz d [⟨(((21+m % 3):Nat):Int),w.neg,(ae w.n),(ae w.d),[]⟩];rw [v] at l;exact l
  .refine ⟨[⟨3,w.neg,(ae w.n),(ae w.d),[]⟩,⟨11,false,[],[],[]⟩],f,⟨dG y.sm (by simp [Nd.sm]<;>omega),by simp [<- d],by simp;omega,by omega,by simp,λ_=>by omega⟩,λnt p=> ?_⟩;have l:ψ nt f37 (iQ (.sl (iL i) i.length t) n f k (aO (a::r))) .normal (iQ (.sl (iL i) i.length t) (n+2) f (k+1) ((τ (n*5) (aO (a::r)))++ [ω 3,.bool w.neg,.str (ae w.n),.str (ae w.d),.str [],ω 11,.bool false,.str [],.str [],.str []])):=pN 37 [] 9 231 (.k 1 (sJ (n+2)) (.c u (.k 4 (aw (dH c 12)) (.k 3 (ax (cR 1 f)) (.c (ax (lj c 13)) (.c (ax (cR 10 c)) (.k 1 (aw (eu 2 f)) (.c (ax (cR 6 c)) (.k 2 (kT k) (.c (aS g) (.c (ax (aS j)) (.c (ax (aS g)) .nil)))))))))))) (.v 21 (.eq (ku A)) (.c cq (.c (bp (1+m % 7)) (.v 69 (.eq (wF (h7 m))) (.v 68 (.eq (js m 7)) (.c (bp (1+m % 5)) (.v 65 (.eq (wF (h5 m))) (.v 64 (.eq (js m 5)) (.c c16 (.c c60 (.v 24 (.ppt B) .nil))))))))))) p;have v:τ (n*5) (aO (a::r))++ [ω 3,.bool w.neg,.str (ae w.n),.str (ae w.d),.str [],ω 11,.bool false,.str [],.str [],.str []]=aO ((a::r)++ [⟨3,w.neg,(ae w.n),(ae w.d),[]⟩,⟨11,false,[],[],[]⟩]):=dz d [⟨3,w.neg,(ae w.n),(ae w.d),[]⟩,⟨11,false,[],[],[]⟩];rw [v] at l;exact l
  .refine ⟨[⟨1,false,(ae ((m % 12))),(ae 1),[]⟩],(f+1),⟨dG y.sm (by simp [Nd.sm]<;>omega),by simp [<- d],by simp;omega,by omega,by simp,λ_=>by omega⟩,λnt p=> ?_⟩;have l:ψ nt f37 (iQ (.sl (iL i) i.length t) n f k (aO (a::r))) .normal (iQ (.sl (iL i) i.length t) (n+1) (f+1) (k+1) ((τ (n*5) (aO (a::r)))++ [ω 1,.bool false,.str (ae ((m % 12))),.str (ae 1),.str []])):=pN 37 [] 13 103 (.k 1 (sJ (n+1)) (.c u (.k 6 (aw (dH c 13)) (.c (aw (dH c 5)) (.c (aw (dH c 4)) (.c (aw (eu 14 c)) (.c (aw (iI c 4)) (.k 2 (aw (eu 1 f)) (.c (ax (lj c 13)) (.c (ax (cR 10 c)) (.k 1 (aw (eu 2 f)) (.c (ax (cR 6 c)) (.k 2 (kT k) (.c (aS g) (.c (ax (aS j)) (.c (ax (aS g)) .nil)))))))))))))))) (.v 21 (.eq (ku A)) (.v 135 (.eq (ku q)) (.c (bp (m % 12)) (.v 91 (.eq (js m 12)) (.c c16 (.c c60 (.v 24 (.ppt B) .nil))))))) p;have v:τ (n*5) (aO (a::r))++ [ω 1,.bool false,.str (ae ((m % 12))),.str (ae 1),.str []]=aO ((a::r)++ [⟨1,false,(ae ((m % 12))),(ae 1),[]⟩]):=dz d [⟨1,false,(ae ((m % 12))),(ae 1),[]⟩];rw [v] at l;exact l
  .refine ⟨[⟨6,false,[],[],z⟩],(f+1),⟨dG y.sm (by simp [Nd.sm]<;>omega),by simp [<- d],by simp;omega,by omega,by simp,λ_=>by omega⟩,λnt p=> ?_⟩;have l:ψ nt f37 (iQ (.sl (iL i) i.length t) n f k (aO (a::r))) .normal (iQ (.sl (iL i) i.length t) (n+1) (f+1) (k+1) ((τ (n*5) (aO (a::r)))++ [ω 6,.bool false,.str [],.str [],.str z])):=pN 37 [] 13 551 (.k 1 (sJ (n+1)) (.c u (.k 6 (aw (dH c 13)) (.c (aw (dH c 5)) (.c (aw (dH c 4)) (.k 2 (ax (cR 14 c)) (.c (aw (iI c 4)) (.k 3 (aw (iI c 13)) (.c (ax (cR 10 c)) (.k 1 (aw (eu 2 f)) (.c (ax (cR 6 c)) (.k 2 (kT k) (.c (aS g) (.c (ax (aS j)) (.c (ax (aS g)) .nil))))))))))))))) (.v 21 (.eq (ku A)) (.v 135 (.eq (ku q)) (.c cp (.v 101 (.eq (js m 4)) (.c (bp (m % 12)) (.v 91 (.eq (js m 12)) (.c c16 (.c c60 (.v 24 (.ppt B) .nil))))))))) p;have v:τ (n*5) (aO (a::r))++ [ω 6,.bool false,.str [],.str [],.str z]=aO ((a::r)++ [⟨6,false,[],[],z⟩]):=dz d [⟨6,false,[],[],z⟩];rw [v] at l;exact l
  .refine ⟨[⟨5,false,[],[],[99]⟩,⟨1,false,(ae ((m % 12))),(ae 1),[]⟩,⟨1,false,(ae ((m % 5))),(ae 1),[]⟩,⟨15,false,[],[],[]⟩],(f+1),⟨dG y.sm (by simp [Nd.sm]<;>omega),by simp [<- d],by simp;omega,by omega,by simp,λ_=>by omega⟩,λnt p=> ?_⟩;have l:ψ nt f37 (iQ (.sl (iL i) i.length t) n f k (aO (a::r))) .normal (iQ (.sl (iL i) i.length t) (n+4) (f+1) (k+1) ((τ (n*5) (aO (a::r)))++ [ω 5,.bool false,.str [],.str [],.str [99],ω 1,.bool false,.str (ae ((m % 12))),.str (ae 1),.str [],ω 1,.bool false,.str (ae ((m % 5))),.str (ae 1),.str [],ω 15,.bool false,.str [],.str [],.str []])):=pN 37 [] 13 4135 (.k 1 (sJ (n+4)) (.c u (.k 7 (ax (Cv c 13)) (.c (aw (dH c 5)) (.c (aw (dH c 4)) (.c (aw (eu 14 c)) (.c (aw (iI c 4)) (.k 3 (aw (iI c 13)) (.c (ax (cR 10 c)) (.k 1 (aw (eu 2 f)) (.c (ax (cR 6 c)) (.k 2 (kT k) (.c (aS g) (.c (ax (aS j)) (.c (ax (aS g)) .nil))))))))))))))) (.v 21 (.eq (ku A)) (.v 135 (.eq (ku q)) (.c (bp (m % 5)) (.v 124 (.eq (js m 5)) (.c (bp (m % 12)) (.v 91 (.eq (js m 12)) (.c c16 (.c c60 (.v 24 (.ppt B) .nil))))))))) p;have v:τ (n*5) (aO (a::r))++ [ω 5,.bool false,.str [],.str [],.str [99],ω 1,.bool false,.str (ae ((m % 12))),.str (ae 1),.str [],ω 1,.bool false,.str (ae ((m % 5))),.str (ae 1),.str [],ω 15,.bool false,.str [],.str [],.str []]=aO ((a::r)++ [⟨5,false,[],[],[99]⟩,⟨1,false,(ae ((m % 12))),(ae 1),[]⟩,⟨1,false,(ae ((m % 5))),(ae 1),[]⟩,⟨15,false,[],[],[]⟩]):=dz d [⟨5,false,[],[],[99]⟩,⟨1,false,(ae ((m % 12))),(ae 1),[]⟩,⟨1,false,(ae ((m % 5))),(ae 1),[]⟩,⟨15,false,[],[],[]⟩];rw [v] at l;exact l
  .refine ⟨[⟨1,false,(ae ((m % 12))),(ae 1),[]⟩],(f+1),⟨dG y.sm (by simp [Nd.sm]<;>omega),by simp [<- d],by simp;omega,by omega,by simp,λ_=>by omega⟩,λnt p=> ?_⟩;have l:ψ nt f37 (iQ (.sl (iL i) i.length t) n f k (aO (a::r))) .normal (iQ (.sl (iL i) i.length t) (n+1) (f+1) (k+1) ((τ (n*5) (aO (a::r)))++ [ω 1,.bool false,.str (ae ((m % 12))),.str (ae 1),.str []])):=pN 37 [] 13 7 (.k 1 (sJ (n+1)) (.c u (.k 6 (aw (dH c 13)) (.c (aw (dH c 5)) (.c (aw (dH c 4)) (.c (aw (eu 14 c)) (.c (aw (iI c 4)) (.k 4 (aw (eu 10 c)) (.k 1 (aw (eu 2 f)) (.c (ax (cR 6 c)) (.k 2 (kT k) (.c (aS g) (.c (ax (aS j)) (.c (ax (aS g)) .nil)))))))))))))) (.v 21 (.eq (ku A)) (.v 135 (.eq (ku q)) (.c (bp (m % 12)) (.v 91 (.eq (js m 12)) (.c c16 (.c c60 (.v 24 (.ppt B) .nil))))))) p;have v:τ (n*5) (aO (a::r))++ [ω 1,.bool false,.str (ae ((m % 12))),.str (ae 1),.str []]=aO ((a::r)++ [⟨1,false,(ae ((m % 12))),(ae 1),[]⟩]):=dz d [⟨1,false,(ae ((m % 12))),(ae 1),[]⟩];rw [v] at l;exact l
  .refine ⟨[⟨6,false,[],[],z⟩],(f+1),⟨dG y.sm (by simp [Nd.sm]<;>omega),by simp [<- d],by simp;omega,by omega,by simp,λ_=>by omega⟩,λnt p=> ?_⟩;have l:ψ nt f37 (iQ (.sl (iL i) i.length t) n f k (aO (a::r))) .normal (iQ (.sl (iL i) i.length t) (n+1) (f+1) (k+1) ((τ (n*5) (aO (a::r)))++ [ω 6,.bool false,.str [],.str [],.str z])):=pN 37 [] 13 771 (.k 1 (sJ (n+1)) (.c u (.k 6 (aw (dH c 13)) (.c (aw (dH c 5)) (.c (aw (dH c 4)) (.k 3 (ax (lj c 4)) (.k 4 (aw (eu 10 c)) (.k 2 (aw (eu 6 c)) (.k 2 (kT k) (.c (aS g) (.c (ax (aS j)) (.c (ax (aS g)) .nil)))))))))))) (.v 21 (.eq (ku A)) (.v 135 (.eq (ku q)) (.c cp (.v 101 (.eq (js m 4)) (.c (bp (m % 12)) (.v 91 (.eq (js m 12)) (.c c16 (.c c60 (.v 24 (.ppt B) .nil))))))))) p;have v:τ (n*5) (aO (a::r))++ [ω 6,.bool false,.str [],.str [],.str z]=aO ((a::r)++ [⟨6,false,[],[],z⟩]):=dz d [⟨6,false,[],[],z⟩];rw [v] at l;exact l
  .refine ⟨[⟨8,false,[],[],z⟩],(f+1),⟨dG y.sm (by simp [Nd.sm]<;>omega),by simp [<- d],by simp;omega,by omega,by simp,λ_=>by omega⟩,λnt p=> ?_⟩;have l:ψ nt f37 (iQ (.sl (iL i) i.length t) n f k (aO (a::r))) .normal (iQ (.sl (iL i) i.length t) (n+1) (f+1) (k+1) ((τ (n*5) (aO (a::r)))++ [ω 8,.bool false,.str [],.str [],.str z])):=pN 37 [] 13 1027 (.k 1 (sJ (n+1)) (.c u (.k 6 (aw (dH c 13)) (.c (aw (dH c 5)) (.k 2 (ax (Cv c 4)) (.c (aw (eu 14 c)) (.c (aw (iI c 4)) (.k 4 (aw (eu 10 c)) (.k 2 (aw (eu 6 c)) (.k 2 (kT k) (.c (aS g) (.c (ax (aS j)) (.c (ax (aS g)) .nil))))))))))))) (.v 21 (.eq (ku A)) (.v 135 (.eq (ku q)) (.c cp (.v 107 (.eq (js m 4)) (.c (bp (m % 12)) (.v 91 (.eq (js m 12)) (.c c16 (.c c60 (.v 24 (.ppt B) .nil))))))))) p;have v:τ (n*5) (aO (a::r))++ [ω 8,.bool false,.str [],.str [],.str z]=aO ((a::r)++ [⟨8,false,[],[],z⟩]):=dz d [⟨8,false,[],[],z⟩];rw [v] at l;exact l
  .refine ⟨[⟨5,false,[],[],s⟩],(f+1),⟨dG y.sm (by simp [Nd.sm]<;>omega),by simp [<- d],by simp;omega,by omega,by simp,λ_=>by omega⟩,λnt p=> ?_⟩;have l:ψ nt f37 (iQ (.sl (iL i) i.length t) n f k (aO (a::r))) .normal (iQ (.sl (iL i) i.length t) (n+1) (f+1) (k+1) ((τ (n*5) (aO (a::r)))++ [ω 5,.bool false,.str [],.str [],.str s])):=pN 37 [] 13 2051 (.k 1 (sJ (n+1)) (.c u (.k 6 (aw (dH c 13)) (.k 1 C (.c (cR 0 (m % 2)) (.c (lj (m % 2) 2) (.k 1 (ax (Cv c 5)) (.c (aw (dH c 4)) (.c (aw (eu 14 c)) (.c (aw (iI c 4)) (.k 4 (aw (eu 10 c)) (.k 2 (aw (eu 6 c)) (.k 2 (kT k) (.c (aS g) (.c (ax (aS j)) (.c (ax (aS g)) .nil)))))))))))))))) (.v 21 (.eq (ku A)) (.v 135 (.eq (ku q)) (.v 116 (.eq D) (.v 114 (.eq (js m 2)) (.c (bp (m % 12)) (.v 91 (.eq (js m 12)) (.c c16 (.c c60 (.v 24 (.ppt B) .nil))))))))) p;have v:τ (n*5) (aO (a::r))++ [ω 5,.bool false,.str [],.str [],.str s]=aO ((a::r)++ [⟨5,false,[],[],s⟩]):=dz d [⟨5,false,[],[],s⟩];rw [v] at l;exact l
theorem LJ (c:List Int) (f:Bool) (os:List Nd) (n h k:Nat) (j:XX os n h k) (i:k<12) (d:k<c.length):
  ∃ (ys:List Nd) (dp':Nat),XX (os++ys) (n+ys.length) dp' (k+1)/\∀ nt,152<=nt->ψ nt f37 (LH c f (k,n,os,h)) .normal (LH c f (k+1,n+ys.length,os++ys,dp')):=by
 have l:=Q4 d;obtain ⟨w,e,g,_,_,m⟩:=Nw (1+eG (γ .i64 (Xxb (c.getD k 0) ((16:Nat):Int))) 60 % 5) (1+eG (γ .i64 (Xxb (c.getD k 0) ((16:Nat):Int))) 60 % 7) (by omega) (by omega) (by omega);exact acy c f os n h k _ _ _ _ w _ j i d l (cW) (cW) e g (fW _ 60) (fW _ 16) m (fD _)
theorem Yo {nt:Nat} (h:152<=nt) (n c:Nat) (os:List Nd) (d:c<2^62) (e:1<=c) (h0:(Xqr (n+1) 1099511627776)=true) (f:(Xqr (n*5) (θ (aO os)))=true) (g:lit true (decide (((1:Nat):Int)<(c:Int)))=true):ag prog ap [] nt (af 2 (am f37)) (Fa n c (aO os)) (.normal) (Fa (n+1) (c - 1) ((τ (n*5) (aO os))++ [ω 14,.bool false,.str [],.str [],.str []])):=pN 37 [] 1 1 (.k 1 h0 (.c f (.k 1 g .nil))) (.v 150 (.eq (XU (a:=1) e d)) .nil) h
theorem Yp {nt:Nat} (d:152<=nt) (n c:Nat) (os:List Nd) (h0:lit false (decide (((1:Nat):Int)<(c:Int)))=true):ag prog ap [] nt (af 2 (am f37)) (Fa n c (aO os)) (.exit 2) (Pb n (aO os)):=pN 37 [] 1 0 (.c h0 .nil) (.nil) d
theorem P9 (g:List Int) (p:Bool):∀ (d k:Nat) (os:List Nd) (n h:Nat),k+d=min g.length 12->XX os n h k->
  ∃ (os':List Nd) (j e:Nat),XX os' j e (min g.length 12)/\∀ nt,152<=nt->aB prog ap [] nt (af 0 (am f37)) (λ_=> .exit 0) (LH g p) Yq (k,n,os,h) (j,os',e):=by
 intro d
 induction d with
 | zero=>
  intro k os n h hd m;refine ⟨os,n,h,by rw [<- hd];exact m,λnt f=> .done ?_⟩;by_cases c:g.length<=k
  .cases os with
   |nil=>exact pN 37 [] 2 0 (.k 1 (aw (ux c)) .nil) (.nil) f
   |cons a r=>exact pN 37 [] 2 0 (.k 1 (aw (ux c)) .nil) (.nil) f
  .have i:12<=k:=by omega
   have c:k<g.length:=by omega
   cases os with
   |nil=>exact pN 37 [] 2 1 (.c (aw (ux i)) (.c (ax (aS c)) .nil)) (.nil) f
   |cons a r=>exact pN 37 [] 2 1 (.c (aw (ux i)) (.c (ax (aS c)) .nil)) (.nil) f
 |succ d ih=>
  intro k os n h hd m;obtain ⟨o,l,t,u⟩:=LJ g p os n h k m (by omega) (by omega);obtain ⟨os',j,e,v,q⟩:=ih (k+1) (os++o) (n+o.length) l (by omega) t;exact ⟨os',j,e,v,λnt f=> .next (u nt f) (q nt f)⟩
theorem Ys (c:List Int) (d:Bool) (e:List UInt8) (f:LB 152 0 f37 (Ul (.sl (iL c) c.length d)) (.normal) ⟨[(3,.nilS),(4,ω 0)],[],.dead,[]⟩) (g:CO 34 [ω 0] (.ret (.str e))):CO 37 [.sl (iL c) c.length d] (.ret (.own [ω 6,.bool false,.str [],.str [],.str e] 1 5)):=pK [0] 3 1 (.n 5 .nil) (.c g (.l f .nil))
theorem Yr (c:List Int) (f:Bool) (n d e:Nat) (os es:List Nd) (h0:((d:Int)==((0:Nat):Int))=false) (h:LB 152 0 f37 (Ul (.sl (iL c) c.length f)) (.normal) (Fa n d (aO os))) (g:LB 152 2 f37 ⟨[(0,.dead),(2,.dead),(3,.ref 0 0 0 n),(4,ω (d:Int)),(5,.dead),(6,.dead),(7,.dead),(8,.dead),(9,.dead),(11,.dead),(19,.dead),(40,.dead),(61,.dead),(75,.dead),(99,.dead),(105,.dead),(111,.dead),(119,.dead),(137,.bool ((d:Int)==((0:Nat):Int))),(144,.dead)],[(0,⟨(aO os),0,false,0,5,true⟩)],.dead,[]⟩ (.normal) (Pb e (aO es))):CO 37 [.sl (iL c) c.length f] (.ret (.own (τ (e*5) (aO es)) e 5)):=pK [0,2] 1 0 (.c (aw h0) .nil) (.l g (.l h .nil))
def Yn (p:Nat × List Nd × Nat):St:=(Fa p.1 p.2.2 (aO p.2.1))
def Vf (p:Nat × List Nd):St:=(Pb p.1 (aO p.2))
def oD:Nd:=⟨14,false,[],[],[]⟩
theorem LG {nt:Nat} (e:152<=nt):∀ (j n:Nat) (os:List Nd),os.length=n->n+j<2^40->
  aB prog ap [] nt (af 2 (am f37)) (λ_=> .exit 2) Yn Vf (n,os,j+1) (n+j,os++ζ j oD):=by
 intro j
 induction j with
 |zero=>
  intro n os c f;rw [Xzt,Xqd];exact .done (Yp e n 1 os (aw (ux (κ 1))))
 |succ j ih=>
  intro n os c f;have h:=ih (n+1) (os++ [oD]) (by simp [c]) (by omega);rw [show n+1+j=n+(j+1) by omega,Xqe,show [oD]++ζ j oD=ζ (j+1) oD from rfl] at h;refine .next ?_ h
  have d:=Yo e n (j+1+1) os (by omega) (by omega) (Xqc (by omega)) (Xqc (by rw [qw];omega)) (ax (aS (by omega)));rw [show τ (n*5) (aO os)++ [ω 14,.bool false,.str [],.str [],.str []]=aO (os++ [oD]) from dz c [oD],show j+1+1 - 1=j+1 from rfl] at d;exact d
theorem Qa (g:List Int) (l:Bool):∃ e:List Nd,e ≠ []/\e.length<=61/\(∀ x ∈ e,x.sm)/\CO 37 [.sl (iL g) g.length l] (.ret (.own (aO e) e.length 5)):=by
 obtain ⟨os,n,q,f,p⟩:=P9 g l (min g.length 12) 0 [] 0 0 (by omega) ⟨by simp,rfl,by omega,by omega,by simp,by simp⟩;have t:=f.hn;have hd:=f.hd;have c:=f.len;rcases Xqh n with h0|hp
 .have o:os= []:=List.length_eq_zero_iff.1 (by omega);have m:=f.h0 h0;subst o h0 m;have h:=Ys g l _ (aB.blk p (by simp) rfl (aD.of ⟨rfl,rfl,rfl,rfl,trivial⟩) (aD.of ⟨rfl,rfl,trivial⟩)) (fD 0);refine ⟨[⟨6,false,[],[],_⟩],by simp,by simp, ?_,h⟩;intro x k;rw [List.mem_singleton] at k;subst k;exact ⟨by simp,by simp⟩
 .have v:=f.h1 (by omega);obtain ⟨j,rfl⟩:∃ j,q=j+1:=⟨q - 1,by omega⟩
  have i:os ≠ []:=λh=>by subst h;simp at c;omega
  have d:(os++ζ j oD).length=n+j:=by simp [c]
  have h:=Yr g l n (j+1) (n+j) os (os++ζ j oD) (dH _ _)
   (aB.blk p (by simp) rfl (aD.of ⟨rfl,rfl,rfl,rfl,trivial⟩) (by
    cases os with
    |nil=>exact absurd rfl i
    |cons a r=>exact aD.of ⟨rfl,rfl,trivial⟩))
   (aB.blk (λnt u=>LG u j n os c (by omega)) (by simp) rfl (aD.of ⟨rfl,rfl,trivial⟩) (aD.of ⟨rfl,trivial⟩))
  rw [Xqa (by rw [qw,d];omega)] at h;refine ⟨os++ζ j oD,by simp [i],by rw [d];omega, ?_,by rw [d];exact h⟩;refine dG f.sm λx k=> ?_
  rw [(List.mem_replicate.1 k).2];exact ⟨by simp [oD],by simp [oD]⟩
def RQ.rt (q:RQ):Rat:=(if q.neg then -1 else 1)*(q.n:Rat) / (q.d:Rat)
theorem jn {x:Nat} (h:0<x):(x:Rat) ≠ 0:=by
 intro e;have:x=0:=by exact_mod_cast e
 omega
theorem zD (c:Bool) (n d:Nat) (h:0<d):(gT c n d).rt=(if c then -1 else 1)*(n:Rat) / (d:Rat):=by
 obtain ⟨a,i⟩:=Yqv n d;obtain ⟨b,k⟩:=Xv3 n d;have e:0<Xxu n d:=Xzi n h;unfold gT RQ.rt;simp only;generalize Xxu n d=g at*
 subst i k;rw [Xw3 _ e,Xw3 _ e];have f:0<b:=Nat.pos_of_mul_pos_left h;have m:=jn e;have l:=jn f;have j:((if (c && decide (0<g*a))=true then -1 else 1:Rat))*(a:Rat)=(if c=true then -1 else 1)*(a:Rat):=by
  rcases Xqh a with h0|h0
  .subst h0;simp
  .rw [Yq0 (Xjh e h0),Xwo]
 rw [j,Rat.natCast_mul,Rat.natCast_mul];grind
theorem pW (q:RQ):(jB q).rt= - q.rt:=by
 unfold jB RQ.rt;rcases Xqh q.n with h0|h0
 .simp [h0];grind
 .cases q.neg<;>simp [h0]<;>grind
theorem pV {a b:RQ} (i:a.ok) (j:b.ok):(iC a b).rt=a.rt+b.rt:=by
 have l:=jn i.1;have k:=jn j.1;have hd:0<a.d*b.d:=Xjh i.1 j.1;unfold iC;split
 .rename_i hs;rw [zD _ _ _ hd,Rat.natCast_add,Rat.natCast_mul,Rat.natCast_mul,Rat.natCast_mul];unfold RQ.rt;rw [hs];cases b.neg<;>simp<;>grind
 .rename_i hs;split
  .rename_i g;obtain ⟨c,d⟩:=Xkc g;have h:(a.n:Rat)*b.d=b.n*a.d+c:=by
    have:=congrArg (λx:Nat=>(x:Rat)) d;simpa only [Rat.natCast_add,Rat.natCast_mul] using this
   rw [d,Xwa,zD _ _ _ hd,Rat.natCast_mul];unfold RQ.rt;cases e:a.neg<;>cases f:b.neg<;>simp [e,f] at hs ⊢ <;>grind
  .rename_i g;obtain ⟨c,d⟩:=Xkc (Nat.le_of_not_le g);have h:(b.n:Rat)*a.d=a.n*b.d+c:=by
    have:=congrArg (λx:Nat=>(x:Rat)) d;simpa only [Rat.natCast_add,Rat.natCast_mul] using this
   rw [d,Xwa,zD _ _ _ hd,Rat.natCast_mul];unfold RQ.rt;cases e:a.neg<;>cases f:b.neg<;>simp [e,f] at hs ⊢ <;>grind
theorem r_ {a b:RQ} (c:a.ok) (d:b.ok):(eH a b).rt=a.rt*b.rt:=by
 have f:=jn c.1;have e:=jn d.1;unfold eH;rw [zD _ _ _ (Xjh c.1 d.1),Rat.natCast_mul,Rat.natCast_mul];unfold RQ.rt;cases a.neg<;>cases b.neg<;>simp<;>grind
theorem uY {a b:RQ} (c:a.ok) (d:b.ok) (h0:0<b.n):(bB a b).rt=a.rt / b.rt:=by
 have g:=jn c.1;have f:=jn d.1;have e:=jn h0;unfold bB;rw [zD _ _ _ (Xjh c.1 h0),Rat.natCast_mul,Rat.natCast_mul];unfold RQ.rt;cases a.neg<;>cases b.neg<;>simp<;>grind
theorem mi {a b:RQ} (d:a.ok) (i:b.ok) (h:a.rt=b.rt):a=b:=by
 have key:∀ q:RQ,q.ok->∃ h1 h2,q.rt=(⟨if q.neg then -(q.n:Int) else q.n,q.d,h1,h2⟩:Rat):=by
  intro q g;refine ⟨Nat.pos_iff_ne_zero.1 g.1, ?_, ?_⟩
  .show Xxu _ _=1;rw [<- g.2.1];split<;>simp
  .rw [Rat.mk_eq_mkRat];unfold RQ.rt;rw [Rat.mkRat_eq_div];cases q.neg<;>simp [Rat.intCast_natCast]<;>grind
 obtain ⟨_,_,l⟩:=key a d;obtain ⟨_,_,m⟩:=key b i;rw [l,m] at h;have c:=congrArg Rat.num h;have hd:=congrArg Rat.den h;simp only at c hd;obtain ⟨k,p,o⟩:=a;obtain ⟨j,r,n⟩:=b;simp only at c hd;have f:=d.2.2;have e:=i.2.2;simp only at f e;cases k<;>cases j<;>simp at c f e ⊢ <;>omega
theorem Xg {a b:RQ} (c:a.ok) (d:(jB b).ok):(gG a b).rt=a.rt - b.rt:=by
 unfold gG;rw [pV c d,pW];grind
theorem ol {q:RQ} (h:q.ok):(fQ q<0↔q.rt<0)/\(fQ q=0↔q.rt=0)/\(0<fQ q↔0<q.rt):=by
 have d:=jn h.1;have hd:(0:Rat)<q.d:=by
  have:0<q.d:=h.1
  exact_mod_cast this
 unfold fQ RQ.rt;rcases Xqh q.n with h0|h0
 .have:(0:Rat) / q.d=0:=by grind
  simp [h0,this]
 .have c:(0:Rat)<q.n:=by exact_mod_cast h0
  have hp:(0:Rat)<(q.n:Rat) / q.d:=(by rw [Rat.div_def];exact Rat.mul_pos c (Rat.inv_pos.2 hd))
  rw [if_neg (by omega)];cases q.neg<;>simp<;>grind
theorem nU {a b c:Rat} (h:0<c):a*c<b*c↔a<b:=Rat.mul_lt_mul_right h
theorem rW {a b c:Rat} (h:0<c):a*c<=b*c↔a<=b:=⟨λq=>Rat.le_of_mul_le_mul_right q h,λq=>by
 by_cases e:a=b
 .rw [e];exact Rat.le_refl
 .have d:a<b:=by grind
  have f:=(nU h).2 d;grind⟩
def mw (q:RQ):Int:=if q.neg then -((q.n / q.d+(if q.n % q.d=0 then 0 else 1):Nat):Int) else ((q.n / q.d:Nat):Int)
def nQ (k:Int):RQ:=⟨decide (k<0),k.natAbs,1⟩
theorem tv (k:Int):(nQ k).ok:=⟨Nat.one_pos,Xw9 _,λh=>by
 have:k<0:=of_decide_eq_true h;show 0<k.natAbs;omega⟩
theorem OG (k:Int):(nQ k).rt=(k:Rat):=by
 unfold nQ RQ.rt;by_cases h:k<0
 .have e:(k:Int)= -(k.natAbs:Int):=by omega
  have c:(k:Rat)= -((k.natAbs:Nat):Rat):=by
   rw [<- Rat.intCast_natCast,<- Rat.intCast_neg,<- e]
  simp only [Yq0 h,if_true];rw [c];rw [show ((1:Nat):Rat)=1 from rfl];grind
 .have e:(k:Int)=(k.natAbs:Int):=by omega
  have c:(k:Rat)=((k.natAbs:Nat):Rat):=by
   rw [<- Rat.intCast_natCast,<- e]
  simp only [Yq1 h];rw [c];rw [show ((1:Nat):Rat)=1 from rfl];grind
theorem MN {q:RQ} (h:q.ok):((mw q:Int):Rat)<=q.rt/\q.rt<((mw q:Int):Rat)+1:=by
 have hd:(0:Rat)<q.d:=by
  have:0<q.d:=h.1
  exact_mod_cast this
 have e:(q.n:Rat)=q.d*((q.n / q.d:Nat):Rat)+((q.n % q.d:Nat):Rat):=by
  rw [<- Rat.natCast_mul,<- Rat.natCast_add,Nat.div_add_mod]
 have f:(0:Rat)<=((q.n % q.d:Nat):Rat):=by
  have:0<=q.n % q.d:=Xqo _
  exact_mod_cast this
 have g:((q.n % q.d:Nat):Rat)<q.d:=by
  have:=Xq4 q.n h.1
  exact_mod_cast this
 unfold mw RQ.rt;have d:∀ y:Rat,y / q.d*q.d=y:=λy=>by grind
 cases hs:q.neg with
 |false=>
  simp only [Xqy,if_false,Rat.intCast_natCast];rw [<- rW hd,<- nU hd,d];constructor<;>grind
 | true=>
  simp only [if_true,Rat.intCast_neg,Rat.intCast_natCast];rw [<- rW hd,<- nU hd,d];split
  .rename_i c;rw [c] at e f g;simp only [Xq3];constructor<;>grind
  .rename_i c;have:(0:Rat)<((q.n % q.d:Nat):Rat):=by
    have:0<q.n % q.d:=by omega
    exact_mod_cast this
   rw [Rat.natCast_add];rw [show ((1:Nat):Rat)=1 from rfl];constructor<;>grind
theorem wU {k m:Int} {x:Rat} (c:(k:Rat)<=x) (d:x<(k:Rat)+1) (f:(m:Rat)<=x) (e:x<(m:Rat)+1):k=m:=by
 have a:((k:Int):Rat)<((m+1:Int):Rat):=by rw [Rat.intCast_add,Rat.intCast_one];grind
 have b:((m:Int):Rat)<((k+1:Int):Rat):=by rw [Rat.intCast_add,Rat.intCast_one];grind
 rw [Rat.intCast_lt_intCast] at a b;omega
def gS (a s:RQ):RQ:=eH (nQ (mw (bB a s))) s
def X2 (a b:RQ):Bool:=(a.neg==b.neg) && ((ae a.n==ae b.n) && (ae a.d==ae b.d))
theorem Cu {a b:RQ}:X2 a b=true↔a=b:=by
 obtain ⟨s,n,d⟩:=a;obtain ⟨s',c,e⟩:=b;simp only [X2,π,beq_iff_eq,RQ.mk.injEq];exact ⟨λh=> ⟨h.1,yV h.2.1,yV h.2.2⟩,λh=> ⟨h.1,by rw [h.2.1],by rw [h.2.2]⟩⟩
def La (a s:RQ):RQ:=if X2 (gS a s) a=true then a else iC (gS a s) s
def Kq (a s:RQ):RQ:=if 0<=ep (iC (gG a (gS a s)) (gG a (gS a s))) s then iC (gS a s) s else gS a s
theorem tZ {a b:RQ} (c:a.ok) (d:b.ok):(gG a b).ok:=eP c (kS d)
theorem xh {a b:RQ} (c:a.ok) (d:b.ok):(gG a b).rt=a.rt - b.rt:=Xg c (kS d)
theorem nM {a b:RQ} (c:a.ok) (d:b.ok):(ep a b<0↔a.rt<b.rt)/\(ep a b=0↔a=b)/\(0<ep a b↔b.rt<a.rt):=by
 have h:=ol (tZ c d);rw [xh c d] at h;unfold ep;refine ⟨h.1.trans ?_,h.2.1.trans ?_,h.2.2.trans ?_⟩
 .constructor<;>intro _<;>grind
 .constructor
  .intro e;exact mi c d (by grind)
  .intro e;rw [e];grind
 .constructor<;>intro _<;>grind
theorem zE {s:RQ} (hs:s.ok) (h:0<fQ s):0<s.rt/\0<s.n:=by
 refine ⟨(ol hs).2.2.1 h, ?_⟩;unfold fQ at h;split at h<;>omega
theorem eS {a s:RQ} (hs:s.ok):(gS a s).ok:=tF (tv _) hs
theorem zC {a s:RQ} (c:a.ok) (hs:s.ok) (h0:0<s.n):(gS a s).rt=((mw (bB a s):Int):Rat)*s.rt/\((mw (bB a s):Int):Rat)<=a.rt / s.rt/\a.rt / s.rt<((mw (bB a s):Int):Rat)+1:=by
 have h:=MN (jT c h0);rw [uY c hs h0] at h;exact ⟨by unfold gS;rw [r_ (tv _) hs,OG],h⟩
theorem UR {a s:RQ} (c:a.ok) (hs:s.ok) (hp:0<fQ s):jB (gS (jB a) s)=La a s:=by
 obtain ⟨p,h0⟩:=zE hs hp;obtain ⟨j,d,f⟩:=zC (kS c) hs h0;obtain ⟨g,m,n⟩:=zC c hs h0;rw [pW] at d f;have i:a.rt=a.rt / s.rt*s.rt:=by grind
 have k: -a.rt / s.rt= -(a.rt / s.rt):=by grind
 rw [k] at d f;generalize a.rt / s.rt=x at*
 unfold La;split
 .rename_i e;have e:=Cu.1 e;refine mi (kS (eS hs)) c ?_;rw [e,i] at g;have h:x=((mw (bB a s):Int):Rat):=by grind
  rw [pW,j,i];have:mw (bB (jB a) s)= -mw (bB a s):=wU (x:= -x) d f (by rw [Rat.intCast_neg];grind) (by rw [Rat.intCast_neg];grind);rw [this,Rat.intCast_neg,<- h];grind
 .rename_i e;refine mi (kS (eS hs)) (eP (eS hs) hs) ?_;have l:((mw (bB a s):Int):Rat) ≠ x:=by
   intro h;exact e (Cu.2 (mi (eS hs) c (by rw [g,h,<- i])))
  have:mw (bB (jB a) s)= -(mw (bB a s)+1):=wU (x:= -x) d f (by rw [Rat.intCast_neg,Rat.intCast_add,Rat.intCast_one];grind) (by rw [Rat.intCast_neg,Rat.intCast_add,Rat.intCast_one];grind);rw [pW,j,pV (eS hs) hs,g,this,Rat.intCast_neg,Rat.intCast_add,Rat.intCast_one];grind
theorem TX {a s:RQ} (c:a.ok) (hs:s.ok) (hp:0<fQ s):gS (iC a (bB s (nQ 2))) s=Kq a s:=by
 obtain ⟨p,h0⟩:=zE hs hp;have m:(bB s (nQ 2)).ok:=jT hs (by decide);have n:(bB s (nQ 2)).rt=s.rt / 2:=by rw [uY hs (tv 2) (by decide),OG];rfl
 obtain ⟨l,g,d⟩:=zC (eP c m) hs h0;obtain ⟨i,t,r⟩:=zC c hs h0;rw [pV c m,n] at g d;have hd:=eS (a:=a) hs;have f:(gG a (gS a s)).ok:=tZ c hd;have e:=(nM (eP f f) hs).1;rw [pV f f,xh c hd,i] at e;have q:a.rt=a.rt / s.rt*s.rt:=by grind
 have o:(a.rt+s.rt / 2) / s.rt=a.rt / s.rt+1 / 2:=by grind
 rw [o] at g d;generalize a.rt / s.rt=x at*
 have k:(x*s.rt - ↑(mw (bB a s))*s.rt+(x*s.rt - ↑(mw (bB a s))*s.rt))<s.rt↔(x - ↑(mw (bB a s))+(x - ↑(mw (bB a s))))<1:=by
  rw [<- nU (a:=x - ↑(mw (bB a s))+(x - ↑(mw (bB a s)))) p];constructor<;>intro _<;>grind
 rw [q,k] at e;unfold Kq;split
 .rename_i j;refine mi (eS hs) (eP hd hs) ?_;have:¬ (x - ↑(mw (bB a s))+(x - ↑(mw (bB a s))))<1:=λh=>by have:=e.2 h;omega
  have:mw (bB (iC a (bB s (nQ 2))) s)=mw (bB a s)+1:=wU (x:=x+1 / 2) g d (by rw [Rat.intCast_add,Rat.intCast_one];grind) (by rw [Rat.intCast_add,Rat.intCast_one];grind);rw [l,pV hd hs,i,this,Rat.intCast_add,Rat.intCast_one];grind
 .rename_i j;refine mi (eS hs) hd ?_;have:(x - ↑(mw (bB a s))+(x - ↑(mw (bB a s))))<1:=e.1 (by omega);have:mw (bB (iC a (bB s (nQ 2))) s)=mw (bB a s):=wU (x:=x+1 / 2) g d (by grind) (by grind);rw [l,i,this]
def Ts:List (RQ × RQ)->Prop
 |b::b'::l=>b.1.rt<b'.1.rt/\Ts (b'::l)
 |_=>True
inductive Oq where
 |err (e:Int)
 |val (q:RQ)
def Oq.n:Oq->Bool| .err _=>false| .val q=>q.neg
def Oq.a:Oq->List UInt8| .err _=> []| .val q=>ae q.n
def Oq.d:Oq->List UInt8| .err _=> []| .val q=>ae q.d
def Oq.e:Oq->Int| .err e=>e| .val _=>0
def Oq.q:Oq->RQ| .err _=>q0| .val q=>q
def EF (o:Oq):List AV:= [.bool o.n,.str o.a,.str o.d,ω o.e]
abbrev dE (o:Oq):AV:= .agg [.bool o.n,.str o.a,.str o.d,ω o.e]
noncomputable def FC (t:Nat):AV->Bool:=match ap.tyAt t with|some ti=>iG ti|none=>λ_=>false
theorem gL (e:Int):CO 119 [ω e] (.ret (.agg [.bool false,.str [],.str [],ω e])):=pK [] 0 0 (.n 5 .nil) (.nil)
theorem VT (n:Bool) (a d:List UInt8) (e:Int) (h0:lit true (!(e==((0:Nat):Int)))=true) (c:CO 119 [ω e] (.ret (.agg [.bool false,.str [],.str [],ω e]))):CO 188 [.agg [.bool n,.str a,.str d,ω e]] (.ret (.agg [.bool false,.str [],.str [],ω e])):=pK [] 1 1 (.k 6 h0 (.n 1 .nil)) (.c c .nil)
theorem VU (n:Bool) (a d:List UInt8) (e:Int) (h0:lit true (!(cT n a d))=true) (c:lit false (!(e==((0:Nat):Int)))=true) (g:CO 77 [Ω n a d] (.ret (.bool (cT n a d)))) (f:CO 119 [ω 3] (.ret (.agg [.bool false,.str [],.str [],ω 3]))):CO 188 [.agg [.bool n,.str a,.str d,ω e]] (.ret (.agg [.bool false,.str [],.str [],ω 3])):=pK [] 2 2 (.k 5 h0 (.k 3 c (.n 1 .nil))) (.c f (.c g .nil))
theorem VV (n:Bool) (a d:List UInt8) (e:Int) (h0:lit false (!(cT n a d))=true) (c:lit false (!(e==((0:Nat):Int)))=true) (f:CO 77 [Ω n a d] (.ret (.bool (cT n a d)))):CO 188 [.agg [.bool n,.str a,.str d,ω e]] (.ret (.agg [.bool n,.str a,.str d,ω e])):=pK [] 2 0 (.k 9 h0 (.k 3 c (.n 1 .nil))) (.c f .nil)
abbrev Vad (a:Oq):gy:= .ret (dE a)
theorem V6 (n:Bool) (a d:List UInt8) (o:Oq) (c:CO 188 [.agg [.bool n,.str a,.str d,ω 0]] (Vad o)):CO 215 [Ω n a d] (Vad o):=pK [] 0 0 (.n 8 .nil) (.c c .nil)
theorem V2 (b:Bool) (o:Oq) (h0:lit true b=true) (d:CO 75 [ω 1] (.ret (Ω false (ae 1) (ae 1)))) (c:CO 215 [Ω false (ae 1) (ae 1)] (Vad o)):CO 216 [.bool b] (Vad o):=pK [] 1 1 (.k 5 h0 .nil) (.c c (.c d .nil))
theorem V3 (b:Bool) (o:Oq) (h0:lit false b=true) (d:VaA) (c:CO 215 [Ω false (ae 0) (ae 1)] (Vad o)):CO 216 [.bool b] (Vad o):=pK [] 1 0 (.k 5 h0 .nil) (.c c (.c d .nil))
theorem VB (n:Bool) (a d:List UInt8) (h0:lit true ((n==false) && ((a==(ae 1)) && ((d==(ae 1)) && true)))=true) (c:CO 75 [ω 1] (.ret (Ω false (ae 1) (ae 1)))):CO 217 [Ω n a d] (.ret (.tup [.bool ((n==false) && ((a==(ae 1)) && ((d==(ae 1)) && true))),.bool true])):=pK [] 1 1 (.c h0 (.n 3 .nil)) (.c c .nil)
theorem VC (n:Bool) (a d:List UInt8) (h0:lit false ((n==false) && ((a==(ae 1)) && ((d==(ae 1)) && true)))=true) (e:CO 75 [ω 1] (.ret (Ω false (ae 1) (ae 1)))) (c:VaA):CO 217 [Ω n a d] (.ret (.tup [.bool ((n==false) && ((a==(ae 1)) && ((d==(ae 1)) && true))),.bool ((n==false) && ((a==(ae 0)) && ((d==(ae 1)) && true)))])):=pK [] 1 0 (.k 3 h0 (.n 3 .nil)) (.c c (.c e .nil))
theorem VD (d h:Bool) (e f c:List UInt8) (l:Int) (o:Oq) (ks vs j i g:List AV) (k:Nat) (m:CO 215 [Ω d e f] (Vad o)):CO 190 [.agg [.mp ks vs,.mp j i],.agg [ω l,.bool d,.str e,.str f,.str c],.sl g k h] (Vad o):=pK [] 0 0 (.n 8 .nil) (.c m .nil)
abbrev VaF:gy:= .ret (.agg [.bool false,.str [],.str [],ω 12])
abbrev VaN:AV:= .agg [.bool false,.str [],.str [],ω 0]
theorem VE (e h lb:Bool) (i o c:List UInt8) (d:Int) (l:Oq) (ks vs m j f:List AV) (k:Nat) (n:AV.tup [(Xwb (b_ ks vs (.agg [ω d,.str c])) VaN),.bool (Xz3 (b_ ks vs (.agg [ω d,.str c])))]= .tup [dE l,.bool lb]) (h0:lit true (!lb)=true) (g:(Xz9 ks (FC 222))=true) (p:CO 119 [ω 12] VaF):CO 191 [.agg [.mp ks vs,.mp m j],.agg [ω d,.bool e,.str i,.str o,.str c],.sl f k h] VaF:=pK [] 1 1 (.k 5 h0 (.k 2 g (.n 3 .nil))) (.c p (.v 17 (.eq n) .nil))
theorem VF (f i lb:Bool) (j o c:List UInt8) (d:Int) (e:Oq) (ks vs m l g:List AV) (k:Nat) (n:AV.tup [(Xwb (b_ ks vs (.agg [ω d,.str c])) VaN),.bool (Xz3 (b_ ks vs (.agg [ω d,.str c])))]= .tup [dE e,.bool lb]) (h0:lit false (!lb)=true) (h:(Xz9 ks (FC 222))=true):CO 191 [.agg [.mp ks vs,.mp m l],.agg [ω d,.bool f,.str j,.str o,.str c],.sl g k i] (Vad e):=pK [] 1 0 (.k 9 h0 (.k 2 h (.n 3 .nil))) (.v 17 (.eq n) .nil)
abbrev Va1 (a:Oq) (b:Bool) (c:Bool):Prop:=CO 217 [.agg [.bool a.n,.str a.a,.str a.d]] (.ret (.tup [.bool b,.bool c]))
abbrev Va4 (a:List AV) (b:List AV) (c:List AV) (d:List AV) (e:Int) (f:Bool) (g:List UInt8) (h:List UInt8) (i:List UInt8) (j:Oq) (k:Oq) (l:Oq) (m:Bool):List AV:=[.agg [.mp a b,.mp c d],.agg [ω e,.bool f,.str g,.str h,.str i],.sl [.bool j.n,.str j.a,.str j.d,ω j.e,.bool k.n,.str k.a,.str k.d,ω k.e,.bool l.n,.str l.a,.str l.d,ω l.e] 3 m]
theorem Vx (g i w1 l:Bool) (j o d:List UInt8) (n:Int) (c e f:Oq) (ks vs m k:List AV) (h0:lit true (!(c.e==((0:Nat):Int)))=true) (h:Va1 c w1 l):CO 192 (Va4 ks vs m k n g j o d c e f i) (Vad c):=pK [] 1 1 (.k 11 h0 (.n 8 .nil)) (.c h .nil)
abbrev Va7:gy:= .ret (.agg [.bool false,.str [],.str [],ω 13])
theorem Vy (o k w1 g:Bool) (p h d:List UInt8) (n:Int) (c e f:Oq) (ks vs q l:List AV) (h0:lit true (!g)=true) (j:lit false (!(c.e==((0:Nat):Int)))=true) (i:Va1 c w1 g) (m:CO 119 [ω 13] Va7):CO 192 (Va4 ks vs q l n o p h d c e f k) Va7:=pK [] 2 2 (.k 5 h0 (.c j (.n 8 .nil))) (.c m (.c i .nil))
theorem Vz (o k w1 g:Bool) (p h e:List UInt8) (n:Int) (c d f:Oq) (ks vs q l:List AV) (h0:lit true w1=true) (j:lit false (!g)=true) (m:lit false (!(c.e==((0:Nat):Int)))=true) (i:Va1 c w1 g):CO 192 (Va4 ks vs q l n o p h e c d f k) (Vad d):=pK [] 3 4 (.k 11 h0 (.c j (.c m (.n 8 .nil)))) (.c i .nil)
theorem VA (o k w1 g:Bool) (p h d:List UInt8) (n:Int) (c f e:Oq) (ks vs q l:List AV) (h0:lit false w1=true) (j:lit false (!g)=true) (m:lit false (!(c.e==((0:Nat):Int)))=true) (i:Va1 c w1 g):CO 192 (Va4 ks vs q l n o p h d c f e k) (Vad e):=pK [] 3 0 (.k 11 h0 (.c j (.c m (.n 8 .nil)))) (.c i .nil)
abbrev Va2 (a:Oq) (b:Oq):List AV:=[.bool a.n,.str a.a,.str a.d,ω a.e,.bool b.n,.str b.a,.str b.d,ω b.e]
abbrev Vac (a:Oq):List AV:=[.bool a.n,.str a.a,.str a.d]
theorem Qz (f h:Bool) (i n e:List UInt8) (o d c:Oq) (r:RQ) (ks vs k j:List AV) (g:CO 214 [ω 9] (.ret (.fn 170 [] []))) (l:CO 170 [.agg (Vac d),.agg (Vac c)] (Va0 r)) (m:CO 215 [.agg (Vag r)] (Vad o)):CO 189 [.agg [.mp ks vs,.mp k j],.agg [ω 9,.bool f,.str i,.str n,.str e],.sl (Va2 d c) 2 h] (Vad o):=pK [] 1 1 (.n 25 .nil) (.c m (.c l (.c g .nil)))
theorem Qx:CO 214 [ω 9] (.ret (.fn 170 [] [])):=pK [] 1 1 (.n 1 .nil) (.nil)
theorem Mm (f h:Bool) (i n e:List UInt8) (o d c:Oq) (r:RQ) (ks vs k j:List AV) (g:CO 214 [ω 10] (.ret (.fn 124 [] []))) (l:CO 124 [.agg (Vac d),.agg (Vac c)] (Va0 r)) (m:CO 215 [.agg (Vag r)] (Vad o)):CO 189 [.agg [.mp ks vs,.mp k j],.agg [ω 10,.bool f,.str i,.str n,.str e],.sl (Va2 d c) 2 h] (Vad o):=pK [] 1 1 (.n 25 .nil) (.c m (.c l (.c g .nil)))
theorem Md:CO 214 [ω 10] (.ret (.fn 124 [] [])):=pK [] 2 2 (.n 2 .nil) (.nil)
theorem Mn (f h:Bool) (i n e:List UInt8) (o d c:Oq) (r:RQ) (ks vs k j:List AV) (g:CO 214 [ω 11] (.ret (.fn 121 [] []))) (l:CO 121 [.agg (Vac d),.agg (Vac c)] (Va0 r)) (m:CO 215 [.agg (Vag r)] (Vad o)):CO 189 [.agg [.mp ks vs,.mp k j],.agg [ω 11,.bool f,.str i,.str n,.str e],.sl (Va2 d c) 2 h] (Vad o):=pK [] 1 1 (.n 25 .nil) (.c m (.c l (.c g .nil)))
theorem Me:CO 214 [ω 11] (.ret (.fn 121 [] [])):=pK [] 3 4 (.n 3 .nil) (.nil)
abbrev VaX:gy:= .ret (.nilF)
theorem Mo (f h:Bool) (i n e:List UInt8) (o d c:Oq) (r:RQ) (ks vs k j:List AV) (g:CO 214 [ω 12] VaX) (l:CO 114 [.agg (Vac d),.agg (Vac c)] (.ret (.tup [.agg (Vag r),.bool true]))) (m:CO 215 [.agg (Vag r)] (Vad o)):CO 189 [.agg [.mp ks vs,.mp k j],.agg [ω 12,.bool f,.str i,.str n,.str e],.sl (Va2 d c) 2 h] (Vad o):=pK [] 3 2 (.n 32 .nil) (.c m (.c l (.c g .nil)))
theorem JT (f h:Bool) (i n e:List UInt8) (d c:Oq) (ks vs k j:List AV) (g:CO 214 [ω 12] VaX) (l:CO 114 [.agg (Vac d),.agg (Vac c)] (.ret (.tup [Ω false [] [],.bool false]))) (m:CO 119 [ω 16] (.ret (.agg [.bool false,.str [],.str [],ω 16]))):CO 189 [.agg [.mp ks vs,.mp k j],.agg [ω 12,.bool f,.str i,.str n,.str e],.sl (Va2 d c) 2 h] (.ret (.agg [.bool false,.str [],.str [],ω 16])):=pK [] 3 6 (.n 29 .nil) (.c m (.c l (.c g .nil)))
theorem DY:CO 214 [ω 12] (.ret (.nilF)):=pK [] 5 0 (.n 5 .nil) (.nil)
theorem D3 (n g i:Bool) (a d j q f:List UInt8) (o e c:Oq) (ks vs l k:List AV) (h:CO 214 [ω 13] (.ret (.fn 239 [] [.pp [ω 1] 0]))) (m:CO 239 [.agg (Vac e),.agg (Vac c),.pp [ω 1] 0] (.ret (Ω n a d))) (p:CO 215 [Ω n a d] (Vad o)):CO 189 [.agg [.mp ks vs,.mp l k],.agg [ω 13,.bool g,.str j,.str q,.str f],.sl (Va2 e c) 2 i] (Vad o):=pK [] 1 1 (.n 25 .nil) (.c p (.c m (.c h .nil)))
theorem DZ (c:CO 238 [ω 1] (.ret (.fn 239 [] [.pp [ω 1] 0]))):CO 214 [ω 13] (.ret (.fn 239 [] [.pp [ω 1] 0])):=pK [] 4 8 (.n 4 .nil) (.c c .nil)
theorem D4 (n g i:Bool) (a d j q f:List UInt8) (o e c:Oq) (ks vs l k:List AV) (h:CO 214 [ω 14] (.ret (.fn 239 [] [.pp [ω (-1)] 0]))) (m:CO 239 [.agg (Vac e),.agg (Vac c),.pp [ω (-1)] 0] (.ret (Ω n a d))) (p:CO 215 [Ω n a d] (Vad o)):CO 189 [.agg [.mp ks vs,.mp l k],.agg [ω 14,.bool g,.str j,.str q,.str f],.sl (Va2 e c) 2 i] (Vad o):=pK [] 1 1 (.n 25 .nil) (.c p (.c m (.c h .nil)))
theorem D1 (c:CO 238 [ω (-1)] (.ret (.fn 239 [] [.pp [ω (-1)] 0]))):CO 214 [ω 14] (.ret (.fn 239 [] [.pp [ω (-1)] 0])):=pK [] 5 16 (.n 5 .nil) (.c c .nil)
theorem Mp (f i:Bool) (j p e:List UInt8) (g:Int) (o d c:Oq) (ks vs l k:List AV) (h:CO 214 [ω 16] VaX) (m:CO 76 [.agg (Vac d),.agg (Vac c)] (.ret (ω g))) (n:CO 216 [.bool (decide (g<((0:Nat):Int)))] (Vad o)):CO 189 [.agg [.mp ks vs,.mp l k],.agg [ω 16,.bool f,.str j,.str p,.str e],.sl (Va2 d c) 2 i] (Vad o):=pK [] 3 4 (.n 28 .nil) (.c n (.c m (.c h .nil)))
theorem Mf:CO 214 [ω 16] (.ret (.nilF)):=pK [] 5 0 (.n 5 .nil) (.nil)
theorem Mq (f h:Bool) (i m e:List UInt8) (o d c:Oq) (ks vs k j:List AV) (g:CO 214 [ω 17] VaX) (l:CO 216 [.bool ((d.n==c.n) && ((d.a==c.a) && ((d.d==c.d) && true)))] (Vad o)):CO 189 [.agg [.mp ks vs,.mp k j],.agg [ω 17,.bool f,.str i,.str m,.str e],.sl (Va2 d c) 2 h] (Vad o):=pK [] 4 8 (.n 29 .nil) (.c l (.c g .nil))
theorem Mg:CO 214 [ω 17] (.ret (.nilF)):=pK [] 5 0 (.n 5 .nil) (.nil)
theorem Mr (m j w1 f g n:Bool) (q h e:List UInt8) (d c:Oq) (ks vs r k:List AV) (h0:lit true (!f)=true) (i:CO 214 [ω 18] VaX) (l:Va1 d w1 f) (o:Va1 c g n) (p:CO 119 [ω 13] Va7):CO 189 [.agg [.mp ks vs,.mp r k],.agg [ω 18,.bool m,.str q,.str h,.str e],.sl (Va2 d c) 2 j] Va7:=pK [] 6 48 (.k 6 h0 (.n 24 .nil)) (.c p (.c o (.c l (.c i .nil))))
theorem Ms (o l w1 g h f:Bool) (r i e:List UInt8) (d c:Oq) (ks vs t m:List AV) (h0:lit true (!f)=true) (k:lit false (!g)=true) (j:CO 214 [ω 18] VaX) (n:Va1 d w1 g) (p:Va1 c h f) (q:CO 119 [ω 13] Va7):CO 189 [.agg [.mp ks vs,.mp t m],.agg [ω 18,.bool o,.str r,.str i,.str e],.sl (Va2 d c) 2 l] Va7:=pK [] 6 32 (.k 5 h0 (.c k (.n 24 .nil))) (.c q (.c p (.c n (.c j .nil))))
theorem Mt (q l w1 h f g:Bool) (u i e:List UInt8) (o d c:Oq) (ks vs v m:List AV) (h0:lit true w1=true) (k:lit false (!g)=true) (n:lit false (!h)=true) (j:CO 214 [ω 18] VaX) (p:Va1 d w1 h) (r:Va1 c f g) (t:CO 216 [.bool f] (Vad o)):CO 189 [.agg [.mp ks vs,.mp v m],.agg [ω 18,.bool q,.str u,.str i,.str e],.sl (Va2 d c) 2 l] (Vad o):=pK [] 8 192 (.k 5 h0 (.k 2 k (.c n (.n 24 .nil)))) (.c t (.c r (.c p (.c j .nil))))
theorem Mu (q l w1 g h f:Bool) (u i e:List UInt8) (o d c:Oq) (ks vs v m:List AV) (h0:lit false w1=true) (k:lit false (!f)=true) (n:lit false (!g)=true) (j:CO 214 [ω 18] VaX) (p:Va1 d w1 g) (r:Va1 c h f) (t:CO 216 [.bool false] (Vad o)):CO 189 [.agg [.mp ks vs,.mp v m],.agg [ω 18,.bool q,.str u,.str i,.str e],.sl (Va2 d c) 2 l] (Vad o):=pK [] 8 64 (.k 5 h0 (.k 2 k (.c n (.n 24 .nil)))) (.c t (.c r (.c p (.c j .nil))))
theorem sS:CO 214 [ω 18] (.ret (.nilF)):=pK [] 5 0 (.n 5 .nil) (.nil)
theorem Mv (m j w1 f g n:Bool) (q h e:List UInt8) (d c:Oq) (ks vs r k:List AV) (h0:lit true (!f)=true) (i:CO 214 [ω 19] VaX) (l:Va1 d w1 f) (o:Va1 c g n) (p:CO 119 [ω 13] Va7):CO 189 [.agg [.mp ks vs,.mp r k],.agg [ω 19,.bool m,.str q,.str h,.str e],.sl (Va2 d c) 2 j] Va7:=pK [] 6 48 (.k 6 h0 (.n 24 .nil)) (.c p (.c o (.c l (.c i .nil))))
theorem Mw (o l w1 g h f:Bool) (r i e:List UInt8) (d c:Oq) (ks vs t m:List AV) (h0:lit true (!f)=true) (k:lit false (!g)=true) (j:CO 214 [ω 19] VaX) (n:Va1 d w1 g) (p:Va1 c h f) (q:CO 119 [ω 13] Va7):CO 189 [.agg [.mp ks vs,.mp t m],.agg [ω 19,.bool o,.str r,.str i,.str e],.sl (Va2 d c) 2 l] Va7:=pK [] 6 32 (.k 5 h0 (.c k (.n 24 .nil))) (.c q (.c p (.c n (.c j .nil))))
theorem Mx (q l w1 g h f:Bool) (u i e:List UInt8) (o d c:Oq) (ks vs v m:List AV) (h0:lit true w1=true) (k:lit false (!f)=true) (n:lit false (!g)=true) (j:CO 214 [ω 19] VaX) (p:Va1 d w1 g) (r:Va1 c h f) (t:CO 216 [.bool true] (Vad o)):CO 189 [.agg [.mp ks vs,.mp v m],.agg [ω 19,.bool q,.str u,.str i,.str e],.sl (Va2 d c) 2 l] (Vad o):=pK [] 8 128 (.k 5 h0 (.k 2 k (.c n (.n 24 .nil)))) (.c t (.c r (.c p (.c j .nil))))
theorem My (q l w1 h f g:Bool) (u i e:List UInt8) (o d c:Oq) (ks vs v m:List AV) (h0:lit false w1=true) (k:lit false (!g)=true) (n:lit false (!h)=true) (j:CO 214 [ω 19] VaX) (p:Va1 d w1 h) (r:Va1 c f g) (t:CO 216 [.bool f] (Vad o)):CO 189 [.agg [.mp ks vs,.mp v m],.agg [ω 19,.bool q,.str u,.str i,.str e],.sl (Va2 d c) 2 l] (Vad o):=pK [] 8 0 (.k 5 h0 (.k 2 k (.c n (.n 24 .nil)))) (.c t (.c r (.c p (.c j .nil))))
theorem sU:CO 214 [ω 19] (.ret (.nilF)):=pK [] 5 0 (.n 5 .nil) (.nil)
theorem HT:CO 238 [ω 1] (.ret (.fn 239 [] [.pp [ω 1] 0])):=pK [] 0 0 .nil (.nil)
theorem QC (f s1:Bool) (h e c d:List UInt8) (g:Int) (h0:lit true (decide (((0:Nat):Int)<(γ .i64 (g*((1:Nat):Int)))))=true) (i:CO 76 [Ω f h e,Ω s1 c d] (.ret (ω g))):CO 239 [Ω f h e,Ω s1 c d,.pp [ω 1] 0] (.ret (Ω s1 c d)):=pK [] 1 1 (.k 7 h0 (.n 7 .nil)) (.c i .nil)
theorem QD (d s1:Bool) (e c f h:List UInt8) (g:Int) (h0:lit false (decide (((0:Nat):Int)<(γ .i64 (g*((1:Nat):Int)))))=true) (i:CO 76 [Ω d e c,Ω s1 f h] (.ret (ω g))):CO 239 [Ω d e c,Ω s1 f h,.pp [ω 1] 0] (.ret (Ω d e c)):=pK [] 1 0 (.k 7 h0 (.n 7 .nil)) (.c i .nil)
theorem HS:CO 238 [ω (-1)] (.ret (.fn 239 [] [.pp [ω (-1)] 0])):=pK [] 0 0 .nil (.nil)
theorem QA (f s1:Bool) (h e c d:List UInt8) (g:Int) (h0:lit true (decide (((0:Nat):Int)<(γ .i64 (g*(-1:Int)))))=true) (i:CO 76 [Ω f h e,Ω s1 c d] (.ret (ω g))):CO 239 [Ω f h e,Ω s1 c d,.pp [ω (-1)] 0] (.ret (Ω s1 c d)):=pK [] 1 1 (.k 7 h0 (.n 7 .nil)) (.c i .nil)
theorem QB (d s1:Bool) (e c f h:List UInt8) (g:Int) (h0:lit false (decide (((0:Nat):Int)<(γ .i64 (g*(-1:Int)))))=true) (i:CO 76 [Ω d e c,Ω s1 f h] (.ret (ω g))):CO 239 [Ω d e c,Ω s1 f h,.pp [ω (-1)] 0] (.ret (Ω d e c)):=pK [] 1 0 (.k 7 h0 (.n 7 .nil)) (.c i .nil)
def jx (q:RQ):Bool:=decide (dR q.n<=400) && decide (dR q.d<=400)
def Oq.ok:Oq->Prop| .err e=>e ≠ 0| .val q=>q.ok/\jx q=true
def oM (n:Bool) (a d:List UInt8) (e:Int):Oq:=if e=0 then (if cT n a d=true then .val ⟨n,aj a,aj d⟩ else .err 3) else .err e
def nB (q:RQ):Oq:=if jx q=true then .val q else .err 3
def bR (b:Bool):RQ:=if b then ⟨false,1,1⟩ else ⟨false,0,1⟩
def Fv (b:Bool):Oq:= .val (bR b)
def Oq.one (o:Oq):Bool:=(o.n==false) && ((o.a==(ae 1)) && ((o.d==(ae 1)) && true))
def Oq.bit (o:Oq):Bool:=o.one||((o.n==false) && ((o.a==(ae 0)) && ((o.d==(ae 1)) && true)))
def eqO (a b:Oq):Bool:=(a.n==b.n) && ((a.a==b.a) && ((a.d==b.d) && true))
def F3 (a b c:Oq):Oq:=if a.e=0 then (if a.bit then (if a.one then b else c) else .err 13) else a
def lN (op:Int) (a b:Oq):Oq:=
 if op=9 then nB (iC a.q b.q) else if op=10 then nB (gG a.q b.q) else if op=11 then nB (eH a.q b.q)
 else if op=12 then (if b.q.n=0 then .err 16 else nB (bB a.q b.q))
 else if op=13 then (if 0<ep a.q b.q then b else a) else if op=14 then (if ep a.q b.q<0 then b else a)
 else if op=16 then Fv (decide (ep a.q b.q<0)) else if op=17 then Fv (eqO a b)
 else if a.bit && b.bit then Fv (if op=18 then a.one && b.one else a.one||b.one) else .err 13
theorem jz {n:Bool} {a d:List UInt8} (h:cT n a d=true):gM n a d=true/\jx ⟨n,aj a,aj d⟩=true:=by
 unfold cT at h;simp only [π] at h;exact ⟨h.1.1,by unfold jx;simp only [π];exact ⟨h.1.2,h.2⟩⟩
theorem ja {n:Bool} {a d:List UInt8} (h:gM n a d=true):ae (aj a)=a/\ae (aj d)=d:=by
 rw [iF] at h;exact ⟨(kQ a).1 h.1,(kQ d).1 h.2.1⟩
theorem Dh (n:Bool) (a d:List UInt8) (e:Int):(oM n a d e).ok:=by
 unfold oM;split
 .split
  .rename_i h;obtain ⟨c,f⟩:=jz h;have:=cV n a d;unfold vQ at this;rw [if_pos c] at this;exact ⟨this,f⟩
  .exact (by decide:(3:Int) ≠ 0)
 .assumption
theorem MJ {q:RQ} (h:q.ok):cT q.neg (ae q.n) (ae q.d)=jx q:=by
 unfold cT jx;rw [px q h,aE,aE,Xx0]
theorem E6 {q:RQ} (h:q.ok):oM q.neg (ae q.n) (ae q.d) 0=nB q:=by
 unfold oM nB;rw [if_pos rfl,MJ h,aE,aE]
theorem ox {q:RQ} (h:q.ok):(nB q).ok:=by
 rw [<- E6 h];exact Dh _ _ _ _
theorem Yl (b:Bool):(bR b).ok:=by cases b<;>exact ⟨by decide,by decide,by decide⟩
theorem Eg:dR 1<=400/\dR 0<=400:=⟨iH (k:=400) (Nat.one_lt_two_pow (n:=400) (by decide)),iH (k:=400) (Xqw 400)⟩
theorem H8 {x:Nat} (h:dR x<=400):(ae x).length<=51:=by
 refine bN (k:=51) ?_;rcases Xqh x with h0|h0
 .rw [h0];apply Xqw
 .obtain ⟨m,d,_,c⟩:=qu h0;refine υ c ?_;apply Θ (by decide);omega
theorem xn (b:Bool):(Fv b).ok:=by
 refine ⟨Yl b, ?_⟩;unfold jx bR;have:=Eg;cases b<;>simp [this.1,this.2]
theorem cP {q:RQ} (h:jx q=true):(ae q.n).length<=51/\(ae q.d).length<=51:=by
 unfold jx at h;simp only [π,decide_eq_true_eq] at h;exact ⟨H8 h.1,H8 h.2⟩
theorem BG (n:Bool) (a d:List UInt8) (e:Int) (i:a.length<2^36) (hd:d.length<2^36):CO 188 [.agg [.bool n,.str a,.str d,ω e]] (.ret (dE (oM n a d e))):=by
 have f:=cJ n a d i hd;unfold oM;by_cases h:e=0
 .rw [if_pos h];have g:lit false (!(e==((0:Nat):Int)))=true:=by rw [h];rfl
  cases c:cT n a d with
  |true=>
   rw [c] at f;rw [if_pos rfl];have:=VV n a d e (by rw [c];rfl) g (by rw [c];exact f);obtain ⟨j,k⟩:=ja (jz c).1;show CO 188 _ (.ret (.agg [.bool n,.str (ae (aj a)),.str (ae (aj d)),ω 0]));rw [j,k,<- h];exact this
  |false=>
   rw [c] at f;rw [if_neg (by simp)];exact VU n a d e (by rw [c];rfl) g (by rw [c];exact f) (gL 3)
 .rw [if_neg h];exact VT n a d e (by rw [show (e==((0:Nat):Int))=false from beq_eq_false_iff_ne.2 h];rfl) (gL e)
theorem D7 (n:Bool) (a d:List UInt8) (c:a.length<2^36) (hd:d.length<2^36):CO 215 [Ω n a d] (.ret (dE (oM n a d 0))):=V6 n a d _ (BG n a d 0 c hd)
theorem mP {q:RQ} (h:q.ok) (c:(ae q.n).length<2^36) (d:(ae q.d).length<2^36):CO 215 [qA q] (.ret (dE (nB q))):=by
 rw [<- E6 h];exact D7 _ _ _ c d
theorem mO {o:Oq} (h:o.ok) (h0:o.e=0):CO 215 [.agg [.bool o.n,.str o.a,.str o.d]] (.ret (dE o)):=by
 cases o with
 |err e=>exact absurd h0 h
 |val q=>
  have c:=mP h.1 (φ (cP h.2).1 (by decide)) (φ (cP h.2).2 (by decide));unfold nB at c;rw [if_pos h.2] at c;exact c
theorem iZ (b:Bool):CO 216 [.bool b] (.ret (dE (Fv b))):=by
 cases b with
 |true=>exact V2 true _ rfl pQ (mO (xn true) rfl)
 |false=>exact V3 false _ rfl gV (mO (xn false) rfl)
theorem jY (o:Oq):CO 217 [.agg [.bool o.n,.str o.a,.str o.d]] (.ret (.tup [.bool o.one,.bool o.bit])):=by
 unfold Oq.bit;cases h:o.one with
 |true=>
  have:=VB o.n o.a o.d h pQ;rw [show ((o.n==false) && ((o.a==(ae 1)) && ((o.d==(ae 1)) && true)))=true from h] at this;exact this
 |false=>
  have:=VC o.n o.a o.d (by rw [show ((o.n==false) && ((o.a==(ae 1)) && ((o.d==(ae 1)) && true)))=false from h];rfl) pQ gV;rw [show ((o.n==false) && ((o.a==(ae 1)) && ((o.d==(ae 1)) && true)))=false from h] at this;rw [Xx2];exact this
section
variable (op:Int) (ng nn:Bool) (nu de name:List UInt8) (ks vs kt vt:List AV) (o0 o1 o2:Oq)
theorem Gb:CO 192 [.agg [.mp ks vs,.mp kt vt],.agg [ω op,.bool ng,.str nu,.str de,.str name],.sl (EF o0++(EF o1++EF o2)) 3 nn] (.ret (dE (F3 o0 o1 o2))):=by
 have c:=jY o0;unfold F3;by_cases h:o0.e=0
 .rw [if_pos h];have d:lit false (!(o0.e==((0:Nat):Int)))=true:=by rw [h];rfl
  cases f:o0.bit with
  |false=>
   rw [f] at c;exact Vy _ _ _ _ _ _ _ _ o0 o1 o2 ks vs kt vt rfl d c (gL 13)
  |true=>
   rw [f] at c;cases e:o0.one with
   |true=>rw [e] at c;exact Vz _ _ _ _ _ _ _ _ o0 o1 o2 ks vs kt vt rfl rfl d c
   |false=>rw [e] at c;exact VA _ _ _ _ _ _ _ _ o0 o1 o2 ks vs kt vt rfl rfl d c
 .rw [if_neg h];exact Vx _ _ _ _ _ _ _ _ o0 o1 o2 ks vs kt vt (by rw [show (o0.e==((0:Nat):Int))=false from beq_eq_false_iff_ne.2 h];rfl) c
theorem ace {g:Int} (h:g=0\/g=1\/g= -1):decide (((0:Nat):Int)<(γ .i64 (g*((1:Nat):Int))))=decide (0<g)/\decide (((0:Nat):Int)<(γ .i64 (g*(-1:Int))))=decide (g<0):=by
 rcases h with rfl|rfl|rfl<;>decide+kernel
theorem acD (a b:RQ):ep a b=0\/ep a b=1\/ep a b= -1:=by
 unfold ep fQ;split
 .exact .inl rfl
 .split
  .exact .inr (.inr rfl)
  .exact .inr (.inl rfl)
theorem uj {o:Oq} (h:o.ok) (h0:o.e=0):∃ q:RQ,o= .val q/\q.ok/\jx q=true:=by
 cases o with
 |err e=>exact absurd h0 h
 |val q=>exact ⟨q,rfl,h.1,h.2⟩
theorem Ml (B:(9<=op/\op<=14)\/(16<=op/\op<=19)) (k0:o0.ok) (x:o0.e=0) (w:o1.ok) (v:o1.e=0):CO 189 [.agg [.mp ks vs,.mp kt vt],.agg [ω op,.bool ng,.str nu,.str de,.str name],.sl (EF o0++EF o1) 2 nn] (.ret (dE (lN op o0 o1))):=by
 obtain ⟨a,rfl,r,A⟩:=uj k0 x;obtain ⟨b,rfl,u,z⟩:=uj w v;obtain ⟨j,i⟩:=cP A;obtain ⟨lb,g⟩:=cP z;have o:=fT r;have l:=fT u;have d:∀ k:Nat,k<=51->k<2^28:=λk h=>φ h (by decide)
 have c:∀ k:Nat,k<=51->k<2^29:=λk h=>φ h (by decide)
 have p:CO 76 [qA a,qA b] (.ret (ω (ep a b))):=by
  have:=zH a.neg b.neg (ae a.n) (ae a.d) (ae b.n) (ae b.d) (d _ j) (d _ i) (d _ lb) (d _ g);rw [o,l] at this;exact this
 have C:=acD a b;obtain ⟨w1,y⟩:=ace C;have D:op=9\/op=10\/op=11\/op=12\/op=13\/op=14\/op=16\/op=17\/op=18\/op=19:=by omega
 have t:∀ {q:RQ},(ae q.n).length<=4*51+1/\(ae q.d).length<=2*51->(ae q.n).length<2^36/\(ae q.d).length<2^36:=λh=> ⟨φ h.1 (by decide),φ h.2 (by decide)⟩
 rcases D with rfl|rfl|rfl|rfl|rfl|rfl|rfl|rfl|rfl|rfl
 .have:=zG a.neg b.neg (ae a.n) (ae a.d) (ae b.n) (ae b.d) (c _ j) (c _ i) (c _ lb) (c _ g);rw [o,l] at this;obtain ⟨n,m⟩:=t (tA a b 51 j i lb g);exact Qz _ _ _ _ _ _ (.val a) (.val b) _ ks vs kt vt Qx this (mP (eP r u) n m)
 .have:=zJ a.neg b.neg (ae a.n) (ae a.d) (ae b.n) (ae b.d) (c _ j) (c _ i) (d _ lb) (d _ g);rw [o,l] at this;obtain ⟨n,m⟩:=t (tA a (jB b) 51 j i lb g);exact Mm _ _ _ _ _ _ (.val a) (.val b) _ ks vs kt vt Md this (mP (tZ r u) n m)
 .have:=IE a.neg b.neg (ae a.n) (ae a.d) (ae b.n) (ae b.d) (c _ j) (c _ i) (c _ lb) (c _ g);rw [o,l] at this;have:=bU a.n b.n;have:=bU a.d b.d;have:=jk (!(a.neg==b.neg)) (a.n*b.n) (a.d*b.d);obtain ⟨n,m⟩:=t (q:=eH a b) ⟨by unfold eH;omega,by unfold eH;omega⟩;exact Mn _ _ _ _ _ _ (.val a) (.val b) _ ks vs kt vt Me (by assumption) (mP (tF r u) n m)
 .rcases Xqh b.n with h0|h0
  .have:=EV a.neg b.neg (ae a.n) (ae a.d) (ae b.n) (ae b.d) (c _ j) (c _ i) (c _ lb) (c _ g) (by rw [l];exact h0);show CO 189 _ (.ret (dE (if b.n=0 then .err 16 else _)));rw [if_pos h0];exact JT _ _ _ _ _ (.val a) (.val b) ks vs kt vt DY this (gL 16)
  .have:=zI a.neg b.neg (ae a.n) (ae a.d) (ae b.n) (ae b.d) (c _ j) (c _ i) (c _ lb) (c _ g) (by rw [l];exact h0);rw [o,l] at this;have:=bU a.n b.d;have:=bU a.d b.n;have:=jk (!(a.neg==b.neg)) (a.n*b.d) (a.d*b.n);obtain ⟨n,m⟩:=t (q:=bB a b) ⟨by unfold bB;omega,by unfold bB;omega⟩;show CO 189 _ (.ret (dE (if b.n=0 then .err 16 else nB (bB a b))));rw [if_neg (by omega)];exact Mo _ _ _ _ _ _ (.val a) (.val b) _ ks vs kt vt DY (by assumption) (mP (jT r h0) n m)
 .show CO 189 _ (.ret (dE (if 0<ep a b then .val b else .val a)));by_cases h:0<ep a b
  .rw [if_pos h];exact D3 _ _ _ _ _ _ _ _ _ (.val a) (.val b) ks vs kt vt (DZ HT) (QC _ _ _ _ _ _ _ (by rw [w1,Yq0 h];rfl) p) (mO w v)
  .rw [if_neg h];exact D3 _ _ _ _ _ _ _ _ _ (.val a) (.val b) ks vs kt vt (DZ HT) (QD _ _ _ _ _ _ _ (by rw [w1,Yq1 h];rfl) p) (mO k0 x)
 .show CO 189 _ (.ret (dE (if ep a b<0 then .val b else .val a)));by_cases h:ep a b<0
  .rw [if_pos h];exact D4 _ _ _ _ _ _ _ _ _ (.val a) (.val b) ks vs kt vt (D1 HS) (QA _ _ _ _ _ _ _ (by rw [y,Yq0 h];rfl) p) (mO w v)
  .rw [if_neg h];exact D4 _ _ _ _ _ _ _ _ _ (.val a) (.val b) ks vs kt vt (D1 HS) (QB _ _ _ _ _ _ _ (by rw [y,Yq1 h];rfl) p) (mO k0 x)
 .exact Mp _ _ _ _ _ _ _ (.val a) (.val b) ks vs kt vt Mf p (iZ _)
 .exact Mq _ _ _ _ _ _ (.val a) (.val b) ks vs kt vt Mg (iZ _)
 .have e:=jY (.val a);have f:=jY (.val b);show CO 189 _ (.ret (dE (if Oq.bit (.val a) && Oq.bit (.val b) then Fv (Oq.one (.val a) && Oq.one (.val b)) else .err 13)));generalize Oq.bit (.val a)=x2 at*
  generalize Oq.bit (.val b)=x4 at*
  generalize Oq.one (.val a)=x1 at*
  generalize Oq.one (.val b)=x3 at*
  cases x2 with
  |false=>exact Mr _ _ x1 false x3 x4 _ _ _ (.val a) (.val b) ks vs kt vt rfl sS e f (gL 13)
  | true=>
   cases x4 with
   |false=>exact Ms _ _ x1 true x3 false _ _ _ (.val a) (.val b) ks vs kt vt rfl rfl sS e f (gL 13)
   |true=>
    cases x1 with
    |true=>exact Mt _ _ true true x3 true _ _ _ _ (.val a) (.val b) ks vs kt vt rfl rfl rfl sS e f (iZ _)
    |false=>exact Mu _ _ false true x3 true _ _ _ _ (.val a) (.val b) ks vs kt vt rfl rfl rfl sS e f (iZ _)
 .have e:=jY (.val a);have f:=jY (.val b);show CO 189 _ (.ret (dE (if Oq.bit (.val a) && Oq.bit (.val b) then Fv (Oq.one (.val a)||Oq.one (.val b)) else .err 13)));generalize Oq.bit (.val a)=x2 at*
  generalize Oq.bit (.val b)=x4 at*
  generalize Oq.one (.val a)=x1 at*
  generalize Oq.one (.val b)=x3 at*
  cases x2 with
  |false=>exact Mv _ _ x1 false x3 x4 _ _ _ (.val a) (.val b) ks vs kt vt rfl sU e f (gL 13)
  | true=>
   cases x4 with
   |false=>exact Mw _ _ x1 true x3 false _ _ _ (.val a) (.val b) ks vs kt vt rfl rfl sU e f (gL 13)
   |true=>
    cases x1 with
    |true=>exact Mx _ _ true true x3 true _ _ _ _ (.val a) (.val b) ks vs kt vt rfl rfl rfl sU e f (iZ _)
    |false=>exact My _ _ false true x3 true _ _ _ _ (.val a) (.val b) ks vs kt vt rfl rfl rfl sU e f (iZ _)
end
abbrev Vak (a:RQ):gy:= .ret (.tup [qA a,.bool true])
theorem YY (r:RQ) (c:Bool) (n:Nat) (f:CO 161 [.agg [.str []],.str (ae 1)] (.ret (.bool true))) (d:CO 162 [.str (ae n)] (.ret (.bool true))) (e:CO 159 [.bool c,.str (ae n),.str (ae 1)] (.ret (qA r))):CO 168 [.bool c,.str (ae n),.str (ae 1)] (Vak r):=pK [] 2 0 (.n 6 .nil) (.c e (.c d (.c f .nil)))
abbrev VaP (a:Nat) (b:Nat) (c:Nat) (d:Nat):Prop:=CO 167 [.str (ae a),.str (ae b)] (.ret (.tup [.str (ae c),.str (ae d),.bool true]))
theorem V9 (r:RQ) (n m y z:Nat) (e:VaP n m y z) (d:CO 116 [ω 1] VaH) (c:CO 168 [.bool false,.str (ae y),.str (ae 1)] (Vak r)):CO 122 [Ω false (ae n) (ae m)] (.ret (qA r)):=pK [] 2 0 (.n 14 .nil) (.c c (.c d (.c e .nil)))
theorem V7 (r:RQ) (n m y z:Nat) (h0:lit true (!((ae z)== []))=true) (g:VaP n m y z) (f:CO 116 [ω 1] VaH) (d:CO 123 [.str (ae y),.str (ae 1)] (.ret (.str (ae (y+1))))) (c:CO 116 [ω 1] VaH) (e:CO 168 [.bool true,.str (ae (y+1)),.str (ae 1)] (Vak r)):CO 122 [Ω true (ae n) (ae m)] (.ret (qA r)):=pK [] 2 3 (.k 9 h0 (.n 4 .nil)) (.c e (.c c (.c d (.c f (.c g .nil)))))
theorem V8 (r:RQ) (n m y z:Nat) (h0:lit false (!((ae z)== []))=true) (e:VaP n m y z) (d:CO 116 [ω 1] VaH) (c:CO 168 [.bool true,.str (ae y),.str (ae 1)] (Vak r)):CO 122 [Ω true (ae n) (ae m)] (.ret (qA r)):=pK [] 2 1 (.k 9 h0 (.n 4 .nil)) (.c c (.c d (.c e .nil)))
theorem VW (a s:RQ) (g:Int) (e:CO 115 [qA a] (.ret (.bool true))) (c:CO 115 [qA s] (.ret (.bool true))) (d:CO 107 [qA s] (.ret (ω g))):CO 120 [qA a,qA s] (.ret (.bool (decide (((0:Nat):Int)<g)))):=pK [] 2 3 (.n 11 .nil) (.c d (.c c (.c e .nil)))
theorem YV (a s q r w:RQ) (f:CO 120 [qA a,qA s] (.ret (.bool true))) (e:CO 114 [qA a,qA s] (Vak q)) (d:CO 122 [qA q] (.ret (qA w))) (c:CO 121 [qA w,qA s] (.ret (qA r))):CO 74 [qA a,qA s] (Vak r):=pK [] 1 0 (.n 24 .nil) (.c c (.c d (.c e (.c f .nil))))
theorem Zd (a s r v:RQ) (h0:lit true (!((r.neg==a.neg) && (((ae r.n)==(ae a.n)) && (((ae r.d)==(ae a.d)) && true))))=true) (d:CO 74 [qA a,qA s] (Vak r)) (c:CO 170 [qA r,qA s] (.ret (qA v))):CO 220 [qA a,qA s] (Vak v):=pK [] 2 3 (.k 14 h0 (.n 14 .nil)) (.c c (.c d .nil))
theorem Ze (a s r:RQ) (h0:lit false (!((r.neg==a.neg) && (((ae r.n)==(ae a.n)) && (((ae r.d)==(ae a.d)) && true))))=true) (c:CO 74 [qA a,qA s] (Vak r)):CO 220 [qA a,qA s] (Vak r):=pK [] 2 1 (.k 7 h0 (.n 14 .nil)) (.c c .nil)
theorem YZ (a s q r v w:RQ) (g:Int) (h0:lit true (decide (((0:Nat):Int)<=g))=true) (h:CO 74 [qA a,qA s] (.ret (.tup [qA r,.bool true]))) (f:CO 124 [qA a,qA r] (.ret (qA q))) (d:CO 170 [qA q,qA q] (.ret (qA w))) (c:CO 76 [qA w,qA s] (.ret (ω g))) (e:CO 170 [qA r,qA s] (.ret (qA v))):CO 218 [qA a,qA s] (.ret (.tup [qA v,.bool true])):=pK [] 2 2 (.k 14 h0 (.n 24 .nil)) (.c e (.c c (.c d (.c f (.c h .nil)))))
theorem Y0 (a s q r w:RQ) (g:Int) (h0:lit false (decide (((0:Nat):Int)<=g))=true) (f:CO 74 [qA a,qA s] (.ret (.tup [qA r,.bool true]))) (e:CO 124 [qA a,qA r] (.ret (qA q))) (d:CO 170 [qA q,qA q] (.ret (qA w))) (c:CO 76 [qA w,qA s] (.ret (ω g))):CO 218 [qA a,qA s] (.ret (.tup [qA r,.bool true])):=pK [] 2 0 (.k 7 h0 (.n 24 .nil)) (.c c (.c d (.c e (.c f .nil))))
theorem ZL:nR (ae 1)=true:=tG 1
theorem acZ:uV (ae 1)=true:=by unfold uV;rw [ZL,aE];rfl
theorem xZ (c:Bool) (n:Nat) (f:(ae n).length<2^33):CO 168 [.bool c,.str (ae n),.str (ae 1)] (.ret (.tup [qA (gT c n 1),.bool true])):=by
 have d:(ae 1).length<2^33:=φ (bN (x:=1) (k:=1) (by decide)) (by decide);have hp:=Oa (ae 1) (υ d (by decide));rw [acZ] at hp;have e:=uP (ae n);rw [tG] at e;exact YY _ c n hp e (Bz c n 1 f d (by decide))
theorem CQ (c:Bool) (x:Nat):gT c x 1=nQ (if c then -(x:Int) else (x:Int)):=by
 unfold gT nQ;rw [Xw9,Xvl,Xvl];cases c with
 |true=>
  simp only [Xx0,if_true,Yxk,Xz4,RQ.mk.injEq,and_true];rcases Xqh x with h|h
  .subst h;rfl
  .rw [Yq0 h,Yq0 (by omega)]
 |false=>
  simp only [Bool.false_and,Xqy,if_false,Xz4,RQ.mk.injEq,and_true];rw [Yq1 (by omega)]
theorem J1 {q:RQ} (h:q.ok) (g:(ae q.n).length<2^32) (i:(ae q.d).length<2^32):CO 122 [qA q] (.ret (qA (nQ (mw q)))):=by
 have d:=G3 (ae q.n) (ae q.d) (υ g (by decide)) (υ i (by decide)) (by rw [aE];exact h.1);rw [aE,aE] at d;have o:=jb (Xxo q.n q.d);have l:(ae 1).length<=1:=bN (x:=1) (k:=1) (by decide);have j:=wZ (q.n / q.d) 1;have e:=tJ 1 (by decide);obtain ⟨f,n,m⟩:=q;unfold mw;simp only at*
 cases f with
 |false=>
  rw [if_neg (by simp)];have c:=xZ false (n / m) (by omega);rw [CQ,if_neg (by simp)] at c;exact V9 _ n m _ _ d e c
 | true=>
  rw [if_pos rfl];by_cases hr:n % m=0
  .have c:=xZ true (n / m) (by omega);rw [CQ,if_pos rfl] at c;rw [if_pos hr,Xq3];exact V8 _ n m _ _ (by rw [hr,cF];rfl) d e c
  .have c:=xZ true (n / m+1) (by omega);rw [CQ,if_pos rfl] at c;rw [if_neg hr];exact V7 _ n m _ _ (by
    rw [show ((ae (n % m))== [])=false from by rw [Yq2];intro h;rw [db] at h;exact hr h];rfl) d e (TW _ _) e c
def qU (L:Nat) (q:RQ):Prop:=(ae q.n).length<=L/\(ae q.d).length<=L
theorem qU.mono {L M:Nat} {q:RQ} (h:qU L q) (k:L<=M):qU M q:=⟨Xqs h.1 k,Xqs h.2 k⟩
theorem Hm {L:Nat} {a b:RQ} (c:qU L a) (d:qU L b):qU (4*L+1) (iC a b):=by
 have:=tA a b L c.1 c.2 d.1 d.2;exact ⟨this.1,by omega⟩
theorem XN {L:Nat} {a:RQ} (c:qU L a):qU L (jB a):=c
theorem XO {L:Nat} {a b:RQ} (c:qU L a) (d:qU L b):qU (4*L+1) (gG a b):=Hm c (XN d)
theorem XM {L:Nat} {a b:RQ} (c:qU L a) (d:qU L b):qU (2*L) (eH a b):=by
 have i:=bU a.n b.n;have e:=bU a.d b.d;have h:=jk (!(a.neg==b.neg)) (a.n*b.n) (a.d*b.d);obtain ⟨f,g⟩:=c;obtain ⟨k,j⟩:=d;exact ⟨by unfold eH;omega,by unfold eH;omega⟩
theorem Hn {L:Nat} {a b:RQ} (c:qU L a) (d:qU L b):qU (2*L) (bB a b):=by
 have i:=bU a.n b.d;have e:=bU a.d b.n;have h:=jk (!(a.neg==b.neg)) (a.n*b.d) (a.d*b.n);obtain ⟨f,g⟩:=c;obtain ⟨k,j⟩:=d;exact ⟨by unfold bB;omega,by unfold bB;omega⟩
theorem rz {L:Nat} {a:RQ} (c:qU L a) (d:L<2^28):(ae a.n).length<2^28/\(ae a.d).length<2^28/\(ae a.n).length<2^29/\(ae a.d).length<2^29:=by
 obtain ⟨e,f⟩:=c;omega
section
variable {a b:RQ} {L:Nat} (ha:a.ok) (hb:b.ok) (sa:qU L a) (sb:qU L b) (hL:L<2^28)
include ha hb sa sb hL
theorem Ha:CO 170 [qA a,qA b] (.ret (qA (iC a b))):=by
 obtain ⟨_,_,e,d⟩:=rz sa hL;obtain ⟨_,_,c,f⟩:=rz sb hL;have h:=zG a.neg b.neg (ae a.n) (ae a.d) (ae b.n) (ae b.d) e d c f;rw [fT ha,fT hb] at h;exact h
theorem Xl:CO 124 [qA a,qA b] (.ret (qA (gG a b))):=by
 obtain ⟨_,_,e,d⟩:=rz sa hL;obtain ⟨c,f,_,_⟩:=rz sb hL;have h:=zJ a.neg b.neg (ae a.n) (ae a.d) (ae b.n) (ae b.d) e d c f;rw [fT ha,fT hb] at h;exact h
theorem Xi:CO 121 [qA a,qA b] (.ret (qA (eH a b))):=by
 obtain ⟨_,_,e,d⟩:=rz sa hL;obtain ⟨_,_,c,f⟩:=rz sb hL;have h:=IE a.neg b.neg (ae a.n) (ae a.d) (ae b.n) (ae b.d) e d c f;rw [fT ha,fT hb] at h;exact h
theorem Xh:CO 76 [qA a,qA b] (.ret (ω (ep a b))):=by
 obtain ⟨e,d,_,_⟩:=rz sa hL;obtain ⟨c,f,_,_⟩:=rz sb hL;have h:=zH a.neg b.neg (ae a.n) (ae a.d) (ae b.n) (ae b.d) e d c f;rw [fT ha,fT hb] at h;exact h
theorem Xj (h0:0<b.n):CO 114 [qA a,qA b] (.ret (.tup [qA (bB a b),.bool true])):=by
 obtain ⟨_,_,e,d⟩:=rz sa hL;obtain ⟨_,_,c,f⟩:=rz sb hL;have h:=zI a.neg b.neg (ae a.n) (ae a.d) (ae b.n) (ae b.d) e d c f (by rw [fT hb];exact h0);rw [fT ha,fT hb] at h;exact h
end
section
variable {a s:RQ} (ha:a.ok) (fa:jx a=true) (hs:s.ok) (fs:jx s=true) (hp:0<fQ s)
include ha fa hs fs hp
theorem JW:CO 120 [qA a,qA s] (.ret (.bool true)):=by
 obtain ⟨j,f⟩:=cP fa;obtain ⟨e,i⟩:=cP fs;have d:=nj a.neg (ae a.n) (ae a.d);have c:=nj s.neg (ae s.n) (ae s.d);rw [px a ha] at d;rw [px s hs] at c;have g:=OJ s hs (by omega) (by omega);have h:=VW a s _ d c g;rw [Yq0 (show ((0:Nat):Int)<fQ s from hp)] at h;exact h
omit ha hs hp in
theorem MO:qU 104 (nQ (mw (bB a s))):=by
 obtain ⟨d,c⟩:=cP fa;obtain ⟨f,e⟩:=cP fs;have h:=(Hn (L:=51) ⟨d,c⟩ ⟨f,e⟩).1;generalize bB a s=q at*
 have j:(ae 1).length<=1:=bN (x:=1) (k:=1) (by decide);have i:=jb (Xxo q.n q.d);have l:=wZ (q.n / q.d) 1;have g:(mw q).natAbs<=q.n / q.d+1:=by
  unfold mw;split
  .rw [Yxk,Xz4];split<;>omega
  .rw [Xz4];omega
 have m:=jb g;exact ⟨by show (ae (mw q).natAbs).length<=104;omega,by show (ae 1).length<=104;omega⟩
omit ha hs hp in
theorem Co:qU 208 (gS a s):=XM (L:=104) (MO fa fs) ⟨by have:=(cP fs).1;omega,by have:=(cP fs).2;omega⟩
theorem sV:CO 74 [qA a,qA s] (.ret (.tup [qA (gS a s),.bool true])):=by
 have h0:=(zE hs hp).2;have s1:qU 51 a:=cP fa;have c:qU 51 s:=cP fs;have d:=Hn s1 c;refine YV a s _ _ _ (JW ha fa hs fs hp) (Xj ha hs s1 c (by decide) h0) (J1 (jT ha h0) (φ d.1 (by decide)) (φ d.2 (by decide))) ?_;exact Xi (tv _) hs (MO fa fs) (c.mono (by decide)) (by decide)
theorem V4:CO 220 [qA a,qA s] (.ret (.tup [qA (La a s),.bool true])):=by
 have hd:=sV ha fa hs fs hp;have sd:=Co fa fs;have c:qU 51 s:=cP fs;have e:((gS a s).neg==a.neg && ((ae (gS a s).n==ae a.n) && ((ae (gS a s).d==ae a.d) && true)))=X2 (gS a s) a:=by unfold X2;rw [Xwo]
 unfold La;cases h:X2 (gS a s) a with
 |true=>
  rw [if_pos rfl];rw [h] at e;have:=Ze a s (gS a s) (by rw [e];rfl) hd;rw [Cu.1 h] at this;exact this
 |false=>
  rw [if_neg (by simp)];rw [h] at e;exact Zd a s (gS a s) _ (by rw [e];rfl) hd (Ha (eS hs) hs sd (c.mono (by decide)) (by decide))
theorem Mi:CO 218 [qA a,qA s] (.ret (.tup [qA (Kq a s),.bool true])):=by
 have hd:=sV ha fa hs fs hp;have sd:=Co fa fs;have s1:qU 51 a:=cP fa;have g:qU 51 s:=cP fs;have e:=eS (a:=a) hs;have d:=tZ ha e;have c:=XO (s1.mono (show 51<=208 by decide)) sd;have i:=Xl ha e (s1.mono (show 51<=208 by decide)) sd (by decide);have j:=Ha d d c c (by decide);have f:=Xh (eP d d) hs (Hm c c) (g.mono (by decide)) (by decide);unfold Kq;by_cases h:0<=ep (iC (gG a (gS a s)) (gG a (gS a s))) s
 .rw [if_pos h];exact YZ a s _ (gS a s) _ _ _ (Yq0 h) hd i j f (Ha e hs sd (g.mono (by decide)) (by decide))
 .rw [if_neg h];exact Y0 a s _ (gS a s) _ _ (by
   rw [show decide (((0:Nat):Int)<=ep (iC (gG a (gS a s)) (gG a (gS a s))) s)=false from Yq1 h];rfl) hd i j f
end
structure Sc where
 name:List UInt8
 u1:Int
 u2:Int
 bx:List AV
 bn:Nat
def OW (x:Sc):List AV:= [.str x.name,ω x.u1,ω x.u2,.sl x.bx x.bn false]
def iq (l:List Sc):List AV:=l.flatMap OW
theorem OY {l:List Sc} {k:Nat} (h:k<l.length):ε (k*4) (iq l)=OW l[k]++iq (l.drop (k+1)):=by
 induction l generalizing k with
 |nil=>simp at h
 | cons x r ih=>
  cases k with
  |zero=>simp [iq]
  |succ k=>
   have c:k<r.length:=by simpa using h
   show ε ((k+1)*4) (OW x++iq r)=_;rw [show (k+1)*4=(OW x).length+k*4 by simp [OW];omega,Xkh,Xwa,ih c,Xjo (by omega)];rfl
def cL (a b:Nat):Nat:=if a=0 then b else if b=0\/a=b then a else 3
def fS (a:Nat):Nat:=if a=1\/a=2 then 3 - a else a
def eI (A:List (List Nat)) (ss:List Nat) (k i:Nat):Nat:=ss.getD ((A.getD k []).getD i 0) 0
def d_ (A:List (List Nat)) (ss:List Nat) (k:Nat):Nat:=(A.getD k []).foldl (λs i=>cL s (ss.getD i 0)) 0
abbrev wB (e:List Nd) (ne:Bool) (A:List (List Nat)) (sc:List Sc) (ns:Bool) (ss:List Nat):aM:=⟨[.sl (aO e) e.length ne,.sl (aZ A) A.length true,.sl (iq sc) sc.length ns,.ref 1 0 0 ss.length],0,false,0,0,false⟩
abbrev sB (ss:List Nat):aM:=⟨aA ss,0,false,0,1,true⟩
abbrev wH (e:List Nd) (ne:Bool) (A:List (List Nat)) (sc:List Sc) (ns:Bool) (ss:List Nat):List aM:= [wB e ne A sc ns ss,sB ss]
theorem nI {A:List (List Nat)} {k:Nat} (h:k<A.length):ε (δ (k:Int)*1) (aZ A)= [B6 (A.getD k [])]++aZ (A.drop (k+1)):=by
 unfold aZ;rw [aF,Xqi,<- Xjy,Xxk h,μ,ν h];rfl
theorem qp {a:List Nat} {k:Nat} (h:k<a.length):ε (δ (k:Int)*1) (aA a)= [ω ((a.getD k 0:Nat):Int)]++aA (a.drop (k+1)):=by
 unfold aA;rw [aF,Xqi,<- Xjy,Xxk h,μ,ν h];rfl
theorem jc (k:Nat):decide (((0:Nat):Int)<=(k:Int))=true:=Yq0 (by omega)
theorem ql {k n:Nat} (h:k<n):decide ((k:Int)<(n:Int))=true:=Yq0 (by omega)
theorem Z4 (e:List Nd) (c:Bool) (A:List (List Nat)) (d:List Sc) (f:Bool) (ss:List Nat) (k i:Nat) (a:List Nat) (n:List AV) (j:Nat) (p:List AV) (s:Nat) (h:List AV) (q:k<A.length) (g:(ε ((δ (k:Int))*1) (aZ A))= [B6 a]++n) (o:i<a.length) (m:(ε ((δ (i:Int))*1) (aA a))= [ω (j:Int)]++p) (l:j<ss.length) (hs:(ε ((0+(δ (j:Int)))*1) (aA ss))= [ω (s:Int)]++h):
  az prog ap 103 [.ptr 0 0 0,ω (k:Int),ω (i:Int)] (wH e c A d f ss) (.ret (ω (s:Int))) (wH e c A d f ss):=pK [] 0 0 (.a (nL [.int .i64] hs rfl) (.c (jc j) (.c (ql l) (.k 1 (jc i) (.c (ql o) (.k 1 (jc k) (.c (ql q) (.n 2 .nil)))))))) (.v 22 (.rd1 (.int .i64) hs rfl) (.v 19 (.ppt m) (.v 16 (.ppt g) .nil)))
theorem nW (e:List Nd) (f:Bool) (A:List (List Nat)) (c:List Sc) (d:Bool) (ss:List Nat) (k i:Nat) (j:k<A.length) (g:i<(A.getD k []).length) (h:(A.getD k []).getD i 0<ss.length):
  az prog ap 103 [.ptr 0 0 0,ω (k:Int),ω (i:Int)] (wH e f A c d ss) (.ret (ω ((eI A ss k i:Nat):Int))) (wH e f A c d ss):=
 Z4 e f A c d ss k i _ _ _ _ _ _ j (nI j) g (qp g) h (by rw [Ψ];exact qp h)
theorem kE (a b:Nat):((a:Int)==(b:Int))=decide (a=b):=by by_cases h:a=b<;>simp [h]<;>omega
theorem CK (a b:Nat):CO 102 [ω (a:Int),ω (b:Int)] (.ret (ω ((cL a b:Nat):Int))):=by
 rcases tf ((a:Int)==((0:Nat):Int)) with b0|b0
 .rw [show cL a b=b by unfold cL;simp only [kE,decide_eq_true_eq,decide_eq_false_iff_not] at b0;simp [*]];exact pK [] 1 1 (.c (ax b0) .nil) (.nil)
 .rcases tf ((b:Int)==((0:Nat):Int)) with b1|b1
  .rw [show cL a b=a by unfold cL;simp only [kE,decide_eq_true_eq,decide_eq_false_iff_not] at b0 b1;simp [*]];exact pK [] 3 6 (.k 1 (ax b1) (.c (aw b0) .nil)) (.nil)
  .rcases tf ((a:Int)==(b:Int)) with b2|b2
   .rw [show cL a b=a by unfold cL;simp only [kE,decide_eq_true_eq,decide_eq_false_iff_not] at b0 b1 b2;simp [*]];exact pK [] 3 4 (.c (ax b2) (.c (aw b1) (.c (aw b0) .nil))) (.nil)
   .rw [show cL a b=3 by unfold cL;simp only [kE,decide_eq_true_eq,decide_eq_false_iff_not] at b0 b1 b2;simp [*]];exact pK [] 3 0 (.c (aw b2) (.c (aw b1) (.c (aw b0) .nil))) (.nil)
theorem Jh (a:Nat):CO 135 [ω (a:Int)] (.ret (ω ((fS a:Nat):Int))):=by
 rcases tf ((a:Int)==((1:Nat):Int)) with b0|b0
 .have e:((fS a:Nat):Int)=γ .i64 (((3:Nat):Int) - (a:Int)):=by
   simp only [kE,decide_eq_true_eq,decide_eq_false_iff_not] at b0;subst b0;decide
  rw [e];exact pK [] 2 3 (.k 1 (ax b0) .nil) (.nil)
 .rcases tf ((a:Int)==((2:Nat):Int)) with b1|b1
  .have e:((fS a:Nat):Int)=γ .i64 (((3:Nat):Int) - (a:Int)):=by
    simp only [kE,decide_eq_true_eq,decide_eq_false_iff_not] at b0 b1;subst b1;decide
   rw [e];exact pK [] 2 2 (.c (ax b1) (.c (aw b0) .nil)) (.nil)
  .rw [show fS a=a by unfold fS;simp only [kE,decide_eq_true_eq,decide_eq_false_iff_not] at b0 b1;simp [*]];exact pK [] 2 0 (.c (aw b1) (.c (aw b0) .nil)) (.nil)
theorem CD {l:List Nat} {i:Nat} (h:i<l.length):l.getD i 0=l[i]:=by rw [μ,ν h];rfl
def Yf (e:List Nd) (ne:Bool) (A:List (List Nat)) (sc:List Sc) (ns:Bool) (ss:List Nat) (k n:Nat) (p:Nat × Nat):St:=⟨[(0,.ptr 0 0 0),(1,ω (k:Int)),(5,ω (p.2:Int)),(14,ω (n:Int)),(15,ω (p.1:Int))],[(0,⟨[.sl (aO e) e.length ne,.sl (aZ A) A.length true,.sl (iq sc) sc.length ns,.ref 1 0 0 ss.length],0,false,0,0,false⟩),(1,⟨(aA ss),0,false,0,1,true⟩)],.dead,[]⟩
def Tv (e:List Nd) (ne:Bool) (A:List (List Nat)) (sc:List Sc) (ns:Bool) (ss:List Nat) (k:Nat) (acc:Nat):St:=(UA k acc [.sl (aO e) e.length ne,.sl (aZ A) A.length true,.sl (iq sc) sc.length ns,.ref 1 0 0 ss.length] (aA ss))
theorem LA {nt:Nat} (q:26<=nt) (e:List Nd) (g:Bool) (A:List (List Nat)) (h:List Sc) (l:Bool) (ss:List Nat) (k n:Nat) (w:k<A.length) (y:n<2^40) (r:n=(A.getD k []).length) (u:∀ j ∈ A.getD k [],j<ss.length):∀ (d i c:Nat),i+d=n->
  aB prog ap (wH e g A h l ss) nt (af 0 (am f61)) (λ_=> .exit 0) (Yf e g A h l ss k n) (Tv e g A h l ss k) (i,c) (((A.getD k []).drop i).foldl (λs j=>cL s (ss.getD j 0)) c):=by
 intro d
 induction d with
 |zero=>
  intro i c v;have o:(decide ((i:Int)<(n:Int)))=false:=Yq1 (by omega);rw [Xjo (by omega)];exact .done (pN 61 [] 1 0 (.c (aw o) .nil) (.nil) q)
 | succ d ih=>
  intro i c v;have o:(decide ((i:Int)<(n:Int)))=true:=Yq0 (by omega);have f:i<(A.getD k []).length:=by omega
  have m:=f;have p:(A.getD k []).getD i 0<ss.length:=by
   rw [CD f];exact u _ (List.getElem_mem f)
  have x:i<2^62:=by omega
  rw [Xxk f];have t:(A.getD k [])[i]=(A.getD k []).getD i 0:=(CD f).symm;rw [t];exact .next (pN 61 [] 1 1 (.c (ax o) .nil) (.v 24 (.eq (sC x)) (.c (CK c (eI A ss k i)) (.c (nW e g A h l ss k i w m p) .nil))) q) (ih (i+1) (cL c (eI A ss k i)) (by omega))
theorem Yg (e:List Nd) (f:Bool) (A:List (List Nat)) (c:List Sc) (d:Bool) (ss:List Nat) (k:Nat) (a:List Nat) (h:List AV) (z:Nat) (i:k<A.length) (g:(ε ((δ (k:Int))*1) (aZ A))= [B6 a]++h)
  (l0:gk prog ap (wH e f A c d ss) 26 (.block 0 (.loop (af 0 (am f61)))) ⟨[(0,.ptr 0 0 0),(1,ω (k:Int)),(4,ω 0),(5,ω 0),(6,.dead),(14,ω (a.length:Int)),(15,ω 0),(16,.dead)],[(0,⟨[.sl (aO e) e.length f,.sl (aZ A) A.length true,.sl (iq c) c.length d,.ref 1 0 0 ss.length],0,false,0,0,false⟩),(1,⟨(aA ss),0,false,0,1,true⟩)],.dead,[]⟩ (.normal) (UA k z [.sl (aO e) e.length f,.sl (aZ A) A.length true,.sl (iq c) c.length d,.ref 1 0 0 ss.length] (aA ss))):
  az prog ap 61 [.ptr 0 0 0,ω (k:Int)] (wH e f A c d ss) (.ret (ω (z:Int))) (wH e f A c d ss):=pK [0] 0 0 (.k 1 (jc k) (.c (ql i) (.n 1 .nil))) (.l l0 (.v 12 (.ppt g) .nil))
theorem U_ (e:List Nd) (f:Bool) (A:List (List Nat)) (c:List Sc) (d:Bool) (ss:List Nat) (k:Nat) (g:k<A.length) (l:(A.getD k []).length<2^40) (i:∀ j ∈ A.getD k [],j<ss.length):
  az prog ap 61 [.ptr 0 0 0,ω (k:Int)] (wH e f A c d ss) (.ret (ω ((d_ A ss k:Nat):Int))) (wH e f A c d ss):=
 have h:∀ nt,26<=nt->aB prog ap (wH e f A c d ss) nt (af 0 (am f61)) (λ_=> .exit 0) (Yf e f A c d ss k (A.getD k []).length) (Tv e f A c d ss k) (0,0) (d_ A ss k):=λnt m=>LA m e f A c d ss k _ g l rfl i _ 0 0 (Ψ _)
 Yg e f A c d ss k _ _ (d_ A ss k) g (nI g) (aB.blk h (by simp) rfl (aD.of ⟨rfl,rfl,rfl,rfl,rfl,trivial⟩) (aD.of ⟨rfl,rfl,rfl,trivial⟩))
end Go.Proofs.Tryz
