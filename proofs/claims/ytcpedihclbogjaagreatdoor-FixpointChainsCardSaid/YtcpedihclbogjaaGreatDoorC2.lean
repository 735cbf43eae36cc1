/- Contracts of functions; joined by a program of mine. -/
import Derived.Test.YtcpedihclbogjaaGreatDoorC1
import Derived.Test.YtcpedihclbogjaaGreatDoorM5
set_option linter.unusedSimpArgs false
set_option linter.unusedVariables false
set_option maxRecDepth 100000
open Go AM
open List renaming headD->η,drop->ε,length->θ,take->π,all->Xwa,map->Xz1,getD->Xjc,foldl_append->Xva,map_append->Xq5,append_assoc->Xqe,map_cons->Xqg,map_nil->Xjh,append_nil->Xqd,nil_append->Xqc,length_cons->ο,length_nil->Xqa,take_length->Xxd,length_append->ν,all_eq_true->Xzo,take_add_one->Xw7,getElem?_eq_getElem->μ,getD_eq_getElem?_getD->ξ,take_append_drop->Xz2,take_of_length_le->φ,getD_cons_zero->Xzb,drop_of_length_le->Xjr,length_singleton->Θ,map_drop->Xj0,drop_eq_getElem_cons->Xxn,headD_cons->Xj1,dropWhile_cons->Xx7,singleton_append->Xjw,drop_zero->Xxz,tail->Xj3,length_drop->Xx4,length_take->Xqz,replicate->ζ,replicate_succ->Xxc,replicate_zero->Xza,length_replicate->Xxa,tail_cons->Xwu
open Int renaming toNat->δ,fdiv->Xq1,tdiv->Xq6,tmod->Xxk,emod_nonneg->Yxb,emod_lt_of_pos->Yqe,tmod_lt_of_pos->Yqf,emod_eq_of_lt->Yqm,natAbs_neg->Yxp,natAbs_natCast->Xz4
open IntKind renaming wrap->γ
open AV renaming toInt->Φ,int->Xxv,toBool->Xkv,toStr->Xky,nilS->Yqk,str->Yqr
open Nat renaming ble->Xqn,mod_eq_of_lt->Ξ,mod_lt->Xq3,add_mul->Xxy,pow_succ->Xxi,mul_comm->Xqj,mul_assoc->Xqu,mul_one->Xqi,le_refl->κ,zero_add->Δ,eq_zero_or_pos->Xqf,lt_or_ge->Xjf,lt_of_lt_of_le->υ,pow_le_pow_right->Ψ,le_trans->Xqr,pow_mul->Xjo,lt_trichotomy->Xz7,mul_le_mul_right->Xqx,one_mul->Xwk,lt_irrefl->Xkc,min_eq_left->Xx5,mul_pos->Xjl,div_le_self->Xxg,gcd->Xxw,gcd_comm->Xkr,gcd_zero_left->Xw8,gcd_le_right->Xve,gcd_pos_of_pos_right->Xzm,div_pos->Xvm,gcd_dvd_left->Yqy,gcd_dvd_right->Xv4,div_self->Yjd,lt_trans->Xzj,sub_zero->Xzg,zero_le->Xq7,lt_of_le_of_lt->χ,mul_le_mul->Xwe,mul_add->Xxs,ble_eq->Xjn,sub_le->Xwn,pow_add->Xxt,ble_eq_true_of_le->Γ,mul_div_cancel_left->Xw5,exists_eq_add_of_le->Xkd,add_sub_cancel_left->Xwb,gcd_one_right->Yqn,add_zero->Xq4,two_pow_pos->Xqv,div_one->Xvl
open UInt8 renaming ofNat->Xql,toNat->Xxr,toNat_lt->Xv0
open Decidable renaming em->Xjg
open Bool renaming not_false->Xq8,eq_iff_iff->Xzx,and_true->Xwo,not_true->Xxl,not_eq_true'->Xqs,true_or->Xj8,false_or->Xx3,and_eq_true->τ,false_eq_true->Xqy,true_and->Xx1
open Option renaming getD->Xwc,isSome->Xz3
namespace Go.Proofs.Tryz
abbrev zcc2_0 : List UInt8 := [97,50,51,52,53,54,55,56,57,48,49,50,51,52,53,54,55,56,57,48]
abbrev zcc2_1 : List AV := [.str [],ω 0,.bool false,.bool false,.bool false]
theorem ai5 {nt:Nat} (g:35<=nt) (l o:List Nat) (k:Nat) (e:Bool) (h0:(chk (.int .i64) (η (ε ((δ (k:Int))*1) (aC l)) .dead))=true) (c:(decide (((0:Nat):Int)<=(k:Int)))=true) (d:(decide ((k:Int)<(l.length:Int)))=true) (f:lit true (decide (((0:Nat):Int)<=(k:Int)))=true):ψ nt f88 (V4 (.sl (aC l) l.length e) (k:Int)) (.normal) (Fb (.sl (aC l) l.length e) 3 (γ .i64 ((k:Int) - ((1:Nat):Int))) [.int .u8 (γ .u8 (Xq1 (Φ (η (ε ((δ (k:Int))*1) (aC l)) .dead)) (2^(min 16 64)))),.int .u8 (γ .u8 (Xq1 (Φ (η (ε ((δ (k:Int))*1) (aC l)) .dead)) (2^(min 8 64)))),.int .u8 (γ .u8 (Φ (η (ε ((δ (k:Int))*1) (aC l)) .dead)))]):=pJ 88 [] 2 1 (.k 3 h0 (.c c (.c d (.k 1 h0 (.c c (.c d (.k 1 h0 (.c c (.c d (.c f .nil)))))))))) (.nil) g
theorem aeM {nt:Nat} (d:35<=nt) (l o:List Nat) (c:Bool):ψ nt f88 (V4 (.sl (aC l) l.length c) (-1)) (.exit 0) (Jv (.nilS)):=pJ 88 [] 1 0 (.n 1 .nil) (.nil) d
theorem aeN (l o:List Nat) (c:Bool) (e:LB 35 0 f88 ⟨[(0,.sl (aC l) l.length c),(2,.str []),(3,.nilS),(4,ω (γ .i64 ((l.length:Int) - ((1:Nat):Int)))),(9,.dead)],[],.dead,[]⟩ (.normal) (Jv (.nilS))) (d:CO 91 [.str []] (.ret (.str (ae (ag []))))):CO 88 [.sl (aC l) l.length c] (.ret (.str (ae (ag [])))):=pK [0] 0 0 (.n 2 .nil) (.c d (.l e .nil))
theorem ai4 {nt:Nat} (h:35<=nt) (l o:List Nat) (k:Nat) (f:Bool) (h0:(Xqn (o.length+3) 1099511627776)=true) (g:(Xqn (o.length*1) (θ (rG o)))=true) (e:(chk (.int .i64) (η (ε ((δ (k:Int))*1) (aC l)) .dead))=true) (d:(decide (((0:Nat):Int)<=(k:Int)))=true) (c:(decide ((k:Int)<(l.length:Int)))=true) (h5:lit true (decide (((0:Nat):Int)<=(k:Int)))=true):ψ nt f88 (Fb (.sl (aC l) l.length f) o.length (k:Int) (rG o)) (.normal) (Fb (.sl (aC l) l.length f) (o.length+3) (γ .i64 ((k:Int) - ((1:Nat):Int))) ((π (o.length*1) (rG o))++ [.int .u8 (γ .u8 (Xq1 (Φ (η (ε ((δ (k:Int))*1) (aC l)) .dead)) (2^(min 16 64)))),.int .u8 (γ .u8 (Xq1 (Φ (η (ε ((δ (k:Int))*1) (aC l)) .dead)) (2^(min 8 64)))),.int .u8 (γ .u8 (Φ (η (ε ((δ (k:Int))*1) (aC l)) .dead)))])):=pJ 88 [] 1 1 (.k 1 h0 (.c g (.k 1 e (.c d (.c c (.k 1 e (.c d (.c c (.k 1 e (.c d (.c c (.c h5 .nil)))))))))))) (.nil) h
theorem aeK {nt:Nat} (d:35<=nt) (l o:List Nat) (c:Bool):ψ nt f88 (Fb (.sl (aC l) l.length c) o.length (-1) (rG o)) (.exit 0) (Fa o.length (rG o)):=pJ 88 [] 1 0 (.n 1 .nil) (.nil) d
theorem aeL (l o:List Nat) (d:Bool) (h0:(Nat.beq (θ (π (o.length*1) (rG o))) o.length)=true) (e:(Xwa (π (o.length*1) (rG o)) (chk (.int .u8)))=true) (g:LB 35 0 f88 ⟨[(0,.sl (aC l) l.length d),(2,.str []),(3,.nilS),(4,ω (γ .i64 ((l.length:Int) - ((1:Nat):Int)))),(9,.dead)],[],.dead,[]⟩ (.normal) (Fa o.length (rG o))) (f:CO 91 [.str (Xz1 (λc=>Xql (δ (Φ c))) (π (o.length*1) (rG o)))] (.ret (.str (ae (ag (Xz1 (λc=>Xql (δ (Φ c))) (π (o.length*1) (rG o)))))))):CO 88 [.sl (aC l) l.length d] (.ret (.str (ae (ag (Xz1 (λc=>Xql (δ (Φ c))) (π (o.length*1) (rG o))))))):=pK [0] 0 0 (.c h0 (.c e .nil)) (.c f (.l g .nil))
theorem ajt (x:Nat) (h0:lit true (decide (((0:Nat):Int)<(x:Int)))=true) (c:CO 91 [.str [Xql (δ (γ .u8 (Xq1 (x:Int) (2^(min 56 64))))),Xql (δ (γ .u8 (Xq1 (x:Int) (2^(min 48 64))))),Xql (δ (γ .u8 (Xq1 (x:Int) (2^(min 40 64))))),Xql (δ (γ .u8 (Xq1 (x:Int) (2^(min 32 64))))),Xql (δ (γ .u8 (Xq1 (x:Int) (2^(min 24 64))))),Xql (δ (γ .u8 (Xq1 (x:Int) (2^(min 16 64))))),Xql (δ (γ .u8 (Xq1 (x:Int) (2^(min 8 64))))),Xql (δ (γ .u8 (Xq1 (x:Int) (2^(min 0 64)))))]] (.ret (.str (ae (ag [Xql (δ (γ .u8 (Xq1 (x:Int) (2^(min 56 64))))),Xql (δ (γ .u8 (Xq1 (x:Int) (2^(min 48 64))))),Xql (δ (γ .u8 (Xq1 (x:Int) (2^(min 40 64))))),Xql (δ (γ .u8 (Xq1 (x:Int) (2^(min 32 64))))),Xql (δ (γ .u8 (Xq1 (x:Int) (2^(min 24 64))))),Xql (δ (γ .u8 (Xq1 (x:Int) (2^(min 16 64))))),Xql (δ (γ .u8 (Xq1 (x:Int) (2^(min 8 64))))),Xql (δ (γ .u8 (Xq1 (x:Int) (2^(min 0 64)))))]))))):CO 58 [ω (x:Int)] (.ret (.str (ae (ag [Xql (δ (γ .u8 (Xq1 (x:Int) (2^(min 56 64))))),Xql (δ (γ .u8 (Xq1 (x:Int) (2^(min 48 64))))),Xql (δ (γ .u8 (Xq1 (x:Int) (2^(min 40 64))))),Xql (δ (γ .u8 (Xq1 (x:Int) (2^(min 32 64))))),Xql (δ (γ .u8 (Xq1 (x:Int) (2^(min 24 64))))),Xql (δ (γ .u8 (Xq1 (x:Int) (2^(min 16 64))))),Xql (δ (γ .u8 (Xq1 (x:Int) (2^(min 8 64))))),Xql (δ (γ .u8 (Xq1 (x:Int) (2^(min 0 64)))))])))):=pK [] 19 131067 (.k 9 h0 (.k 6 h0 (.k 6 h0 (.k 6 h0 (.k 6 h0 (.k 6 h0 (.k 6 h0 (.k 5 h0 (.n 1 .nil))))))))) (.c c .nil)
theorem aju (x:Nat) (h0:lit false (decide (((0:Nat):Int)<(x:Int)))=true) (c:CO 91 [.str []] (.ret (.str (ae (ag []))))):CO 58 [ω (x:Int)] (.ret (.str (ae (ag [])))):=pK [] 2 1 (.k 2 h0 (.n 1 .nil)) (.c c .nil)
theorem ajg {nt:Nat} (d:35<=nt) (s:List UInt8) (n k:Nat) (h0:(decide (((0:Nat):Int)<=(k:Int)))=true) (c:(decide ((k:Int)<(((θ s):Nat):Int)))=true) (e:lit true (decide ((k:Int)<(((θ s):Nat):Int)))=true):ψ nt f95 (V5 s (n:Int) (k:Int)) (.normal) (V5 s (γ .i64 ((γ .i64 ((n:Int)*2^(min 8 64)))+(γ .i64 ((Xxr (Xjc s (δ (k:Int)) 0):Nat):Int)))) (γ .i64 ((k:Int)+((1:Nat):Int)))):=pJ 95 [] 1 1 (.c h0 (.c c (.k 1 e .nil))) (.nil) d
theorem ajh {nt:Nat} (c:35<=nt) (s:List UInt8) (n k:Nat) (h0:lit false (decide ((k:Int)<(((θ s):Nat):Int)))=true):ψ nt f95 (V5 s (n:Int) (k:Int)) (.exit 0) (zt (ω (n:Int))):=pJ 95 [] 1 0 (.c h0 .nil) (.nil) c
theorem afh (s:List UInt8) (n:Nat) (h0:lit false (decide (((127:Nat):Int)<((Xxr (Xjc (ae (ag s)) 0 0):Nat):Int)))=true) (d:(decide (((0:Nat):Int)<(((θ (ae (ag s))):Nat):Int)))=true) (f:lit true ((((θ (ae (ag s))):Nat):Int)==((8:Nat):Int))=true) (c:lit false (decide (((8:Nat):Int)<(((θ (ae (ag s))):Nat):Int)))=true) (e:CO 91 [.str s] (.ret (.str (ae (ag s))))) (g:LB 35 0 f95 (ahc (ae (ag s)) (decide (((127:Nat):Int)<((Xxr (Xjc (ae (ag s)) 0 0):Nat):Int)))) (.normal) (zt (ω (n:Int)))):CO 95 [.str s] (.ret (.tup [ω (n:Int),.bool true])):=pK [0] 3 2 (.c h0 (.k 1 d (.c f (.c c .nil)))) (.l g (.c e .nil))
theorem afi (s:List UInt8) (n:Nat) (h0:lit false ((((θ (ae (ag s))):Nat):Int)==((8:Nat):Int))=true) (c:lit false (decide (((8:Nat):Int)<(((θ (ae (ag s))):Nat):Int)))=true) (d:CO 91 [.str s] (.ret (.str (ae (ag s))))) (e:LB 35 0 f95 (ahc (ae (ag s)) false) (.normal) (zt (ω (n:Int)))):CO 95 [.str s] (.ret (.tup [ω (n:Int),.bool true])):=pK [0] 3 0 (.k 1 h0 (.c c .nil)) (.l e (.c d .nil))
abbrev Va6 (a:List UInt8):Prop:=CO 91 [.str a] (.ret (.str (ae (ag a))))
abbrev Vas (a:Nat):lG:= .ret (.tup [ω (a:Int),.bool true])
theorem aow (s:List UInt8) (n b:Nat) (h0:lit false (decide ((b:Int)<(((θ (ae (ag s))):Nat):Int)))=true) (d:Va6 s) (c:CO 95 [.str s] (Vas n)):CO 86 [.str s,ω (b:Int)] (Vas n):=pK [] 1 0 (.c h0 .nil) (.c c (.c d .nil))
theorem amX {nt:Nat} (c:24<=nt) (n d:Nat) (h0:lit true (decide (((0:Nat):Int)<(d:Int)))=true):ψ nt f94 (QL (ω (n:Int)) (d:Int)) (.normal) (QL (ω (γ .i64 ((n:Int)+((1:Nat):Int)))) (γ .i64 (Xq6 (d:Int) ((2:Nat):Int)))):=pJ 94 [] 1 1 (.k 1 h0 .nil) (.nil) c
theorem amY {nt:Nat} (c:24<=nt) (n d:Nat) (h0:lit false (decide (((0:Nat):Int)<(d:Int)))=true):ψ nt f94 (QL (ω (n:Int)) (d:Int)) (.exit 0) (Jv (ω (n:Int))):=pJ 94 [] 1 0 (.c h0 .nil) (.nil) c
theorem ajd (s:List UInt8) (n:Nat) (h0:lit true ((((θ (ae (ag s))):Nat):Int)==((0:Nat):Int))=true) (c:CO 91 [.str s] (.ret (.str (ae (ag s))))):CO 94 [.str s] (.ret (ω 0)):=pK [0] 1 1 (.c h0 .nil) (.c c .nil)
theorem aje (s:List UInt8) (n:Nat) (h0:(decide (((0:Nat):Int)<(((θ (ae (ag s))):Nat):Int)))=true) (c:lit false ((((θ (ae (ag s))):Nat):Int)==((0:Nat):Int))=true) (d:CO 91 [.str s] (.ret (.str (ae (ag s))))) (e:LB 24 0 f94 ⟨[(0,.str (ae (ag s))),(2,ω 0),(3,ω (γ .i64 (((8:Nat):Int)*(γ .i64 ((((θ (ae (ag s))):Nat):Int) - ((1:Nat):Int)))))),(4,ω (γ .i64 ((Xxr (Xjc (ae (ag s)) 0 0):Nat):Int))),(9,.bool ((((θ (ae (ag s))):Nat):Int)==((0:Nat):Int))),(18,.dead)],[],.dead,[]⟩ (.normal) (Jv (ω (n:Int)))):CO 94 [.str s] (.ret (ω (n:Int))):=pK [0] 1 0 (.k 1 h0 (.c c .nil)) (.l e (.c d .nil))
theorem anb (s:List UInt8) (h0:lit true ((((θ s):Nat):Int)==((0:Nat):Int))=true):CO 130 [.str s] (.ret (.bool true)):=pK [] 1 1 (.c h0 .nil) (.nil)
abbrev VaX (a:List UInt8):Bool:=decide (((0:Nat):Int)<(((θ a):Nat):Int))
theorem anc (s:List UInt8) (h0:(VaX s)=true) (c:lit false ((((θ s):Nat):Int)==((0:Nat):Int))=true):CO 130 [.str s] (.ret (.bool (!(((Xxr (Xjc s 0 0):Nat):Int)==((0:Nat):Int))))):=pK [] 1 0 (.k 1 h0 (.c c .nil)) (.nil)
theorem afb (s t:List UInt8) (h0:lit true (decide ((((θ (ae (ag s))):Nat):Int)<(((θ (ae (ag t))):Nat):Int)))=true) (c:lit true (!((((θ (ae (ag s))):Nat):Int)==(((θ (ae (ag t))):Nat):Int)))=true) (e:Va6 s) (d:Va6 t):CO 51 [.str s,.str t] (.ret (ω (-1))):=pK [] 2 3 (.c h0 (.c c .nil)) (.c d (.c e .nil))
theorem afc (s t:List UInt8) (h0:lit false (decide ((((θ (ae (ag s))):Nat):Int)<(((θ (ae (ag t))):Nat):Int)))=true) (c:lit true (!((((θ (ae (ag s))):Nat):Int)==(((θ (ae (ag t))):Nat):Int)))=true) (e:Va6 s) (d:Va6 t):CO 51 [.str s,.str t] (.ret (ω 1)):=pK [] 2 1 (.c h0 (.c c .nil)) (.c d (.c e .nil))
theorem afd (s t:List UInt8) (h0:lit true (iC (ae (ag s)) (ae (ag t)))=true) (c:lit false (!((((θ (ae (ag s))):Nat):Int)==(((θ (ae (ag t))):Nat):Int)))=true) (e:Va6 s) (d:Va6 t):CO 51 [.str s,.str t] (.ret (ω (-1))):=pK [] 2 2 (.c h0 (.c c .nil)) (.c d (.c e .nil))
theorem afe (s t:List UInt8) (h0:lit true (!(iC (ae (ag s)) (ae (ag t))||(ae (ag s))==(ae (ag t))))=true) (c:lit false (iC (ae (ag s)) (ae (ag t)))=true) (f:lit false (!((((θ (ae (ag s))):Nat):Int)==(((θ (ae (ag t))):Nat):Int)))=true) (e:Va6 s) (d:Va6 t):CO 51 [.str s,.str t] (.ret (ω 1)):=pK [] 3 4 (.c h0 (.c c (.c f .nil))) (.c d (.c e .nil))
theorem aff (s t:List UInt8) (h0:lit false (!(iC (ae (ag s)) (ae (ag t))||(ae (ag s))==(ae (ag t))))=true) (c:lit false (iC (ae (ag s)) (ae (ag t)))=true) (f:lit false (!((((θ (ae (ag s))):Nat):Int)==(((θ (ae (ag t))):Nat):Int)))=true) (e:Va6 s) (d:Va6 t):CO 51 [.str s,.str t] (.ret (ω 0)):=pK [] 3 0 (.c h0 (.c c (.c f .nil))) (.c d (.c e .nil))
theorem qx (l:List UInt8) (c:UInt8):ag (l++ [c])=ag l*256+c.toNat:=by
 unfold ag;rw [Xva];rfl
theorem toNat_ofNat {x:Nat} (h:x<256):(Xql x).toNat=x:=by
 rw [UInt8.toNat_ofNat'];exact Ξ h
def bS (o:List Nat):List UInt8:=o.map Xql
theorem akH (o:List Nat):Xz1 (λc=>Xql (δ (Φ c))) (rG o)=bS o:=by
 unfold rG bS;rw [List.map_map];rfl
theorem V_ (l:List Nat) (k:Nat):π k (rG l)=rG (l.take k):=by unfold rG;rw [List.map_take]
def Y2 (l:List Nat):Nat->List Nat
 |0=> []
 |k+1=> [l.getD k 0 / 65536,l.getD k 0 / 256 % 256,l.getD k 0 % 256]++Y2 l k
theorem Ru (a b:List Nat):bS (a++b)=bS a++bS b:=by unfold bS;rw [Xq5]
theorem UD {l:List Nat} (c:iU l):∀ (k:Nat) (o:List Nat),k<=l.length->ag (bS (o++Y2 l k))=ag (bS o)*16777216^k+kG (l.take k)
 |0,o,_=>by simp [Y2,kG]
 | k+1,o,h=>by
  simp only [Y2];rw [<- Xqe,UD c k _ (by omega),JG (by omega)];have hd:=c.getD k;generalize l.getD k 0=d at*
  have e:ag (bS (o++ [d / 65536,d / 256 % 256,d % 256]))=ag (bS o)*16777216+d:=by
   rw [show o++ [d / 65536,d / 256 % 256,d % 256]=((o++ [d / 65536])++ [d / 256 % 256])++ [d % 256] by simp,Ru,Ru,Ru];simp only [bS,Xqg,Xjh];rw [qx,qx,qx,toNat_ofNat (show d / 65536<256 by omega),toNat_ofNat (Xq3 _ (by omega)),toNat_ofNat (Xq3 _ (by omega))];omega
  rw [e,Xxy,Xxi,Xqj (16777216^k) 16777216,Xqu,Xqj d];omega
def ac4 (l:List Nat):AV:=match l with| []=> .nilS|x::l=> .ref 0 0 0 (x::l).length
def ac5 (l:List Nat):Hp:=match l with| []=> []|x::l=> [(0,⟨rG (x::l),0,false,0,1,true⟩)]
theorem FT {l:List Nat} (h:l ≠ []):ac4 l= .ref 0 0 0 l.length:=by cases l with|nil=>exact absurd rfl h|cons _ _=>rfl
theorem FU {l:List Nat} (h:l ≠ []):ac5 l= [(0,⟨rG l,0,false,0,1,true⟩)]:=by cases l with|nil=>exact absurd rfl h|cons _ _=>rfl
def ai3 (l:List Nat) (nn:Bool) (p:Nat × List Nat):St:=⟨[(0,.sl (aC l) l.length nn),(3,ac4 p.2),(4,ω ((p.1:Int) - 1))],ac5 p.2,.dead,[]⟩
def aa0 (o:List Nat):St:=⟨[(3,ac4 o)],ac5 o,.dead,[]⟩
theorem afU (o:List Nat) (a b c:Nat):rG o++ [Xxv .u8 (a:Int),Xxv .u8 (b:Int),Xxv .u8 (c:Int)]=rG (o++ [a,b,c]):=by simp [rG]
theorem agF:(2:Nat)^16=65536:=by decide
theorem amr:(2:Nat)^8=256:=by decide
theorem aeJ {nt:Nat} (g:35<=nt) (l:List Nat) (f:Bool) (q:l.length<2^36) (h:iU l):∀ (k:Nat) (o:List Nat),k<=l.length->o.length+3*k=3*l.length->aF prog ap [] nt (af 0 (ax f88)) (λ_=> .exit 0) (ai3 l f) aa0 (k,o) (o++Y2 l k):=by
 intro k
 induction k with
 | zero=>
  intro o _ _;simp only [Y2,Xqd];refine .done ?_;unfold ai3 aa0;rcases Xjg (o= []) with rfl|hne
  .exact aeM g l [] f
  .rw [FT hne,FU hne];exact aeK g l o f
 | succ k ih=>
  intro o p n;have hd:=h.getD k;have m:(((k+1:Nat):Int) - 1)=(k:Int):=by omega
  have j:γ .i64 ((k:Int) - ((1:Nat):Int))=(k:Int) - 1:=dM (by omega) (by omega);have hnext:=ih (o++ [l.getD k 0 / 65536,l.getD k 0 / 256 % 256,l.getD k 0 % 256]) (by omega) (by simp;omega);rw [Xqe] at hnext;simp only [Y2];refine .next ?_ hnext
  unfold ai3;rw [m];generalize i:l.getD k 0=d at*
  have c:o++ [d / 65536,d / 256 % 256,d % 256] ≠ []:=by simp
  rcases Xjg (o= []) with rfl|hne
  .have e:=ai5 g l [] k f;simp (disch:=first|omega|(simp [ay,aB]<;>omega)) only [aJ,Xqi,mi,i,iD,fM,dB,dm,dJ,j,bM,show min 16 64=16 from rfl,mZ,agF,w8u,Ξ,show min 8 64=8 from rfl,amr] at e;simp only [Xqc,ac4,ac5,rG,Xqg,Xjh,ο,Xqa] at e ⊢;apply e<;>first|exact True.intro|omega|assumption|exact rfl
  .have e:=ai4 g l o k f;rw [FT hne,FU hne,FT c,FU c];simp (disch:=first|omega|(simp [ay,aB]<;>omega)) only [jb,dB,Xqi,aB,aJ,mi,i,iD,fM,dm,dJ,j,V_,Xxd,bM,show min 16 64=16 from rfl,mZ,agF,w8u,Ξ,show min 8 64=8 from rfl,amr,afU] at e;simp only [ν,ο,Xqa];apply e<;>first|exact True.intro|omega|assumption|exact rfl
theorem aa5 (l:List Nat) (f:Bool) (m:l.length<2^36) (c:iU l):CO 88 [.sl (aC l) l.length f] (.ret (.str (ae (kG l)))):=by
 have hloop:=λnt (hn:35<=nt)=>aeJ hn l f m c l.length [] (κ _) (by simp)
 have e:=UD c l.length [] (κ _);have p:(Y2 l l.length).length=3*l.length:=by
  have:∀ k,(Y2 l k).length=3*k:=by
   intro k
   induction k with
   |zero=>rfl
   |succ k ih=>simp only [Y2,ν,ο,Xqa,ih];omega
  exact this _
 have i:γ .i64 ((l.length:Int) - ((1:Nat):Int))=(l.length:Int) - 1:=S_ (by omega);simp only [Xqc] at hloop e;rw [Xxd,show ag (bS [])=0 from rfl,Nat.zero_mul,Δ] at e;generalize Y2 l l.length=o at*
 rcases Xjg (o= []) with rfl|hne
 .rw [<- e];exact aeN l [] f (aF.blk hloop (by simp) rfl (aK.of ⟨rfl,rfl,congrArg _ i,trivial⟩) (aK.of ⟨rfl,trivial⟩)) (iG [] (by simp))
 .have h:=aeL l o f;have j:=iG (bS o) (by simp [bS];omega);rw [e] at j;have g:π o.length (rG o)=rG o:=by rw [V_,Xxd]
  simp (disch:=first|omega|(simp [ay,aB]<;>omega)) only [Xqi,g,aaX,dB,akH,e] at h;apply h<;>first|exact True.intro|omega|assumption|exact rfl|skip
  .exact aB o
  .have:Xwa (rG o) (chk (.int .u8))=true:=by
    rw [Xzo];intro x n;obtain ⟨d,_,rfl⟩:=List.mem_map.1 n;rfl
   exact this
  .exact aF.blk hloop (by simp) rfl (aK.of ⟨rfl,rfl,congrArg _ i,trivial⟩) (by unfold aa0;rw [FT hne,FU hne];exact aK.of ⟨rfl,trivial⟩)
theorem mM (x:Nat) (f:x<9223372036854775808:=by omega):CO 58 [ω (x:Int)] (.ret (.str (ae x))):=by
 rcases Xqf x with rfl|h0
 .exact aju 0 rfl (iG [] (by simp))
 .have h:=ajt x;have e:∀ k,δ (γ .u8 (Xq1 (x:Int) (2^k)))=x / 2^k % 256:=by
   intro k;rw [mZ,w8u,aJ]
  simp only [show min 56 64=56 from rfl,show min 48 64=48 from rfl,show min 40 64=40 from rfl,show min 32 64=32 from rfl,show min 24 64=24 from rfl,show min 16 64=16 from rfl,show min 8 64=8 from rfl,show min 0 64=0 from rfl,e] at h;have c:=iG [Xql (x / 2^56 % 256),Xql (x / 2^48 % 256),Xql (x / 2^40 % 256),Xql (x / 2^32 % 256),Xql (x / 2^24 % 256),Xql (x / 2^16 % 256),Xql (x / 2^8 % 256),Xql (x / 2^0 % 256)] (by simp);have d:ag [Xql (x / 2^56 % 256),Xql (x / 2^48 % 256),Xql (x / 2^40 % 256),Xql (x / 2^32 % 256),Xql (x / 2^24 % 256),Xql (x / 2^16 % 256),Xql (x / 2^8 % 256),Xql (x / 2^0 % 256)]=x:=by
   have t:∀ y,(Xql (y % 256)).toNat=y % 256:=λy=>toNat_ofNat (Xq3 _ (by omega))
   simp only [ag,List.foldl_cons,List.foldl_nil,t];omega
  rw [d] at c h;apply h
  .rw [dm];exact Yq0 h0
  .exact c
def agt (s:List UInt8) (k:Nat):St:=(V5 s ((ag (s.take k):Nat):Int) (k:Int))
def SS (s:List UInt8) (k:Nat):St:=(zt (ω ((ag (s.take k):Nat):Int)))
theorem JH {s:List UInt8} {k:Nat} (h:k<s.length):ag (s.take (k+1))=ag (s.take k)*256+(s.getD k 0).toNat:=by
 rw [Xw7,μ h,ξ,μ h];exact qx _ _
theorem OA (s:List UInt8) (k:Nat):ag (s.take k)<=ag s:=by
 rcases Xjf k s.length with h|h
 .have e:s=s.take k++s.drop k:=(Xz2 k s).symm;have:∀ (b a:List UInt8),ag a<=ag (a++b):=by
   intro b
   induction b with
   |nil=>intro a;simp
   |cons c r ih=>
    intro a;have d:=ih (a++ [c]);rw [qx,Xqe] at d;simp only [List.cons_append,Xqc] at d;omega
  calc ag (s.take k)<=ag (s.take k++s.drop k):=this _ _
   _=ag s:=by rw [<- e]
 .rw [φ h];exact κ _
theorem aan {nt:Nat} (i:35<=nt) (s:List UInt8) (hs:s.length<2^40) (q:ag s<9223372036854775808):∀ (d k:Nat),k+d=s.length->aF prog ap [] nt (af 0 (ax f95)) (λ_=> .exit 0) (agt s) (SS s) k s.length:=by
 intro d
 induction d with
 |zero=>
  intro k j;have f:k=s.length:=by omega
  subst f;exact .done (ajh i s _ _ (by rw [dm];simp [lit]))
 | succ d ih=>
  intro k j;have g:k<s.length:=by omega
  refine .next ?_ (ih (k+1) (by omega))
  have e:=ajg i s (ag (s.take k)) k;rw [aJ] at e;have m:=OA s (k+1);have h:=JH g;have p:(s.getD k 0).toNat<256:=Xv0 _;unfold agt;rw [h];rw [h] at m;generalize (s.getD k 0).toNat=c at*
  generalize ag (s.take k)=v at*
  have n:γ .i64 ((v:Int)*2^(min 8 64))=((v*256:Nat):Int):=by
   rw [show min 8 64=8 from rfl,dM]<;>omega
  have l:(((v*256:Nat):Int))+(c:Int)=((v*256+c:Nat):Int):=by omega
  have o:γ .i64 (c:Int)=(c:Int):=bF (by omega);rw [o,n,l,bF (by omega)] at e;simp (disch:=first|omega|(simp [ay,aB]<;>omega)) only [fM,dB,dm,dJ,dP,bF] at e;apply e<;>first|exact True.intro|omega|assumption|exact rfl
theorem Cf {x k:Nat}:(ae x).length<=k↔x<2^(8*k):=by
 constructor
 .intro h;have c:=h_ (ae x);rw [aI] at c;exact υ c (Ψ (by omega) (by omega))
 .exact dw
theorem aao (s:List UInt8) (hs:s.length<2^40) (j:ag s<9223372036854775808):CO 95 [.str s] (.ret (.tup [ω ((ag s:Nat):Int),.bool true])):=by
 have m:=iG s hs;have d:=aI (ag s);have l:(ae (ag s)).length<=8:=dw (υ j (by decide));have hloop:=λnt (g:35<=nt)=>aan g (ae (ag s)) (by omega) (by rw [d];exact j) (ae (ag s)).length 0 (by omega)
 have hless:aK (zt (ω ((ag s:Nat):Int))) (SS (ae (ag s)) (ae (ag s)).length):=by
  unfold SS;rw [Xxd,d];exact aK.refl _
 have i:=afh s (ag s);have h:=afi s (ag s);have f:(ae (ag s)).length=8->((ae (ag s)).getD 0 0).toNat<=127:=by
  intro e;cases g:ae (ag s) with
  |nil=>rw [g] at e;cases e
  |cons c r=>
   rw [g] at e d;rw [jk] at d;have:r.length=7:=by simpa using e
   rw [this,show 256^7=72057594037927936 from rfl] at d;simp only [Xzb];omega
 generalize ae (ag s)=t at*
 by_cases e:t.length=8
 .have k:=f e;simp (disch:=first|omega|(simp [ay,aB]<;>omega)) only [dm,gW,iw,iR,e,dB,xq,decide_true,dJ] at i;apply i<;>first|exact True.intro|omega|assumption|exact rfl|skip
  exact aF.blk hloop (by simp) rfl (aK.of ⟨rfl,rfl,rfl,trivial⟩) hless
 .simp (disch:=first|omega|(simp [ay,aB]<;>omega)) only [xq,e,decide_false,gW,Xq8,dm,iw,iR] at h;apply h<;>first|exact True.intro|omega|assumption|exact rfl|skip
  exact aF.blk hloop (by simp) rfl (aK.of ⟨rfl,rfl,rfl,trivial⟩) hless
theorem uS (s:List UInt8) (b:Nat) (hs:s.length<2^40) (e:b<=7) (d:ag s<2^(8*b)):CO 86 [.str s,ω (b:Int)] (.ret (.tup [ω ((ag s:Nat):Int),.bool true])):=by
 have h:=aow s (ag s) b;have c:ag s<9223372036854775808:=υ d (Xqr (Ψ (by omega) (show 8*b<=63 by omega)) (by decide));have f:=Cf.2 d;simp (disch:=first|omega|(simp [ay,aB]<;>omega)) only [dm,gW,iw,iR] at h;exact h (by omega) (iG s hs) (aao s hs c)
theorem Xv {d:Nat} (h:0<d):dZ d=dZ (d / 2)+1:=by
 rcases Xjf d 2 with h1|h1
 .have:d=1:=by omega
  subst this;rfl
 .have:=xP (x:=d) (k:=1) (by omega);rw [Nat.pow_one] at this;omega
def apa (p:Nat × Nat):St:=(QL (ω (p.1:Int)) (p.2:Int))
def akQ (n:Nat):St:=(Jv (ω (n:Int)))
theorem ac_ {nt:Nat} (e:24<=nt):∀ (b n d:Nat),d<b->d<256->n+dZ d<2^45->aF prog ap [] nt (af 0 (ax f94)) (λ_=> .exit 0) apa akQ (n,d) (n+dZ d):=by
 intro b
 induction b with
 |zero=>intro n d h;omega
 | succ b ih=>
  intro n d h hd g;rcases Xqf d with rfl|h0
  .exact .done (amY e n 0 rfl)
  .have f:=Xv h0;rw [f,show n+(dZ (d / 2)+1)=n+1+dZ (d / 2) by omega];refine .next ?_ (ih (n+1) (d / 2) (by omega) (by omega) (by omega))
   have c:=amX e n d;clear ih f;simp (disch:=first|omega|(simp [ay,aB]<;>omega)) only [dm,dJ,dB,dP,bF,MM] at c;apply c<;>first|exact True.intro|omega|assumption|exact rfl
theorem Qi (s:List UInt8) (hs:s.length<2^40):CO 94 [.str s] (.ret (ω ((dZ (ag s):Nat):Int))):=by
 have g:=iG s hs;have d:=aI (ag s);have m:=yQ (ag s);have f:(ae (ag s)).length<=s.length:=oh (κ _);have h0:=ajd s 0;have i:=aje s (dZ (ag s));cases j:ae (ag s) with
 |nil=>
  rw [j] at h0 d g;rw [<- d];exact h0 rfl g
 | cons c r=>
  rw [j] at i d g m f;have l:c ≠ 0:=by simpa [nR] using m
  have k:0<c.toNat:=by
   rcases Xqf c.toNat with h|h
   .exact absurd (by apply UInt8.toNat_inj.1;simpa using h) l
   .exact h
  have hc256:c.toNat<256:=Xv0 c;have o:dZ (ag s)=8*r.length+dZ c.toNat:=by
   have e:=Iu (x:=c.toNat) (y:=ag r) (8*r.length) k (h_ r);rw [<- e,<- d,jk,Xqj,show (256:Nat)=2^8 from rfl,<- Xjo]
  have u:dZ c.toNat<=8:=kZ (by omega);simp only [ο] at f;have hloop:=λnt (j:24<=nt)=>ac_ j 256 (8*r.length) c.toNat hc256 hc256 (by omega)
  rw [<- o] at hloop;simp only [ο,Xzb] at i;have v:r.length+1 - 1=r.length:=rfl;have q:(((r.length+1:Nat):Int)) - ((1:Nat):Int)=(r.length:Int):=by omega
  have t:γ .i64 (r.length:Int)=(r.length:Int):=bF (by omega);have n:γ .i64 (((8:Nat):Int)*(r.length:Int))=((8*r.length:Nat):Int):=by rw [dM]<;>omega
  have p:γ .i64 (c.toNat:Int)=(c.toNat:Int):=bF (by omega);rw [q,t,n,p] at i;refine i (by rw [dm];exact Yq0 (by omega)) (by rw [xq];simp [lit]) g ?_;exact aF.blk hloop (by simp) rfl (aK.of ⟨rfl,rfl,trivial⟩) (aK.of ⟨rfl,trivial⟩)
theorem aby (s:List UInt8):CO 130 [.str s] (.ret (.bool (nR s))):=by
 cases s with
 |nil=>exact anb [] rfl
 | cons c r=>
  have h:=anc (c::r);have e:(!((((c::r).getD 0 0).toNat:Int)==((0:Nat):Int)))=nR (c::r):=by
   simp only [Xzb,nR];by_cases hc:c=0
   .subst hc;rfl
   .have:c.toNat ≠ 0:=λh=>hc (by apply UInt8.toNat_inj.1;simpa using h)
    have d:((c.toNat:Int)==((0:Nat):Int))=false:=by simp;omega
    rw [d];simp [hc]
  rw [e] at h;apply h
  .simp
  .simp [lit];omega
theorem Eu:∀ (a b:List UInt8),a.length=b.length->iC a b=decide (ag a<ag b)
 | [],[],_=>rfl
 | [],_::_,h=>by simp at h
 |_::_,[],h=>by simp at h
 | x::a,y::b,h=>by
  have c:a.length=b.length:=by simpa using h
  have i:=Eu a b c;have g:=h_ a;have k:=h_ b;simp only [iC,i];rw [jk,jk,c,show (256:Nat)=2^8 from rfl,<- Xjo];rw [c] at g;have f:decide (x<y)=decide (x.toNat<y.toNat):=by simp [UInt8.lt_iff_toNat_lt]
  have e:(x==y)=decide (x.toNat=y.toNat):=by
   by_cases h:x=y
   .subst h;simp
   .have:x.toNat ≠ y.toNat:=λj=>h (UInt8.toNat_inj.1 j)
    simp [h,this]
  rw [f,e];generalize 2^(8*b.length)=M at*
  generalize ag a=u at*
  generalize ag b=v at*
  generalize x.toNat=p at*
  generalize y.toNat=q at*
  rcases Xz7 p q with h3|h3|h3
  .have d:(p+1)*M<=q*M:=Xqx _ h3;rw [Xxy,Xwk] at d;rw [Yq0 h3,Yq0 (show p*M+u<q*M+v by omega)];rfl
  .subst h3;rw [Yq1 (Xkc _),Yq0 rfl];simp
  .have d:(q+1)*M<=p*M:=Xqx _ h3;rw [Xxy,Xwk] at d;rw [Yq1 (show ¬ p<q by omega),Yq1 (show ¬ p=q by omega),Yq1 (show ¬ p*M+u<q*M+v by omega)];rfl
theorem ER {x y:Nat} (h:(ae x).length<(ae y).length):x<y:=by
 rcases Xjf x y with h1|h1
 .exact h1
 .have c:y<=ag (ae x):=by rw [aI];exact h1
  have:=oh c;omega
theorem N9 (s t:List UInt8) (hs:s.length<2^40) (l:t.length<2^40):CO 51 [.str s,.str t] (.ret (ω (oz (ag s) (ag t)))):=by
 have f:=iG s hs;have e:=iG t l;have k:=aI (ag s);have m:=aI (ag t);unfold oz;by_cases hl:(ae (ag s)).length=(ae (ag t)).length
 .have c:=Eu _ _ hl;rw [k,m] at c;have i:(ae (ag s)==ae (ag t))=decide (ag s=ag t):=by
   by_cases h:ag s=ag t
   .rw [h];simp
   .have:ae (ag s) ≠ ae (ag t):=λj=>h (IQ j)
    simp [h,this]
  have d:lit false (!((((ae (ag s)).length:Nat):Int)==(((ae (ag t)).length:Nat):Int)))=true:=by rw [hl];simp [lit]
  by_cases h1:ag s<ag t
  .rw [if_pos h1];exact afd s t (by rw [c,Yq0 h1];rfl) d f e
  .rw [if_neg h1];by_cases g:ag t<ag s
   .rw [if_pos g];exact afe s t (by rw [c,i,Yq1 h1,Yq1 (show ¬ ag s=ag t by omega)];rfl) (by rw [c,Yq1 h1];rfl) d f e
   .rw [if_neg g];exact aff s t (by rw [c,i,Yq1 h1,Yq0 (show ag s=ag t by omega)];rfl) (by rw [c,Yq1 h1];rfl) d f e
 .have d:lit true (!((((ae (ag s)).length:Nat):Int)==(((ae (ag t)).length:Nat):Int)))=true:=by rw [xq,Yq1 hl];rfl
  by_cases h1:(ae (ag s)).length<(ae (ag t)).length
  .rw [if_pos (ER h1)];exact afb s t (by rw [dm,Yq0 h1];rfl) d f e
  .have g:=ER (show (ae (ag t)).length<(ae (ag s)).length by omega);rw [if_neg (by omega),if_pos g];exact afc s t (by rw [dm,Yq1 h1];rfl) d f e
theorem ami {nt:Nat} (c:35<=nt) (s:List UInt8) (o:List Nat) (e d k:Nat) (h0:Va3 k) (f:(decide ((k:Int)<(((θ s):Nat):Int)))=true) (g:lit true (decide ((k:Int)<(e:Int)))=true):ak prog ap [] nt (af 2 (ax f87)) (ach s e (d:Int) (k:Int)) (.normal) (ach s e (γ .i64 ((γ .i64 ((d:Int)*((256:Nat):Int)))+(γ .i64 ((Xxr (Xjc s (δ (k:Int)) 0):Nat):Int)))) (γ .i64 ((k:Int)+((1:Nat):Int)))):=pJ 87 [] 1 1 (.c h0 (.c f (.c g .nil))) (.nil) c
theorem amj {nt:Nat} (c:35<=nt) (s:List UInt8) (o:List Nat) (e d k:Nat) (h0:lit false (decide ((k:Int)<(e:Int)))=true):ak prog ap [] nt (af 2 (ax f87)) (ach s e (d:Int) (k:Int)) (.exit 2) ⟨[(0,.str s),(3,.nilS),(4,ω (e:Int)),(5,ω (d:Int))],[],.dead,[]⟩:=pJ 87 [] 1 0 (.c h0 .nil) (.nil) c
theorem amg {nt:Nat} (c:35<=nt) (s:List UInt8) (o:List Nat) (e d k:Nat) (h0:Va3 k) (f:(decide ((k:Int)<(((θ s):Nat):Int)))=true) (g:lit true (decide ((k:Int)<(e:Int)))=true):ak prog ap [] nt (af 2 (ax f87)) (aci s o.length e (d:Int) (k:Int) (aC o)) (.normal) (aci s o.length e (γ .i64 ((γ .i64 ((d:Int)*((256:Nat):Int)))+(γ .i64 ((Xxr (Xjc s (δ (k:Int)) 0):Nat):Int)))) (γ .i64 ((k:Int)+((1:Nat):Int))) (aC o)):=pJ 87 [] 1 1 (.c h0 (.c f (.c g .nil))) (.nil) c
theorem amh {nt:Nat} (c:35<=nt) (s:List UInt8) (o:List Nat) (e d k:Nat) (h0:lit false (decide ((k:Int)<(e:Int)))=true):ak prog ap [] nt (af 2 (ax f87)) (aci s o.length e (d:Int) (k:Int) (aC o)) (.exit 2) ⟨[(0,.str s),(3,.ref 0 0 0 o.length),(4,ω (e:Int)),(5,ω (d:Int))],[(0,⟨(aC o),0,false,0,1,true⟩)],.dead,[]⟩:=pJ 87 [] 1 0 (.c h0 .nil) (.nil) c
theorem amc {nt:Nat} (c:35<=nt) (s:List UInt8) (o:List Nat) (z:Int) (d:Nat) (h0:lit true (decide (((0:Nat):Int)<z))=true) (e:LB 35 2 f87 (acj s (.dead) z (ω 0) (ω (if ((0:Nat):Int)>(γ .i64 (z - ((3:Nat):Int))) then ((0:Nat):Int) else (γ .i64 (z - ((3:Nat):Int))))) (.bool (decide (((0:Nat):Int)<z)))) (.normal) ⟨[(0,.str s),(4,ω z),(5,ω (d:Int)),(3,.nilS)],[],.dead,[]⟩):ψ nt f87 (V4 (.str s) z) (.normal) (Fb (.str s) 1 (γ .i64 (z - ((3:Nat):Int))) [ω (d:Int)]):=pJ 87 [2] 2 1 (.k 3 h0 .nil) (.l e .nil) c
theorem amd {nt:Nat} (c:35<=nt) (s:List UInt8) (o:List Nat) (z:Int) (d:Nat) (h0:lit false (decide (((0:Nat):Int)<z))=true):ψ nt f87 (V4 (.str s) z) (.exit 0) (Jv (.nilS)):=pJ 87 [2] 1 0 (.c h0 .nil) (.nil) c
theorem ai8 (s:List UInt8) (o:List Nat) (c:Va6 s) (d:LB 35 0 f87 (acj (ae (ag s)) (.nilS) (((θ (ae (ag s))):Nat):Int) (.dead) (.dead) (.dead)) (.normal) (Jv (.nilS))):CO 87 [.str s] (.ret (.nilS)):=pK [0] 0 0 .nil (.l d (.c c .nil))
theorem al8 {nt:Nat} (e:35<=nt) (s:List UInt8) (o:List Nat) (z:Int) (d:Nat) (h0:(Xqn (o.length+1) 1099511627776)=true) (c:(Xqn (o.length*1) (θ (aC o)))=true) (f:lit true (decide (((0:Nat):Int)<z))=true) (g:LB 35 2 f87 ⟨[(0,.str s),(2,.dead),(3,.ref 0 0 0 o.length),(4,ω z),(5,ω 0),(6,ω (if ((0:Nat):Int)>(γ .i64 (z - ((3:Nat):Int))) then ((0:Nat):Int) else (γ .i64 (z - ((3:Nat):Int))))),(12,.bool (decide (((0:Nat):Int)<z))),(20,.dead)],[(0,⟨(aC o),0,false,0,1,true⟩)],.dead,[]⟩ (.normal) ⟨[(0,.str s),(4,ω z),(5,ω (d:Int)),(3,.ref 0 0 0 o.length)],[(0,⟨(aC o),0,false,0,1,true⟩)],.dead,[]⟩):ψ nt f87 (Fb (.str s) o.length z (aC o)) (.normal) (Fb (.str s) (o.length+1) (γ .i64 (z - ((3:Nat):Int))) ((π (o.length*1) (aC o))++ [ω (d:Int)])):=pJ 87 [2] 1 1 (.k 1 h0 (.c c (.k 1 f .nil))) (.l g .nil) e
theorem al9 {nt:Nat} (c:35<=nt) (s:List UInt8) (o:List Nat) (z:Int) (d:Nat) (h0:lit false (decide (((0:Nat):Int)<z))=true):ψ nt f87 (Fb (.str s) o.length z (aC o)) (.exit 0) (Fa o.length (aC o)):=pJ 87 [2] 1 0 (.c h0 .nil) (.nil) c
theorem ai7 (s:List UInt8) (o:List Nat) (c:Va6 s) (d:LB 35 0 f87 (acj (ae (ag s)) (.nilS) (((θ (ae (ag s))):Nat):Int) (.dead) (.dead) (.dead)) (.normal) (Fa o.length (aC o))):CO 87 [.str s] (.ret (.own (π (o.length*1) (aC o)) o.length 1)):=pK [0] 0 0 .nil (.l d (.c c .nil))
def aba (s:List UInt8) (o:List Nat) (e j k:Nat):St:=⟨[(0,.str s),(3,YD o),(4,ω (e:Int)),(5,ω ((ag ((s.take k).drop j):Nat):Int)),(6,ω (k:Int))],YE o,.dead,[]⟩
def aa_ (s:List UInt8) (o:List Nat) (e d:Nat):St:=⟨[(0,.str s),(3,YD o),(4,ω (e:Int)),(5,ω (d:Int))],YE o,.dead,[]⟩
theorem XO {s:List UInt8} {j k:Nat} (h:k<s.length) (c:j<=k):ag ((s.take (k+1)).drop j)=ag ((s.take k).drop j)*256+(s.getD k 0).toNat:=by
 rw [Xw7,μ h,List.drop_append_of_le_length (by simp;omega),ξ,μ h];exact qx _ _
theorem Vo {s:List UInt8} {j k:Nat} (h:k<=j+3):ag ((s.take k).drop j)<16777216:=by
 have c:=h_ ((s.take k).drop j);have d:((s.take k).drop j).length<=3:=by simp;omega
 exact υ c (Xqr (Ψ (by omega) (show 8*((s.take k).drop j).length<=24 by omega)) (by decide))
theorem aeQ {nt:Nat} (h:35<=nt) (s:List UInt8) (o:List Nat) (e j:Nat) (hs:s.length<2^40) (u:e<=s.length) (t:e<=j+3):∀ (n k:Nat),k+n=e->j<=k->aF prog ap [] nt (af 2 (ax f87)) (λ_=> .exit 2) (aba s o e j) (aa_ s o e) k (ag ((s.take e).drop j)):=by
 intro n
 induction n with
 | zero=>
  intro k r f;have i:k=e:=by omega
  subst i;refine .done ?_;unfold aba aa_;rcases Xjg (o= []) with rfl|hne
  .exact amj h s [] k _ k (by rw [dm];simp [lit])
  .rw [jo hne,jq hne];exact amh h s o k _ k (by rw [dm];simp [lit])
 | succ n ih=>
  intro k r f;refine .next ?_ (ih (k+1) (by omega) (by omega))
  have l:k<s.length:=by omega
  have w:=Vo (s:=s) (j:=j) (k:=k) (by omega);have v:(s.getD k 0).toNat<256:=Xv0 _;have p:=XO l f;unfold aba;rw [p];generalize q:(s.getD k 0).toNat=c at*
  generalize ag ((s.take k).drop j)=d at*
  clear ih p;have x:γ .i64 ((d:Int)*((256:Nat):Int))=((d*256:Nat):Int):=by rw [dM]<;>omega
  have m:(((d*256:Nat):Int))+(c:Int)=((d*256+c:Nat):Int):=by omega
  rcases Xjg (o= []) with rfl|hne
  .have g:=ami h s [] e d k;simp (disch:=first|omega|(simp [ay,aB]<;>omega)) only [fM,dB,dm,dJ,G8,bF,aJ,q,m,dP] at g;apply g<;>first|exact True.intro|omega|assumption|exact rfl
  .have g:=amg h s o e d k;rw [jo hne,jq hne];simp (disch:=first|omega|(simp [ay,aB]<;>omega)) only [fM,dB,dm,dJ,G8,bF,aJ,q,m,dP] at g;apply g<;>first|exact True.intro|omega|assumption|exact rfl
def XN (s:List UInt8) (p:Int × List Nat):St:=⟨[(0,.str s),(3,YD p.2),(4,ω p.1)],YE p.2,.dead,[]⟩
def Vl (o:List Nat):St:=⟨[(3,YD o)],YE o,.dead,[]⟩
theorem aeP {nt:Nat} (g:35<=nt) (s:List UInt8) (o:List Nat) (e:Nat) (hs:s.length<2^38) (k:e<=s.length) (h0:0<e) (l:o.length<2^39):
  ψ nt f87 (XN s ((e:Int),o)) .normal (XN s ((e:Int) - 3,o++ [ag ((s.take e).drop (e - 3))])):=by
 have hloop:=λnt (g:35<=nt)=>aeQ g s o e (e - 3) (by omega) k (by omega) (e - (e - 3)) (e - 3) (by omega) (κ _)
 have h:γ .i64 ((e:Int) - ((3:Nat):Int))=(e:Int) - 3:=dM (by omega) (by omega);have i:(if ((0:Nat):Int)>(e:Int) - 3 then ((0:Nat):Int) else (e:Int) - 3)=((e - 3:Nat):Int):=by
  split<;>omega
 have f:ag ((s.take (e - 3)).drop (e - 3))=0:=by
  rw [Xjr (by simp;omega)];rfl
 have j:(ε (e - 3) (π e s)).length<=3:=by simp;omega
 unfold XN;generalize ag ((s.take e).drop (e - 3))=d at*
 rcases Xjg (o= []) with rfl|hne
 .have c:=amc g s [] (e:Int) d;rw [h,i] at c;simp (disch:=first|omega|(simp [ay,aB]<;>omega)) only [dm,dJ,dB] at c;simp only [Xqc,YD,YE,aC,Xqg,Xjh,ο,Xqa] at c ⊢;apply c
  .omega
  .refine aF.blk hloop (by simp) rfl ?_ (aK.of ⟨rfl,rfl,rfl,rfl,trivial⟩);unfold aba;rw [f];exact aK.of ⟨rfl,rfl,rfl,rfl,rfl,trivial⟩
 .have c:=al8 g s o (e:Int) d;rw [h,i] at c;rw [jo hne,jq hne,jo (lg _ _),jq (lg _ _)];simp (disch:=first|omega|(simp [ay,aB]<;>omega)) only [jb,dB,Xqi,jF,dm,dJ,kU,Xxd,uA] at c;simp only [ν,Θ];apply c<;>first|exact True.intro|omega|assumption|exact rfl|skip
  .refine aF.blk hloop (by simp) rfl ?_ ?_
   .unfold aba;rw [f,jo hne,jq hne];exact aK.of ⟨rfl,rfl,rfl,rfl,rfl,trivial⟩
   .unfold aa_;rw [jo hne,jq hne];exact aK.of ⟨rfl,rfl,rfl,rfl,trivial⟩
theorem aa6 {nt:Nat} (c:35<=nt) (s:List UInt8) (o:List Nat) (z:Int) (e:z<=0):ψ nt f87 (XN s (z,o)) (.exit 0) (Vl o):=by
 unfold XN Vl;have d:lit false (decide (((0:Nat):Int)<z))=true:=by simp [lit];exact e
 rcases Xjg (o= []) with rfl|hne
 .exact amd c s [] z 0 d
 .rw [jo hne,jq hne];exact al9 c s o z 0 d
theorem akV {s:List UInt8} {e:Nat} (g:e<=s.length):ag (s.take e)=16777216*ag (s.take (e - 3))+ag ((s.take e).drop (e - 3)):=by
 have c:∀ (b a:List UInt8),ag (a++b)=ag a*256^b.length+ag b:=by
  intro b a;unfold ag;rw [Xva,KP];rfl
 have hs:s.take e=s.take (e - 3)++(s.take e).drop (e - 3):=by
  have d:=Xz2 (e - 3) (s.take e);rw [List.take_take,Xx5 (by omega)] at d;exact d.symm
 have f:=c ((s.take e).drop (e - 3)) (s.take (e - 3));rw [<- hs] at f;rw [f];rcases Xjf e 3 with h3|h3
 .have:e - 3=0:=by omega
  rw [this];simp [ag]
 .have:((s.take e).drop (e - 3)).length=3:=by simp;omega
  rw [this,Xqj,show 256^3=16777216 from rfl]
theorem aa7 {nt:Nat} (g:35<=nt) (s:List UInt8) (hs:s.length<2^38) (t:nR s=true):∀ (n e:Nat) (o:List Nat),e<n->e<=s.length->o.length+e<2^39->aF prog ap [] nt (af 0 (ax f87)) (λ_=> .exit 0) (XN s) Vl ((e:Int),o) (o++d_ (ag (s.take e))):=by
 intro n
 induction n with
 |zero=>intro e o h;omega
 | succ n ih=>
  intro e o h f u;rcases Xqf e with rfl|h0
  .have:ag (s.take 0)=0:=rfl;rw [this,jU,Xqd];exact .done (aa6 g s o _ (by omega))
  .have p:0<ag (s.take e):=by
    cases s with
    |nil=>simp at f;omega
    | cons c r=>
     have l:c ≠ 0:=by simpa [nR] using t
     have d:0<c.toNat:=by
      rcases Xqf c.toNat with h|h
      .exact absurd (by apply UInt8.toNat_inj.1;simpa using h) l
      .exact h
     obtain ⟨e',rfl⟩:∃ e',e=e'+1:=⟨e - 1,by omega⟩
     rw [List.take_succ_cons,jk];have:=Xjl d (show 0<256^(r.take e').length from Nat.pow_pos (by omega));omega
   have q:=akV f;have hd:=Vo (s:=s) (j:=e - 3) (k:=e) (by omega);have hstep:=aeP g s o e hs f h0 (by omega);rw [xC p,show ag (s.take e) % 16777216=ag ((s.take e).drop (e - 3)) by omega,show ag (s.take e) / 16777216=ag (s.take (e - 3)) by omega];rcases Xjf e 3 with h3|h3
   .have m:e - 3=0:=by omega
    have i:ag (s.take (e - 3))=0:=by rw [m];rfl
    rw [i,jU];exact .next hstep (.done (aa6 g s _ _ (by omega)))
   .have hnext:=ih (e - 3) (o++ [ag ((s.take e).drop (e - 3))]) (by omega) (by omega) (by simp;omega);rw [Xqe] at hnext;rw [show ((e:Int) - 3)=((e - 3:Nat):Int) by omega] at hstep;exact .next hstep hnext
theorem agK (s:List UInt8) (hs:s.length<2^37):CO 87 [.str s] (.ret (.sl (aC (d_ (ag s))) (d_ (ag s)).length false)):=by
 have e:=iG s (by omega);have d:(ae (ag s)).length<=s.length:=oh (κ _);have c:=aI (ag s);have hloop:=λnt (hn:35<=nt)=>aa7 hn (ae (ag s)) (by omega) (yQ _) ((ae (ag s)).length+1) (ae (ag s)).length [] (by omega) (κ _) (by simp;omega)
 rw [Xxd,c,Xqc] at hloop;generalize hd:d_ (ag s)=o at*
 rcases Xjg (o= []) with rfl|hne
 .have h:=ai8 s [] e (aF.blk hloop (by simp) rfl (aK.of ⟨rfl,rfl,rfl,trivial⟩) (aK.of ⟨rfl,trivial⟩));exact h.out (kJ.ret rfl rfl (bY.nilS false rfl))
 .have h:=(ai7 s o e (aF.blk hloop (by simp) rfl (aK.of ⟨rfl,rfl,rfl,trivial⟩) (by unfold Vl;rw [jo hne,jq hne];exact aK.of ⟨rfl,trivial⟩))).thaw (by simp);simp only [sU,thaw,Xqi,kU,Xxd] at h;exact h.out (kJ.sl1 _ _ _)
theorem apD (s t:List UInt8) (x y q r:Nat) (h0:(!((y:Int)==((0:Nat):Int)))=true) (e:lit false ((((θ (ae (ag t))):Nat):Int)==((0:Nat):Int))=true) (f:Va6 t) (g:CO 86 [.str s,ω 7] (Vas x)) (d:CO 86 [.str (ae (ag t)),ω 7] (Vas y)) (h:CO 58 [ω (γ .i64 (Xq6 (x:Int) (y:Int)))] (Vaj q)) (c:CO 58 [ω (Xxk (x:Int) (y:Int))] (Vaj r)):CO 90 [.str s,.str t] (.ret (.tup [.str (ae q),.str (ae r),.bool true])):=pK [0] 3 6 (.c h0 (.c h0 (.k 2 e .nil))) (.c c (.c h (.c d (.c g (.c f .nil)))))
theorem Oe (s t:List UInt8) (hs:s.length<=7) (u:t.length<=7) (h0:0<ag t):CO 90 [.str s,.str t] (.ret (.tup [.str (ae (ag s / ag t)),.str (ae (ag s % ag t)),.bool true])):=by
 have r:=iG t (by omega);have d:=aI (ag t);have n:(ae (ag t)).length<=t.length:=oh (κ _);have j:ae (ag t) ≠ []:=λh=>by have:=fQ.1 h;omega
 have g:((ae (ag t)).length=0)=False:=by simp;exact j
 have e:ag s<2^(8*7):=υ (h_ s) (Ψ (by omega) (by omega));have f:ag t<2^(8*7):=υ (h_ t) (Ψ (by omega) (by omega));have k:=uS s 7 (by omega) (by omega) e;have c:=uS (ae (ag t)) 7 (by omega) (by omega) (by rw [d];exact f);rw [d] at c;have l:ag s<9223372036854775808:=υ e (by decide);have m:ag t<9223372036854775808:=υ f (by decide);have q:=Xxg (ag s) (ag t);have p:=Nat.mod_le (ag s) (ag t);have v:=mM (ag s / ag t);have o:=mM (ag s % ag t);have h:=apD s t (ag s) (ag t) (ag s / ag t) (ag s % ag t);have i:(ag t=0)=False:=by simp;omega
 clear e f hs;simp (disch:=first|omega|(simp [ay,aB]<;>omega)) only [xq,i,decide_false,Xq8,g,gW,MM,bF,RD] at h;apply h<;>first|exact True.intro|omega|assumption|exact rfl
theorem am2 {nt:Nat} (c:25<=nt) (s t q r:List UInt8) (h0:lit true (decide (((0:Nat):Int)<(((θ t):Nat):Int)))=true) (d:CO 90 [.str s,.str t] (.ret (.tup [.str q,.str r,.bool true]))):ψ nt f89 (w_ s (.str t)) (.normal) (w_ t (.str r)):=pJ 89 [] 1 1 (.c h0 .nil) (.c d .nil) c
theorem am3 {nt:Nat} (c:25<=nt) (s t q r:List UInt8) (h0:lit false (decide (((0:Nat):Int)<(((θ t):Nat):Int)))=true):ψ nt f89 (w_ s (.str t)) (.exit 0) (lV (.str s)):=pJ 89 [] 1 0 (.c h0 .nil) (.nil) c
theorem am0 (s t g:List UInt8) (d:Va6 s) (c:Va6 t) (e:LB 25 0 f89 ⟨[(0,.str (ae (ag s))),(1,.str (ae (ag t))),(4,.str []),(6,.dead),(14,.dead)],[],.dead,[]⟩ (.normal) (lV (.str g))):CO 89 [.str s,.str t] (.ret (.str g)):=pK [0] 0 0 .nil (.l e (.c c (.c d .nil)))
def am1 (p:Nat × Nat):St:=(w_ (ae p.1) (.str (ae p.2)))
def agJ (x:Nat):St:=(lV (.str (ae x)))
theorem XW {nt:Nat} (f:25<=nt):∀ (n y x:Nat),y<n->(ae x).length<=7->(ae y).length<=7->aF prog ap [] nt (af 0 (ax f89)) (λ_=> .exit 0) am1 agJ (x,y) (Xxw x y):=by
 intro n
 induction n with
 |zero=>intro y x h;omega
 | succ n ih=>
  intro y x h i g;rcases Xqf y with rfl|h0
  .rw [Nat.gcd_zero_right];refine .done ?_;unfold am1 agJ;rw [dX];exact am3 f (ae x) [] [] [] rfl
  .have k:=Xq3 x h0;have j:(ae (x % y)).length<=7:=by
    have:x % y<=ag (ae y):=by rw [aI];omega
    have:=oh this;omega
   have hnext:=ih (x % y) y (by omega) g j;rw [show Xxw y (x % y)=Xxw x y by rw [Xkr y,<- Nat.gcd_rec,Xkr]] at hnext;refine .next ?_ hnext
   have d:=Oe (ae x) (ae y) i g (by rw [aI];exact h0);rw [aI,aI] at d;have e:ae y ≠ []:=λh=>by have:=fQ.1 h;omega
   have c:0<(ae y).length:=by
    cases d:ae y with
    |nil=>exact absurd d e
    |cons _ _=>simp
   exact am2 f (ae x) (ae y) _ _ (by rw [dm,dJ];exact Yq0 c) d
theorem Vy (s t:List UInt8) (hs:s.length<=7) (f:t.length<=7):CO 89 [.str s,.str t] (.ret (.str (ae (Xxw (ag s) (ag t))))):=by
 have e:(ae (ag s)).length<=s.length:=oh (κ _);have d:(ae (ag t)).length<=t.length:=oh (κ _);exact am0 s t _ (iG s (by omega)) (iG t (by omega)) (aF.blk (λnt c=>XW c (ag t+1) (ag t) (ag s) (by omega) (by omega) (by omega)) (by simp) rfl (aK.of ⟨rfl,rfl,trivial⟩) (aK.of ⟨rfl,trivial⟩))
abbrev Vae (a:List UInt8):Prop:=CO 130 [.str a] (.ret (.bool (nR a)))
theorem amC (c:Bool) (n d:List UInt8) (g:Nat) (h0:lit true (!(nR n))=true) (f:Vae n) (e:Vae d):CO 85 [Ω c n d] VaI:=pK [] 3 7 (.k 2 h0 (.n 2 .nil)) (.c e (.c f .nil))
theorem amD (c:Bool) (n d:List UInt8) (g:Nat) (h0:lit true (!(nR d))=true) (e:lit false (!(nR n))=true) (h:Vae n) (f:Vae d):CO 85 [Ω c n d] VaI:=pK [] 3 6 (.k 1 h0 (.c e (.n 2 .nil))) (.c f (.c h .nil))
theorem amE (c:Bool) (n d:List UInt8) (g:Nat) (h0:lit true (d== [])=true) (e:lit false (!(nR d))=true) (i:lit false (!(nR n))=true) (h:Vae n) (f:Vae d):CO 85 [Ω c n d] VaI:=pK [] 3 4 (.c h0 (.k 1 e (.c i (.n 2 .nil)))) (.c f (.c h .nil))
theorem amF (c:Bool) (n d:List UInt8) (g:Nat) (h0:lit true (!c)=true) (i:lit true (n== [])=true) (m:lit false (d== [])=true) (h:lit false (!(nR d))=true) (f:lit false (!(nR n))=true) (k:Vae n) (j:Vae d) (e:CO 58 [ω 1] VaG) (l:CO 51 [.str d,.str (ae 1)] (.ret (ω (oz (ag d) (ag (ae 1)))))):CO 85 [Ω c n d] (.ret (.bool ((oz (ag d) (ag (ae 1)))==((0:Nat):Int)))):=pK [] 5 24 (.k 1 h0 (.k 1 i (.k 1 m (.k 1 h (.c f (.n 2 .nil)))))) (.c l (.c e (.c j (.c k .nil))))
theorem amG (c:Bool) (n d:List UInt8) (g:Nat) (h0:lit false (!c)=true) (h:lit true (n== [])=true) (k:lit false (d== [])=true) (f:lit false (!(nR d))=true) (e:lit false (!(nR n))=true) (j:Vae n) (i:Vae d):CO 85 [Ω c n d] VaI:=pK [] 5 8 (.c h0 (.k 1 h (.k 1 k (.k 1 f (.c e (.n 2 .nil)))))) (.c i (.c j .nil))
theorem amH (c:Bool) (n d:List UInt8) (g:Nat) (h0:lit false (n== [])=true) (i:lit false (d== [])=true) (m:lit false (!(nR d))=true) (h:lit false (!(nR n))=true) (k:Vae n) (j:Vae d) (e:CO 89 [.str n,.str d] (Vaj g)) (l:CO 58 [ω 1] VaG) (f:CO 51 [.str (ae g),.str (ae 1)] (.ret (ω (oz (ag (ae g)) (ag (ae 1)))))):CO 85 [Ω c n d] (.ret (.bool ((oz (ag (ae g)) (ag (ae 1)))==((0:Nat):Int)))):=pK [] 4 0 (.k 2 h0 (.k 1 i (.k 1 m (.c h (.n 2 .nil))))) (.c f (.c l (.c e (.c j (.c k .nil)))))
theorem amz (c:Bool) (n d:List UInt8) (g:Nat) (h0:lit true (n== [])=true) (e:CO 58 [ω 1] (.ret (.str (ae 1)))):CO 49 [.bool c,.str n,.str d] (.ret (Ω false [] (ae 1))):=pK [] 1 1 (.k 4 h0 .nil) (.c e .nil)
theorem amA (c:Bool) (n d:List UInt8) (g:Nat) (h0:lit false (n== [])=true) (h:CO 89 [.str n,.str d] (.ret (.str (ae g)))) (f:CO 90 [.str n,.str (ae g)] (.ret (.tup [.str (ae (ag n / g)),.str (ae (ag n % g)),.bool true]))) (e:CO 90 [.str d,.str (ae g)] (.ret (.tup [.str (ae (ag d / g)),.str (ae (ag d % g)),.bool true]))):CO 49 [.bool c,.str n,.str d] (.ret (Ω c (ae (ag n / g)) (ae (ag d / g)))):=pK [] 1 0 (.k 4 h0 .nil) (.c e (.c f (.c h .nil)))
abbrev VaW (a:Bool) (b:List UInt8) (c:List UInt8):Prop:=CO 85 [Ω a b c] (.ret (.bool (jG a b c)))
theorem amw (c:Bool) (n d:List UInt8) (h0:lit true (decide ((((dZ (ag n)):Nat):Int)<=((400:Nat):Int)))=true) (f:lit true (jG c n d)=true) (h:VaW c n d) (g:CO 94 [.str n] (.ret (ω (((dZ (ag n)):Nat):Int)))) (e:CO 94 [.str d] (.ret (ω (((dZ (ag d)):Nat):Int)))):CO 56 [Ω c n d] (.ret (.bool (decide ((((dZ (ag d)):Nat):Int)<=((400:Nat):Int))))):=pK [] 2 3 (.k 1 h0 (.k 1 f (.n 3 .nil))) (.c e (.c g (.c h .nil)))
theorem amx (c:Bool) (n d:List UInt8) (h0:lit false (decide ((((dZ (ag n)):Nat):Int)<=((400:Nat):Int)))=true) (e:lit true (jG c n d)=true) (g:VaW c n d) (f:CO 94 [.str n] (.ret (ω (((dZ (ag n)):Nat):Int)))):CO 56 [Ω c n d] VaI:=pK [] 2 1 (.c h0 (.k 1 e (.n 3 .nil))) (.c f (.c g .nil))
theorem amy (c:Bool) (n d:List UInt8) (h0:lit false (jG c n d)=true) (e:VaW c n d):CO 56 [Ω c n d] VaI:=pK [] 2 0 (.k 1 h0 (.n 3 .nil)) (.c e .nil)
theorem amL (c:Bool) (n d:List UInt8) (h0:lit true (!(jG c n d))=true) (f:VaW c n d) (e:CO 58 [ω 1] VaG):CO 47 [Ω c n d] (.ret (Ω false [] (ae 1))):=pK [] 1 1 (.k 4 h0 (.n 3 .nil)) (.c e (.c f .nil))
theorem amM (c:Bool) (n d:List UInt8) (h0:lit false (!(jG c n d))=true) (e:VaW c n d):CO 47 [Ω c n d] (.ret (Ω c n d)):=pK [] 1 0 (.k 7 h0 (.n 3 .nil)) (.c e .nil)
theorem amB (v:Int) (x z:Nat) (h0:lit true (decide (((0:Nat):Int)<=v))=true) (d:CO 58 [ω v] (Vaj z)) (c:CO 58 [ω 1] VaG):CO 27 [ω v] (.ret (Ω false (ae z) (ae 1))):=pK [] 1 1 (.k 4 h0 .nil) (.c c (.c d .nil))
theorem amI (c h:Bool) (n d e g:List UInt8) (h0:lit true (e== [])=true) (f:CO 47 [Ω c n d] (.ret (Ω h e g))):CO 54 [Ω c n d] (.ret (ω 0)):=pK [] 1 1 (.c h0 (.n 5 .nil)) (.c f .nil)
theorem amJ (c f:Bool) (n d e i:List UInt8) (h0:lit true f=true) (g:lit false (e== [])=true) (h:CO 47 [Ω c n d] (.ret (Ω f e i))):CO 54 [Ω c n d] (.ret (ω (-1))):=pK [] 2 2 (.c h0 (.k 1 g (.n 5 .nil))) (.c h .nil)
theorem amK (c f:Bool) (n d e i:List UInt8) (h0:lit false f=true) (g:lit false (e== [])=true) (h:CO 47 [Ω c n d] (.ret (Ω f e i))):CO 54 [Ω c n d] (.ret (ω 1)):=pK [] 2 0 (.c h0 (.k 1 g (.n 5 .nil))) (.c h .nil)
theorem ajE (s t:List UInt8) (x y z:Nat) (e:CO 86 [.str s,ω 3] (Vas x)) (d:CO 86 [.str t,ω 4] (Vas y)) (c:CO 58 [ω (γ .i64 ((x:Int)*(y:Int)))] (Vaj z)):CO 48 [.str s,.str t] (Vaj z):=pK [] 2 3 (.n 2 .nil) (.c c (.c d (.c e .nil)))
theorem VM {x:Nat}:((oz x (ag (ae 1)))==((0:Nat):Int))=decide (x=1):=by
 rw [aI];unfold oz;rcases Xz7 x 1 with h|h|h
 .rw [if_pos h,Yq1 (by omega)];rfl
 .rw [if_neg (by omega),if_neg (by omega),Yq0 h];rfl
 .rw [if_neg (by omega),if_pos h,Yq1 (by omega)];rfl
theorem Au (c:Bool) (n d:List UInt8) (y:n.length<=7) (hd:d.length<=7):CO 85 [Ω c n d] (.ret (.bool (jG c n d))):=by
 have l:=aby n;have k:=aby d;have u:=mM 1;have z:(ae 1).length<=1:=dw (by omega);have x:=N9 d (ae 1) (by omega) (by omega);have A:=Vy n d y hd;have o:=@VM (ag d);cases f:nR n with
 |false=>
  have e:jG c n d=false:=by unfold jG;rw [f];rfl
  rw [e];exact amC c n d 0 (by rw [f];rfl) l k
 | true=>
  cases g:nR d with
  |false=>
   have e:jG c n d=false:=by unfold jG;rw [g];simp
   rw [e];exact amD c n d 0 (by rw [g];rfl) (by rw [f];rfl) l k
  | true=>
   have t:=(qU n).1 f;have v:=(qU d).1 g;by_cases hd0:d= []
   .have e:jG c n d=false:=by
     subst hd0;unfold jG;simp [show ag []=0 from rfl]
    rw [e];exact amE c n d 0 (by rw [hd0];rfl) (by rw [g];rfl) (by rw [f];rfl) l k
   .have m:0<ag d:=by
     rcases Xqf (ag d) with h|h
     .rw [h,dX] at v;exact absurd v.symm hd0
     .exact h
    have j:(d== [])=false:=by simpa using hd0
    by_cases hn0:n= []
    .have i:(n== [])=true:=by simpa using hn0
     have p:ag n=0:=by rw [hn0];rfl
     cases c with
     | false=>
      have h:=amF false n d 0 rfl (by rw [i];rfl) (by rw [j];rfl) (by rw [g];rfl) (by rw [f];rfl) l k u x;rw [o] at h;have e:jG false n d=decide (ag d=1):=by
       rw [Xzx,mD,p,Xw8];simp [f,g];omega
      rw [e];exact h
     | true=>
      have h:=amG true n d 0 rfl (by rw [i];rfl) (by rw [j];rfl) (by rw [g];rfl) (by rw [f];rfl) l k;have e:jG true n d=false:=by
       rw [Bool.eq_false_iff];intro h;have:=(mD.1 h).2.2.2.2 rfl;omega
      rw [e];exact h
    .have i:(n== [])=false:=by simpa using hn0
     have r:0<ag n:=by
      rcases Xqf (ag n) with h|h
      .rw [h,dX] at t;exact absurd t.symm hn0
      .exact h
     have w:(ae (Xxw (ag n) (ag d))).length<=d.length:=oh (Xve _ m);have q:=N9 (ae (Xxw (ag n) (ag d))) (ae 1) (by omega) (by omega);have h:=amH c n d (Xxw (ag n) (ag d)) (by rw [i];rfl) (by rw [j];rfl) (by rw [g];rfl) (by rw [f];rfl) l k A u q;rw [VM,aI] at h;have e:jG c n d=decide (Xxw (ag n) (ag d)=1):=by
      rw [Xzx,mD];simp [f,g,m,r]
     rw [e];exact h
theorem Lm (c:Bool) (n d:List UInt8) (i:n.length<=7:=by omega) (hd:d.length<=7:=by omega):CO 56 [Ω c n d] (.ret (.bool (eP c n d))):=by
 have f:=Au c n d i hd;have g:=Qi n (by omega);have j:=Qi d (by omega);unfold eP;cases e:jG c n d with
 |false=>exact amy c n d (by rw [e];rfl) f
 | true=>
  by_cases h3:dZ (ag n)<=400
  .have h:=amw c n d (by rw [fM,Yq0 h3];rfl) (by rw [e];rfl) f g j;rw [fM] at h;rw [Yq0 h3];exact h
  .have h:=amx c n d (by rw [fM,Yq1 h3];rfl) (by rw [e];rfl) f g;rw [Yq1 h3];exact h
structure RQ where
 neg:Bool
 n:Nat
 d:Nat
def RQ.ok (q:RQ):Prop:=0<q.d/\Xxw q.n q.d=1/\(q.neg=true->0<q.n)
def qA (q:RQ):AV:= .agg [.bool q.neg,.str (ae q.n),.str (ae q.d)]
def q0:RQ:=⟨false,0,1⟩
def kC (neg:Bool) (n d:Nat):RQ:=⟨neg && decide (0<n),n / Xxw n d,d / Xxw n d⟩
def vQ (neg:Bool) (n d:List UInt8):RQ:=if jG neg n d=true then ⟨neg,ag n,ag d⟩ else q0
theorem ET:q0.ok:=⟨by decide,by decide,by simp [q0]⟩
theorem xO (q:RQ) (h:q.ok):jG q.neg (ae q.n) (ae q.d)=true:=by
 rw [mD,aI,aI];exact ⟨yQ _,yQ _,h⟩
theorem U3 {c:Bool} {n d:List UInt8} (h:jG c n d=true):Ω c n d=qA ⟨c,ag n,ag d⟩:=by
 obtain ⟨f,e,_⟩:=mD.1 h;unfold qA;rw [(qU n).1 f,(qU d).1 e]
theorem fJ (c:Bool) (n d:List UInt8):(vQ c n d).ok:=by
 unfold vQ;split
 .rename_i h;obtain ⟨_,_,f,e,h5⟩:=mD.1 h;exact ⟨f,e,h5⟩
 .exact ET
theorem BZ {c:Bool} {n d:Nat} (h:0<d):(kC c n d).ok:=by
 have e:0<Xxw n d:=Xzm _ h;refine ⟨Xvm (Xve _ h) e, ?_, ?_⟩
 .show Xxw (n / Xxw n d) (d / Xxw n d)=1;rw [Nat.gcd_div (Yqy _ _) (Xv4 _ _),Yjd e]
 .intro f;have:0<n:=by simp [kC] at f;exact f.2
  exact Xvm (Nat.gcd_le_left _ this) e
theorem oU (c:Bool) (n d:List UInt8) (g:n.length<=7:=by omega) (hd:d.length<=7:=by omega):CO 47 [Ω c n d] (.ret (qA (vQ c n d))):=by
 have f:=Au c n d g hd;unfold vQ;cases e:jG c n d with
 |false=>
  have h:=amL c n d (by rw [e];rfl) f (mM 1);rw [if_neg (by simp)];unfold qA q0;rw [dX];exact h
 |true=>
  have h:=amM c n d (by rw [e];rfl) f;rw [if_pos rfl,<- U3 e];exact h
theorem uK (c:Bool) (n d:Nat) (j:(ae n).length<=7) (hd:(ae d).length<=7) (h0:0<d):CO 49 [.bool c,.str (ae n),.str (ae d)] (.ret (qA (kC c n d))):=by
 have i:=Vy (ae n) (ae d) j hd;rw [aI,aI] at i;have e:0<Xxw n d:=Xzm _ h0;have l:(ae (Xxw n d)).length<=(ae d).length:=oh (by rw [aI];exact Xve _ h0);have k:=Oe (ae n) (ae (Xxw n d)) j (by omega) (by rw [aI];exact e);have g:=Oe (ae d) (ae (Xxw n d)) hd (by omega) (by rw [aI];exact e);simp only [aI] at k g;rcases Xqf n with rfl|hp
 .have h:=amz c (ae 0) (ae d) 0 (by rw [dX];rfl) (mM 1);unfold qA kC;simp only [Xkc,decide_false,Bool.and_false,Xw8,Nat.zero_div,Yjd h0,dX];rw [dX] at h;exact h
 .have f:ae n ≠ []:=λh=>by have:=fQ.1 h;omega
  have h:=amA c (ae n) (ae d) (Xxw n d) (by simp [lit,f]);simp only [aI] at h;unfold qA kC;simp only [hp,decide_true,Xwo];exact h i k g
def jQ (q:RQ):Int:=if q.n=0 then 0 else if q.neg then -1 else 1
theorem AQ (c:Bool) (n d:List UInt8):rU c n d=jQ (vQ c n d):=by
 unfold rU jQ vQ;cases f:jG c n d with
 |false=>simp [q0]
 | true=>
  simp only [true_and,if_true];by_cases h:0<ag n
  .have e:¬ ag n=0:=by omega
   simp [h,e]
  .have e:ag n=0:=by omega
   simp [e]
theorem Lp (c:Bool) (n d:List UInt8) (j:n.length<=7:=by omega) (hd:d.length<=7:=by omega):CO 54 [Ω c n d] (.ret (ω (rU c n d))):=by
 have f:=oU c n d j hd;rw [AQ];generalize vQ c n d=q at*
 obtain ⟨i,N,D⟩:=q;unfold qA at f;unfold jQ;simp only at f ⊢;rcases Xqf N with rfl|hp
 .rw [if_pos rfl];exact amI c i n d (ae 0) (ae D) (by rw [dX];rfl) f
 .have g:ae N ≠ []:=λh=>by have:=fQ.1 h;omega
  have e:(ae N== [])=false:=by simpa using g
  rw [if_neg (by omega)];cases i with
  |true=>exact amJ c true n d (ae N) (ae D) rfl (by rw [e];rfl) f
  |false=>exact amK c false n d (ae N) (ae D) rfl (by rw [e];rfl) f
def BK (neg:Bool) (n d:List UInt8) (a:Nat):Bool:=((neg==false) && ((n==(ae a)) && ((d==(ae 1)) && true)))
theorem bK (a:Nat) (c:a<9223372036854775808:=by omega):CO 27 [ω (a:Int)] (.ret (I_ false a 1)):=
 amB (a:Int) 0 a (by simp [lit]) (mM a c) (mM 1)
theorem agG:CO 27 [ω 0] (.ret (I_ false 0 1)):=bK 0
def WG:List UInt8:= [97,98,99,100,101,102,103,104,105,106,107,108,109,110,111,112,113,114,115,116,117,118,119,120,121,122,48,49,50,51,52,53,54,55,56,57,95]
def inN (c:Nat):Bool:=(decide (97<=c) && decide (c<=122))||(decide (48<=c) && decide (c<=57))||decide (c=95)
def WF:List Bool:=(List.range 256).map inN
def MH:List AV:=WF.map AV.bool
theorem ahH:CO 207 [.str WG] (.ret (.tup [.agg MH,.bool true])):=KD JV (lf:=3000) (n:=4) (ans:= []) .nil (by kernel_rfl)
theorem ak3 (d:List AV) (c:Nat) (h0:(chk .bool (η (ε (0+((δ (c:Int))*1)) d) .dead))=true) (e:(decide (((0:Nat):Int)<=(c:Int)))=true) (f:(decide ((c:Int)<((256:Nat):Int)))=true):CO 234 [.pp d 0,.int .u8 (c:Int)] (.ret (.bool (Xkv (η (ε (0+((δ (c:Int))*1)) d) .dead)))):=pK [] 0 0 (.c h0 (.c e (.c f .nil))) (.nil)
theorem ap5 {nt:Nat} (d:16<=nt) (s:List UInt8) (c:List AV) (b:Bool) (h0:lit true (!b)=true) (e:(decide (((0:Nat):Int)<(((θ s):Nat):Int)))=true) (g:lit true (decide (((0:Nat):Int)<(((θ s):Nat):Int)))=true) (f:CO 234 [.pp c 0,.int .u8 ((Xxr (Xjc s 0 0):Nat):Int)] (.ret (.bool b))):ψ nt f208 (w_ s (.pp c 0)) (.exit 0) (lV (.str s)):=pJ 208 [] 2 3 (.c h0 (.k 1 e (.c g .nil))) (.c f .nil) d
theorem ap6 {nt:Nat} (f:16<=nt) (s:List UInt8) (c:List AV) (b:Bool) (h0:(decide (((1:Nat):Int)<=(((θ s):Nat):Int)))=true) (g:(decide ((((θ s):Nat):Int)<=(((θ s):Nat):Int)))=true) (i:lit false (!b)=true) (e:(decide (((0:Nat):Int)<(((θ s):Nat):Int)))=true) (d:lit true (decide (((0:Nat):Int)<(((θ s):Nat):Int)))=true) (h:CO 234 [.pp c 0,.int .u8 ((Xxr (Xjc s 0 0):Nat):Int)] (.ret (.bool b))):ψ nt f208 (w_ s (.pp c 0)) (.normal) (w_ (ε 1 (π (δ (((θ s):Nat):Int)) s)) (.pp c 0)):=pJ 208 [] 2 1 (.k 1 h0 (.c g (.c i (.k 1 e (.c d .nil))))) (.c h .nil) f
theorem ap7 {nt:Nat} (c:16<=nt) (s:List UInt8) (d:List AV) (b:Bool) (h0:lit false (decide (((0:Nat):Int)<(((θ s):Nat):Int)))=true):ψ nt f208 (w_ s (.pp d 0)) (.exit 0) (lV (.str s)):=pJ 208 [] 1 0 (.c h0 .nil) (.nil) c
theorem aoA (s r:List UInt8) (c:List AV) (d:LB 16 0 f208 ⟨[(0,.str s),(1,.pp c 0),(4,.str []),(7,.dead),(12,.dead)],[],.dead,[]⟩ (.normal) (lV (.str r))):CO 208 [.str s,.pp c 0] (.ret (.str r)):=pK [0] 0 0 .nil (.l d .nil)
theorem ap8 {nt:Nat} (e:22<=nt) (s:List UInt8) (c:List AV) (b:Bool) (h0:lit true (!b)=true) (f:(decide (((0:Nat):Int)<=(γ .i64 ((((θ s):Nat):Int) - ((1:Nat):Int)))))=true) (h:(decide ((γ .i64 ((((θ s):Nat):Int) - ((1:Nat):Int)))<(((θ s):Nat):Int)))=true) (d:lit true (VaX s)=true) (g:CO 234 [.pp c 0,.int .u8 ((Xxr (Xjc s (δ (γ .i64 ((((θ s):Nat):Int) - ((1:Nat):Int)))) 0):Nat):Int)] (.ret (.bool b))):ψ nt f209 (w_ s (.pp c 0)) (.exit 0) (lV (.str s)):=pJ 209 [] 2 3 (.c h0 (.c f (.c h (.c d .nil)))) (.c g .nil) e
theorem ap9 {nt:Nat} (f:22<=nt) (s:List UInt8) (c:List AV) (b:Bool) (h0:(decide (((0:Nat):Int)<=(γ .i64 ((((θ s):Nat):Int) - ((1:Nat):Int)))))=true) (g:(decide ((γ .i64 ((((θ s):Nat):Int) - ((1:Nat):Int)))<=(((θ s):Nat):Int)))=true) (i:lit false (!b)=true) (e:(decide ((γ .i64 ((((θ s):Nat):Int) - ((1:Nat):Int)))<(((θ s):Nat):Int)))=true) (d:lit true (VaX s)=true) (h:CO 234 [.pp c 0,.int .u8 ((Xxr (Xjc s (δ (γ .i64 ((((θ s):Nat):Int) - ((1:Nat):Int)))) 0):Nat):Int)] (.ret (.bool b))):ψ nt f209 (w_ s (.pp c 0)) (.normal) (w_ (ε 0 (π (δ (γ .i64 ((((θ s):Nat):Int) - ((1:Nat):Int)))) s)) (.pp c 0)):=pJ 209 [] 2 1 (.k 1 h0 (.c g (.c i (.c h0 (.c e (.c d .nil)))))) (.c h .nil) f
theorem ap_ {nt:Nat} (c:22<=nt) (s:List UInt8) (d:List AV) (b:Bool) (h0:lit false (VaX s)=true):ψ nt f209 (w_ s (.pp d 0)) (.exit 0) (lV (.str s)):=pJ 209 [] 1 0 (.c h0 .nil) (.nil) c
theorem aoD (s r:List UInt8) (c:List AV) (d:LB 22 0 f209 ⟨[(0,.str s),(1,.pp c 0),(4,.str []),(7,.dead),(15,.dead)],[],.dead,[]⟩ (.normal) (lV (.str r))):CO 209 [.str s,.pp c 0] (.ret (.str r)):=pK [0] 0 0 .nil (.l d .nil)
theorem ahG:MH=WF.map AV.bool:=rfl
def jv (c:UInt8):Bool:=inN c.toNat
theorem ac8 (i:Fin 256):WF.getD i.val false=inN i.val:=by
 rw [WF,ξ,List.getElem?_map,List.getElem?_range i.isLt];rfl
theorem Ze (c:UInt8):CO 234 [.pp MH 0,.int .u8 (c.toNat:Int)] (.ret (.bool (jv c))):=by
 have e:c.toNat<256:=Xv0 c;have g:WF.length=256:=by rw [WF,List.length_map,List.length_range]
 have f:η (ε c.toNat MH) .dead= .bool (jv c):=by
  have d:=ac8 ⟨c.toNat,e⟩;simp only at d;rw [ahG,<- Xj0,Xxn (by omega),Xqg,Xj1];rw [ξ,μ (by omega)] at d;unfold jv;rw [<- d];rfl
 have h:=ak3 MH c.toNat;rw [aJ,Δ,Xqi,f] at h;exact h rfl (by rw [fM];exact Yq0 (by omega)) (by rw [dm];exact Yq0 e)
def aos (s:List UInt8):St:=(w_ s (.pp MH 0))
def agR (s:List UInt8):St:=(lV (.str s))
theorem afN {nt:Nat} (d:16<=nt):∀ (s:List UInt8),s.length<2^40->aF prog ap [] nt (af 0 (ax f208)) (λ_=> .exit 0) aos agR s (s.dropWhile jv):=by
 intro s
 induction s with
 |nil=>exact λ_=> .done (ap7 d [] MH true rfl)
 | cons c s ih=>
  intro i;simp only [ο] at i;rw [Xx7];have e:=Ze c;cases f:jv c with
  |true=>
   rw [f] at e;refine .next ?_ (by simpa using ih (by omega))
   have h:=ap6 d (c::s) MH true;have g:ε 1 (π (s.length+1) (c::s))=s:=by simp
   simp only [ο,Xzb] at h;simp (disch:=first|omega|(simp [ay,aB]<;>omega)) only [fM,dB,Xxl,gW,Xq8,dm,dJ,aJ,g] at h;apply h<;>first|exact True.intro|omega|assumption|exact rfl
  |false=>
   rw [f] at e;refine .done ?_;have h:=ap5 d (c::s) MH false;simp only [ο,Xzb] at h;simp (disch:=first|omega|(simp [ay,aB]<;>omega)) only [Xq8,dJ,dm,dB] at h;apply h<;>first|exact True.intro|omega|assumption|exact rfl
def trR (s:List UInt8):List UInt8:=(s.reverse.dropWhile jv).reverse
theorem acy (s:List UInt8) (c:UInt8):trR (s++ [c])=if jv c=true then trR s else s++ [c]:=by
 unfold trR;rw [List.reverse_append];simp only [List.reverse_cons,List.reverse_nil,Xqc,Xjw,Xx7];by_cases h:jv c=true
 .simp [h]
 .simp [h]
theorem afQ {nt:Nat} (f:22<=nt):∀ (k:Nat) (s:List UInt8),s.length=k->k<2^40->aF prog ap [] nt (af 0 (ax f209)) (λ_=> .exit 0) aos agR s (trR s):=by
 intro k
 induction k with
 |zero=>
  intro s hs _;have:s= []:=List.eq_nil_of_length_eq_zero hs;subst this;exact .done (ap_ f [] MH true rfl)
 | succ k ih=>
  intro s hs m;rcases List.eq_nil_or_concat s with rfl|⟨s',c,rfl⟩
  .simp at hs
  .rw [List.concat_eq_append] at hs ⊢;have e:s'.length=k:=by simpa using hs
   rw [acy];have g:=Ze c;have l:(s'++ [c]).getD s'.length 0=c:=by simp
   have i:s'.length+1 - 1=s'.length:=rfl;have d:π s'.length (s'++ [c])=s':=by simp
   cases j:jv c with
   |true=>
    rw [j] at g;rw [if_pos rfl];refine .next ?_ (ih s' e (by omega))
    have h:=ap9 f (s'++ [c]) MH true;simp (disch:=first|omega|(simp [ay,aB]<;>omega)) only [ν,ο,Xqa,Δ,mP,i,fM,dB,Xxl,gW,Xq8,dm,dJ,aJ,l,d,Xxz] at h;apply h<;>first|exact True.intro|omega|assumption|exact rfl
   |false=>
    rw [j] at g;rw [if_neg (by simp)];refine .done ?_;have h:=ap8 f (s'++ [c]) MH false;simp (disch:=first|omega|(simp [ay,aB]<;>omega)) only [Xq8,dJ,ν,ο,Xqa,Δ,mP,i,fM,dB,dm,aJ,l] at h;apply h<;>first|exact True.intro|omega|assumption|exact rfl
theorem afR (s u v:List UInt8) (h0:lit true (s== [])=true):CO 180 [.str s,.str WG] (.ret (.str s)):=pK [] 2 3 (.k 1 h0 .nil) (.nil)
theorem afS (s u v:List UInt8) (h0:lit false (s== [])=true) (e:CO 207 [.str WG] (.ret (.tup [.agg MH,.bool true]))) (d:CO 209 [.str s,.pp MH 0] (.ret (.str u))) (c:CO 208 [.str u,.pp MH 0] (.ret (.str v))):CO 180 [.str s,.str WG] (.ret (.str v)):=pK [] 5 16 (.k 5 h0 .nil) (.c c (.c d (.c e .nil)))
theorem aew (s v:List UInt8) (h0:lit true (s== [])=true):CO 150 [.str s] (.ret (.bool false)):=pK [] 4 15 (.k 3 h0 .nil) (.nil)
theorem aex (s v:List UInt8) (h0:lit true (decide (((20:Nat):Int)<(((θ s):Nat):Int)))=true) (c:lit false (s== [])=true):CO 150 [.str s] (.ret (.bool false)):=pK [] 4 14 (.k 2 h0 (.c c .nil)) (.nil)
theorem aey (s v:List UInt8) (h0:lit true (decide (((Xxr (Xjc s 0 0):Nat):Int)<((97:Nat):Int)))=true) (d:(decide (((0:Nat):Int)<(((θ s):Nat):Int)))=true) (e:lit false (decide (((20:Nat):Int)<(((θ s):Nat):Int)))=true) (c:lit false (s== [])=true):CO 150 [.str s] (.ret (.bool false)):=pK [] 4 12 (.k 1 h0 (.k 1 d (.c e (.c c .nil)))) (.nil)
theorem aez (s v:List UInt8) (h0:lit true (decide (((122:Nat):Int)<((Xxr (Xjc s 0 0):Nat):Int)))=true) (c:(decide (((0:Nat):Int)<(((θ s):Nat):Int)))=true) (f:lit false (decide (((Xxr (Xjc s 0 0):Nat):Int)<((97:Nat):Int)))=true) (e:lit false (decide (((20:Nat):Int)<(((θ s):Nat):Int)))=true) (d:lit false (s== [])=true):CO 150 [.str s] (.ret (.bool false)):=pK [] 4 8 (.c h0 (.k 1 c (.c f (.k 1 c (.c e (.c d .nil)))))) (.nil)
theorem aeA (s v:List UInt8) (h0:lit false (decide (((122:Nat):Int)<((Xxr (Xjc s 0 0):Nat):Int)))=true) (c:(decide (((0:Nat):Int)<(((θ s):Nat):Int)))=true) (g:lit false (decide (((Xxr (Xjc s 0 0):Nat):Int)<((97:Nat):Int)))=true) (e:lit false (decide (((20:Nat):Int)<(((θ s):Nat):Int)))=true) (d:lit false (s== [])=true) (f:CO 180 [.str s,.str WG] (.ret (.str v))):CO 150 [.str s] (.ret (.bool (v== []))):=pK [] 4 0 (.c h0 (.k 1 c (.c g (.k 1 c (.c e (.c d .nil)))))) (.c f .nil)
def EQ (s:List UInt8):Bool:= !(s== []) && decide (s.length<=20) && decide (97<=(s.getD 0 0).toNat) && decide ((s.getD 0 0).toNat<=122) && s.all jv
theorem Na {p:UInt8->Bool}:∀ {l:List UInt8},l.dropWhile p= []↔∀ x ∈ l,p x=true
 | []=>by simp
 |c::l=>by
  rw [Xx7];cases h:p c with
  |true=>simp [h,Na (l:=l)]
  |false=>simp [h]
theorem acC {s:List UInt8}:(trR s).dropWhile jv= []↔s.all jv=true:=by
 unfold trR;rw [Xzo];constructor
 .intro h;have f:∀ x ∈ (s.reverse.dropWhile jv),jv x=true:=by
   intro x c;exact Na.1 h x (by simpa using c)
  have i:s.reverse.dropWhile jv= []:=by
   cases hd:s.reverse.dropWhile jv with
   |nil=>rfl
   | cons y r=>
    exfalso;have d:=f y (by rw [hd];simp);have e:∀ (l:List UInt8),l.dropWhile jv=y::r->jv y=false:=by
     intro l
     induction l with
     |nil=>intro h;simp at h
     | cons z l ih=>
      intro h;rw [Xx7] at h;split at h
      .exact ih h
      .rename_i g;cases h;simpa using g
    rw [e _ hd] at d;cases d
  intro x c;exact Na.1 i x (by simpa using c)
 .intro h;have:s.reverse.dropWhile jv= []:=Na.2 λx c=>h x (by simpa using c)
  rw [this];rfl
theorem aj7 (s:List UInt8) (hs:s.length<2^40):CO 208 [.str s,.pp MH 0] (.ret (.str (s.dropWhile jv))):=
 aoA s _ MH (aF.blk (λnt c=>afN c s hs) (by simp) rfl (aK.of ⟨rfl,rfl,trivial⟩) (aK.of ⟨rfl,trivial⟩))
theorem aj8 (s:List UInt8) (hs:s.length<2^40):CO 209 [.str s,.pp MH 0] (.ret (.str (trR s))):=
 aoD s _ MH (aF.blk (λnt c=>afQ c _ s rfl hs) (by simp) rfl (aK.of ⟨rfl,rfl,trivial⟩) (aK.of ⟨rfl,trivial⟩))
theorem afP (s:List UInt8):(trR s).length<=s.length:=by
 unfold trR;rw [List.length_reverse];have:=(List.dropWhile_sublist jv (l:=s.reverse)).length_le;simpa using this
theorem afT (s:List UInt8) (hs:s.length<2^40):CO 180 [.str s,.str WG] (.ret (.str ((trR s).dropWhile jv))):=by
 by_cases h:s= []
 .subst h;exact afR [] [] [] rfl
 .have c:=afP s;exact afS s _ _ (by simp [lit,h]) ahH (aj8 s hs) (aj7 _ (by omega))
theorem n_ (s:List UInt8):CO 150 [.str s] (.ret (.bool (EQ s))):=by
 unfold EQ;by_cases h0:s= []
 .subst h0;exact aew [] [] rfl
 .have c:(s== [])=false:=by simpa using h0
  have f:0<s.length:=by cases s with|nil=>exact absurd rfl h0|cons _ _=>simp
  rw [c];by_cases h1:s.length<=20
  .have d:lit false (decide (((20:Nat):Int)<(s.length:Int)))=true:=by rw [dm];simp [lit,h1]
   have cl:decide (((0:Nat):Int)<(s.length:Int))=true:=by rw [dm];exact Yq0 f
   rw [Yq0 h1];by_cases h2:97<=(s.getD 0 0).toNat
   .rw [Yq0 h2];have g:lit false (decide (((s.getD 0 0).toNat:Int)<((97:Nat):Int)))=true:=by rw [dm];simp only [lit,Xqs];exact Yq1 (by omega)
    by_cases h3:(s.getD 0 0).toNat<=122
    .rw [Yq0 h3];have i:lit false (decide (((122:Nat):Int)<((s.getD 0 0).toNat:Int)))=true:=by rw [dm];simp only [lit,Xqs];exact Yq1 (by omega)
     have h:=aeA s _ i cl g d (by rw [c];rfl) (afT s (by omega));have e:((trR s).dropWhile jv== [])=s.all jv:=by
      rw [Xzx,<- acC];simp
     rw [e] at h;exact h
    .rw [Yq1 h3];exact aez s [] (by rw [dm];exact Yq0 (by omega)) cl g d (by rw [c];rfl)
   .rw [Yq1 h2];exact aey s [] (by rw [dm];exact Yq0 (by omega)) cl d (by rw [c];rfl)
  .rw [Yq1 h1];exact aex s [] (by rw [dm];exact Yq0 (by omega)) (by rw [c];rfl)
def kT:List AV:= [.str [],ω 0,.bool false,.bool false,.bool false,.str [36],ω 0,.bool true,.bool false,.bool false,.str [],ω 0,.bool true,.bool false,.bool false,.str [],ω 0,.bool true,.bool false,.bool false,.str [],ω 0,.bool true,.bool false,.bool false,.str [102,97,99,116,46],ω 0,.bool false,.bool true,.bool false,.str [111,119,110,46],ω 0,.bool false,.bool true,.bool false,.str [112,114,105,111,114,46],ω 0,.bool false,.bool true,.bool false,.str [115,112,111,117,115,101,46],ω 0,.bool false,.bool true,.bool false,.str [97,100,100],ω 2,.bool false,.bool false,.bool false,.str [115,117,98],ω 2,.bool false,.bool false,.bool false,.str [109,117,108],ω 2,.bool false,.bool false,.bool false,.str [100,105,118],ω 2,.bool false,.bool false,.bool false,.str [109,105,110],ω 2,.bool false,.bool false,.bool false,.str [109,97,120],ω 2,.bool false,.bool false,.bool false,.str [105,102],ω 3,.bool false,.bool false,.bool false,.str [108,101,115,115],ω 2,.bool false,.bool false,.bool false,.str [101,113,117,97,108],ω 2,.bool false,.bool false,.bool false,.str [97,110,100],ω 2,.bool false,.bool false,.bool false,.str [111,114],ω 2,.bool false,.bool false,.bool false,.str [110,111,116],ω 1,.bool false,.bool false,.bool false,.str [100,111,119,110],ω 1,.bool false,.bool false,.bool true,.str [117,112],ω 1,.bool false,.bool false,.bool true,.str [110,101,97,114],ω 1,.bool false,.bool false,.bool true,.str [114,97,116,101,46],ω 1,.bool false,.bool true,.bool false]
theorem al_ (c:Int) (h0:lit true (decide (c<((1:Nat):Int)))=true):CO 149 [ω c] (.ret (.tup [.agg zcc2_1,.bool false])):=pK [] 2 3 (.k 7 h0 .nil) (.nil)
theorem ama (c:Int) (h0:lit true (decide (((24:Nat):Int)<c))=true) (d:lit false (decide (c<((1:Nat):Int)))=true):CO 149 [ω c] (.ret (.tup [.agg zcc2_1,.bool false])):=pK [] 2 2 (.k 6 h0 (.c d .nil)) (.nil)
theorem amb (c:Int) (h0:(chk .str (η (ε (0+((δ c)*5)) kT) .dead))=true) (g:(chk (.int .i64) (η (Xj3 (ε (0+((δ c)*5)) kT)) .dead))=true) (i:(chk .bool (η (Xj3 (Xj3 (ε (0+((δ c)*5)) kT))) .dead))=true) (e:(chk .bool (η (Xj3 (Xj3 (Xj3 (ε (0+((δ c)*5)) kT)))) .dead))=true) (d:(chk .bool (η (Xj3 (Xj3 (Xj3 (Xj3 (ε (0+((δ c)*5)) kT))))) .dead))=true) (h5:(decide (((0:Nat):Int)<=c))=true) (h:(decide (c<((25:Nat):Int)))=true) (h7:lit false (decide (((24:Nat):Int)<c))=true) (f:lit false (decide (c<((1:Nat):Int)))=true):CO 149 [ω c] (.ret (.tup [.agg [.str (Xky (η (ε (0+((δ c)*5)) kT) .dead)),ω (Φ (η (Xj3 (ε (0+((δ c)*5)) kT)) .dead)),.bool (Xkv (η (Xj3 (Xj3 (ε (0+((δ c)*5)) kT))) .dead)),.bool (Xkv (η (Xj3 (Xj3 (Xj3 (ε (0+((δ c)*5)) kT)))) .dead)),.bool (Xkv (η (Xj3 (Xj3 (Xj3 (Xj3 (ε (0+((δ c)*5)) kT))))) .dead))],.bool true])):=pK [] 2 0 (.k 6 h0 (.c g (.c i (.c e (.c d (.c h5 (.c h (.c h7 (.c f .nil))))))))) (.nil)
def j_ (op:Int):Nat:=if op=15 then 3 else if (9<=op/\op<=14)\/(16<=op/\op<=19) then 2 else if 20<=op/\op<=24 then 1 else 0
def PZ (op:Int):Bool:=decide ((5<=op/\op<=8)\/op=24)
def PL (op:Int):Bool:=decide (1<=op/\op<=4)
def Ug (op:Int):Bool:=decide (21<=op/\op<=23)
def acL (op:Int):List UInt8:=Xky (η (ε (0+((δ op)*5)) kT) .dead)
theorem Qb {c:Int} (h:1<=c) (d:c<=24):c=1\/c=2\/c=3\/c=4\/c=5\/c=6\/c=7\/c=8\/c=9\/c=10\/c=11\/c=12\/c=13\/c=14\/c=15\/c=16\/c=17\/c=18\/c=19\/c=20\/c=21\/c=22\/c=23\/c=24:=by omega
abbrev shA (op:Int):AV:= .agg [.str (acL op),ω ((j_ op:Nat):Int),.bool (PL op),.bool (PZ op),.bool (Ug op)]
theorem amf {c:Int} (h:1<=c) (d:c<=24):CO 149 [ω c] (.ret (.tup [shA c,.bool true])):=by
 rcases Qb h d with rfl|rfl|rfl|rfl|rfl|rfl|rfl|rfl|rfl|rfl|rfl|rfl|rfl|rfl|rfl|rfl|rfl|rfl|rfl|rfl|rfl|rfl|rfl|rfl
 all_goals exact amb _ rfl rfl rfl rfl rfl rfl rfl rfl rfl
theorem ai9 {c:Int} (h:c<1\/24<c):CO 149 [ω c] (.ret (.tup [.agg zcc2_1,.bool false])):=by
 by_cases h1:c<1
 .exact al_ c (by simp [lit];omega)
 .exact ama c (by simp [lit];omega) (by simp [lit];omega)
theorem Uk {c:Int} (h:1<=c) (d:c<=24):η (ε (c.toNat*5+1) kT) .dead= ω ((j_ c:Nat):Int):=by
 rcases Qb h d with rfl|rfl|rfl|rfl|rfl|rfl|rfl|rfl|rfl|rfl|rfl|rfl|rfl|rfl|rfl|rfl|rfl|rfl|rfl|rfl|rfl|rfl|rfl|rfl
 all_goals rfl
def inI (op:Int):Bool:=decide (1<=op/\op<=24)
theorem dA (c:Int):CO 149 [ω c] (.ret (.tup [shA c,.bool (inI c)])):=by
 by_cases h:1<=c/\c<=24
 .have e:inI c=true:=Yq0 h;rw [e];exact amf h.1 h.2
 .have e:inI c=false:=Yq1 h;have g:j_ c=0:=by unfold j_;(repeat' split)<;>omega
  have d:PL c=false:=by unfold PL;rw [decide_eq_false_iff_not];omega
  have i:PZ c=false:=by unfold PZ;rw [decide_eq_false_iff_not];omega
  have f:Ug c=false:=by unfold Ug;rw [decide_eq_false_iff_not];omega
  have j:acL c= []:=by
   unfold acL;by_cases h1:c<1
   .have:c.toNat=0:=by omega
    rw [this];rfl
   .have k:kT.length=125:=by decide
    rw [Xjr (by omega)];rfl
  unfold shA;rw [e,g,d,i,f,j];exact ai9 (by omega)
structure Nd where
 op:Int
 neg:Bool
 num:List UInt8
 den:List UInt8
 name:List UInt8
def xg (x:Nd):List AV:= [ω x.op,.bool x.neg,.str x.num,.str x.den,.str x.name]
def Nd.sm (x:Nd):Prop:=x.num.length<2^33/\x.den.length<2^33
def jW (x:Nd):Bool:=cond (x.op==((4:Nat):Int)) (BK x.neg x.num x.den 0||BK x.neg x.num x.den 1) (cond (PL x.op) (eP x.neg x.num x.den) (cond (Ug x.op) (eP x.neg x.num x.den && decide (((0:Nat):Int)<rU x.neg x.num x.den)) ((x.neg==false) && ((x.num== []) && ((x.den== []) && true)))))
def aQ (x:Nd):Int:=cond (!inI x.op||(!PZ x.op && !(x.name== []))) 11 (cond (!jW x) 11 (cond (PZ x.op && !EQ x.name) 12 0))
theorem acM (x:Nd) (e:x.sm):CO 106 [.agg (xg x)] (.ret (ω (aQ x))):=by
 have c:x.num.length<2^36:=Xzj e.1 (by decide);have d:x.den.length<2^36:=Xzj e.2 (by decide);rcases tf (inI x.op) with b0|b0
 .rcases tf (PZ x.op) with b1|b1
  .rcases tf (x.op==((4:Nat):Int)) with b2|b2
   .rcases tf ((x.neg==false) && ((x.num==(ae 0)) && ((x.den==(ae 1)) && true))) with b3|b3
    .rcases tf (EQ x.name) with b4|b4
     .rw [show aQ x=0 by simp only [aQ,jW,BK,b0,b1,b2,b3,b4]<;>rfl];exact pK [] 8 88 (.c (aP b4) (.k 1 (aA b1) (.k 2 (aA b3) (.k 3 (aA b2) (.k 2 (aP b1) (.k 1 (aP b0) (.n 2 .nil))))))) (.c (n_ x.name) (.c (lC) (.c (dA x.op) .nil)))
     .rw [show aQ x=12 by simp only [aQ,jW,BK,b0,b1,b2,b3,b4]<;>rfl];exact pK [] 8 216 (.c (dC b4) (.k 1 (aA b1) (.k 2 (aA b3) (.k 3 (aA b2) (.k 2 (aP b1) (.k 1 (aP b0) (.n 2 .nil))))))) (.c (n_ x.name) (.c (lC) (.c (dA x.op) .nil)))
    .rcases tf ((x.neg==false) && ((x.num==(ae 1)) && ((x.den==(ae 1)) && true))) with b4|b4
     .rcases tf (EQ x.name) with b5|b5
      .rw [show aQ x=0 by simp only [aQ,jW,BK,b0,b1,b2,b3,b4,b5]<;>rfl];exact pK [] 8 72 (.c (aP b5) (.k 1 (aA b1) (.k 1 (aP b4) (.k 3 (az b3) (.k 3 (aA b2) (.k 2 (aP b1) (.k 1 (aP b0) (.n 2 .nil)))))))) (.c (n_ x.name) (.c (yc) (.c (lC) (.c (dA x.op) .nil))))
      .rw [show aQ x=12 by simp only [aQ,jW,BK,b0,b1,b2,b3,b4,b5]<;>rfl];exact pK [] 8 200 (.c (dC b5) (.k 1 (aA b1) (.k 1 (aP b4) (.k 3 (az b3) (.k 3 (aA b2) (.k 2 (aP b1) (.k 1 (aP b0) (.n 2 .nil)))))))) (.c (n_ x.name) (.c (yc) (.c (lC) (.c (dA x.op) .nil))))
     .rw [show aQ x=11 by simp only [aQ,jW,BK,b0,b1,b2,b3,b4]<;>rfl];exact pK [] 6 40 (.c (dC b4) (.k 3 (az b3) (.k 3 (aA b2) (.k 2 (aP b1) (.k 1 (aP b0) (.n 2 .nil)))))) (.c (yc) (.c (lC) (.c (dA x.op) .nil)))
   .rcases tf (PL x.op) with b3|b3
    .rcases tf (eP x.neg x.num x.den) with b4|b4
     .rcases tf (EQ x.name) with b5|b5
      .rw [show aQ x=0 by simp only [aQ,jW,BK,b0,b1,b2,b3,b4,b5]<;>rfl];exact pK [] 8 80 (.c (aP b5) (.k 1 (aA b1) (.k 1 (aP b4) (.k 3 (aA b3) (.k 1 (az b2) (.k 2 (aP b1) (.k 1 (aP b0) (.n 2 .nil)))))))) (.c (n_ x.name) (.c (eu x.neg x.num x.den c d) (.c (dA x.op) .nil)))
      .rw [show aQ x=12 by simp only [aQ,jW,BK,b0,b1,b2,b3,b4,b5]<;>rfl];exact pK [] 8 208 (.c (dC b5) (.k 1 (aA b1) (.k 1 (aP b4) (.k 3 (aA b3) (.k 1 (az b2) (.k 2 (aP b1) (.k 1 (aP b0) (.n 2 .nil)))))))) (.c (n_ x.name) (.c (eu x.neg x.num x.den c d) (.c (dA x.op) .nil)))
     .rw [show aQ x=11 by simp only [aQ,jW,BK,b0,b1,b2,b3,b4]<;>rfl];exact pK [] 6 48 (.c (dC b4) (.k 3 (aA b3) (.k 1 (az b2) (.k 2 (aP b1) (.k 1 (aP b0) (.n 2 .nil)))))) (.c (eu x.neg x.num x.den c d) (.c (dA x.op) .nil))
    .rcases tf (Ug x.op) with b4|b4
     .rcases tf (eP x.neg x.num x.den) with b5|b5
      .rcases tf (decide (((0:Nat):Int)<(rU x.neg x.num x.den))) with b6|b6
       .rcases tf (EQ x.name) with b7|b7
        .rw [show aQ x=0 by simp only [aQ,jW,BK,b0,b1,b2,b3,b4,b5,b6,b7]<;>rfl];exact pK [] 10 352 (.c (aP b7) (.k 1 (aA b1) (.k 1 (aP b6) (.k 3 (aA b5) (.k 3 (aA b4) (.k 1 (az b3) (.k 1 (az b2) (.k 2 (aP b1) (.k 1 (aP b0) (.n 2 .nil)))))))))) (.c (n_ x.name) (.c (kP x.neg x.num x.den c d) (.c (eu x.neg x.num x.den c d) (.c (dA x.op) .nil))))
        .rw [show aQ x=12 by simp only [aQ,jW,BK,b0,b1,b2,b3,b4,b5,b6,b7]<;>rfl];exact pK [] 10 864 (.c (dC b7) (.k 1 (aA b1) (.k 1 (aP b6) (.k 3 (aA b5) (.k 3 (aA b4) (.k 1 (az b3) (.k 1 (az b2) (.k 2 (aP b1) (.k 1 (aP b0) (.n 2 .nil)))))))))) (.c (n_ x.name) (.c (kP x.neg x.num x.den c d) (.c (eu x.neg x.num x.den c d) (.c (dA x.op) .nil))))
       .rw [show aQ x=11 by simp only [aQ,jW,BK,b0,b1,b2,b3,b4,b5,b6]<;>rfl];exact pK [] 8 224 (.c (dC b6) (.k 3 (aA b5) (.k 3 (aA b4) (.k 1 (az b3) (.k 1 (az b2) (.k 2 (aP b1) (.k 1 (aP b0) (.n 2 .nil)))))))) (.c (kP x.neg x.num x.den c d) (.c (eu x.neg x.num x.den c d) (.c (dA x.op) .nil)))
      .rw [show aQ x=11 by simp only [aQ,jW,BK,b0,b1,b2,b3,b4,b5]<;>rfl];exact pK [] 8 160 (.k 1 (az b5) (.k 3 (aA b4) (.k 1 (az b3) (.k 1 (az b2) (.k 2 (aP b1) (.k 1 (aP b0) (.n 2 .nil))))))) (.c (eu x.neg x.num x.den c d) (.c (dA x.op) .nil))
     .rcases tf ((x.neg==false) && ((x.num== []) && ((x.den== []) && true))) with b5|b5
      .rcases tf (EQ x.name) with b6|b6
       .rw [show aQ x=0 by simp only [aQ,jW,BK,b0,b1,b2,b3,b4,b5,b6]<;>rfl];exact pK [] 9 128 (.c (aP b6) (.k 1 (aA b1) (.k 1 (aP b5) (.k 3 (az b4) (.k 1 (az b3) (.k 1 (az b2) (.k 2 (aP b1) (.k 1 (aP b0) (.n 2 .nil))))))))) (.c (n_ x.name) (.c (dA x.op) .nil))
       .rw [show aQ x=12 by simp only [aQ,jW,BK,b0,b1,b2,b3,b4,b5,b6]<;>rfl];exact pK [] 9 384 (.c (dC b6) (.k 1 (aA b1) (.k 1 (aP b5) (.k 3 (az b4) (.k 1 (az b3) (.k 1 (az b2) (.k 2 (aP b1) (.k 1 (aP b0) (.n 2 .nil))))))))) (.c (n_ x.name) (.c (dA x.op) .nil))
      .rw [show aQ x=11 by simp only [aQ,jW,BK,b0,b1,b2,b3,b4,b5]<;>rfl];exact pK [] 7 64 (.c (dC b5) (.k 3 (az b4) (.k 1 (az b3) (.k 1 (az b2) (.k 2 (aP b1) (.k 1 (aP b0) (.n 2 .nil))))))) (.c (dA x.op) .nil)
  .rcases tf (x.name== []) with b2|b2
   .rcases tf (x.op==((4:Nat):Int)) with b3|b3
    .rcases tf ((x.neg==false) && ((x.num==(ae 0)) && ((x.den==(ae 1)) && true))) with b4|b4
     .rw [show aQ x=0 by simp only [aQ,jW,BK,b0,b1,b2,b3,b4]<;>rfl];exact pK [] 8 26 (.k 1 (az b1) (.k 2 (aA b4) (.k 3 (aA b3) (.k 1 (aP b2) (.k 1 (dC b1) (.k 1 (aP b0) (.n 2 .nil))))))) (.c (lC) (.c (dA x.op) .nil))
     .rcases tf ((x.neg==false) && ((x.num==(ae 1)) && ((x.den==(ae 1)) && true))) with b5|b5
      .rw [show aQ x=0 by simp only [aQ,jW,BK,b0,b1,b2,b3,b4,b5]<;>rfl];exact pK [] 8 10 (.k 1 (az b1) (.k 1 (aP b5) (.k 3 (az b4) (.k 3 (aA b3) (.k 1 (aP b2) (.k 1 (dC b1) (.k 1 (aP b0) (.n 2 .nil)))))))) (.c (yc) (.c (lC) (.c (dA x.op) .nil)))
      .rw [show aQ x=11 by simp only [aQ,jW,BK,b0,b1,b2,b3,b4,b5]<;>rfl];exact pK [] 6 42 (.c (dC b5) (.k 3 (az b4) (.k 3 (aA b3) (.k 1 (aP b2) (.k 1 (dC b1) (.k 1 (aP b0) (.n 2 .nil))))))) (.c (yc) (.c (lC) (.c (dA x.op) .nil)))
    .rcases tf (PL x.op) with b4|b4
     .rcases tf (eP x.neg x.num x.den) with b5|b5
      .rw [show aQ x=0 by simp only [aQ,jW,BK,b0,b1,b2,b3,b4,b5]<;>rfl];exact pK [] 8 18 (.k 1 (az b1) (.k 1 (aP b5) (.k 3 (aA b4) (.k 1 (az b3) (.k 1 (aP b2) (.k 1 (dC b1) (.k 1 (aP b0) (.n 2 .nil)))))))) (.c (eu x.neg x.num x.den c d) (.c (dA x.op) .nil))
      .rw [show aQ x=11 by simp only [aQ,jW,BK,b0,b1,b2,b3,b4,b5]<;>rfl];exact pK [] 6 50 (.c (dC b5) (.k 3 (aA b4) (.k 1 (az b3) (.k 1 (aP b2) (.k 1 (dC b1) (.k 1 (aP b0) (.n 2 .nil))))))) (.c (eu x.neg x.num x.den c d) (.c (dA x.op) .nil))
     .rcases tf (Ug x.op) with b5|b5
      .rcases tf (eP x.neg x.num x.den) with b6|b6
       .rcases tf (decide (((0:Nat):Int)<(rU x.neg x.num x.den))) with b7|b7
        .rw [show aQ x=0 by simp only [aQ,jW,BK,b0,b1,b2,b3,b4,b5,b6,b7]<;>rfl];exact pK [] 10 98 (.k 1 (az b1) (.k 1 (aP b7) (.k 3 (aA b6) (.k 3 (aA b5) (.k 1 (az b4) (.k 1 (az b3) (.k 1 (aP b2) (.k 1 (dC b1) (.k 1 (aP b0) (.n 2 .nil)))))))))) (.c (kP x.neg x.num x.den c d) (.c (eu x.neg x.num x.den c d) (.c (dA x.op) .nil)))
        .rw [show aQ x=11 by simp only [aQ,jW,BK,b0,b1,b2,b3,b4,b5,b6,b7]<;>rfl];exact pK [] 8 226 (.c (dC b7) (.k 3 (aA b6) (.k 3 (aA b5) (.k 1 (az b4) (.k 1 (az b3) (.k 1 (aP b2) (.k 1 (dC b1) (.k 1 (aP b0) (.n 2 .nil))))))))) (.c (kP x.neg x.num x.den c d) (.c (eu x.neg x.num x.den c d) (.c (dA x.op) .nil)))
       .rw [show aQ x=11 by simp only [aQ,jW,BK,b0,b1,b2,b3,b4,b5,b6]<;>rfl];exact pK [] 8 162 (.k 1 (az b6) (.k 3 (aA b5) (.k 1 (az b4) (.k 1 (az b3) (.k 1 (aP b2) (.k 1 (dC b1) (.k 1 (aP b0) (.n 2 .nil)))))))) (.c (eu x.neg x.num x.den c d) (.c (dA x.op) .nil))
      .rcases tf ((x.neg==false) && ((x.num== []) && ((x.den== []) && true))) with b6|b6
       .rw [show aQ x=0 by simp only [aQ,jW,BK,b0,b1,b2,b3,b4,b5,b6]<;>rfl];exact pK [] 9 2 (.k 1 (az b1) (.k 1 (aP b6) (.k 3 (az b5) (.k 1 (az b4) (.k 1 (az b3) (.k 1 (aP b2) (.k 1 (dC b1) (.k 1 (aP b0) (.n 2 .nil))))))))) (.c (dA x.op) .nil)
       .rw [show aQ x=11 by simp only [aQ,jW,BK,b0,b1,b2,b3,b4,b5,b6]<;>rfl];exact pK [] 7 66 (.c (dC b6) (.k 3 (az b5) (.k 1 (az b4) (.k 1 (az b3) (.k 1 (aP b2) (.k 1 (dC b1) (.k 1 (aP b0) (.n 2 .nil)))))))) (.c (dA x.op) .nil)
   .rw [show aQ x=11 by simp only [aQ,jW,BK,b0,b1,b2]<;>rfl];exact pK [] 3 6 (.c (dC b2) (.k 1 (dC b1) (.k 1 (aP b0) (.n 2 .nil)))) (.c (dA x.op) .nil)
 .rw [show aQ x=11 by simp only [aQ,jW,BK,b0]<;>rfl];exact pK [] 2 3 (.k 1 (dC b0) (.n 2 .nil)) (.c (dA x.op) .nil)
def aX (l:List Nd):List AV:=l.flatMap xg
theorem apc {nt:Nat} (i:35<=nt) (l:List Nd) (e:Bool) (k d:Nat) (w:Int) (x:Nd) (r:List Nd) (c:(ε ((δ (k:Int))*5) (aX l))=xg x++aX r) (h0:lit true (!(w==((0:Nat):Int)))=true) (g:(decide (((0:Nat):Int)<=(k:Int)))=true) (m:(decide ((k:Int)<(l.length:Int)))=true) (f:lit true (decide ((k:Int)<(l.length:Int)))=true) (j:CO 106 [.agg [ω x.op,.bool x.neg,.str x.num,.str x.den,.str x.name]] (.ret (ω w))):ψ nt f64 (CY (.sl (aX l) l.length e) l.length (k:Int) (d:Int)) (.ret) (E8 w):=
 have h:ψ nt f64 (CY (.sl (aX l) l.length e) l.length (k:Int) (d:Int)) (.ret) ⟨[(2,ω w)],[(0,⟨[ω x.op,.bool x.neg,.str x.num,.str x.den,.str x.name],0,false,0,0,true⟩)],.dead,[]⟩:=pJ 64 [] 2 3 (.c h0 (.k 11 g (.c m (.c f .nil)))) (.c j (.v 14 (.ppt c) .nil)) i
 h.forgetD 0 ⟨[ω x.op,.bool x.neg,.str x.num,.str x.den,.str x.name],0,false,0,0,true⟩ (by intro v h;cases h) (by decide) rfl ⟨Fz.same rfl,trivial⟩ rfl rfl
theorem apd {nt:Nat} (n:35<=nt) (l:List Nd) (e:Bool) (k d:Nat) (w:Int) (x:Nd) (r:List Nd) (c:(ε ((δ (k:Int))*5) (aX l))=xg x++aX r) (h0:lit true (decide ((γ .i64 ((d:Int) - (Φ (η (ε ((0+((δ x.op)*5))+1) kT) .dead))))<((0:Nat):Int)))=true) (o:(chk (.int .i64) (η (ε ((0+((δ x.op)*5))+1) kT) .dead))=true) (g:(decide (((0:Nat):Int)<=x.op))=true) (j:(decide (x.op<((25:Nat):Int)))=true) (i:lit false (!(w==((0:Nat):Int)))=true) (h5:(decide (((0:Nat):Int)<=(k:Int)))=true) (m:(decide ((k:Int)<(l.length:Int)))=true) (h7:lit true (decide ((k:Int)<(l.length:Int)))=true) (f:CO 106 [.agg [ω x.op,.bool x.neg,.str x.num,.str x.den,.str x.name]] (.ret (ω w))):ψ nt f64 (CY (.sl (aX l) l.length e) l.length (k:Int) (d:Int)) (.ret) (E8 11):=
 have h:ψ nt f64 (CY (.sl (aX l) l.length e) l.length (k:Int) (d:Int)) (.ret) ⟨[(2,ω 11)],[(0,⟨[ω x.op,.bool x.neg,.str x.num,.str x.den,.str x.name],0,false,0,0,true⟩)],.dead,[]⟩:=pJ 64 [] 3 5 (.c h0 (.c o (.c g (.c j (.k 1 i (.k 11 h5 (.c m (.c h7 .nil)))))))) (.c f (.v 14 (.ppt c) .nil)) n
 h.forgetD 0 ⟨[ω x.op,.bool x.neg,.str x.num,.str x.den,.str x.name],0,false,0,0,true⟩ (by intro v h;cases h) (by decide) rfl ⟨Fz.same rfl,trivial⟩ rfl rfl
theorem ape {nt:Nat} (n:35<=nt) (l:List Nd) (c:Bool) (k d:Nat) (w:Int) (x:Nd) (r:List Nd) (e:(ε ((δ (k:Int))*5) (aX l))=xg x++aX r) (h0:lit false (decide ((γ .i64 ((d:Int) - (Φ (η (ε ((0+((δ x.op)*5))+1) kT) .dead))))<((0:Nat):Int)))=true) (o:(chk (.int .i64) (η (ε ((0+((δ x.op)*5))+1) kT) .dead))=true) (g:(decide (((0:Nat):Int)<=x.op))=true) (j:(decide (x.op<((25:Nat):Int)))=true) (i:lit false (!(w==((0:Nat):Int)))=true) (h5:(decide (((0:Nat):Int)<=(k:Int)))=true) (m:(decide ((k:Int)<(l.length:Int)))=true) (h7:lit true (decide ((k:Int)<(l.length:Int)))=true) (f:CO 106 [.agg [ω x.op,.bool x.neg,.str x.num,.str x.den,.str x.name]] (.ret (ω w))):ψ nt f64 (CY (.sl (aX l) l.length c) l.length (k:Int) (d:Int)) (.normal) (CY (.sl (aX l) l.length c) l.length (γ .i64 ((k:Int)+((1:Nat):Int))) (γ .i64 ((γ .i64 ((d:Int) - (Φ (η (ε ((0+((δ x.op)*5))+1) kT) .dead))))+((1:Nat):Int)))):=
 have h:ψ nt f64 (CY (.sl (aX l) l.length c) l.length (k:Int) (d:Int)) (.normal) ⟨[(10,.sl (aX l) l.length c),(11,ω (l.length:Int)),(12,ω (γ .i64 ((k:Int)+((1:Nat):Int)))),(3,ω (γ .i64 ((γ .i64 ((d:Int) - (Φ (η (ε ((0+((δ x.op)*5))+1) kT) .dead))))+((1:Nat):Int))))],[(0,⟨[ω x.op,.bool x.neg,.str x.num,.str x.den,.str x.name],0,false,0,0,true⟩)],.dead,[]⟩:=pJ 64 [] 3 1 (.c h0 (.c o (.c g (.c j (.k 1 i (.k 11 h5 (.c m (.c h7 .nil)))))))) (.c f (.v 14 (.ppt e) .nil)) n
 h.forgetD 0 ⟨[ω x.op,.bool x.neg,.str x.num,.str x.den,.str x.name],0,false,0,0,true⟩ (by intro v h;cases h) (by decide) rfl ⟨Fz.same rfl,Fz.same rfl,Fz.same rfl,Fz.same rfl,trivial⟩ rfl rfl
theorem Y8 {nt:Nat} (e:35<=nt) (l:List Nd) (c:Bool) (k d:Nat) (w:Int) (h0:lit false (decide ((k:Int)<(l.length:Int)))=true):ψ nt f64 (CY (.sl (aX l) l.length c) l.length (k:Int) (d:Int)) (.exit 0) (Jv (ω (d:Int))):=pJ 64 [] 1 0 (.c h0 .nil) (.nil) e
abbrev VaQ (a:List Nd) (b:Bool):List AV:=[.sl (aX a) a.length b]
theorem akW (l:List Nd) (c:Bool) (d:Nat) (h0:lit true (decide (((60:Nat):Int)<(l.length:Int)))=true):CO 64 (VaQ l c) (.ret (ω 2)):=pK [0] 1 1 (.c h0 .nil) (.nil)
abbrev VaY (a:List Nd):Prop:=lit false (decide (((60:Nat):Int)<(a.length:Int)))=true
theorem akX (l:List Nd) (c:Bool) (d:Nat) (h0:lit true (!((d:Int)==((1:Nat):Int)))=true) (e:VaY l) (f:LB 35 0 f64 (acd (.sl (aX l) l.length c) (decide (((60:Nat):Int)<(l.length:Int))) (.sl (aX l) l.length c) l.length) (.normal) (Jv (ω (d:Int)))):CO 64 (VaQ l c) (.ret (ω 11)):=pK [0] 2 2 (.c h0 (.c e .nil)) (.l f .nil)
theorem akY (l:List Nd) (c:Bool) (d:Nat) (h0:lit false (!((d:Int)==((1:Nat):Int)))=true) (e:VaY l) (f:LB 35 0 f64 (acd (.sl (aX l) l.length c) (decide (((60:Nat):Int)<(l.length:Int))) (.sl (aX l) l.length c) l.length) (.normal) (Jv (ω (d:Int)))):CO 64 (VaQ l c) (.ret (ω 0)):=pK [0] 2 0 (.c h0 (.c e .nil)) (.l f .nil)
theorem akZ (l:List Nd) (c:Bool) (w:Int) (h0:VaY l) (d:LB 35 0 f64 (acd (.sl (aX l) l.length c) (decide (((60:Nat):Int)<(l.length:Int))) (.sl (aX l) l.length c) l.length) (.ret) (E8 w)):CO 64 (VaQ l c) (.ret (ω w)):=pK [0] 1 0 (.c h0 .nil) (.l d .nil)
theorem P5 (x:Nd) (r:List Nd):aX (x::r)=xg x++aX r:=rfl
theorem Vh (a b:List Nd):aX (a++b)=aX a++aX b:=by unfold aX;rw [List.flatMap_append]
theorem yS (l:List Nd):(aX l).length=l.length*5:=by
 induction l with
 |nil=>rfl
 |cons x r ih=>rw [P5,ν,ih,ο];simp [xg];omega
theorem Gi {p r:List Nd} {x:Nd} {k:Nat} (h:k=p.length):ε (δ (k:Int)*5) (aX (p++x::r))=xg x++aX r:=by
 subst h;rw [aJ,Vh,P5,<- yS,List.drop_left]
def pY:List Nd->Nat->Nat ⊕ Int
 | [],d=> .inl d
 |x::r,d=>if aQ x=0 then (if d<j_ x.op then .inr 11 else pY r (d - j_ x.op+1)) else .inr (aQ x)
def dE (l:List Nd):Int:=if 60<l.length then 2 else match pY l 0 with| .inl d=>if d=1 then 0 else 11| .inr w=>w
def adg:Nat ⊕ Int->bI
 | .inl _=> .exit 0
 | .inr _=> .ret
def WM (l:List Nd) (nn:Bool) (p:Nat × Nat):St:=(CY (.sl (aX l) l.length nn) l.length (p.1:Int) (p.2:Int))
def UG:Nat ⊕ Int->St
 | .inl d=>(Jv (.int .i64 (d:Int)))
 | .inr w=>(E8 w)
theorem Rt (c:Int):j_ c<=3:=by unfold j_;(repeat' split)<;>omega
theorem yC {x:Nd} (h:aQ x=0):1<=x.op/\x.op<=24:=by
 cases c:inI x.op with
 |true=>simpa [inI] using c
 |false=>unfold aQ at h;rw [c] at h;simp at h
theorem Y9 {nt:Nat} (k:35<=nt) (l p r:List Nd) (e:Bool) (x:Nd) (d:Nat) (w:x.sm) (o:l=p++x::r) (y:l.length<2^40) (hd:d<2^41):
  (¬ aQ x=0->ψ nt f64 (WM l e (p.length,d)) .ret (UG (.inr (aQ x))))/\
  (aQ x=0->d<j_ x.op->ψ nt f64 (WM l e (p.length,d)) .ret (UG (.inr 11)))/\
  (aQ x=0->¬ d<j_ x.op->ψ nt f64 (WM l e (p.length,d)) .normal (WM l e (p.length+1,d - j_ x.op+1))):=by
 have f:ε (δ (p.length:Int)*5) (aX l)=xg x++aX r:=by rw [o];exact Gi rfl
 have t:p.length+(r.length+1)=l.length:=by rw [o];simp
 have q:=acM x w;have u:=Rt x.op;unfold WM UG;refine ⟨λg=> ?_,λg v=> ?_,λg v=> ?_⟩
 .have c:=apc k l e p.length d (aQ x) x r f;have i:(!(aQ x==((0:Nat):Int)))=true:=by simpa using g
  simp (disch:=first|omega|(simp [ay,aB]<;>omega)) only [i,dJ,fM,dB,dm] at c;apply c<;>first|exact True.intro|omega|assumption|exact rfl
 .obtain ⟨m,h⟩:=yC g;have n:=Uk m h;rw [g] at q;have c:=apd k l e p.length d 0 x r f;have j:γ .i64 ((d:Int) - ((j_ x.op:Nat):Int))=(d:Int) - (j_ x.op:Int):=dM (by omega) (by omega);simp (disch:=first|omega|(simp [ay,aB]<;>omega)) only [Δ,n,bM,j,dJ,dB,iD,gW,iw,aaZ,fM,dm] at c;apply c<;>first|exact True.intro|omega|assumption|exact rfl
 .obtain ⟨m,h⟩:=yC g;have n:=Uk m h;rw [g] at q;have c:=ape k l e p.length d 0 x r f;have j:γ .i64 ((d:Int) - ((j_ x.op:Nat):Int))=((d - j_ x.op:Nat):Int):=by rw [dM]<;>omega
  simp (disch:=first|omega|(simp [ay,aB]<;>omega)) only [Δ,n,bM,j,dm,gW,iw,iR,iD,dB,aaZ,fM,dJ,dP,bF] at c;apply c<;>first|exact True.intro|omega|assumption|exact rfl
theorem adi {nt:Nat} (g:35<=nt) (l:List Nd) (c:Bool) (e:l.length<2^40) (f:∀ x ∈ l,x.sm):∀ (r p:List Nd) (d:Nat),p++r=l->d<=p.length->aF prog ap [] nt (af 0 (ax f64)) adg (WM l c) UG (p.length,d) (pY r d):=by
 intro r
 induction r with
 |nil=>
  intro p d h _;have hp:p.length=l.length:=by rw [<- h];simp
  rw [hp];exact .done (Y8 g l c l.length d 0 (by rw [dm];simp [lit]))
 | cons x r ih=>
  intro p d h hd;have m:p.length+(r.length+1)=l.length:=by rw [<- h];simp
  obtain ⟨i,k,j⟩:=Y9 g l p r c x d (f x (by rw [<- h];simp)) h.symm e (by omega);simp only [pY];by_cases h1:aQ x=0
  .rw [if_pos h1];by_cases h2:d<j_ x.op
   .rw [if_pos h2];exact .done (k h1 h2)
   .rw [if_neg h2];have hnext:=ih (p++ [x]) (d - j_ x.op+1) (by simp [h]) (by simp;omega);rw [ν,Θ] at hnext;exact .next (j h1 h2) hnext
  .rw [if_neg h1];exact .done (i h1)
theorem xA (l:List Nd) (c:Bool) (e:∀ x ∈ l,x.sm):CO 64 [.sl (aX l) l.length c] (.ret (ω (dE l))):=by
 unfold dE;by_cases h60:60<l.length
 .rw [if_pos h60];exact akW l c 0 (by rw [dm];exact Yq0 h60)
 .rw [if_neg h60];have f:lit false (decide (((60:Nat):Int)<(l.length:Int)))=true:=by rw [dm];simp only [lit,Xqs];exact Yq1 h60
  have hloop:=λnt (hn:35<=nt)=>adi hn l c (by omega) e l [] 0 rfl (by simp)
  cases g:pY l 0 with
  | inl d=>
   rw [g] at hloop;by_cases hd:d=1
   .have h:=akY l c d (by rw [xq,Yq0 hd];rfl) f;simp only [if_pos hd];exact h (aF.blk hloop (by simp [adg]) rfl (aK.of ⟨rfl,rfl,rfl,rfl,trivial⟩) (aK.of ⟨rfl,trivial⟩))
   .have h:=akX l c d (by rw [xq,Yq1 hd];rfl) f;simp only [if_neg hd];exact h (aF.blk hloop (by simp [adg]) rfl (aK.of ⟨rfl,rfl,rfl,rfl,trivial⟩) (aK.of ⟨rfl,trivial⟩))
  |inr w=>
   rw [g] at hloop;exact akZ l c w f (aF.blk hloop (by simp [adg]) rfl (aK.of ⟨rfl,rfl,rfl,rfl,trivial⟩) (aK.of ⟨rfl,trivial⟩))
theorem akz {nt:Nat} (m:45<=nt) (l:List Nd) (c:Bool) (k:Nat) (C:List AV) (o own:List Nat) (x:Nd) (r:List Nd) (d:(ε ((δ (k:Int))*5) (aX l))=xg x++aX r) (h0:(decide ((γ .i64 (((0:Nat):Int) - (Φ (η (ε ((0+((δ x.op)*5))+1) kT) .dead))))=0))=true) (n:(Xqn (((0+(δ (k:Int)))*1)+1) (θ C))=true) (e:(decide (((0:Nat):Int)<=(k:Int)))=true) (f:(decide ((k:Int)<(l.length:Int)))=true) (i:(chk (.int .i64) (η (ε ((0+((δ x.op)*5))+1) kT) .dead))=true) (h5:(decide (((0:Nat):Int)<=x.op))=true) (j:(decide (x.op<((25:Nat):Int)))=true) (h7:lit true (decide ((k:Int)<(l.length:Int)))=true) (g:CO 96 [.nilS] (.ret (.sl (aC own) own.length false))):ψ nt f59 (ab8 (.sl (aX l) l.length c) l.length k l.length C) (.normal) (QJ (.sl (aX l) l.length c) l.length (γ .i64 ((k:Int)+((1:Nat):Int))) l.length 1 (π ((0+(δ (k:Int)))*1) C++ [.sl (aC own) own.length false]++ε (((0+(δ (k:Int)))*1)+1) C) [ω (k:Int)]):=
 have h:ψ nt f59 (ab8 (.sl (aX l) l.length c) l.length k l.length C) (.normal) (agT (.sl (aX l) l.length c) l.length (γ .i64 ((k:Int)+((1:Nat):Int))) l.length 1 (π ((0+(δ (k:Int)))*1) C++ [.sl (aC own) own.length false]++ε (((0+(δ (k:Int)))*1)+1) C) [ω (k:Int)] [ω x.op,.bool x.neg,.str x.num,.str x.den,.str x.name]):=pJ 59 [] 2 1 (.k 4 h0 (.c n (.c e (.c f (.c h0 (.k 1 i (.c h5 (.c j (.k 7 e (.c f (.c h7 .nil))))))))))) (.c g (.v 20 (.ppt d) .nil)) m
 h.forgetD 2 ⟨[ω x.op,.bool x.neg,.str x.num,.str x.den,.str x.name],0,false,0,0,true⟩ (by intro v h;cases h) (by decide) rfl ⟨Fz.same rfl,Fz.same rfl,Fz.same rfl,Fz.same rfl,Fz.same rfl,trivial⟩ ⟨rfl,zX.same rfl,by decide,rfl,zX.same rfl,by decide,rfl⟩ rfl
theorem WC {nt:Nat} (d:45<=nt) (l:List Nd) (c:Bool) (k:Nat) (C:List AV) (e own:List Nat) (h0:lit false (decide ((k:Int)<(l.length:Int)))=true):ψ nt f59 (ab8 (.sl (aX l) l.length c) l.length k l.length C) (.exit 0) ⟨[(4,.ref 0 0 0 l.length)],[(0,⟨C,0,false,0,1,true⟩)],.dead,[]⟩:=pJ 59 [] 1 0 (.c h0 .nil) (.nil) d
theorem akx {nt:Nat} (p:45<=nt) (l:List Nd) (d:Bool) (k:Nat) (C:List AV) (c own:List Nat) (x:Nd) (r:List Nd) (g:(ε ((δ (k:Int))*5) (aX l))=xg x++aX r) (h0:(Xqn (((δ (γ .i64 ((c.length:Int) - (Φ (η (ε ((0+((δ x.op)*5))+1) kT) .dead))))) - 0)+1) 1099511627776)=true) (u:(Xqn (((δ (γ .i64 ((c.length:Int) - (Φ (η (ε ((0+((δ x.op)*5))+1) kT) .dead))))) - 0)*1) (θ (aC c)))=true) (i:(decide (((0:Nat):Int)<=(γ .i64 ((c.length:Int) - (Φ (η (ε ((0+((δ x.op)*5))+1) kT) .dead))))))=true) (j:(decide ((γ .i64 ((c.length:Int) - (Φ (η (ε ((0+((δ x.op)*5))+1) kT) .dead))))<=(c.length:Int)))=true) (o:(Xqn (((0+(δ (k:Int)))*1)+1) (θ C))=true) (h5:(decide (((0:Nat):Int)<=(k:Int)))=true) (m:(decide ((k:Int)<(l.length:Int)))=true) (h7:(decide ((c.length:Int)<=(c.length:Int)))=true) (q:(chk (.int .i64) (η (ε ((0+((δ x.op)*5))+1) kT) .dead))=true) (t:(decide (((0:Nat):Int)<=x.op))=true) (e:(decide (x.op<((25:Nat):Int)))=true) (f:lit true (decide ((k:Int)<(l.length:Int)))=true) (n:aG prog ap 96 [.ref 0 0 (0+(δ (γ .i64 ((c.length:Int) - (Φ (η (ε ((0+((δ x.op)*5))+1) kT) .dead)))))) ((δ (c.length:Int)) - (δ (γ .i64 ((c.length:Int) - (Φ (η (ε ((0+((δ x.op)*5))+1) kT) .dead))))))] [⟨(aC c),0,false,0,1,true⟩] (.ret (.sl (aC own) own.length false)) [⟨(aC c),0,false,0,1,true⟩]):ψ nt f59 (QJ (.sl (aX l) l.length d) l.length (k:Int) l.length c.length C (aC c)) (.normal) (QJ (.sl (aX l) l.length d) l.length (γ .i64 ((k:Int)+((1:Nat):Int))) l.length (((δ (γ .i64 ((c.length:Int) - (Φ (η (ε ((0+((δ x.op)*5))+1) kT) .dead))))) - 0)+1) (π ((0+(δ (k:Int)))*1) C++ [.sl (aC own) own.length false]++ε (((0+(δ (k:Int)))*1)+1) C) ((π (((δ (γ .i64 ((c.length:Int) - (Φ (η (ε ((0+((δ x.op)*5))+1) kT) .dead))))) - 0)*1) (aC c))++ [ω (k:Int)])):=
 have h:ψ nt f59 (QJ (.sl (aX l) l.length d) l.length (k:Int) l.length c.length C (aC c)) (.normal) (agT (.sl (aX l) l.length d) l.length (γ .i64 ((k:Int)+((1:Nat):Int))) l.length (((δ (γ .i64 ((c.length:Int) - (Φ (η (ε ((0+((δ x.op)*5))+1) kT) .dead))))) - 0)+1) (π ((0+(δ (k:Int)))*1) C++ [.sl (aC own) own.length false]++ε (((0+(δ (k:Int)))*1)+1) C) ((π (((δ (γ .i64 ((c.length:Int) - (Φ (η (ε ((0+((δ x.op)*5))+1) kT) .dead))))) - 0)*1) (aC c))++ [ω (k:Int)]) [ω x.op,.bool x.neg,.str x.num,.str x.den,.str x.name]):=pJ 59 [] 1 1 (.k 1 h0 (.c u (.k 2 i (.c j (.c o (.c h5 (.c m (.c i (.c j (.c h7 (.c q (.c t (.c e (.k 7 h5 (.c m (.c f .nil)))))))))))))))) (.c n (.v 20 (.ppt g) .nil)) p
 h.forgetD 2 ⟨[ω x.op,.bool x.neg,.str x.num,.str x.den,.str x.name],0,false,0,0,true⟩ (by intro v h;cases h) (by decide) rfl ⟨Fz.same rfl,Fz.same rfl,Fz.same rfl,Fz.same rfl,Fz.same rfl,trivial⟩ ⟨rfl,zX.same rfl,by decide,rfl,zX.same rfl,by decide,rfl⟩ rfl
theorem WB {nt:Nat} (e:45<=nt) (l:List Nd) (d:Bool) (k:Nat) (C:List AV) (c own:List Nat) (h0:lit false (decide ((k:Int)<(l.length:Int)))=true):ψ nt f59 (QJ (.sl (aX l) l.length d) l.length (k:Int) l.length c.length C (aC c)) (.exit 0) ⟨[(4,.ref 0 0 0 l.length)],[(0,⟨C,0,false,0,1,true⟩),(1,⟨(aC c),0,false,0,1,true⟩)],.dead,[]⟩:=pJ 59 [] 1 0 (.c h0 .nil) (.nil) e
theorem af9 (l:List Nd) (c:Bool) (w:Int) (C:List AV) (h0:lit true (!(w==((0:Nat):Int)))=true) (d:CO 64 (VaQ l c) (.ret (ω w))):CO 59 (VaQ l c) (.ret (.tup [.nilS,.bool false])):=pK [0] 1 1 (.c h0 .nil) (.c d .nil)
theorem aky (l:List Nd) (c:Bool) (w:Int) (C:List AV) (h0:(decide (((0:Nat):Int)<=(l.length:Int)))=true) (e:(decide ((l.length:Int)=(l.length:Int)))=true) (g:(decide ((l.length:Int)<=((1099511627776:Nat):Int)))=true) (d:lit false (!(w==((0:Nat):Int)))=true) (f:CO 64 (VaQ l c) (.ret (ω w))) (h:LB 45 0 f59 (agU (.sl (aX l) l.length c) (δ (l.length:Int)) (!(w==((0:Nat):Int))) (.sl (aX l) l.length c) l.length (gB (δ (l.length:Int)) [.nilS])) (.normal) ⟨[(4,.ref 0 0 0 l.length)],[(0,⟨C,0,false,0,1,true⟩)],.dead,[]⟩):CO 59 (VaQ l c) (.ret (.tup [.own (π (l.length*1) C) l.length 1,.bool true])):=pK [0] 1 0 (.c h0 (.c e (.c g (.c d .nil)))) (.l h (.c f .nil))
theorem ak1:CO 96 [.nilS] (.ret (.nilS)):=pK [] 1 1 (.n 1 .nil) (.nil)
theorem ak0 (c:List Nat) (i n:Nat) (h0:(Nat.beq (θ (π (n*1) (ε (i*1) (aC c)))) (n*1))=true) (d:(Xqn (0+n) 1099511627776)=true):aG prog ap 96 [.ref 0 0 i n] [⟨(aC c),0,false,0,1,true⟩] (.ret (.own (π ((0+n)*1) ([]++(π (n*1) (ε (i*1) (aC c))))) (0+n) 1)) [⟨(aC c),0,false,0,1,true⟩]:=pK [] 1 0 (.c h0 (.c d (.n 3 .nil))) (.nil)
def Dv:List Nd->Nat->List Nat->List (List Nat)
 | [],_,_=> []
 |x::r,k,st=>st.drop (st.length - j_ x.op)::Dv r (k+1) (st.take (st.length - j_ x.op)++ [k])
def bP (l:List Nd):List (List Nat):=Dv l 0 []
def MG (a:List Nat):AV:= .sl (aC a) a.length false
def bG (ll:List (List Nat)):List AV:=ll.map MG
def stR:List Nd->Nat->List Nat->List Nat
 | [],_,st=>st
 |x::r,k,st=>stR r (k+1) (st.take (st.length - j_ x.op)++ [k])
theorem OV (r:List Nd):∀ k c,(Dv r k c).length=r.length:=by
 induction r with
 |nil=>intros;rfl
 |cons x r ih=>intro k c;simp only [Dv,ο,ih]
def agE (st:List Nat):AV:=match st with| []=> .nilS|x::l=> .ref 1 0 0 (x::l).length
def agH (st:List Nat):Hp:=match st with| []=> []|x::l=> [(1,⟨aC (x::l),0,false,0,1,true⟩)]
theorem Ro {l:List Nat} (h:l ≠ []):agE l= .ref 1 0 0 l.length:=by cases l with|nil=>exact absurd rfl h|cons _ _=>rfl
theorem MB {l:List Nat} (h:l ≠ []):agH l= [(1,⟨aC l,0,false,0,1,true⟩)]:=by cases l with|nil=>exact absurd rfl h|cons _ _=>rfl
def MC (l:List Nd) (nn:Bool) (p:Nat × List Nat × List AV):St:=⟨[(15,.sl (aX l) l.length nn),(16,ω (l.length:Int)),(17,ω (p.1:Int)),(4,.ref 0 0 0 l.length),(5,agE p.2.1)],(0,⟨p.2.2,0,false,0,1,true⟩)::agH p.2.1,.dead,[]⟩
def Ku (l:List Nd) (p:List Nat × List AV):St:=⟨[(4,.ref 0 0 0 l.length)],(0,⟨p.2,0,false,0,1,true⟩)::agH p.1,.dead,[]⟩
theorem WP:aG prog ap 96 [.nilS] [] (.ret (.sl (aC []) ([]:List Nat).length false)) []:=ak1.out (kJ.ret rfl rfl (bY.nilS false rfl))
theorem Zb (c:List Nat) (i n:Nat) (h:i+n=c.length) (k:c.length<2^40):aG prog ap 96 [.ref 0 0 i n] [⟨aC c,0,false,0,1,true⟩] (.ret (.sl (aC (c.drop i)) n false)) [⟨aC c,0,false,0,1,true⟩]:=by
 have g:=ak0 c i n;have j:n<=c.length:=by omega
 have e:π n (ε i (aC c))=aC (c.drop i):=by
  rw [Zj,kU,φ (by simp;omega)]
 have d:(aC (c.drop i)).length=n:=by rw [jF,Xx4];omega
 simp (disch:=first|omega|(simp [ay,aB]<;>omega)) only [Xqi,e,d,aaX,decide_true,Δ,jb,dB,Xqc] at g;have f:=(g True.intro (by omega)).thaw (by simp);simp only [sU,thaw,Xqi] at f;rw [φ (by rw [Xqz,d];omega),φ (by omega)] at f;exact f.out (kJ.sl1 _ _ _)
theorem ac2 {nt:Nat} (o:45<=nt) (l p r:List Nd) (g:Bool) (x:Nd) (c:List Nat) (C C2:List AV) (k:l=p++x::r) (z:l.length<2^39) (h:1<=x.op/\x.op<=24) (i:j_ x.op<=c.length) (w:c.length<=p.length) (q:C.length=l.length)
  (hset:π p.length C++ [MG (c.drop (c.length - j_ x.op))]++ε (p.length+1) C=C2):
  ψ nt f59 (MC l g (p.length,c,C)) .normal (MC l g (p.length+1,c.take (c.length - j_ x.op)++ [p.length],C2)):=by
 have e:ε (δ (p.length:Int)*5) (aX l)=xg x++aX r:=by rw [k];exact Gi rfl
 have n:p.length+(r.length+1)=l.length:=by rw [k];simp
 obtain ⟨B,u⟩:=h;have t:=Uk B u;unfold MC;simp only;rw [Ro (lg _ _),MB (lg _ _)];rcases Xjg (c= []) with rfl|hne
 .have h0:j_ x.op=0:=by simpa using i
  have d:=akz o l g p.length C [] [] x r e;simp only [Xqa,Nat.zero_sub,List.drop_nil,List.take_nil,Xqc] at hset ⊢;unfold MG at hset;have j:=WP;simp (disch:=first|omega|(simp [ay,aB]<;>omega)) only [Δ,t,h0,bM,mP,Xzg,dB,aJ,Xqi,q,jb,fM,dm,iD,dJ,Xqa,dP,bF] at d;simp only [agE,agH,aC,Xqg,Xjh,ο,Xqa,Δ] at d hset j ⊢;rw [hset] at d;apply d<;>first|exact True.intro|omega|assumption|exact rfl|skip
 .have y:=Zb c (c.length - j_ x.op) (j_ x.op) (by omega) (by omega);have d:=akx o l g p.length C c (c.drop (c.length - j_ x.op)) x r e;rw [Ro hne,MB hne];unfold MG at hset;generalize E:c.length - j_ x.op=m at*
  have f:(c.drop m).length=j_ x.op:=by rw [Xx4];omega
  have A:γ .i64 ((c.length:Int) - ((j_ x.op:Nat):Int))=(m:Int):=by rw [dM]<;>omega
  have D:c.length - m=j_ x.op:=by omega
  rw [f] at d hset;have v:(c.take m).length=m:=by rw [Xqz];omega
  simp (disch:=first|omega|(simp [ay,aB]<;>omega)) only [Δ,t,bM,A,aJ,Xzg,jb,dB,Xqi,jF,fM,q,dm,iD,dJ,D,dP,bF,hset,kU,uA] at d;simp only [ν,Θ,v];apply d<;>first|exact True.intro|omega|assumption|exact rfl|skip
theorem adh {r:List Nd} {d e:Nat} {x:Nd} (h:pY (x::r) d= .inl e):(1<=x.op/\x.op<=24)/\j_ x.op<=d/\pY r (d - j_ x.op+1)= .inl e:=by
 simp only [pY] at h;by_cases h1:aQ x=0
 .rw [if_pos h1] at h;by_cases h2:d<j_ x.op
  .rw [if_pos h2] at h;cases h
  .rw [if_neg h2] at h;exact ⟨yC h1,by omega,h⟩
 .rw [if_neg h1] at h;cases h
theorem yG (c:List (List Nat)):(bG c).length=c.length:=by simp [bG]
theorem WE (done:List (List Nat)) (a:List Nat) (m:Nat):π done.length (bG done++ζ (m+1) Yqk)++ [MG a]++ε (done.length+1) (bG done++ζ (m+1) Yqk)=bG (done++ [a])++ζ m Yqk:=by
 have c:=yG done;rw [List.take_append_of_le_length (by omega),φ (by omega),List.drop_append,Xjr (by omega),Xqc,show done.length+1 - (bG done).length=1 by omega,Xxc,List.drop_succ_cons,Xxz];unfold bG;rw [Xq5];rfl
theorem ac1 {nt:Nat} (o:45<=nt) (l:List Nd) (g:Bool) (n:l.length<2^39) (e:Nat):∀ (r p:List Nd) (c:List Nat) (done:List (List Nat)),p++r=l->pY r c.length= .inl e->c.length<=p.length->done.length=p.length->aF prog ap [] nt (af 0 (ax f59)) (λ_=> .exit 0) (MC l g) (Ku l) (p.length,c,bG done++ζ r.length .nilS) (stR r p.length c,bG (done++Dv r p.length c)):=by
 intro r
 induction r with
 | nil=>
  intro p c done h q i hd;have hp:p.length=l.length:=by rw [<- h];simp
  rw [hp];simp only [Dv,stR,Xqd,Xqa,Xza];refine .done ?_;unfold MC Ku;have t:ψ nt f59 (MC l g (l.length,c,bG done)) (.exit 0) (Ku l (c,bG done)):=by
   unfold MC Ku;rcases Xjg (c= []) with rfl|hne
   .exact WC o l g l.length (bG done) [] [] (by rw [dm];simp [lit])
   .simp only;rw [Ro hne,MB hne];exact WB o l g l.length (bG done) c [] (by rw [dm];simp [lit])
  exact t
 | cons x r ih=>
  intro p c done h q i hd;obtain ⟨j,k,m⟩:=adh q;have u:p.length+(r.length+1)=l.length:=by rw [<- h];simp
  have f:(c.take (c.length - j_ x.op)++ [p.length]).length=c.length - j_ x.op+1:=by
   rw [ν,Xqz,Θ,Xx5 (by omega)]
  have hnext:=ih (p++ [x]) (c.take (c.length - j_ x.op)++ [p.length]) (done++ [c.drop (c.length - j_ x.op)]) (by simp [h]) (by rw [f];exact m) (by rw [f];simp;omega) (by simp [hd]);rw [ν,Θ,Xqe] at hnext;simp only [Dv,stR,ο];have d:=WE done (c.drop (c.length - j_ x.op)) r.length;rw [hd] at d;have hstep:=ac2 o l p r g x c (bG done++ζ (r.length+1) .nilS) _ h.symm n j k i (by rw [ν,yG,Xxa];omega) d;exact .next hstep hnext
theorem abr (n:Nat):gB n [Yqk]=ζ n Yqk:=by
 unfold gB
 induction n with
 |zero=>rfl
 |succ n ih=>rw [Xxc,List.flatten_cons,ih,Xxc];rfl
theorem RJ {l:List Nd} (h:dE l=0):l.length<=60/\pY l 0= .inl 1:=by
 unfold dE at h;by_cases h60:60<l.length
 .rw [if_pos h60] at h;cases h
 .rw [if_neg h60] at h;refine ⟨by omega, ?_⟩;have c:∀ (r:List Nd) (d:Nat) (w:Int),pY r d= .inr w->w ≠ 0:=by
   intro r
   induction r with
   |nil=>intro d w h;cases h
   | cons x r ih=>
    intro d w h;simp only [pY] at h;by_cases h1:aQ x=0
    .rw [if_pos h1] at h;by_cases h2:d<j_ x.op
     .rw [if_pos h2] at h;cases h;decide
     .rw [if_neg h2] at h;exact ih _ _ h
    .rw [if_neg h1] at h;cases h;exact h1
  cases e:pY l 0 with
  |inl d=>
   rw [e] at h;by_cases hd:d=1
   .rw [hd]
   .simp only [if_neg hd] at h;cases h
  |inr w=>rw [e] at h;exact absurd h (c l 0 w e)
theorem ac7 (l:List Nd) (d:Bool) (f:∀ x ∈ l,x.sm) (n:dE l=0):CO 59 [.sl (aX l) l.length d] (.ret (.tup [.sl (bG (bP l)) l.length true,.bool true])):=by
 have e:π l.length (bG (bP l))=bG (bP l):=φ (by rw [yG];unfold bP;rw [OV];omega)
 suffices hown:CO 59 [.sl (aX l) l.length d] (.ret (.tup [.own (bG (bP l)) l.length 1,.bool true])) by
  have h:=hown.thaw (by simp);simp only [sU,Xqg,Xjh,thaw,Xqi,e] at h;exact h
 have g:=xA l d f;obtain ⟨q,k⟩:=RJ n;rw [n] at g;have hloop:=λnt (hn:45<=nt)=>ac1 hn l d (by omega) 1 l [] [] [] rfl k (by simp) rfl
 have i:(bP l).length=l.length:=OV l 0 [];have h:=aky l d 0 (bG (bP l));simp (disch:=first|omega|(simp [ay,aB]<;>omega)) only [fM,dB,decide_true,gW,iw,aaZ,aJ,abr,Xqi,e] at h;have o:(bG (bP l)).length=l.length:=by rw [yG,i]
 have r:l.length<1099511627776:=by omega
 apply h<;>first|exact True.intro|omega|assumption|exact rfl|skip
 intro nt m;have j:=aF.blk (s:=MC l d (0,[],ζ l.length Yqk)) (s':=Ku l (stR l 0 [],bG (bP l))) (id:=0) hloop (by simp) rfl (aK.refl _) (aK.refl _) nt m;unfold MC Ku at j;simp only [agE,agH] at j;have c:=j.weak (s':=(agU (.sl (aX l) l.length d) l.length false (.sl (aX l) l.length d) l.length (ζ l.length Yqk))) (aK.of ⟨rfl,rfl,rfl,rfl,rfl,trivial⟩) (aK.refl _);rcases Xjg (stR l 0 []= []) with he|he
 .rw [he] at c;exact c
 .have p:=MB he;unfold agH at p;rw [p] at c;exact c.forget 1 _ (by intro v h;cases h) (by decide) rfl ⟨Fz.same rfl,trivial⟩ ⟨rfl,zX.same rfl,by decide,rfl⟩
theorem wd1 {k:Nat} (h:k<2^62):ω (γ .i64 ((k:Int)+((1:Nat):Int)))= ω ((k+1:Nat):Int):=by
 have e:γ .i64 ((k:Int)+((1:Nat):Int))=((k+1:Nat):Int):=by rw [dM]<;>omega
 rw [e]
theorem pU (k:Nat):decide (((0:Nat):Int)<=(k:Int))=true:=Yq0 (by omega)
theorem aY {k n:Nat} (h:k<n):decide ((k:Int)<(n:Int))=true:=Yq0 (by omega)
theorem pO {k:Nat} (h:k<2^62):ω (γ .i64 ((k:Int)+((1:Nat):Int)))= ω ((k+1:Nat):Int):=by
 have e:γ .i64 ((k:Int)+((1:Nat):Int))=((k+1:Nat):Int):=by rw [dM]<;>omega
 rw [e]
theorem xG {k n:Nat} (h:n<=k):decide ((k:Int)<(n:Int))=false:=Yq1 (by omega)
theorem ahX {k n:Nat} (h:k<=n):decide ((k:Int)<=(n:Int))=true:=Yq0 (by omega)
def G5 (w:List UInt8):List UInt8->Nat
 | []=>0
 |c::r=>if w.any (λb=>c==b) then G5 w r+1 else 0
theorem UB (w:List UInt8):∀ s,G5 w s<=s.length
 | []=>κ _
 |c::r=>by
  unfold G5;split
  .have:=UB w r;simp only [ο];omega
  .exact Xq7 _
theorem akP (a b:UInt8):((a.toNat:Int)==(b.toNat:Int))=(a==b):=by
 by_cases h:a=b
 .subst h;simp
 .have:a.toNat ≠ b.toNat:=λe=>h (UInt8.toNat_inj.1 e)
  rw [beq_eq_false_iff_ne.2 h,beq_eq_false_iff_ne.2 (by omega)]
def wdH (o:Option (Nat × List AV)) (s:List UInt8) (bg:Int) (bd:Bool):List aU:=match o with
 |none=> [⟨[.str s,.nilS,.int .i64 bg,.bool bd],0,false,0,0,true⟩]
 |some q=> [⟨[.str s,.ref 1 0 0 q.1,.int .i64 bg,.bool bd],0,false,0,0,false⟩,⟨q.2,0,false,0,5,true⟩]
def wdN (o:Option (Nat × List AV)) (s:List UInt8) (bg:Int) (bd:Bool):Hp:=match o with
 |none=> [(0,⟨[.str s,.nilS,.int .i64 bg,.bool bd],0,false,0,0,true⟩)]
 |some q=> [(0,⟨[.str s,.ref 1 0 0 q.1,.int .i64 bg,.bool bd],0,false,0,0,false⟩),(1,⟨q.2,0,false,0,5,true⟩)]
def wix (s w:List UInt8) (bg:Int) (bd:Bool) (o:Option (Nat × List AV)) (n:Nat) (p:Nat × Bool):St:=⟨[(0,.ptr 0 0 0),(1,.str w),(5,ω (n:Int)),(6,.bool p.2),(7,ω (p.1:Int))],(wdN o s bg bd),.dead,[]⟩
def wox (s w:List UInt8) (bg:Int) (bd:Bool) (o:Option (Nat × List AV)) (n:Nat) (inn:Bool):St:=⟨[(0,.ptr 0 0 0),(1,.str w),(5,ω (n:Int)),(6,.bool inn)],(wdN o s bg bd),.dead,[]⟩
theorem wlx {nt:Nat} (j:55<=nt) (s w:List UInt8) (g:Int) (m:Bool) (o:Option (Nat × List AV)) (n:Nat) (h:n<s.length) (i:w.length<2^40):∀ (d k:Nat) (c:Bool),k+d=w.length->
  aF prog ap (wdH o s g m) nt (af 2 (ax f144)) (λ_=> .exit 2) (wix s w g m o n) (wox s w g m o n) (k,c) (c||(w.drop k).any (λb=>s.getD n 0==b)):=by
 intro d
 induction d with
 |zero=>
  intro k c p;have f:(decide ((k:Int)<(((θ w):Nat):Int)))=false:=Yq1 (by omega);rw [Xjr (by omega),List.any_nil,Bool.or_false];exact .done (by cases o<;>exact pN 144 [] 1 0 (.c (az f) .nil) (.nil) j)
 | succ d ih=>
  intro k c p;have f:(decide ((k:Int)<(((θ w):Nat):Int)))=true:=Yq0 (by omega);have e:k<w.length:=by omega
  have i:k<2^62:=by omega
  have q:(w.drop k).any (λb=>s.getD n 0==b)=(s.getD n 0==w.getD k 0||(w.drop (k+1)).any (λb=>s.getD n 0==b)):=by
   rw [Xxn e,List.any_cons,ξ,ξ (l:=w),μ e];rfl
  rw [q];rcases tf c with b1|b1
  .have:=ih (k+1) true (by omega);rw [Xj8] at this;rw [show (c||(s.getD n 0==w.getD k 0||(w.drop (k+1)).any (λb=>s.getD n 0==b)))=true by rw [b1,Xj8]];exact .next (by cases o<;>exact pN 144 [] 2 3 (.c (aA b1) (.c (aA f) .nil)) (.v 7 (.eq (wd1 i)) .nil) j) this
  .have:=ih (k+1) (s.getD n 0==w.getD k 0) (by omega);rw [show (c||(s.getD n 0==w.getD k 0||(w.drop (k+1)).any (λb=>s.getD n 0==b)))=(s.getD n 0==w.getD k 0||(w.drop (k+1)).any (λb=>s.getD n 0==b)) by rw [b1,Xx3]];rw [<- akP (s.getD n 0) (w.getD k 0)] at this ⊢;exact .next (by cases o<;>exact pN 144 [] 2 1 (.c (pU k) (.c (aY e) (.c (pU n) (.c (aY h) (.k 1 (az b1) (.c (aA f) .nil)))))) (.v 7 (.eq (wd1 i)) .nil) j) this
def wsx (s w:List UInt8) (bg:Int) (bd:Bool) (o:Option (Nat × List AV)) (n:Nat):St:=⟨[(0,.ptr 0 0 0),(1,.str w),(5,ω (n:Int))],(wdN o s bg bd),.dead,[]⟩
def wrx (s w:List UInt8) (bg:Int) (bd:Bool) (o:Option (Nat × List AV)) (n:Nat):St:=⟨[(0,.ptr 0 0 0),(5,ω (n:Int))],(wdN o s bg bd),.dead,[]⟩
theorem wmx {nt:Nat} (j:55<=nt) (s w:List UInt8) (d:Int) (e:Bool) (o:Option (Nat × List AV)) (hs:s.length<2^40) (q:w.length<2^40):∀ (r p:List UInt8),p++r=s->
  aF prog ap (wdH o s d e) nt (af 0 (ax f144)) (λ_=> .exit 0) (wsx s w d e o) (wrx s w d e o) p.length (p.length+G5 w r):=by
 intro r
 induction r with
 |nil=>
  intro p hp;have t:p.length=s.length:=by rw [<- hp];simp
  generalize p.length=n at*
  have l:(decide ((n:Int)<(((θ s):Nat):Int)))=false:=Yq1 (by omega);exact .done (by cases o<;>exact pN 144 [2] 1 0 (.c (az l) (.n 1 .nil)) (.nil) j)
 | cons c r ih=>
  intro p hp;have t:p.length<s.length:=by rw [<- hp];simp
  have u:s.getD p.length 0=c:=by rw [<- hp,ξ];simp
  have k:=ih (p++ [c]) (by rw [<- hp];simp);rw [ν,Θ] at k;unfold G5;generalize p.length=n at*
  have l:(decide ((n:Int)<(((θ s):Nat):Int)))=true:=Yq0 (by omega);have m:n<2^62:=by omega
  have g:∀ f,f=w.any (λb=>c==b)->kw prog ap (wdH o s d e) 55 (.block 2 (.loop (af 2 (ax f144)))) ⟨[(0,.ptr 0 0 0),(1,.str w),(4,.dead),(5,ω (n:Int)),(6,.bool false),(7,ω 0),(8,.dead),(15,.bool (decide ((n:Int)<(((θ s):Nat):Int)))),(19,.dead),(36,.dead)],(wdN o s d e),.dead,[]⟩ (.normal) ⟨[(0,.ptr 0 0 0),(1,.str w),(5,ω (n:Int)),(6,.bool f)],(wdN o s d e),.dead,[]⟩:=by
   intro f i;have h:∀ nt,55<=nt->aF prog ap (wdH o s d e) nt (af 2 (ax f144)) (λ_=> .exit 2) (wix s w d e o n) (wox s w d e o n) (0,false) f:=by
    intro nt j;have:=wlx j s w d e o n t q w.length 0 false (Δ _);rw [Xxz,u,Xx3,<- i] at this;exact this
   exact aF.blk h (by simp) rfl (aK.of ⟨rfl,rfl,rfl,rfl,rfl,trivial⟩) (aK.of ⟨rfl,rfl,rfl,rfl,trivial⟩)
  rcases tf (w.any (λb=>c==b)) with b1|b1
  .rw [if_pos b1];have i:(true:Bool)=w.any (λb=>c==b):=b1.symm;have g:=g true i;rw [show n+(G5 w r+1)=n+1+G5 w r by omega];have q:=m;exact .next (by cases o<;>exact pN 144 [2] 2 1 (.k 1 (aA l) (.n 1 .nil)) (.v 38 (.eq (wd1 q)) (.l g .nil)) j) k
  .rw [if_neg (by rw [b1];decide)];have i:(false:Bool)=w.any (λb=>c==b):=b1.symm;have g:=g false i;exact .done (by cases o<;>exact pN 144 [2] 2 3 (.k 1 (aA l) (.n 1 .nil)) (.l g .nil) j)
theorem wfx (s w:List UInt8) (d:Int) (c:Bool) (o:Option (Nat × List AV)) (n:Nat) (e:n<=s.length) (f:kw prog ap (wdH o s d c) 55 (.block 0 (.loop (af 0 (ax f144)))) ⟨[(0,.ptr 0 0 0),(1,.str w),(4,.str []),(5,ω 0),(6,.dead),(7,.dead),(8,.dead),(15,.dead),(19,.dead),(36,.dead)],(wdN o s d c),.dead,[]⟩ (.normal) ⟨[(0,.ptr 0 0 0),(5,ω (n:Int))],(wdN o s d c),.dead,[]⟩):aG prog ap 144 [.ptr 0 0 0,.str w] (wdH o s d c) (.ret (.str (ε 0 (π (δ (n:Int)) s)))) (wdH o (ε (δ (n:Int)) (π (δ (((θ s):Nat):Int)) s)) d c):=by cases o<;>exact pK [0] 0 0 (.k 1 (pU n) (.c (ahX e) (.c (ahX (κ s.length)) (.k 2 (pU n) (.c (ahX e) (.n 1 .nil)))))) (.l f .nil)
theorem dU (s w:List UInt8) (d:Int) (c:Bool) (o:Option (Nat × List AV)) (hs:s.length<2^40) (e:w.length<2^40):aG prog ap 144 [.ptr 0 0 0,.str w] (wdH o s d c) (.ret (.str (ε 0 (π (δ ((G5 w s:Nat):Int)) s)))) (wdH o (ε (δ ((G5 w s:Nat):Int)) (π (δ (((θ s):Nat):Int)) s)) d c):=by
 have h:∀ nt,55<=nt->aF prog ap (wdH o s d c) nt (af 0 (ax f144)) (λ_=> .exit 0) (wsx s w d c o) (wrx s w d c o) 0 (G5 w s):=by
  intro nt f;have:=wmx f s w d c o hs e s [] rfl;rw [Xqa,Δ] at this;exact this
 exact wfx s w d c o (G5 w s) (UB w s) (aF.blk h (by simp) rfl (aK.of ⟨rfl,rfl,rfl,trivial⟩) (aK.of ⟨rfl,rfl,trivial⟩))
theorem aaf (l:List Nat) (y:Nat):∃ z m,l++ [y]=z::m/\m.length=l.length:=by
 cases l with
 |nil=>exact ⟨y,[],rfl,rfl⟩
 |cons b l=>exact ⟨b,l++ [y],rfl,by simp⟩
theorem ahV {s:List UInt8} (h:s.length<2^35):(d_ (ag s)).length<2^35:=by
 have c:(d_ (ag s)).length<=s.length:=MS (υ (h_ s) (by rw [Xjo];exact Nat.pow_le_pow_left (by decide) _));omega
theorem aaT (s t:List UInt8) (hs:s.length<=3) (h:t.length<=4):CO 48 [.str s,.str t] (.ret (.str (ae (ag s*ag t)))):=by
 have g:ag s<2^(8*3):=υ (h_ s) (Ψ (by omega) (by omega));have e:ag t<2^(8*4):=υ (h_ t) (Ψ (by omega) (by omega));have s1:=uS s 3 (by omega) (by omega) g;have f:=uS t 4 (by omega) (by omega) e;have d:ag s*ag t<9223372036854775808:=χ (Xwe (show ag s<=16777215 by omega) (show ag t<=4294967295 by omega)) (by omega);have c:=mM (ag s*ag t) d;rw [<- af1 d] at c;exact ajE s t _ _ _ s1 f c
theorem apx {nt:Nat} (E:68<=nt) (u v o:List Nat) (w e:Bool) (i j c a x y:Nat) (r:Xxv .u32 (Φ (η (ε ((δ (j:Int))*1) (aj v)) .dead))= .int .u32 (y:Int)) (h:Xxv .u64 (γ .u64 (a:Int))= .int .u64 (a:Int)) (t:Xxv .u64 (γ .u64 (y:Int))= .int .u64 (y:Int)) (n:Xxv .u64 (γ .u64 ((a:Int)*(y:Int)))= .int .u64 (((a*y):Nat):Int)) (p:Xxv .u32 (Φ (η (ε ((0+(δ (((i+j):Nat):Int)))*1) (aj o)) .dead))= .int .u32 (x:Int)) (k:Xxv .u64 (γ .u64 (x:Int))= .int .u64 (x:Int)) (m:Xxv .u64 (γ .u64 ((((a*y):Nat):Int)+(x:Int)))= .int .u64 (((a*y+x):Nat):Int)) (f:Xxv .u64 (γ .u64 ((((a*y+x):Nat):Int)+(c:Int)))= .int .u64 (((a*y+x+c):Nat):Int)) (d:ω (γ .i64 ((i:Int)+(j:Int)))= ω (((i+j):Nat):Int)) (q:Xxv .u32 (γ .u32 (((a*y+x+c):Nat):Int))= .int .u32 ((((a*y+x+c) % 4294967296):Nat):Int)) (l:Xxv .u64 (Xq1 (((a*y+x+c):Nat):Int) (2^(min 32 64)))= .int .u64 ((((a*y+x+c) / 4294967296):Nat):Int)) (g:ω (γ .i64 ((j:Int)+((1:Nat):Int)))= ω (((j+1):Nat):Int)) (C:(Xqn (((0+(δ (((i+j):Nat):Int)))*1)+1) (θ (aj o)))=true) (z:(decide (((0:Nat):Int)<=(((i+j):Nat):Int)))=true) (B:(decide ((((i+j):Nat):Int)<(o.length:Int)))=true) (D:(chk (.int .u32) (η (ε ((0+(δ (((i+j):Nat):Int)))*1) (aj o)) .dead))=true) (G:(chk (.int .u32) (η (ε ((δ (j:Int))*1) (aj v)) .dead))=true) (F:Va3 j) (A:(decide ((j:Int)<(v.length:Int)))=true):ak prog ap [] nt (af 2 (ax f184)) (VZ (Van v e) o.length i (.int .u32 (a:Int)) (.int .u64 (c:Int)) (Van u w) u.length i (Van v e) v.length j (aj o)) (.normal) (VZ (Van v e) o.length i (.int .u32 (a:Int)) (.int .u64 ((((a*y+x+c) / 4294967296):Nat):Int)) (Van u w) u.length i (Van v e) v.length (j+1) (π ((0+(δ (((i+j):Nat):Int)))*1) (aj o)++ [.int .u32 ((((a*y+x+c) % 4294967296):Nat):Int)]++ε (((0+(δ (((i+j):Nat):Int)))*1)+1) (aj o))):=pN 184 [] 1 1 (.c C (.c z (.c B (.k 1 D (.c z (.c B (.c G (.c F (.c A (.c (aA A) .nil)))))))))) (.v 56 (.eq g) (.v 54 (.eq l) (.v 52 (.eq q) (.v 50 (.eq d) (.v 46 (.eq f) (.v 44 (.eq m) (.v 43 (.eq k) (.v 42 (.eq p) (.v 40 (.eq d) (.v 36 (.eq n) (.v 35 (.eq t) (.v 33 (.eq h) (.v 31 (.eq r) .nil))))))))))))) E
theorem apy {nt:Nat} (g:68<=nt) (u v o:List Nat) (e d:Bool) (i j c a x y:Nat) (f:(decide ((j:Int)<(v.length:Int)))=false):ak prog ap [] nt (af 2 (ax f184)) (VZ (Van v d) o.length i (.int .u32 (a:Int)) (.int .u64 (c:Int)) (Van u e) u.length i (Van v d) v.length j (aj o)) (.exit 2) (acg (Van v d) o.length i (.int .u64 (c:Int)) (Van u e) u.length i (aj o)):=pN 184 [] 1 0 (.c (az f) .nil) (.nil) g
theorem apz {nt:Nat} (q:68<=nt) (u v o c:List Nat) (f d:Bool) (i a e:Nat) (h:Xxv .u32 (Φ (η (ε ((δ (i:Int))*1) (aj u)) .dead))= .int .u32 (a:Int)) (j:ω (γ .i64 ((i:Int)+(v.length:Int)))= ω (((i+v.length):Nat):Int)) (g:Xxv .u32 (γ .u32 (e:Int))= .int .u32 (e:Int)) (k:ω (γ .i64 ((i:Int)+((1:Nat):Int)))= ω (((i+1):Nat):Int)) (n:(Xqn (((0+(δ (((i+v.length):Nat):Int)))*1)+1) (θ (aj c)))=true) (r:(decide (((0:Nat):Int)<=(((i+v.length):Nat):Int)))=true) (t:(decide ((((i+v.length):Nat):Int)<(c.length:Int)))=true) (p:(chk (.int .u32) (η (ε ((δ (i:Int))*1) (aj u)) .dead))=true) (w:Va3 i) (l:(decide ((i:Int)<(u.length:Int)))=true) (m:LB 68 2 f184 ⟨[(0,.dead),(1,.sl (aj v) v.length d),(4,.dead),(5,.ref 0 0 0 o.length),(6,ω (i:Int)),(7,.int .u32 (a:Int)),(8,.int .u64 0),(9,.dead),(10,.dead),(11,.dead),(18,.sl (aj u) u.length f),(19,ω (u.length:Int)),(20,ω (i:Int)),(21,.bool (decide ((i:Int)<(u.length:Int)))),(25,.sl (aj v) v.length d),(26,ω (v.length:Int)),(27,ω 0),(28,.dead)],[(0,⟨(aj o),0,false,0,1,true⟩)],.dead,[]⟩ (.normal) (acg (.sl (aj v) v.length d) c.length i (.int .u64 (e:Int)) (.sl (aj u) u.length f) u.length i (aj c))):ψ nt f184 (V3 (Van v d) o.length (Van u f) u.length i (aj o)) (.normal) (V3 (Van v d) c.length (Van u f) u.length (i+1) (π ((0+(δ (((i+v.length):Nat):Int)))*1) (aj c)++ [.int .u32 (e:Int)]++ε (((0+(δ (((i+v.length):Nat):Int)))*1)+1) (aj c))):=pN 184 [2] 1 1 (.c n (.c r (.c t (.c p (.c w (.c l (.c (aA l) .nil))))))) (.v 65 (.eq k) (.v 63 (.eq g) (.v 61 (.eq j) (.l m (.v 24 (.eq h) .nil))))) q
theorem apA {nt:Nat} (d:68<=nt) (u v o g:List Nat) (f e:Bool) (i a h:Nat) (c:(decide ((i:Int)<(u.length:Int)))=false):ψ nt f184 (V3 (Van v e) o.length (Van u f) u.length i (aj o)) (.exit 0) (Jw o.length (aj o)):=pN 184 [] 1 0 (.c (az c) .nil) (.nil) d
theorem aeY (a b w:List Nat) (c d:Bool) (z:Nat) (e:(decide (((0:Nat):Int)<=(γ .i64 ((a.length:Int)+(b.length:Int)))))=true) (f:(decide ((γ .i64 ((a.length:Int)+(b.length:Int)))=(γ .i64 ((a.length:Int)+(b.length:Int)))))=true) (g:(decide ((γ .i64 ((a.length:Int)+(b.length:Int)))<=((1099511627776:Nat):Int)))=true) (h:CO 186 [.sl (π (w.length*1) (aj w)) w.length true] (Vam z)) (i:LB 68 0 f184 ⟨[(0,.sl (aj a) a.length c),(1,.sl (aj b) b.length d),(4,.nilS),(5,.ref 0 0 0 (δ (γ .i64 ((a.length:Int)+(b.length:Int))))),(6,.dead),(7,.dead),(8,.dead),(9,.dead),(10,.dead),(11,.dead),(18,.sl (aj a) a.length c),(19,ω (a.length:Int)),(20,ω 0),(21,.dead),(25,.dead),(26,.dead),(27,.dead),(28,.dead)],[(0,⟨(gB (δ (γ .i64 ((a.length:Int)+(b.length:Int)))) [.int .u32 0]),0,false,0,1,true⟩)],.dead,[]⟩ (.normal) (Jw w.length (aj w))):CO 184 (VaS a c b d) (Vam z):=pK [0] 0 0 (.c e (.c f (.c g .nil))) (.c h (.l i .nil))
def prI (u v:List Nat) (na nb:Bool) (i a:Nat) (p:Nat × List Nat × Nat):St:=(VZ (.sl (aj v) v.length nb) p.2.1.length i (.int .u32 (a:Int)) (.int .u64 (p.2.2:Int)) (.sl (aj u) u.length na) u.length i (.sl (aj v) v.length nb) v.length p.1 (aj p.2.1))
def prJ (u v:List Nat) (na nb:Bool) (i:Nat) (p:List Nat × Nat):St:=(acg (.sl (aj v) v.length nb) p.1.length i (.int .u64 (p.2:Int)) (.sl (aj u) u.length na) u.length i (aj p.1))
def prO (u v:List Nat) (na nb:Bool) (p:Nat × List Nat):St:=(V3 (.sl (aj v) v.length nb) p.2.length (.sl (aj u) u.length na) u.length p.1 (aj p.2))
def prR (o:List Nat):St:=(Jw o.length (aj o))
def JL (a:Nat):List Nat->List Nat->Nat->List Nat × Nat
 |x::m,y::v,c=>((a*y+x+c) % 4294967296::(JL a m v ((a*y+x+c) / 4294967296)).1,(JL a m v ((a*y+x+c) / 4294967296)).2)
 |_,_,c=>([],c)
theorem Qd {a x y c:Nat} (d:a<4294967296) (h:x<4294967296) (g:y<4294967296) (f:c<4294967296):a*y<18446744073709551616/\a*y+x+c<18446744073709551616/\(a*y+x+c) / 4294967296<4294967296:=by
 have e:a*y<=4294967295*4294967295:=Xwe (by omega) (by omega);omega
theorem N8 {a:Nat} (d:a<4294967296):∀ (m v:List Nat) (c:Nat),m.length=v.length->c<4294967296->bZ m->bZ v->(JL a m v c).2<4294967296/\bZ (JL a m v c).1/\(JL a m v c).1.length=v.length/\aH (JL a m v c).1+4294967296^v.length*(JL a m v c).2=aH m+a*aH v+c
 | [],[],c,_,hc,_,_=> ⟨hc,bZ.nil,rfl,by simp [JL,aH]⟩
 |x::m,y::v,c,hl,hc,hm,hv=>by
  obtain ⟨_,_,g⟩:=Qd d hm.head hv.head hc;obtain ⟨f,e,i,j⟩:=N8 d m v _ (by simpa using hl) g hm.tail hv.tail;simp only [JL];refine ⟨f,bZ.cons (Xq3 _ (by omega)) e,by simp [i], ?_⟩;simp only [aH,ο,Xxi];rw [Xqj (4294967296^v.length),Xqu,Xxs,Nat.mul_left_comm a];omega
 | [],_::_,_,h,_,_,_=>by simp at h
 |_::_,[],_,h,_,_,_=>by simp at h
def Vr (v:List Nat):List Nat->List Nat->List Nat
 | [],m=>m
 |a::u,m=>((JL a m v 0).1++ [(JL a m v 0).2]).headD 0::Vr v u ((JL a m v 0).1++ [(JL a m v 0).2]).tail
theorem Vs {v:List Nat} (e:bZ v):∀ (u m:List Nat),bZ u->bZ m->m.length=v.length->bZ (Vr v u m)/\(Vr v u m).length=u.length+v.length/\aH (Vr v u m)=aH m+aH u*aH v
 | [],m,_,hm,hl=> ⟨hm,by simp [Vr,hl],by simp [Vr,aH]⟩
 | a::u,m,hu,hm,hl=>by
  obtain ⟨j,f,h,n⟩:=N8 hu.head m v 0 hl (by omega) hm e;obtain ⟨z,c,h5,o⟩:=aaf (JL a m v 0).1 (JL a m v 0).2;have d:bZ (z::c):=by rw [<- h5];exact bZ.app f (bZ.cons j bZ.nil)
  have k:aH (z::c)=aH m+a*aH v:=by
   rw [<- h5,pg,h];simp only [aH];omega
  simp only [Vr,h5,Xj1,Xwu];obtain ⟨i,g,l⟩:=Vs e u c hu.tail d.tail (by omega);refine ⟨bZ.cons d.head i,by simp [g];omega, ?_⟩;simp only [aH] at k ⊢;rw [l,Xxy,Xxs,Xqu];omega
theorem ab1 {p s:List Nat} {x y k:Nat} (h:k=p.length):π ((0+(δ (k:Int)))*1) (aj (p++x::s))++ [Xxv .u32 (y:Int)]++ε (((0+(δ (k:Int)))*1)+1) (aj (p++x::s))=aj (p++y::s):=by
 subst h;exact Dl
theorem Ny {p s:List Nat} {x k:Nat} (h:k=p.length):(η (ε ((δ (k:Int))*1) (aj (p++x::s))) .dead)= .int .u32 (x:Int):=by
 subst h;rw [Dj];rfl
theorem aiG {p s:List Nat} {x k:Nat} (h:k=p.length):(η (ε ((0+(δ (k:Int)))*1) (aj (p++x::s))) .dead)= .int .u32 (x:Int):=by
 rw [Δ];exact Ny h
theorem wdp {a b:Nat} (h:a+b<9223372036854775808):ω (γ .i64 ((a:Int)+(b:Int)))= ω ((a+b:Nat):Int):=by
 rw [dP,bF h]
theorem aqf {a b:Nat} (h:a+b<18446744073709551616):Xxv .u64 (γ .u64 ((a:Int)+(b:Int)))= .int .u64 ((a+b:Nat):Int):=by
 rw [dP,rV,Ξ h]
theorem aqe {a:Nat} (h:a<18446744073709551616):Xxv .u64 (γ .u64 (a:Int))= .int .u64 (a:Int):=by
 rw [rV,Ξ h]
theorem aqd {a:Nat} (h:a<4294967296):Xxv .u32 (γ .u32 (a:Int))= .int .u32 (a:Int):=by
 rw [uV,Ξ h]
theorem ad7 {nt:Nat} (C:68<=nt) (u u1 u2 v:List Nat) (j h:Bool) (a:Nat) (W:u=u1++a::u2) (S:a<4294967296) (K:bZ v) (R:u.length<2^38) (X:v.length<2^38):∀ (w m e d pp z:List Nat) (c:Nat),e++w=v->m.length=w.length->d.length=e.length->pp.length=u1.length->bZ m->c<4294967296->
  aF prog ap [] nt (af 2 (ax f184)) (λ_=> .exit 2) (prI u v j h u1.length a) (prJ u v j h u1.length) (e.length,pp++d++m++z,c) (pp++d++(JL a m w c).1++z,(JL a m w c).2):=by
 intro w
 induction w with
 |nil=>
  intro m e d pp z c g i r q h5 B;have F:m= []:=List.length_eq_zero_iff.1 (by simpa using i);subst F;have k:e=v:=by simpa using g
  simp only [JL];exact .done (apy C u v _ j h _ _ _ a 0 0 (by rw [k];exact Yq1 (by omega)))
 | cons y w ih=>
  intro m e d pp z c g i r q h5 B;cases m with
  |nil=>simp at i
  | cons x m=>
   have Q:e.length+(w.length+1)=v.length:=by rw [<- g];simp
   have E:u1.length+(u2.length+1)=u.length:=by rw [W];simp
   have P:y<4294967296:=K y (by rw [<- g];simp);have hx:=h5.head;obtain ⟨N,Z,I⟩:=Qd S h5.head P B;have f:=ih m (e++ [y]) (d++ [(a*y+x+c) % 4294967296]) pp z ((a*y+x+c) / 4294967296) (by simp [g]) (by simpa using i) (by simp [r]) q h5.tail I;simp only [JL];rw [ν,Θ] at f;have U:pp++d++x::m++z=(pp++d)++x::(m++z):=by simp
   have J:pp++(d++ [(a*y+x+c) % 4294967296])++m++z=(pp++d)++(a*y+x+c) % 4294967296::(m++z):=by simp
   have V:pp++(d++ [(a*y+x+c) % 4294967296])++(JL a m w ((a*y+x+c) / 4294967296)).1++z=pp++d++(a*y+x+c) % 4294967296::(JL a m w ((a*y+x+c) / 4294967296)).1++z:=by simp
   rw [V] at f;refine .next ?_ f
   have t:u1.length+e.length=(pp++d).length:=by rw [ν];omega
   have A:((pp++d)++x::(m++z)).length=(pp++d).length+(m++z).length+1:=by simp;omega
   have hlen2:((pp++d)++(a*y+x+c) % 4294967296::(m++z)).length=((pp++d)++x::(m++z)).length:=by simp
   have D:=aiG (p:=pp++d) (s:=m++z) (x:=x) t;have G:(η (ε ((δ (e.length:Int))*1) (aj v)) .dead)= .int .u32 (y:Int):=by rw [<- g];exact Ny rfl
   have T:=ab1 (p:=pp++d) (s:=m++z) (x:=x) (y:=(a*y+x+c) % 4294967296) t;unfold prI;simp only [U,J,hlen2];have hs:=apx C u v ((pp++d)++x::(m++z)) j h u1.length e.length c a x y;rw [T,D,G] at hs;have l:u1.length<u.length:=by omega
   have n:e.length<v.length:=by omega
   have o:u1.length+e.length<((pp++d)++x::(m++z)).length:=by omega
   have w1:Xxv .u32 (γ .u32 (((a*y+x+c):Nat):Int))= .int .u32 ((((a*y+x+c) % 4294967296):Nat):Int):=by rw [uV]
   have O:Xxv .u64 (Xq1 (((a*y+x+c):Nat):Int) (2^(min 32 64)))= .int .u64 ((((a*y+x+c) / 4294967296):Nat):Int):=by rw [show min 32 64=32 from rfl,mZ]
   have M:Xxv .u64 (γ .u64 ((a:Int)*(y:Int)))= .int .u64 ((a*y:Nat):Int):=by rw [<- Int.natCast_mul,rV,Ξ N]
   have H:Xqn (((0+(δ (((u1.length+e.length):Nat):Int)))*1)+1) (θ (aj ((pp++d)++x::(m++z))))=true:=by
    rw [Xjn,aJ,ay];omega
   have Y:a*y+x<18446744073709551616:=by omega
   apply hs<;>first|exact rfl|exact wdp (by omega)|exact aqf (by omega)|exact w1|exact O|exact M|exact aqe (by omega)|exact H|exact pU _|exact aY l|exact aY n|exact aY o
theorem abg {nt:Nat} (j:68<=nt) (u v:List Nat) (i h:Bool) (f:bZ u) (C:bZ v) (w:u.length<2^38) (B:v.length<2^38):∀ (u2 u1 m pp:List Nat),u1++u2=u->m.length=v.length->pp.length=u1.length->bZ m->
  aF prog ap [] nt (af 0 (ax f184)) (λ_=> .exit 0) (prO u v i h) prR (u1.length,pp++m++ζ u2.length 0) (pp++Vr v u2 m):=by
 intro u2
 induction u2 with
 |nil=>
  intro u1 m pp d l o n;have k:u1=u:=by simpa using d
  simp only [Vr,Xqa,Xza,Xqd];exact .done (apA j u v _ [] i h _ 0 0 (by rw [k];exact Yq1 (by omega)))
 | cons a u2 ih=>
  intro u1 m pp d l o n;have F:u1.length+(u2.length+1)=u.length:=by rw [<- d];simp
  have D:a<4294967296:=f a (by rw [<- d];simp);obtain ⟨M,K,S,Q⟩:=N8 D m v 0 l (by omega) n C;have t:=λnt (j:68<=nt)=>ad7 j u u1 u2 v i h a d.symm D C w B v m [] [] pp (ζ (u2.length+1) 0) 0 rfl l rfl o n (by omega)
  simp only [Vr];generalize JL a m v 0=r at*
  obtain ⟨z,g,h5,R⟩:=aaf r.1 r.2;have E:bZ (z::g):=by rw [<- h5];exact bZ.app K (bZ.cons M bZ.nil)
  have c:=ih (u1++ [a]) g (pp++ [z]) (by simp [d]) (by omega) (by simp [o]) E.tail;simp only [h5,Xj1,Xwu];rw [ν,Θ] at c;have P:pp++ [z]++Vr v u2 g=pp++z::Vr v u2 g:=by simp
  rw [P] at c;refine .next ?_ c
  rw [Xqd] at t;have I:u1.length+v.length=(pp++r.1).length:=by rw [ν];omega
  have O:pp++r.1++ζ (u2.length+1) 0=(pp++r.1)++0::ζ u2.length 0:=by rw [Xxc]
  have J:pp++ [z]++g++ζ u2.length 0=(pp++r.1)++r.2::ζ u2.length 0:=by
   rw [Xqe pp,Xjw,<- h5];simp
  have G:(η (ε ((δ (u1.length:Int))*1) (aj u)) .dead)= .int .u32 (a:Int):=by rw [<- d];exact Ny rfl
  have N:=ab1 (p:=pp++r.1) (s:=ζ u2.length 0) (x:=0) (y:=r.2) I;rw [O] at t;have e:((pp++r.1)++0::ζ u2.length 0).length=((pp++r.1)++r.2::ζ u2.length 0).length:=by simp
  have hlen2:((pp++r.1)++0::ζ u2.length 0).length=(pp++r.1).length+u2.length+1:=by simp;omega
  have hs:=apz j u v (pp++m++ζ (u2.length+1) 0) ((pp++r.1)++0::ζ u2.length 0) i h u1.length a r.2;rw [N,G] at hs;have A:u1.length<u.length:=by omega
  have q:u1.length+v.length<((pp++r.1)++0::ζ u2.length 0).length:=by omega
  have H:Xqn (((0+(δ (((u1.length+v.length):Nat):Int)))*1)+1) (θ (aj ((pp++r.1)++0::ζ u2.length 0)))=true:=by
   rw [Xjn,aJ,ay];omega
  unfold prO;simp only [J,ο];rw [<- e];apply hs<;>first|exact rfl|exact wdp (by omega)|exact aqd (by omega)|exact H|exact pU _|exact aY A|exact aY q|skip
  exact aF.blk t (by simp) rfl (aK.of ⟨rfl,rfl,rfl,rfl,rfl,rfl,rfl,rfl,rfl,rfl,rfl,trivial⟩) (aK.refl _)
theorem aeZ (a b:List Nat) (g e:Bool) (c:bZ a) (d:bZ b) (r:a.length<2^37) (q:b.length<2^37):CO 184 [.sl (aj a) a.length g,.sl (aj b) b.length e] (.ret (.sl (aj (digs (aH a*aH b))) (digs (aH a*aH b)).length true)):=by
 obtain ⟨p,t,k⟩:=Vs d a (ζ b.length 0) c (λx i=>by rw [(List.mem_replicate.1 i).2];omega) (by simp);have l:aH (ζ b.length 0)=0:=by
  generalize b.length=n
  induction n with
  |zero=>rfl
  |succ n ih=>rw [Xxc];simp only [aH,ih]
 rw [l,Δ] at k;have m:∀ nt,68<=nt->aF prog ap [] nt (af 0 (ax f184)) (λ_=> .exit 0) (prO a b g e) prR (0,ζ (a.length+b.length) 0) (Vr b a (ζ b.length 0)):=λnt j=>by
  have:=abg j a b g e c d (by omega) (by omega) a [] (ζ b.length 0) [] rfl (by simp) rfl (λx i=>by rw [(List.mem_replicate.1 i).2];omega);rw [Xqc,Xqc,List.replicate_append_replicate,Nat.add_comm] at this;exact this
 generalize Vr b a (ζ b.length 0)=w at*
 have f:=aeY a b w g e (aH a*aH b);have o:γ .i64 ((a.length:Int)+(b.length:Int))=((a.length+b.length:Nat):Int):=by rw [dP,bF (by omega)]
 rw [o,aJ,sQ] at f;have h:=aF.blk (s:=prO a b g e (0,ζ (a.length+b.length) 0)) (s':=prR w) (id:=0) m (by simp) rfl (aK.refl _) (aK.refl _);unfold prO at h;simp only [Xxa] at h;exact f (Yq0 (by omega)) (Yq0 rfl) (Yq0 (by omega)) (Ff w _ _ rfl (by rw [kW p,k]) (by omega)) λnt j=>(h nt j).weak (aK.of ⟨rfl,rfl,rfl,rfl,rfl,trivial⟩) (aK.refl _)
theorem aeE (s t:List UInt8) (hs:s.length<2^36) (f:t.length<2^36):CO 160 [.str s,.str t] (.ret (.str (ae (ag s*ag t)))):=by
 have d:=uj (s:=s) (n:=2^34) (by omega);have c:=uj (s:=t) (n:=2^34) (by omega);have e:=WS d c;have h:=aeZ (digs (ag s)) (digs (ag t)) true true (bZ.digs _) (bZ.digs _) (by omega) (by omega);rw [fA,fA] at h;exact ai0 s t _ (xX s (by omega)) (xX t (by omega)) h (uI _ _ true (y_ _) (by omega) (by omega))
theorem ajb (s t:List UInt8) (x y z:Nat) (w:List Nat) (e:CO 86 [.str s,ω 7] (Vas x)) (d:CO 86 [.str t,ω 7] (Vas y)) (c:CO 58 [ω (γ .i64 ((x:Int)+(y:Int)))] (Vaj z)):CO 50 [.str s,.str t] (Vaj z):=pK [] 2 3 (.n 2 .nil) (.c c (.c d (.c e .nil)))
theorem ane (s t:List UInt8) (x y z:Nat) (w:List Nat) (d:(decide ((oz (ag s) (ag t))<((0:Nat):Int)))=false) (g:CO 51 [.str s,.str t] (.ret (ω (oz (ag s) (ag t))))) (f:CO 87 [.str s] (.ret (.sl (aC (d_ (ag s))) (d_ (ag s)).length false))) (e:CO 87 [.str t] (.ret (.sl (aC (d_ (ag t))) (d_ (ag t)).length false))) (h:CO 92 [.sl (aC (d_ (ag s))) (d_ (ag s)).length false,.sl (aC (d_ (ag t))) (d_ (ag t)).length false] (.ret (.sl (aC (d_ z)) (d_ z).length false))) (c:CO 88 [.sl (aC (d_ z)) (d_ z).length false] (Vaj z)):CO 52 [.str s,.str t] (.ret (.tup [.str (ae z),.bool true])):=pK [] 1 0 (.c (az d) .nil) (.c c (.c h (.c e (.c f (.c g .nil)))))
theorem XQ (s t:List UInt8) (hs:s.length<=7) (g:t.length<=7):CO 50 [.str s,.str t] (.ret (.str (ae (ag s+ag t)))):=by
 have f:ag s<2^(8*7):=υ (h_ s) (Ψ (by omega) (by omega));have e:ag t<2^(8*7):=υ (h_ t) (Ψ (by omega) (by omega));have s1:=uS s 7 (by omega) (by omega) f;have c:=mM (ag s+ag t);have d:γ .i64 (((ag s:Nat):Int)+((ag t:Nat):Int))=((ag s+ag t:Nat):Int):=by rw [dP,bF (by omega)]
 rw [<- d] at c;exact ajb s t _ _ _ [] s1 (uS t 7 (by omega) (by omega) e) c
theorem ab3 (x y:Nat):decide (oz x y<((0:Nat):Int))=decide (x<y):=by
 unfold oz;by_cases h:x<y
 .rw [if_pos h,Yq0 h];rfl
 .rw [if_neg h,Yq1 h];split<;>rfl
theorem adq {x y:Nat} (h:y<=x) (d:(d_ x).length<2^36):(d_ y).length<2^36:=by
 have c:=Oz (iU.dig x);rw [qw] at c;exact χ (MS (χ h c)) d
theorem X7 (s t:List UInt8) (hs:s.length<2^35) (f:t.length<2^35) (h:ag t<=ag s):CO 52 [.str s,.str t] (.ret (.tup [.str (ae (ag s - ag t)),.bool true])):=by
 have e:=ahV (s:=s) hs;have d:=adq (Xwn (ag s) (ag t)) (by omega);have c:=aa5 (d_ (ag s - ag t)) false d (iU.dig _);rw [qw] at c;exact ane s t 0 0 _ [] (by rw [ab3];exact Yq1 (by omega)) (N9 s t (by omega) (by omega)) (agK s (by omega)) (agK t (by omega)) (aaP _ _ false false h (by omega)) c
theorem anj (e s1:Bool) (d c i j:List UInt8) (a b r:RQ) (f:(jG e d c)=false) (h:CO 115 [Ω e d c] (.ret (.bool (jG e d c)))) (g:CO 75 [ω 0] (.ret (Ω false (ae 0) (ae 1)))):CO 158 [Ω e d c] (.ret (Ω false (ae 0) (ae 1))):=pK [] 1 1 (.k 4 (dC f) (.n 3 .nil)) (.c g (.c h .nil))
theorem ank (e s1:Bool) (d c h i:List UInt8) (a b r:RQ) (f:(jG e d c)=true) (g:CO 115 [Ω e d c] (.ret (.bool (jG e d c)))):CO 158 [Ω e d c] (.ret (Ω e d c)):=pK [] 1 0 (.k 7 (aP f) (.n 3 .nil)) (.c g .nil)
abbrev Va0 (a:RQ):lG:= .ret (.agg [.bool a.neg,.str (ae a.n),.str (ae a.d)])
abbrev VaK (a:Bool) (b:List UInt8) (c:List UInt8) (d:RQ):Prop:=CO 158 [Ω a b c] (Va0 d)
theorem am6 (e s1:Bool) (d c h i:List UInt8) (a b r:RQ) (f:a.neg=false) (g:VaK e d c a):CO 171 [Ω e d c] (.ret (.agg [.bool (!((ae a.n)== [])),.str (ae a.n),.str (ae a.d)])):=pK [] 1 1 (.k 9 (dC f) (.n 5 .nil)) (.c g .nil)
theorem am7 (e s1:Bool) (d c h i:List UInt8) (a b r:RQ) (f:a.neg=true) (g:VaK e d c a):CO 171 [Ω e d c] (.ret (Ω false (ae a.n) (ae a.d))):=pK [] 1 0 (.k 8 (aP f) (.n 5 .nil)) (.c g .nil)
abbrev Vaf (a:RQ) (b:RQ):Prop:=CO 160 [.str (ae a.n),.str (ae b.d)] (.ret (.str (ae (a.n*b.d))))
abbrev Vaq (a:RQ) (b:RQ):List AV:=[.str (ae (a.n*b.d)),.str (ae (b.n*a.d))]
abbrev VaE (a:RQ) (b:RQ):Prop:=CO 160 [.str (ae a.d),.str (ae b.d)] (.ret (.str (ae (a.d*b.d))))
theorem ae8 (g s1:Bool) (f d c e:List UInt8) (a b r:RQ) (i:(a.neg==b.neg)=true) (l:VaK g f d a) (k:VaK s1 c e b) (j:Vaf a b) (o:Vaf b a) (h:VaE a b) (n:CO 123 (Vaq a b) (.ret (.str (ae ((a.n*b.d)+(b.n*a.d)))))) (m:CO 159 [.bool a.neg,.str (ae ((a.n*b.d)+(b.n*a.d))),.str (ae (a.d*b.d))] (Va0 r)):CO 170 [Ω g f d,Ω s1 c e] (Va0 r):=pK [] 1 1 (.k 5 (aA i) (.n 16 .nil)) (.c m (.c n (.c h (.c o (.c j (.c k (.c l .nil)))))))
abbrev VaJ (a:RQ) (b:RQ):lG:= .ret (.tup [.str (ae ((a.n*b.d) - (b.n*a.d))),.bool true])
theorem ae9 (g s1:Bool) (f d c e:List UInt8) (a b r:RQ) (i:(a.neg==b.neg)=false) (l:VaK g f d a) (k:VaK s1 c e b) (j:Vaf a b) (o:Vaf b a) (h:VaE a b) (n:CO 195 (Vaq a b) (VaJ a b)) (m:CO 159 [.bool a.neg,.str (ae ((a.n*b.d) - (b.n*a.d))),.str (ae (a.d*b.d))] (Va0 r)):CO 170 [Ω g f d,Ω s1 c e] (Va0 r):=pK [] 2 2 (.k 6 (az i) (.n 16 .nil)) (.c m (.c n (.c h (.c o (.c j (.c k (.c l .nil)))))))
theorem ae7 (g s1:Bool) (f d c e:List UInt8) (a b r:RQ) (i:(a.neg==b.neg)=false) (l:VaK g f d a) (k:VaK s1 c e b) (j:Vaf a b) (o:Vaf b a) (h:VaE a b) (n:CO 195 (Vaq a b) (.ret (.tup [.str [],.bool false]))) (m:CO 195 (Vaq b a) (VaJ b a)) (p:CO 159 [.bool b.neg,.str (ae ((b.n*a.d) - (a.n*b.d))),.str (ae (a.d*b.d))] (Va0 r)):CO 170 [Ω g f d,Ω s1 c e] (Va0 r):=pK [] 2 0 (.k 6 (az i) (.n 16 .nil)) (.c p (.c m (.c n (.c h (.c o (.c j (.c k (.c l .nil))))))))
abbrev Vag (a:RQ):List AV:=[.bool a.neg,.str (ae a.n),.str (ae a.d)]
theorem anf (g s1:Bool) (f d c e:List UInt8) (a b r:RQ) (i:CO 171 [Ω s1 c e] (Va0 b)) (h:CO 170 [Ω g f d,.agg (Vag b)] (Va0 r)):CO 124 [Ω g f d,Ω s1 c e] (Va0 r):=pK [] 0 0 (.n 10 .nil) (.c h (.c i .nil))
theorem amZ (g s1:Bool) (f d c e:List UInt8) (a b r:RQ) (i:CO 124 [Ω g f d,Ω s1 c e] (Va0 r)) (h:CO 107 [.agg (Vag r)] (.ret (ω (jQ r)))):CO 76 [Ω g f d,Ω s1 c e] (.ret (ω (jQ r))):=pK [] 0 0 (.n 6 .nil) (.c h (.c i .nil))
theorem am5 (g s1:Bool) (f d c e:List UInt8) (a b r:RQ) (k:VaK g f d a) (j:VaK s1 c e b) (i:CO 160 [.str (ae a.n),.str (ae b.n)] (.ret (.str (ae (a.n*b.n))))) (l:VaE a b) (h:CO 159 [.bool (!(a.neg==b.neg)),.str (ae (a.n*b.n)),.str (ae (a.d*b.d))] (Va0 r)):CO 121 [Ω g f d,Ω s1 c e] (Va0 r):=pK [] 0 0 (.n 18 .nil) (.c h (.c l (.c i (.c j (.c k .nil)))))
theorem am_ (g s1:Bool) (f d c e:List UInt8) (a b r:RQ) (h:((ae b.n)== [])=true) (j:VaK g f d a) (i:VaK s1 c e b):CO 114 [Ω g f d,Ω s1 c e] (.ret (.tup [Ω false [] [],.bool false])):=pK [] 1 1 (.k 4 (aA h) (.n 9 .nil)) (.c i (.c j .nil))
theorem ana (g s1:Bool) (f d c e:List UInt8) (a b r:RQ) (i:((ae b.n)== [])=false) (l:VaK g f d a) (k:VaK s1 c e b) (j:Vaf a b) (m:CO 160 [.str (ae a.d),.str (ae b.n)] (.ret (.str (ae (a.d*b.n))))) (h:CO 159 [.bool (!(a.neg==b.neg)),.str (ae (a.n*b.d)),.str (ae (a.d*b.n))] (Va0 r)):CO 114 [Ω g f d,Ω s1 c e] (.ret (.tup [.agg (Vag r),.bool true])):=pK [] 1 0 (.k 10 (az i) (.n 9 .nil)) (.c h (.c m (.c j (.c k (.c l .nil)))))
theorem amR (e s1:Bool) (d c h i:List UInt8) (a b r:RQ) (f:((ae a.n)== [])=false) (g:CO 47 [Ω e d c] (.ret (.agg [.bool a.neg,.str (ae a.n),.str (ae a.d)]))):CO 93 [Ω e d c] (.ret (Ω (!a.neg) (ae a.n) (ae a.d))):=pK [] 1 1 (.k 9 (dC f) (.n 5 .nil)) (.c g .nil)
theorem amS (e s1:Bool) (d c h i:List UInt8) (a b r:RQ) (f:((ae a.n)== [])=true) (g:CO 47 [Ω e d c] (.ret (.agg [.bool a.neg,.str (ae a.n),.str (ae a.d)]))):CO 93 [Ω e d c] (.ret (.agg [.bool a.neg,.str (ae a.n),.str (ae a.d)])):=pK [] 1 0 (.k 7 (aP f) (.n 5 .nil)) (.c g .nil)
abbrev Vah (a:RQ) (b:RQ):Prop:=CO 48 [.str (ae a.n),.str (ae b.d)] (.ret (.str (ae (a.n*b.d))))
abbrev VaF (a:RQ) (b:RQ):Prop:=CO 48 [.str (ae a.d),.str (ae b.d)] (.ret (.str (ae (a.d*b.d))))
theorem ae1 (g s1:Bool) (f d c e:List UInt8) (a b r:RQ) (i:(a.neg==b.neg)=true) (l:CO 47 [Ω g f d] (Va0 a)) (k:CO 47 [Ω s1 c e] (Va0 b)) (j:Vah a b) (o:Vah b a) (h:VaF a b) (n:CO 50 (Vaq a b) (.ret (.str (ae ((a.n*b.d)+(b.n*a.d)))))) (m:CO 49 [.bool a.neg,.str (ae ((a.n*b.d)+(b.n*a.d))),.str (ae (a.d*b.d))] (Va0 r)):CO 22 [Ω g f d,Ω s1 c e] (Va0 r):=pK [] 1 1 (.k 5 (aA i) (.n 16 .nil)) (.c m (.c n (.c h (.c o (.c j (.c k (.c l .nil)))))))
theorem ae2 (e s1:Bool) (d g c f:List UInt8) (a b r:RQ) (m:(decide (((0:Nat):Int)<=(oz (a.n*b.d) (b.n*a.d))))=true) (p:(a.neg==b.neg)=false) (j:CO 47 [Ω e d g] (Va0 a)) (i:CO 47 [Ω s1 c f] (Va0 b)) (h:Vah a b) (k:Vah b a) (l:VaF a b) (n:CO 51 (Vaq a b) (.ret (ω (oz (a.n*b.d) (b.n*a.d))))) (q:CO 52 (Vaq a b) (VaJ a b)) (o:CO 49 [.bool a.neg,.str (ae ((a.n*b.d) - (b.n*a.d))),.str (ae (a.d*b.d))] (Va0 r)):CO 22 [Ω e d g,Ω s1 c f] (Va0 r):=pK [] 2 2 (.k 5 (aA m) (.c (az p) (.n 16 .nil))) (.c o (.c q (.c n (.c l (.c k (.c h (.c i (.c j .nil))))))))
theorem ae3 (e s1:Bool) (d g c f:List UInt8) (a b r:RQ) (m:(decide (((0:Nat):Int)<=(oz (a.n*b.d) (b.n*a.d))))=false) (p:(a.neg==b.neg)=false) (j:CO 47 [Ω e d g] (Va0 a)) (i:CO 47 [Ω s1 c f] (Va0 b)) (h:Vah a b) (k:Vah b a) (l:VaF a b) (n:CO 51 (Vaq a b) (.ret (ω (oz (a.n*b.d) (b.n*a.d))))) (q:CO 52 (Vaq b a) (VaJ b a)) (o:CO 49 [.bool b.neg,.str (ae ((b.n*a.d) - (a.n*b.d))),.str (ae (a.d*b.d))] (Va0 r)):CO 22 [Ω e d g,Ω s1 c f] (Va0 r):=pK [] 2 0 (.k 5 (az m) (.c (az p) (.n 16 .nil))) (.c o (.c q (.c n (.c l (.c k (.c h (.c i (.c j .nil))))))))
theorem amU (g s1:Bool) (f d c e:List UInt8) (a b r:RQ) (i:CO 93 [Ω s1 c e] (Va0 b)) (h:CO 22 [Ω g f d,.agg (Vag b)] (Va0 r)):CO 55 [Ω g f d,Ω s1 c e] (Va0 r):=pK [] 0 0 (.n 10 .nil) (.c h (.c i .nil))
theorem amP (g s1:Bool) (f d c e:List UInt8) (a b r:RQ) (i:CO 55 [Ω g f d,Ω s1 c e] (Va0 r)) (h:CO 54 [.agg (Vag r)] (.ret (ω (jQ r)))):CO 25 [Ω g f d,Ω s1 c e] (.ret (ω (jQ r))):=pK [] 0 0 (.n 6 .nil) (.c h (.c i .nil))
theorem amT (g s1:Bool) (f d c e:List UInt8) (a b r:RQ) (i:((ae b.n)== [])=false) (l:CO 47 [Ω g f d] (Va0 a)) (k:CO 47 [Ω s1 c e] (Va0 b)) (j:Vah a b) (m:CO 48 [.str (ae a.d),.str (ae b.n)] (.ret (.str (ae (a.d*b.n))))) (h:CO 49 [.bool (!(a.neg==b.neg)),.str (ae (a.n*b.d)),.str (ae (a.d*b.n))] (Va0 r)):CO 32 [Ω g f d,Ω s1 c e] (.ret (.tup [.agg (Vag r),.bool true])):=pK [] 1 0 (.k 10 (az i) (.n 9 .nil)) (.c h (.c m (.c j (.c k (.c l .nil)))))
def oO (q:RQ):RQ:=⟨!q.neg && decide (0<q.n),q.n,q.d⟩
def mV (a b:RQ):RQ:=if a.neg=b.neg then kC a.neg (a.n*b.d+b.n*a.d) (a.d*b.d) else if b.n*a.d<=a.n*b.d then kC a.neg (a.n*b.d - b.n*a.d) (a.d*b.d) else kC b.neg (b.n*a.d - a.n*b.d) (a.d*b.d)
def kR (a b:RQ):RQ:=mV a (oO b)
def iH (a b:RQ):Int:=jQ (kR a b)
def gJ (a b:RQ):RQ:=kC (!(a.neg==b.neg)) (a.n*b.n) (a.d*b.d)
def bQ (a b:RQ):RQ:=kC (!(a.neg==b.neg)) (a.n*b.d) (a.d*b.n)
theorem jS {q:RQ} (h:q.ok):vQ q.neg (ae q.n) (ae q.d)=q:=by
 unfold vQ;rw [if_pos (xO q h),aI,aI]
theorem qW {q:RQ} (h:q.ok):(oO q).ok:=by
 refine ⟨h.1,h.2.1,λc=> ?_⟩;simp only [oO,τ,decide_eq_true_eq] at c;exact c.2
theorem jr {a b:RQ} (d:a.ok) (c:b.ok):(mV a b).ok:=by
 have hd:0<a.d*b.d:=Xjl d.1 c.1;unfold mV;split
 .exact BZ hd
 .split
  .exact BZ hd
  .exact BZ hd
theorem Ce {a b:RQ} (c:a.ok) (d:b.ok):(gJ a b).ok:=BZ (Xjl c.1 d.1)
theorem qc {a b:RQ} (c:a.ok) (d:0<b.n):(bQ a b).ok:=BZ (Xjl c.1 d)
theorem Aj (x:Nat):x<2^(8*(ae x).length):=Cf.1 (κ _)
theorem dH (x y:Nat):(ae (x*y)).length<=(ae x).length+(ae y).length:=by
 refine dw ?_;rw [Xxs,Xxt];exact Nat.mul_lt_mul'' (Aj x) (Aj y)
theorem nM {x y:Nat} (h:x<=y):(ae x).length<=(ae y).length:=dw (χ h (Aj y))
theorem F9 (x y:Nat):(ae (x+y)).length<=(ae x).length+(ae y).length+1:=by
 refine dw ?_;have c:=υ (Aj x) (Ψ (n:=2) (by omega) (show 8*(ae x).length<=8*((ae x).length+(ae y).length) by omega));have d:=υ (Aj y) (Ψ (n:=2) (by omega) (show 8*(ae y).length<=8*((ae x).length+(ae y).length) by omega));rw [show 8*((ae x).length+(ae y).length+1)=8*((ae x).length+(ae y).length)+8 by omega,Xxt];generalize 2^(8*((ae x).length+(ae y).length))=P at*
 omega
theorem agv (s:List UInt8):(ae (ag s)).length<=s.length:=dw (h_ s)
theorem iJ (s:Bool) (n d:List UInt8):(ae (vQ s n d).n).length<=n.length/\(ae (vQ s n d).d).length<=d.length+1:=by
 unfold vQ;split
 .exact ⟨agv n,Nat.le_succ_of_le (agv d)⟩
 .refine ⟨by show (ae 0).length<=_;rw [dX];simp, ?_⟩;show (ae 1).length<=_;have:(ae 1).length<=1:=dw (by decide);omega
theorem nY (c:Bool) (n d:Nat):(ae (kC c n d).n).length<=(ae n).length/\(ae (kC c n d).d).length<=(ae d).length:=
 ⟨nM (Xxg _ _),nM (Xxg _ _)⟩
theorem BV (a b:RQ) (L:Nat) (f:(ae a.n).length<=L) (h:(ae a.d).length<=L) (d:(ae b.n).length<=L) (c:(ae b.d).length<=L):(ae (mV a b).n).length<=4*L+1/\(ae (mV a b).d).length<=2*L:=by
 have e:=dH a.n b.d;have i:=dH b.n a.d;have g:=dH a.d b.d;have s1:=F9 (a.n*b.d) (b.n*a.d);unfold mV;split
 .have:=nY a.neg (a.n*b.d+b.n*a.d) (a.d*b.d);omega
 .split
  .have:=nY a.neg (a.n*b.d - b.n*a.d) (a.d*b.d);have:=nM (Xwn (a.n*b.d) (b.n*a.d));omega
  .have:=nY b.neg (b.n*a.d - a.n*b.d) (a.d*b.d);have:=nM (Xwn (b.n*a.d) (a.n*b.d));omega
theorem IV (x y:Nat) (d:(ae x).length<2^34:=by omega) (c:(ae y).length<2^34:=by omega):CO 160 [.str (ae x),.str (ae y)] (.ret (.str (ae (x*y)))):=by
 have h:=aeE (ae x) (ae y) (by omega) (by omega);rw [aI,aI] at h;exact h
theorem agB (x y:Nat) (d:(ae x).length<2^34:=by omega) (c:(ae y).length<2^34:=by omega):CO 123 [.str (ae x),.str (ae y)] (.ret (.str (ae (x+y)))):=by
 have h:=aev (ae x) (ae y) (by omega) (by omega);rw [aI,aI] at h;exact h
theorem agD (x y:Nat) (e:(ae x).length<2^34) (d:(ae y).length<2^34) (c:y<=x):CO 195 [.str (ae x),.str (ae y)] (.ret (.tup [.str (ae (x - y)),.bool true])):=by
 have h:=aeI (ae x) (ae y) (by omega) (by omega) (by rw [aI,aI];exact c);rw [aI,aI] at h;exact h
theorem al5 (x y:Nat) (e:(ae x).length<2^34) (d:(ae y).length<2^34) (c:x<y):CO 195 [.str (ae x),.str (ae y)] (.ret (.tup [.str [],.bool false])):=
 aeH (ae x) (ae y) (by omega) (by omega) (by rw [aI,aI];exact c)
theorem I9 (x y:Nat) (d:(ae x).length<=3:=by omega) (c:(ae y).length<=4:=by omega):CO 48 [.str (ae x),.str (ae y)] (.ret (.str (ae (x*y)))):=by
 have h:=aaT (ae x) (ae y) (by omega) (by omega);rw [aI,aI] at h;exact h
theorem PH (x y L:Nat) (f:(ae x).length<=L) (e:(ae y).length<=L):(ae (x+y)).length<=L+1:=by
 refine dw ?_;have c:=υ (Aj x) (Ψ (n:=2) (by omega) (show 8*(ae x).length<=8*L by omega));have d:=υ (Aj y) (Ψ (n:=2) (by omega) (show 8*(ae y).length<=8*L by omega));rw [show 8*(L+1)=8*L+8 by omega,Xxt];generalize 2^(8*L)=P at*
 omega
theorem amN (x y:Nat) (d:(ae x).length<=7) (c:(ae y).length<=7):CO 50 [.str (ae x),.str (ae y)] (.ret (.str (ae (x+y)))):=by
 have h:=XQ (ae x) (ae y) (by omega) (by omega);rw [aI,aI] at h;exact h
theorem agI (x y:Nat) (e:(ae x).length<2^33) (d:(ae y).length<2^33) (c:y<=x):CO 52 [.str (ae x),.str (ae y)] (.ret (.tup [.str (ae (x - y)),.bool true])):=by
 have h:=X7 (ae x) (ae y) (by omega) (by omega) (by rw [aI,aI];exact c);rw [aI,aI] at h;exact h
theorem amO (x y:Nat) (d:(ae x).length<2^33) (c:(ae y).length<2^33):CO 51 [.str (ae x),.str (ae y)] (.ret (ω (oz x y))):=by
 have h:=N9 (ae x) (ae y) (by omega) (by omega);rw [aI,aI] at h;exact h
theorem LC (c:Bool) (n d:Nat) (e:(ae n).length<2^33) (hd:(ae d).length<2^33) (h0:0<d):CO 159 [.bool c,.str (ae n),.str (ae d)] (.ret (qA (kC c n d))):=by
 have h:=aaD c (ae n) (ae d) (by omega) (by omega) (by rw [aI];exact h0);rw [aI,aI] at h;exact h
theorem abI (q:RQ) (c:q.ok) (d:(ae q.n).length<2^33) (hd:(ae q.d).length<2^33):CO 107 [.agg [.bool q.neg,.str (ae q.n),.str (ae q.d)]] (.ret (ω (jQ q))):=by
 have h:=kP q.neg (ae q.n) (ae q.d) (by omega) (by omega);rw [AQ,jS c] at h;exact h
theorem amV (q:RQ) (c:q.ok) (d:(ae q.n).length<=7) (hd:(ae q.d).length<=7):CO 54 [.agg [.bool q.neg,.str (ae q.n),.str (ae q.d)]] (.ret (ω (jQ q))):=by
 have h:=Lp q.neg (ae q.n) (ae q.d);rw [AQ,jS c] at h;exact h
theorem qg (c:Bool) (n d:List UInt8) (g:n.length<2^33:=by omega) (hd:d.length<2^33:=by omega):CO 158 [Ω c n d] (.ret (qA (vQ c n d))):=by
 have f:=uM c n d;unfold vQ;cases e:jG c n d with
 |false=>
  rw [e] at f;have h:=anj c false n d [] [] q0 q0 q0 e (by rw [e];exact f) lC;rw [if_neg (by simp)];exact h
 |true=>
  rw [e] at f;have h:=ank c false n d [] [] q0 q0 q0 e (by rw [e];exact f);rw [if_pos rfl,<- U3 e];exact h
theorem abG (c:Bool) (n d:List UInt8) (i:n.length<2^33) (hd:d.length<2^33):CO 171 [Ω c n d] (.ret (qA (oO (vQ c n d)))):=by
 have g:=qg c n d i hd;generalize vQ c n d=a at*
 have e:(!((ae a.n)== []))=decide (0<a.n):=by
  rcases Xqf a.n with h|h
  .rw [h,dX];rfl
  .rw [Yq0 h,Xqs,Yq2];intro h0;rw [fQ] at h0;omega
 unfold oO qA;cases f:a.neg with
 |false=>
  have h:=am6 c false n d [] [] a q0 q0 f g;rw [e] at h;exact h
 |true=>exact am7 c false n d [] [] a q0 q0 f g
theorem ae5 (c:Bool) (n d:List UInt8) (k:n.length<=7) (hd:d.length<=7):CO 93 [Ω c n d] (.ret (qA (oO (vQ c n d)))):=by
 have f:=oU c n d k hd;have i:=fJ c n d;generalize vQ c n d=a at*
 unfold oO qA;rcases Xqf a.n with h|h
 .have g:a.neg=false:=by
   cases j:a.neg with
   |false=>rfl
   |true=>have:=i.2.2 j;omega
  have e:=amS c false n d [] [] a q0 q0 (by rw [h,dX];rfl) f;rw [g,Yq1 (by omega)];rw [g] at e;exact e
 .have e:=amR c false n d [] [] a q0 q0 (by rw [Yq2];intro h0;rw [fQ] at h0;omega) f;rw [Yq0 h,Xwo];exact e
theorem Jm (g s1:Bool) (e f c d:List UInt8) (A:e.length<2^29) (u:f.length<2^29) (x:c.length<2^29) (w:d.length<2^29):CO 170 [Ω g e f,Ω s1 c d] (.ret (qA (mV (vQ g e f) (vQ s1 c d)))):=by
 have j:=qg g e f;have l:=qg s1 c d;obtain ⟨B,r⟩:=iJ g e f;obtain ⟨C,v⟩:=iJ s1 c d;have o:=fJ g e f;have n:=fJ s1 c d;generalize vQ g e f=a at*
 generalize vQ s1 c d=b at*
 have hd:0<a.d*b.d:=Xjl o.1 n.1;have z:=dH a.n b.d;have q:=dH b.n a.d;have t:=dH a.d b.d;have k:=IV a.n b.d;have m:=IV b.n a.d;have i:=IV a.d b.d;have p:=F9 (a.n*b.d) (b.n*a.d);have y:=nM (Xwn (a.n*b.d) (b.n*a.d));have D:=nM (Xwn (b.n*a.d) (a.n*b.d));unfold mV;by_cases hs:a.neg=b.neg
 .rw [if_pos hs];exact ae8 g s1 e f c d a b _ (by rw [hs];exact beq_self_eq_true _) j l k m i (agB _ _) (LC a.neg _ _ (by omega) (by omega) hd)
 .rw [if_neg hs];have h:(a.neg==b.neg)=false:=beq_eq_false_iff_ne.2 hs;by_cases hl:b.n*a.d<=a.n*b.d
  .rw [if_pos hl];exact ae9 g s1 e f c d a b _ h j l k m i (agD _ _ (by omega) (by omega) hl) (LC a.neg _ _ (by omega) (by omega) hd)
  .rw [if_neg hl];exact ae7 g s1 e f c d a b _ h j l k m i (al5 _ _ (by omega) (by omega) (by omega)) (agD _ _ (by omega) (by omega) (by omega)) (LC b.neg _ _ (by omega) (by omega) hd)
theorem Jp (g s1:Bool) (f e c d:List UInt8) (j:f.length<2^29) (m:e.length<2^29) (p:c.length<2^28) (o:d.length<2^28):CO 124 [Ω g f e,Ω s1 c d] (.ret (qA (kR (vQ g f e) (vQ s1 c d)))):=by
 have n:=abG s1 c d (by omega) (by omega);obtain ⟨k,l⟩:=iJ s1 c d;have i:=qW (fJ s1 c d);unfold kR;have h:=Jm g (oO (vQ s1 c d)).neg f e (ae (oO (vQ s1 c d)).n) (ae (oO (vQ s1 c d)).d) j m (χ k (by omega)) (χ l (by omega));rw [jS i] at h;exact anf g s1 f e c d q0 _ _ n h
theorem Jn (g s1:Bool) (f d c e:List UInt8) (n:f.length<2^28) (q:d.length<2^28) (j:c.length<2^28) (i:e.length<2^28):CO 76 [Ω g f d,Ω s1 c e] (.ret (ω (iH (vQ g f d) (vQ s1 c e)))):=by
 have h:=Jp g s1 f d c e (by omega) (by omega) j i;obtain ⟨o,p⟩:=iJ g f d;obtain ⟨l,m⟩:=iJ s1 c e;have k:(kR (vQ g f d) (vQ s1 c e)).ok:=jr (fJ _ _ _) (qW (fJ _ _ _));have r:=BV (vQ g f d) (oO (vQ s1 c e)) (2^29) (by omega) (by omega) (Xqr l (by omega)) (Xqr m (by omega));exact amZ g s1 f d c e q0 q0 _ h (abI _ k (by unfold kR;omega) (by unfold kR;omega))
theorem Jo (g s1:Bool) (e f c d:List UInt8) (r:e.length<2^29) (m:f.length<2^29) (p:c.length<2^29) (o:d.length<2^29) (h0:0<(vQ s1 c d).n):CO 114 [Ω g e f,Ω s1 c d] (.ret (.tup [qA (bQ (vQ g e f) (vQ s1 c d)),.bool true])):=by
 have i:=qg g e f;have k:=qg s1 c d;obtain ⟨t,l⟩:=iJ g e f;obtain ⟨u,n⟩:=iJ s1 c d;have j:=fJ g e f;generalize vQ g e f=a at*
 generalize vQ s1 c d=b at*
 have q:=dH a.n b.d;have v:=dH a.d b.n;exact ana g s1 e f c d a b (bQ a b) (by rw [Yq2];intro h;rw [fQ] at h;omega) i k (IV a.n b.d) (IV a.d b.n) (LC _ _ _ (by omega) (by omega) (Xjl j.1 h0))
theorem Qv (g s1:Bool) (f e c d:List UInt8) (l:f.length<2^29) (m:e.length<2^29) (k:c.length<2^29) (j:d.length<2^29) (h0:(vQ s1 c d).n=0):CO 114 [Ω g f e,Ω s1 c d] (.ret (.tup [Ω false [] [],.bool false])):=by
 have h:=qg g f e;have i:=qg s1 c d;exact am_ g s1 f e c d _ _ q0 (by rw [h0,dX];rfl) h i
theorem ae0 (g s1:Bool) (e f c d:List UInt8) (E:e.length<=3) (y:f.length<=2) (B:c.length<=3) (A:d.length<=3) (l:(ae (vQ s1 c d).d).length<=3):CO 22 [Ω g e f,Ω s1 c d] (.ret (qA (mV (vQ g e f) (vQ s1 c d)))):=by
 have j:=oU g e f;have n:=oU s1 c d;obtain ⟨F,w⟩:=iJ g e f;obtain ⟨G,z⟩:=iJ s1 c d;have r:=fJ g e f;have q:=fJ s1 c d;generalize vQ g e f=a at*
 generalize vQ s1 c d=b at*
 have t:(ae b.d).length<=3:=l;have hd:0<a.d*b.d:=Xjl r.1 q.1;have D:=dH a.n b.d;have v:=dH b.n a.d;have x:=dH a.d b.d;have k:=I9 a.n b.d;have o:=I9 b.n a.d;have i:=I9 a.d b.d;have u:=PH (a.n*b.d) (b.n*a.d) 6 (by omega) (by omega);have C:=nM (Xwn (a.n*b.d) (b.n*a.d));have H:=nM (Xwn (b.n*a.d) (a.n*b.d));unfold mV;by_cases hs:a.neg=b.neg
 .rw [if_pos hs];exact ae1 g s1 e f c d a b _ (by rw [hs];exact beq_self_eq_true _) j n k o i (amN _ _ (by omega) (by omega)) (uK a.neg _ _ (by omega) (by omega) hd)
 .rw [if_neg hs];have h:(a.neg==b.neg)=false:=beq_eq_false_iff_ne.2 hs;have p:=amO (a.n*b.d) (b.n*a.d) (by omega) (by omega);by_cases hl:b.n*a.d<=a.n*b.d
  .rw [if_pos hl];have m:decide (((0:Nat):Int)<=oz (a.n*b.d) (b.n*a.d))=true:=by unfold oz;rw [if_neg (by omega)];split<;>rfl
   exact ae2 g s1 e f c d a b _ m h j n k o i p (agI _ _ (by omega) (by omega) hl) (uK a.neg _ _ (by omega) (by omega) hd)
  .rw [if_neg hl];have m:decide (((0:Nat):Int)<=oz (a.n*b.d) (b.n*a.d))=false:=by unfold oz;rw [if_pos (by omega)];rfl
   exact ae3 g s1 e f c d a b _ m h j n k o i p (agI _ _ (by omega) (by omega) (by omega)) (uK b.neg _ _ (by omega) (by omega) hd)
theorem ae6 (g s1:Bool) (f e c d:List UInt8) (l:f.length<=3) (n:e.length<=2) (k:c.length<=3) (p:d.length<=2):CO 55 [Ω g f e,Ω s1 c d] (.ret (qA (kR (vQ g f e) (vQ s1 c d)))):=by
 have o:=ae5 s1 c d (by omega) (by omega);obtain ⟨m,j⟩:=iJ s1 c d;have i:=qW (fJ s1 c d);unfold kR;have h:=ae0 g (oO (vQ s1 c d)).neg f e (ae (oO (vQ s1 c d)).n) (ae (oO (vQ s1 c d)).d) l n (Xqr m k) (Xqr j (by omega)) (by rw [jS i];exact Xqr j (by omega));rw [jS i] at h;exact amU g s1 f e c d q0 _ _ o h
theorem ae4 (g s1:Bool) (e f c d:List UInt8) (w:e.length<=3) (t:f.length<=2) (j:c.length<=3) (l:d.length<=2):CO 25 [Ω g e f,Ω s1 c d] (.ret (ω (iH (vQ g e f) (vQ s1 c d)))):=by
 have h:=ae6 g s1 e f c d (by omega) (by omega) j l;obtain ⟨x,q⟩:=iJ g e f;obtain ⟨n,k⟩:=iJ s1 c d;have m:(kR (vQ g e f) (vQ s1 c d)).ok:=jr (fJ _ _ _) (qW (fJ _ _ _));have i:(ae (kR (vQ g e f) (vQ s1 c d)).n).length<=7/\(ae (kR (vQ g e f) (vQ s1 c d)).d).length<=7:=by
  have o:(ae (oO (vQ s1 c d)).n).length<=3:=Xqr n j;have u:(ae (oO (vQ s1 c d)).d).length<=3:=Xqr k (by omega);unfold kR;generalize oO (vQ s1 c d)=b at*
  generalize vQ g e f=a at*
  have v:=dH a.n b.d;have p:=dH b.n a.d;have r:=dH a.d b.d;have s1:=PH (a.n*b.d) (b.n*a.d) 6 (by omega) (by omega);unfold mV;split
  .have:=nY a.neg (a.n*b.d+b.n*a.d) (a.d*b.d);omega
  .split
   .have:=nY a.neg (a.n*b.d - b.n*a.d) (a.d*b.d);have:=nM (Xwn (a.n*b.d) (b.n*a.d));omega
   .have:=nY b.neg (b.n*a.d - a.n*b.d) (a.d*b.d);have:=nM (Xwn (b.n*a.d) (a.n*b.d));omega
 exact amP g s1 e f c d q0 q0 _ h (amV _ m i.1 i.2)
theorem Gj (g s1:Bool) (e f c d:List UInt8) (r:e.length<=3) (m:f.length<=2) (p:c.length<=3) (o:d.length<=2) (h0:0<(vQ s1 c d).n):CO 32 [Ω g e f,Ω s1 c d] (.ret (.tup [qA (bQ (vQ g e f) (vQ s1 c d)),.bool true])):=by
 have i:=oU g e f;have k:=oU s1 c d;obtain ⟨t,l⟩:=iJ g e f;obtain ⟨u,n⟩:=iJ s1 c d;have j:=fJ g e f;generalize vQ g e f=a at*
 generalize vQ s1 c d=b at*
 have q:=dH a.n b.d;have v:=dH a.d b.n;exact amT g s1 e f c d a b (bQ a b) (by rw [Yq2];intro h;rw [fQ] at h;omega) i k (I9 a.n b.d) (I9 a.d b.n) (uK _ _ _ (by omega) (by omega) (Xjl j.1 h0))
theorem Vz (g s1:Bool) (e f c d:List UInt8) (r:e.length<2^29) (m:f.length<2^29) (p:c.length<2^29) (o:d.length<2^29):CO 121 [Ω g e f,Ω s1 c d] (.ret (qA (gJ (vQ g e f) (vQ s1 c d)))):=by
 have i:=qg g e f;have k:=qg s1 c d;obtain ⟨t,l⟩:=iJ g e f;obtain ⟨u,n⟩:=iJ s1 c d;have j:=fJ g e f;have h:=fJ s1 c d;generalize vQ g e f=a at*
 generalize vQ s1 c d=b at*
 have q:=dH a.n b.n;have v:=dH a.d b.d;exact am5 g s1 e f c d a b (gJ a b) i k (IV a.n b.n) (IV a.d b.d) (LC _ _ _ (by omega) (by omega) (Xjl j.1 h.1))
def iK (a:Int) (n:Nat):Nat:=(a % (n:Int)).toNat
theorem fF {a:Int} {n:Nat} (h:0<n:=by omega):iK a n<n:=by
 unfold iK;have d:=Yxb a (b:=(n:Int)) (by omega);have c:=Yqe a (b:=(n:Int)) (by omega);omega
theorem FM {k:Nat} (h:k<4611686018427387904:=by omega):ω (γ .i64 (((1:Nat):Int)+(k:Int)))= ω ((1+k:Nat):Int):=by
 have e:γ .i64 (((1:Nat):Int)+(k:Int))=((1+k:Nat):Int):=by rw [dM]<;>omega
 rw [e]
theorem al2 (a n:Int) (h0:lit true (decide ((Xxk a n)<((0:Nat):Int)))=true) (c:(!(n==((0:Nat):Int)))=true):CO 35 [ω a,ω n] (.ret (ω (γ .i64 ((Xxk a n)+n)))):=pK [] 1 1 (.c h0 (.c c .nil)) (.nil)
theorem al3 (a n:Int) (h0:lit false (decide ((Xxk a n)<((0:Nat):Int)))=true) (c:(!(n==((0:Nat):Int)))=true):CO 35 [ω a,ω n] (.ret (ω (Xxk a n))):=pK [] 1 0 (.c h0 (.c c .nil)) (.nil)
theorem jw (a:Int) (n:Nat) (l:0<n:=by omega) (f:n<=4611686018427387904:=by omega):CO 35 [ω a,ω (n:Int)] (.ret (ω ((iK a n:Nat):Int))):=by
 have c:(!((n:Int)==((0:Nat):Int)))=true:=by
  rw [beq_eq_false_iff_ne.2 (by omega)];rfl
 have k:=Yqf a (b:=(n:Int)) (by omega);have i: -(n:Int)<Xxk a n:=by
  have:=Yqf (-a) (b:=(n:Int)) (by omega);rw [Int.neg_tmod] at this;omega
 have d:=Yxb a (b:=(n:Int)) (by omega);have j:=Yqe a (b:=(n:Int)) (by omega);have h5:Xxk a n % (n:Int)=a % (n:Int):=by
  have e:=Int.mul_tdiv_add_tmod a (n:Int);have:a=Xxk a n+(n:Int)*(Xq6 a n):=by omega
  conv=>rhs;rw [this,Int.add_mul_emod_self_left]
 have g:((iK a n:Nat):Int)=a % (n:Int):=Int.toNat_of_nonneg d;rw [g];by_cases h:Xxk a n<0
 .have hp:=al2 a n (by simpa [lit] using h) c;have e:γ .i64 (Xxk a n+(n:Int))=a % (n:Int):=by
   rw [dM (by omega) (by omega)];rw [<- h5,<- Int.add_emod_right,Yqm (by omega) (by omega)]
  rw [e] at hp;exact hp
 .have hp:=al3 a n (by simp only [lit,Xqs,decide_eq_false_iff_not];exact h) c;have e:Xxk a n=a % (n:Int):=by rw [<- h5,Yqm (by omega) (by omega)]
  rw [e] at hp;exact hp
theorem D_ (a:Int) (k:Nat) (h0:(chk .str (η (ε ((0+(δ (k:Int)))*1) [.str [97],.str [98],.str [116,97,120],.str [119,97,103,101],.str [120,95,49],.str zcc2_0]) .dead))=true) (c:Va3 k) (e:(decide ((k:Int)<((6:Nat):Int)))=true) (d:CO 35 [ω a,ω 6] (.ret (ω (k:Int)))):CO 34 [ω a] (.ret (.str (Xky (η (ε ((0+(δ (k:Int)))*1) [.str [97],.str [98],.str [116,97,120],.str [119,97,103,101],.str [120,95,49],.str zcc2_0]) .dead)))):=pK [] 0 0 (.c h0 (.c c (.c e .nil))) (.c d .nil)
def bC (k:Nat):List UInt8:= [[97],[98],[116,97,120],[119,97,103,101],[120,95,49],zcc2_0].getD k []
theorem jy (a:Int):CO 34 [ω a] (.ret (.str (bC (iK a 6)))):=by
 have c:=jw a 6;have d:=fF (a:=a) (n:=6);generalize iK a 6=k at*
 match k,d,c with
 |0,_,c=>exact D_ a 0 rfl rfl rfl c
 |1,_,c=>exact D_ a 1 rfl rfl rfl c
 |2,_,c=>exact D_ a 2 rfl rfl rfl c
 |3,_,c=>exact D_ a 3 rfl rfl rfl c
 |4,_,c=>exact D_ a 4 rfl rfl rfl c
 |5,_,c=>exact D_ a 5 rfl rfl rfl c
theorem aen (q0 h v:Int) (g f c z y e d x:Nat) (w:RQ) (C:g<4611686018427387904) (t:f<4611686018427387904) (H:c<4611686018427387904) (D:z<4611686018427387904) (E:y<4611686018427387904) (A:e<4611686018427387904) (m:d<4611686018427387904) (F:x<4611686018427387904) (h0:lit true ((c:Int)==((3:Nat):Int))=true) (G:lit false ((c:Int)==((2:Nat):Int))=true) (B:lit false ((c:Int)==((1:Nat):Int))=true) (p:CO 35 [ω q0,ω 1000] (.ret (ω (g:Int)))) (n:CO 58 [ω (g:Int)] (Vaj g)) (q:CO 35 [ω h,ω 60] (.ret (ω (f:Int)))) (k:CO 58 [ω (((1+f):Nat):Int)] (.ret (.str (ae (1+f))))) (i:CO 35 [ω v,ω 4] (.ret (ω (c:Int)))) (u:CO 35 [ω q0,ω 7] (.ret (ω (e:Int)))) (r:CO 58 [ω (e:Int)] (Vaj e)) (l:CO 35 [ω h,ω 7] (.ret (ω (d:Int)))) (o:CO 58 [ω (((1+d):Nat):Int)] (.ret (.str (ae (1+d))))) (j:CO 49 [.bool (decide (q0<((0:Nat):Int))),.str (ae e),.str (ae (1+d))] (Va0 w)):CO 36 [.agg [ω q0,ω h,ω v]] (Va0 w):=pK [] 3 4 (.k 13 h0 (.c G (.c B (.n 9 .nil)))) (.c j (.c o (.v 59 (.eq (FM m)) (.c l (.c r (.c u (.c i (.c k (.v 12 (.eq (FM t)) (.c q (.c n (.c p .nil))))))))))))
theorem akO {a b:Nat} (h:a=b):(((a:Int))==(b:Int))=true:=by subst h;simp
theorem agb {a b:Nat} (h:a ≠ b):(((a:Int))==(b:Int))=false:=beq_eq_false_iff_ne.2 (by omega)
theorem aaI (q0 c d:Int) (p:iK d 4=3):CO 36 [.agg [ω q0,ω c,ω d]] (.ret (qA (kC (decide (q0<((0:Nat):Int))) (iK q0 7) (1+(iK c 7))))):=by
 have h:(iK q0 1000)<4611686018427387904:=υ (fF) (by omega);have g:(iK c 60)<4611686018427387904:=υ (fF) (by omega);have m:(iK d 4)<4611686018427387904:=υ (fF) (by omega);have j:(iK q0 4611686018427387904)<4611686018427387904:=υ (fF) (by omega);have l:(iK c 4611686018427387904)<4611686018427387904:=υ (fF) (by omega);have f:(iK q0 7)<4611686018427387904:=υ (fF) (by omega);have e:(iK c 7)<4611686018427387904:=υ (fF) (by omega);have i:(iK q0 2147483648)<4611686018427387904:=υ (fF) (by omega);have h7:=fF (a:=q0) (n:=7);have o:=fF (a:=c) (n:=7);exact aen q0 c d (iK q0 1000) (iK c 60) (iK d 4) (iK q0 4611686018427387904) (iK c 4611686018427387904) (iK q0 7) (iK c 7) (iK q0 2147483648) (kC (decide (q0<((0:Nat):Int))) (iK q0 7) (1+(iK c 7))) h g m j l f e i (aA (akO (by omega))) (az (agb (by omega))) (az (agb (by omega))) (jw q0 1000) (mM (iK q0 1000) (by have:=h;omega)) (jw c 60) (mM (1+(iK c 60)) (by have:=g;omega)) (jw d 4) (jw q0 7) (mM (iK q0 7) (by have:=f;omega)) (jw c 7) (mM (1+(iK c 7)) (by have:=e;omega)) (uK _ _ _ (Xqr (dw (k:=1) (by omega)) (by decide)) (Xqr (dw (k:=1) (by omega)) (by decide)) (by omega))
theorem ce0:CO 91 [.str [0,0,0,0,0,0,0,1]] (.ret (.str [1])):=cK (.nil)
theorem ce1:CO 58 [ω 1] (.ret (.str [1])):=cK (.c ce0 .nil)
theorem ce2:CO 91 [.str [0,0,0,0,0,0,0,100]] (.ret (.str [100])):=cK (.nil)
theorem ce3:CO 58 [ω 100] (.ret (.str [100])):=cK (.c ce2 .nil)
theorem Eg {x:Nat} (h:x<2^128):(ae x).length<2^33:=χ (dw (k:=16) h) (by decide)
theorem UR {w:RQ} (c:w.ok) (d:w.n<2^128) (hd:w.d<2^128):eP w.neg (ae w.n) (ae w.d)=true:=by
 have f:=kZ d;have e:=kZ hd;unfold eP;rw [xO w c,aI,aI,Yq0 (by omega),Yq0 (by omega)];rfl
theorem ajS {w:RQ} (d:w.ok) (c:w.neg=false) (e:0<w.n):rU w.neg (ae w.n) (ae w.d)=1:=by
 unfold rU;rw [if_pos ⟨xO w d,by rw [aI];exact e⟩,c];rfl
theorem yA (a:Nat):vQ false (ae a) (ae 1)=⟨false,a,1⟩:=jS (q:=⟨false,a,1⟩) ⟨by simp,by simp,by simp⟩
theorem aaK (a b:Nat) (g:a<16777216) (d:0<b) (c:b<16777216):∃ w:RQ,w.n<16777216/\w.d<16777216/\w.ok/\w.neg=false/\CO 32 [Ω false (ae a) (ae 1),Ω false (ae b) (ae 1)] (.ret (.tup [qA w,.bool true])):=by
 have j:(ae a).length<=3:=dw (k:=3) (by omega);have f:(ae b).length<=3:=dw (k:=3) (by omega);have e:(ae 1).length<=2:=dw (k:=2) (by omega);have h:=Gj false false (ae a) (ae 1) (ae b) (ae 1) j e f e (by rw [yA];exact d);rw [yA,yA] at h;have i:=qc (a:=⟨false,a,1⟩) (b:=⟨false,b,1⟩) ⟨by simp,by simp,by simp⟩ d;refine ⟨_, ?_, ?_,i, ?_,h⟩
 .unfold bQ kC;exact χ (Xxg _ _) (by simpa using g)
 .unfold bQ kC;exact χ (Xxg _ _) (by simpa using c)
 .simp [bQ,kC]
def iL (l:List Int):List AV:=l.map λa=> ω a
theorem UX {a:List Int} {i:Nat} (h:i<a.length):ε (δ (i:Int)*1) (iL a)= [ω (a.getD i 0)]++iL (a.drop (i+1)):=by
 unfold iL;rw [aJ,Xqi,<- Xj0,Xxn h,ξ,μ h];rfl
theorem wms {a b:Nat} (h:a<=b) (c:b<2^62):ω (γ .i64 ((b:Int) - (a:Int)))= ω ((b - a:Nat):Int):=by
 have e:γ .i64 ((b:Int) - (a:Int))=((b - a:Nat):Int):=by rw [dM]<;>omega
 rw [e]
theorem nP (m n:Nat):ω (Xxk (m:Int) (n:Int))= ω ((m % n:Nat):Int):=by
 rw [Int.ofNat_tmod]
theorem h5 (m:Nat):m % 5<4611686018427387904:=by omega
theorem h7 (m:Nat):m % 7<4611686018427387904:=by omega
theorem aoJ (m:Nat):ω (γ .i64 (((21:Nat):Int)+((m % 3:Nat):Int)))= ω ((21+m % 3:Nat):Int):=by
 have e:γ .i64 (((21:Nat):Int)+((m % 3:Nat):Int))=((21+m % 3:Nat):Int):=by rw [dM]<;>omega
 rw [e]
theorem fE (a b:Nat) (h:a<=b:=by omega):decide ((a:Int)<=(b:Int))=true:=Yq0 (by omega)
theorem iI (a b:Nat) (h:b<a:=by omega):decide ((a:Int)<=(b:Int))=false:=Yq1 (by omega)
theorem rO (a b:Nat) (h:a<b:=by omega):decide ((a:Int)<(b:Int))=true:=Yq0 (by omega)
theorem mG (a b:Nat) (h:b<=a:=by omega):decide ((a:Int)<(b:Int))=false:=Yq1 (by omega)
theorem Nj (a b:Nat) (h:a=b:=by omega):((a:Int)==(b:Int))=true:=by subst h;simp
theorem gV (a b:Nat) (h:a ≠ b:=by omega):((a:Int)==(b:Int))=false:=beq_eq_false_iff_ne.2 (by omega)
theorem Aa (a:Nat) (h:a<=1099511627776:=by omega):Xqn a 1099511627776=true:=Γ h
def apN (os:List Nd) (k:Nat):AV:=match os with| []=> .nilS|_::_=> .ref 0 0 0 k
def hpN (os:List Nd):Hp:=match os with| []=> []|a::r=> [(0,⟨aX (a::r),0,false,0,5,true⟩)]
def YY (xs:List Int) (nn:Bool) (p:Nat × Nat × List Nd × Nat):St:=⟨[(0,.sl (iL xs) xs.length nn),(3,apN p.2.2.1 p.2.1),(4,ω (p.2.2.2:Int)),(5,ω (p.1:Int))],hpN p.2.2.1,.dead,[]⟩
def akL (p:Nat × List Nd × Nat):St:=⟨[(3,apN p.2.1 p.1),(4,ω (p.2.2:Int))],hpN p.2.1,.dead,[]⟩
structure BdI (os:List Nd) (n dp k:Nat):Prop where
 sm:∀ x ∈ os,x.sm
 len:os.length=n
 hn:n<=4*k
 hd:dp<=k
 h0:n=0->dp=0
 h1:n ≠ 0->1<=dp
theorem gU {a b:List Nd} (h:∀ x ∈ a,x.sm) (c:∀ x ∈ b,x.sm):∀ x ∈ a++b,x.sm:=λx d=>(List.mem_append.1 d).elim (h x) (c x)
theorem gz {os:List Nd} {n:Nat} (h:os.length=n) (c:List Nd):π (n*5) (aX os)++aX c=aX (os++c):=by
 rw [φ (by rw [yS];omega),Vh]
theorem x_ (m:Nat) (h:m<16777216):(ae m).length<8589934592:=Eg (by omega)
theorem ao_ (i:List Int) (t:Bool) (os:List Nd) (n f k m c:Nat) (x:Int) (T:List AV) (w:RQ) (z:List UInt8) (y:BdI os n f k) (j:k<12) (g:k<i.length) (B:(ε ((δ (k:Int))*1) (iL i))= [ω x]++T) (V:m<60) (N:c<16) (P:w.n<16777216) (R:w.d<16777216)
  (c60:CO 35 [ω (γ .i64 (Xq6 x ((16:Nat):Int))),ω ((60:Nat):Int)] (.ret (ω (m:Int)))) (c16:CO 35 [ω x,ω ((16:Nat):Int)] (.ret (ω (c:Int))))
  (cq:CO 32 [Ω false (ae (1+m % 5)) (ae 1),Ω false (ae (1+m % 7)) (ae 1)] (.ret (.tup [qA w,.bool true]))) (cp:CO 34 [ω ((m % 4:Nat):Int)] (.ret (.str z))):
  ∃ (ys:List Nd) (dp':Nat),BdI (os++ys) (n+ys.length) dp' (k+1)/\∀ nt,152<=nt->ψ nt f37 (YY i t (k,n,os,f)) .normal (YY i t (k+1,n+ys.length,os++ys,dp')):=by
 have d:=y.len;have O:=y.hn;have U:=y.hd;have q:f<2^62:=by omega
 have A:k<2^62:=by omega
 have G:c<2^62:=by omega
 have S:=x_ (m % 12) (by omega);have W:=x_ (m % 5) (by omega);have X:=x_ 1 (by omega);have M:=x_ w.n (by omega);have K:=x_ w.d (by omega);cases os with
 | nil=>
  have C:n=0:=by simpa using d.symm
  have Q:=y.h0 C;subst C;obtain ⟨s,hs⟩:∃ s,((η (ε ((0+(δ (((m % 2):Nat):Int)))*1) [.str [120],.str [121]]) .dead))=Yqr s:=by
   have:m % 2=0\/m % 2=1:=by omega
   rcases this with e|e<;>rw [e]<;>exact ⟨_,rfl⟩
  have F:chk .str ((η (ε ((0+(δ (((m % 2):Nat):Int)))*1) [.str [120],.str [121]]) .dead))=true:=by rw [hs];rfl
  have E:Yqr (Xky (η (ε ((0+(δ (((m % 2):Nat):Int)))*1) [.str [120],.str [121]]) .dead))=Yqr s:=by rw [hs];rfl
  have D:(10<=c/\c<=12/\f=0)\/(14<=c/\f=0)\/(c=13/\f=0)\/(6<=c/\c<=9/\f=0)\/(c<=3/\f=0)\/(c=4/\f=0)\/(c=5/\f=0):=by omega
  rcases D with h|h|h|h|h|h|h
  .refine ⟨[⟨1,false,(ae ((m % 12))),(ae 1),[]⟩],(f+1),⟨gU y.sm (by simp [Nd.sm]<;>omega),by simp,by simp;omega,by omega,by simp,λ_=>by omega⟩,λnt p=> ?_⟩;exact pN 37 [] 14 103 (.k 8 (az (gV c 13)) (.c (az (gV c 5)) (.c (az (gV c 4)) (.c (az (iI 14 c)) (.c (az (mG c 4)) (.k 2 (az (iI 1 f)) (.c (aA (rO c 13)) (.c (aA (fE 10 c)) (.k 1 (az (iI 2 f)) (.c (aA (fE 6 c)) (.k 2 (pU k) (.c (aY g) (.c (aA (aY j)) (.c (aA (aY g)) .nil)))))))))))))) (.v 21 (.eq (pO A)) (.v 135 (.eq (pO q)) (.c (bK (m % 12)) (.v 91 (.eq (nP m 12)) (.c c16 (.c c60 (.v 24 (.ppt B) .nil))))))) p
  .refine ⟨[⟨6,false,[],[],z⟩],(f+1),⟨gU y.sm (by simp [Nd.sm]<;>omega),by simp,by simp;omega,by omega,by simp,λ_=>by omega⟩,λnt p=> ?_⟩;exact pN 37 [] 14 551 (.k 8 (az (gV c 13)) (.c (az (gV c 5)) (.c (az (gV c 4)) (.k 2 (aA (fE 14 c)) (.c (az (mG c 4)) (.k 3 (az (mG c 13)) (.c (aA (fE 10 c)) (.k 1 (az (iI 2 f)) (.c (aA (fE 6 c)) (.k 2 (pU k) (.c (aY g) (.c (aA (aY j)) (.c (aA (aY g)) .nil))))))))))))) (.v 21 (.eq (pO A)) (.v 135 (.eq (pO q)) (.c cp (.v 101 (.eq (nP m 4)) (.c (bK (m % 12)) (.v 91 (.eq (nP m 12)) (.c c16 (.c c60 (.v 24 (.ppt B) .nil))))))))) p
  .refine ⟨[⟨5,false,[],[],[99]⟩,⟨1,false,(ae ((m % 12))),(ae 1),[]⟩,⟨1,false,(ae ((m % 5))),(ae 1),[]⟩,⟨15,false,[],[],[]⟩],(f+1),⟨gU y.sm (by simp [Nd.sm]<;>omega),by simp,by simp;omega,by omega,by simp,λ_=>by omega⟩,λnt p=> ?_⟩;exact pN 37 [] 14 4135 (.k 9 (aA (Nj c 13)) (.c (az (gV c 5)) (.c (az (gV c 4)) (.c (az (iI 14 c)) (.c (az (mG c 4)) (.k 3 (az (mG c 13)) (.c (aA (fE 10 c)) (.k 1 (az (iI 2 f)) (.c (aA (fE 6 c)) (.k 2 (pU k) (.c (aY g) (.c (aA (aY j)) (.c (aA (aY g)) .nil))))))))))))) (.v 21 (.eq (pO A)) (.v 135 (.eq (pO q)) (.c (bK (m % 5)) (.v 124 (.eq (nP m 5)) (.c (bK (m % 12)) (.v 91 (.eq (nP m 12)) (.c c16 (.c c60 (.v 24 (.ppt B) .nil))))))))) p
  .refine ⟨[⟨1,false,(ae ((m % 12))),(ae 1),[]⟩],(f+1),⟨gU y.sm (by simp [Nd.sm]<;>omega),by simp,by simp;omega,by omega,by simp,λ_=>by omega⟩,λnt p=> ?_⟩;exact pN 37 [] 14 7 (.k 8 (az (gV c 13)) (.c (az (gV c 5)) (.c (az (gV c 4)) (.c (az (iI 14 c)) (.c (az (mG c 4)) (.k 4 (az (iI 10 c)) (.k 1 (az (iI 2 f)) (.c (aA (fE 6 c)) (.k 2 (pU k) (.c (aY g) (.c (aA (aY j)) (.c (aA (aY g)) .nil)))))))))))) (.v 21 (.eq (pO A)) (.v 135 (.eq (pO q)) (.c (bK (m % 12)) (.v 91 (.eq (nP m 12)) (.c c16 (.c c60 (.v 24 (.ppt B) .nil))))))) p
  .refine ⟨[⟨6,false,[],[],z⟩],(f+1),⟨gU y.sm (by simp [Nd.sm]<;>omega),by simp,by simp;omega,by omega,by simp,λ_=>by omega⟩,λnt p=> ?_⟩;exact pN 37 [] 14 771 (.k 8 (az (gV c 13)) (.c (az (gV c 5)) (.c (az (gV c 4)) (.k 3 (aA (rO c 4)) (.k 4 (az (iI 10 c)) (.k 2 (az (iI 6 c)) (.k 2 (pU k) (.c (aY g) (.c (aA (aY j)) (.c (aA (aY g)) .nil)))))))))) (.v 21 (.eq (pO A)) (.v 135 (.eq (pO q)) (.c cp (.v 101 (.eq (nP m 4)) (.c (bK (m % 12)) (.v 91 (.eq (nP m 12)) (.c c16 (.c c60 (.v 24 (.ppt B) .nil))))))))) p
  .refine ⟨[⟨8,false,[],[],z⟩],(f+1),⟨gU y.sm (by simp [Nd.sm]<;>omega),by simp,by simp;omega,by omega,by simp,λ_=>by omega⟩,λnt p=> ?_⟩;exact pN 37 [] 14 1027 (.k 8 (az (gV c 13)) (.c (az (gV c 5)) (.k 2 (aA (Nj c 4)) (.c (az (iI 14 c)) (.c (az (mG c 4)) (.k 4 (az (iI 10 c)) (.k 2 (az (iI 6 c)) (.k 2 (pU k) (.c (aY g) (.c (aA (aY j)) (.c (aA (aY g)) .nil))))))))))) (.v 21 (.eq (pO A)) (.v 135 (.eq (pO q)) (.c cp (.v 107 (.eq (nP m 4)) (.c (bK (m % 12)) (.v 91 (.eq (nP m 12)) (.c c16 (.c c60 (.v 24 (.ppt B) .nil))))))))) p
  .refine ⟨[⟨5,false,[],[],s⟩],(f+1),⟨gU y.sm (by simp [Nd.sm]<;>omega),by simp,by simp;omega,by omega,by simp,λ_=>by omega⟩,λnt p=> ?_⟩;exact pN 37 [] 14 2051 (.k 8 (az (gV c 13)) (.k 1 F (.c (fE 0 (m % 2)) (.c (rO (m % 2) 2) (.k 1 (aA (Nj c 5)) (.c (az (gV c 4)) (.c (az (iI 14 c)) (.c (az (mG c 4)) (.k 4 (az (iI 10 c)) (.k 2 (az (iI 6 c)) (.k 2 (pU k) (.c (aY g) (.c (aA (aY j)) (.c (aA (aY g)) .nil)))))))))))))) (.v 21 (.eq (pO A)) (.v 135 (.eq (pO q)) (.v 116 (.eq E) (.v 114 (.eq (nP m 2)) (.c (bK (m % 12)) (.v 91 (.eq (nP m 12)) (.c c16 (.c c60 (.v 24 (.ppt B) .nil))))))))) p
 | cons a r=>
  have C:n ≠ 0:=by simp at d;omega
  have u:(Xqn (n*5) (θ (aX (a::r))))=true:=Γ (by rw [yS,d];exact κ _);obtain ⟨s,hs⟩:∃ s,((η (ε ((0+(δ (((m % 2):Nat):Int)))*1) [.str [120],.str [121]]) .dead))=Yqr s:=by
   have:m % 2=0\/m % 2=1:=by omega
   rcases this with e|e<;>rw [e]<;>exact ⟨_,rfl⟩
  have F:chk .str ((η (ε ((0+(δ (((m % 2):Nat):Int)))*1) [.str [120],.str [121]]) .dead))=true:=by rw [hs];rfl
  have E:Yqr (Xky (η (ε ((0+(δ (((m % 2):Nat):Int)))*1) [.str [120],.str [121]]) .dead))=Yqr s:=by rw [hs];rfl
  have D:(6<=c/\c<=9/\2<=f)\/(c=12/\2<=f)\/(10<=c/\c<=11/\2<=f)\/(14<=c/\2<=f)\/(c=13/\2<=f)\/(c=12/\f=1)\/(10<=c/\c<=11/\f=1)\/(10<=c/\c<=12/\f=0)\/(14<=c/\f<=1)\/(c=13/\f<=1)\/(6<=c/\c<=9/\f<=1)\/c<=3\/c=4\/c=5:=by omega
  rcases D with h|h|h|h|h|h|h|h|h|h|h|h|h|h
  .obtain ⟨o,J⟩:∃ o,(η (ε ((0+(δ (((c - 6):Nat):Int)))*1) [ω 9,ω 13,ω 14,ω 9]) .dead)=ω o:=by
    have:c - 6=0\/c - 6=1\/c - 6=2\/c - 6=3:=by omega
    rcases this with e|e|e|e<;>rw [e]<;>exact ⟨_,rfl⟩
   have I:chk (.int .i64) (η (ε ((0+(δ (((c - 6):Nat):Int)))*1) [ω 9,ω 13,ω 14,ω 9]) .dead)=true:=by rw [J];rfl
   have H:ω (Φ (η (ε ((0+(δ (((c - 6):Nat):Int)))*1) [ω 9,ω 13,ω 14,ω 9]) .dead))=ω o:=by rw [J];rfl
   refine ⟨[⟨o,false,[],[],[]⟩],(f - 1),⟨gU y.sm (by simp [Nd.sm]<;>omega),by simp [<- d],by simp;omega,by omega,by simp,λ_=>by omega⟩,λnt p=> ?_⟩;have l:ψ nt f37 (mW (.sl (iL i) i.length t) n f k (aX (a::r))) .normal (mW (.sl (iL i) i.length t) (n+1) (f - 1) (k+1) ((π (n*5) (aX (a::r)))++ [ω o,.bool false,.str [],.str [],.str []])):=pN 37 [] 5 31 (.k 1 (Aa (n+1)) (.c u (.k 1 I (.c (fE 0 (c - 6)) (.c (rO (c - 6) 4) (.c (aA (rO c 10)) (.c (aA (fE 2 f)) (.c (aA (fE 6 c)) (.k 2 (pU k) (.c (aY g) (.c (aA (aY j)) (.c (aA (aY g)) .nil)))))))))))) (.v 21 (.eq (pO A)) (.v 51 (.eq (wms (a:=1) (by omega) q)) (.v 46 (.eq H) (.v 44 (.eq (wms (a:=6) (by omega) G)) (.c c16 (.c c60 (.v 24 (.ppt B) .nil))))))) p;have v:π (n*5) (aX (a::r))++ [ω o,.bool false,.str [],.str [],.str []]=aX ((a::r)++ [⟨o,false,[],[],[]⟩]):=gz d [⟨o,false,[],[],[]⟩];rw [v] at l;exact l
  .refine ⟨[⟨(((21+m % 3):Nat):Int),w.neg,(ae w.n),(ae w.d),[]⟩],f,⟨gU y.sm (by simp [Nd.sm]<;>omega),by simp [<- d],by simp;omega,by omega,by simp,λ_=>by omega⟩,λnt p=> ?_⟩;have l:ψ nt f37 (mW (.sl (iL i) i.length t) n f k (aX (a::r))) .normal (mW (.sl (iL i) i.length t) (n+1) f (k+1) ((π (n*5) (aX (a::r)))++ [ω (((21+m % 3):Nat):Int),.bool w.neg,.str (ae w.n),.str (ae w.d),.str []])):=pN 37 [] 9 495 (.k 1 (Aa (n+1)) (.c u (.k 5 (aA (Nj c 12)) (.k 3 (aA (fE 1 f)) (.c (aA (rO c 13)) (.c (aA (fE 10 c)) (.c (az (mG c 10)) (.c (aA (fE 2 f)) (.c (aA (fE 6 c)) (.k 2 (pU k) (.c (aY g) (.c (aA (aY j)) (.c (aA (aY g)) .nil))))))))))))) (.v 21 (.eq (pO A)) (.v 79 (.eq (aoJ m)) (.v 78 (.eq (nP m 3)) (.c cq (.c (bK (1+m % 7)) (.v 69 (.eq (FM (h7 m))) (.v 68 (.eq (nP m 7)) (.c (bK (1+m % 5)) (.v 65 (.eq (FM (h5 m))) (.v 64 (.eq (nP m 5)) (.c c16 (.c c60 (.v 24 (.ppt B) .nil))))))))))))) p;have v:π (n*5) (aX (a::r))++ [ω (((21+m % 3):Nat):Int),.bool w.neg,.str (ae w.n),.str (ae w.d),.str []]=aX ((a::r)++ [⟨(((21+m % 3):Nat):Int),w.neg,(ae w.n),(ae w.d),[]⟩]):=gz d [⟨(((21+m % 3):Nat):Int),w.neg,(ae w.n),(ae w.d),[]⟩];rw [v] at l;exact l
  .refine ⟨[⟨3,w.neg,(ae w.n),(ae w.d),[]⟩,⟨11,false,[],[],[]⟩],f,⟨gU y.sm (by simp [Nd.sm]<;>omega),by simp [<- d],by simp;omega,by omega,by simp,λ_=>by omega⟩,λnt p=> ?_⟩;have l:ψ nt f37 (mW (.sl (iL i) i.length t) n f k (aX (a::r))) .normal (mW (.sl (iL i) i.length t) (n+2) f (k+1) ((π (n*5) (aX (a::r)))++ [ω 3,.bool w.neg,.str (ae w.n),.str (ae w.d),.str [],ω 11,.bool false,.str [],.str [],.str []])):=pN 37 [] 9 239 (.k 1 (Aa (n+2)) (.c u (.k 4 (az (gV c 12)) (.k 3 (aA (fE 1 f)) (.c (aA (rO c 13)) (.c (aA (fE 10 c)) (.c (az (mG c 10)) (.c (aA (fE 2 f)) (.c (aA (fE 6 c)) (.k 2 (pU k) (.c (aY g) (.c (aA (aY j)) (.c (aA (aY g)) .nil))))))))))))) (.v 21 (.eq (pO A)) (.c cq (.c (bK (1+m % 7)) (.v 69 (.eq (FM (h7 m))) (.v 68 (.eq (nP m 7)) (.c (bK (1+m % 5)) (.v 65 (.eq (FM (h5 m))) (.v 64 (.eq (nP m 5)) (.c c16 (.c c60 (.v 24 (.ppt B) .nil))))))))))) p;have v:π (n*5) (aX (a::r))++ [ω 3,.bool w.neg,.str (ae w.n),.str (ae w.d),.str [],ω 11,.bool false,.str [],.str [],.str []]=aX ((a::r)++ [⟨3,w.neg,(ae w.n),(ae w.d),[]⟩,⟨11,false,[],[],[]⟩]):=gz d [⟨3,w.neg,(ae w.n),(ae w.d),[]⟩,⟨11,false,[],[],[]⟩];rw [v] at l;exact l
  .refine ⟨[⟨6,false,[],[],z⟩],(f+1),⟨gU y.sm (by simp [Nd.sm]<;>omega),by simp [<- d],by simp;omega,by omega,by simp,λ_=>by omega⟩,λnt p=> ?_⟩;have l:ψ nt f37 (mW (.sl (iL i) i.length t) n f k (aX (a::r))) .normal (mW (.sl (iL i) i.length t) (n+1) (f+1) (k+1) ((π (n*5) (aX (a::r)))++ [ω 6,.bool false,.str [],.str [],.str z])):=pN 37 [] 13 559 (.k 1 (Aa (n+1)) (.c u (.k 6 (az (gV c 13)) (.c (az (gV c 5)) (.c (az (gV c 4)) (.k 2 (aA (fE 14 c)) (.c (az (mG c 4)) (.k 3 (az (mG c 13)) (.c (aA (fE 10 c)) (.c (az (mG c 10)) (.c (aA (fE 2 f)) (.c (aA (fE 6 c)) (.k 2 (pU k) (.c (aY g) (.c (aA (aY j)) (.c (aA (aY g)) .nil)))))))))))))))) (.v 21 (.eq (pO A)) (.v 135 (.eq (pO q)) (.c cp (.v 101 (.eq (nP m 4)) (.c (bK (m % 12)) (.v 91 (.eq (nP m 12)) (.c c16 (.c c60 (.v 24 (.ppt B) .nil))))))))) p;have v:π (n*5) (aX (a::r))++ [ω 6,.bool false,.str [],.str [],.str z]=aX ((a::r)++ [⟨6,false,[],[],z⟩]):=gz d [⟨6,false,[],[],z⟩];rw [v] at l;exact l
  .refine ⟨[⟨5,false,[],[],[99]⟩,⟨1,false,(ae ((m % 12))),(ae 1),[]⟩,⟨1,false,(ae ((m % 5))),(ae 1),[]⟩,⟨15,false,[],[],[]⟩],(f+1),⟨gU y.sm (by simp [Nd.sm]<;>omega),by simp [<- d],by simp;omega,by omega,by simp,λ_=>by omega⟩,λnt p=> ?_⟩;have l:ψ nt f37 (mW (.sl (iL i) i.length t) n f k (aX (a::r))) .normal (mW (.sl (iL i) i.length t) (n+4) (f+1) (k+1) ((π (n*5) (aX (a::r)))++ [ω 5,.bool false,.str [],.str [],.str [99],ω 1,.bool false,.str (ae ((m % 12))),.str (ae 1),.str [],ω 1,.bool false,.str (ae ((m % 5))),.str (ae 1),.str [],ω 15,.bool false,.str [],.str [],.str []])):=pN 37 [] 13 4143 (.k 1 (Aa (n+4)) (.c u (.k 7 (aA (Nj c 13)) (.c (az (gV c 5)) (.c (az (gV c 4)) (.c (az (iI 14 c)) (.c (az (mG c 4)) (.k 3 (az (mG c 13)) (.c (aA (fE 10 c)) (.c (az (mG c 10)) (.c (aA (fE 2 f)) (.c (aA (fE 6 c)) (.k 2 (pU k) (.c (aY g) (.c (aA (aY j)) (.c (aA (aY g)) .nil)))))))))))))))) (.v 21 (.eq (pO A)) (.v 135 (.eq (pO q)) (.c (bK (m % 5)) (.v 124 (.eq (nP m 5)) (.c (bK (m % 12)) (.v 91 (.eq (nP m 12)) (.c c16 (.c c60 (.v 24 (.ppt B) .nil))))))))) p;have v:π (n*5) (aX (a::r))++ [ω 5,.bool false,.str [],.str [],.str [99],ω 1,.bool false,.str (ae ((m % 12))),.str (ae 1),.str [],ω 1,.bool false,.str (ae ((m % 5))),.str (ae 1),.str [],ω 15,.bool false,.str [],.str [],.str []]=aX ((a::r)++ [⟨5,false,[],[],[99]⟩,⟨1,false,(ae ((m % 12))),(ae 1),[]⟩,⟨1,false,(ae ((m % 5))),(ae 1),[]⟩,⟨15,false,[],[],[]⟩]):=gz d [⟨5,false,[],[],[99]⟩,⟨1,false,(ae ((m % 12))),(ae 1),[]⟩,⟨1,false,(ae ((m % 5))),(ae 1),[]⟩,⟨15,false,[],[],[]⟩];rw [v] at l;exact l
  .refine ⟨[⟨(((21+m % 3):Nat):Int),w.neg,(ae w.n),(ae w.d),[]⟩],f,⟨gU y.sm (by simp [Nd.sm]<;>omega),by simp [<- d],by simp;omega,by omega,by simp,λ_=>by omega⟩,λnt p=> ?_⟩;have l:ψ nt f37 (mW (.sl (iL i) i.length t) n f k (aX (a::r))) .normal (mW (.sl (iL i) i.length t) (n+1) f (k+1) ((π (n*5) (aX (a::r)))++ [ω (((21+m % 3):Nat):Int),.bool w.neg,.str (ae w.n),.str (ae w.d),.str []])):=pN 37 [] 9 487 (.k 1 (Aa (n+1)) (.c u (.k 5 (aA (Nj c 12)) (.k 3 (aA (fE 1 f)) (.c (aA (rO c 13)) (.c (aA (fE 10 c)) (.k 1 (az (iI 2 f)) (.c (aA (fE 6 c)) (.k 2 (pU k) (.c (aY g) (.c (aA (aY j)) (.c (aA (aY g)) .nil)))))))))))) (.v 21 (.eq (pO A)) (.v 79 (.eq (aoJ m)) (.v 78 (.eq (nP m 3)) (.c cq (.c (bK (1+m % 7)) (.v 69 (.eq (FM (h7 m))) (.v 68 (.eq (nP m 7)) (.c (bK (1+m % 5)) (.v 65 (.eq (FM (h5 m))) (.v 64 (.eq (nP m 5)) (.c c16 (.c c60 (.v 24 (.ppt B) .nil))))))))))))) p;have v:π (n*5) (aX (a::r))++ [ω (((21+m % 3):Nat):Int),.bool w.neg,.str (ae w.n),.str (ae w.d),.str []]=aX ((a::r)++ [⟨(((21+m % 3):Nat):Int),w.neg,(ae w.n),(ae w.d),[]⟩]):=gz d [⟨(((21+m % 3):Nat):Int),w.neg,(ae w.n),(ae w.d),[]⟩];rw [v] at l;exact l
  .refine ⟨[⟨3,w.neg,(ae w.n),(ae w.d),[]⟩,⟨11,false,[],[],[]⟩],f,⟨gU y.sm (by simp [Nd.sm]<;>omega),by simp [<- d],by simp;omega,by omega,by simp,λ_=>by omega⟩,λnt p=> ?_⟩;have l:ψ nt f37 (mW (.sl (iL i) i.length t) n f k (aX (a::r))) .normal (mW (.sl (iL i) i.length t) (n+2) f (k+1) ((π (n*5) (aX (a::r)))++ [ω 3,.bool w.neg,.str (ae w.n),.str (ae w.d),.str [],ω 11,.bool false,.str [],.str [],.str []])):=pN 37 [] 9 231 (.k 1 (Aa (n+2)) (.c u (.k 4 (az (gV c 12)) (.k 3 (aA (fE 1 f)) (.c (aA (rO c 13)) (.c (aA (fE 10 c)) (.k 1 (az (iI 2 f)) (.c (aA (fE 6 c)) (.k 2 (pU k) (.c (aY g) (.c (aA (aY j)) (.c (aA (aY g)) .nil)))))))))))) (.v 21 (.eq (pO A)) (.c cq (.c (bK (1+m % 7)) (.v 69 (.eq (FM (h7 m))) (.v 68 (.eq (nP m 7)) (.c (bK (1+m % 5)) (.v 65 (.eq (FM (h5 m))) (.v 64 (.eq (nP m 5)) (.c c16 (.c c60 (.v 24 (.ppt B) .nil))))))))))) p;have v:π (n*5) (aX (a::r))++ [ω 3,.bool w.neg,.str (ae w.n),.str (ae w.d),.str [],ω 11,.bool false,.str [],.str [],.str []]=aX ((a::r)++ [⟨3,w.neg,(ae w.n),(ae w.d),[]⟩,⟨11,false,[],[],[]⟩]):=gz d [⟨3,w.neg,(ae w.n),(ae w.d),[]⟩,⟨11,false,[],[],[]⟩];rw [v] at l;exact l
  .refine ⟨[⟨1,false,(ae ((m % 12))),(ae 1),[]⟩],(f+1),⟨gU y.sm (by simp [Nd.sm]<;>omega),by simp [<- d],by simp;omega,by omega,by simp,λ_=>by omega⟩,λnt p=> ?_⟩;have l:ψ nt f37 (mW (.sl (iL i) i.length t) n f k (aX (a::r))) .normal (mW (.sl (iL i) i.length t) (n+1) (f+1) (k+1) ((π (n*5) (aX (a::r)))++ [ω 1,.bool false,.str (ae ((m % 12))),.str (ae 1),.str []])):=pN 37 [] 13 103 (.k 1 (Aa (n+1)) (.c u (.k 6 (az (gV c 13)) (.c (az (gV c 5)) (.c (az (gV c 4)) (.c (az (iI 14 c)) (.c (az (mG c 4)) (.k 2 (az (iI 1 f)) (.c (aA (rO c 13)) (.c (aA (fE 10 c)) (.k 1 (az (iI 2 f)) (.c (aA (fE 6 c)) (.k 2 (pU k) (.c (aY g) (.c (aA (aY j)) (.c (aA (aY g)) .nil)))))))))))))))) (.v 21 (.eq (pO A)) (.v 135 (.eq (pO q)) (.c (bK (m % 12)) (.v 91 (.eq (nP m 12)) (.c c16 (.c c60 (.v 24 (.ppt B) .nil))))))) p;have v:π (n*5) (aX (a::r))++ [ω 1,.bool false,.str (ae ((m % 12))),.str (ae 1),.str []]=aX ((a::r)++ [⟨1,false,(ae ((m % 12))),(ae 1),[]⟩]):=gz d [⟨1,false,(ae ((m % 12))),(ae 1),[]⟩];rw [v] at l;exact l
  .refine ⟨[⟨6,false,[],[],z⟩],(f+1),⟨gU y.sm (by simp [Nd.sm]<;>omega),by simp [<- d],by simp;omega,by omega,by simp,λ_=>by omega⟩,λnt p=> ?_⟩;have l:ψ nt f37 (mW (.sl (iL i) i.length t) n f k (aX (a::r))) .normal (mW (.sl (iL i) i.length t) (n+1) (f+1) (k+1) ((π (n*5) (aX (a::r)))++ [ω 6,.bool false,.str [],.str [],.str z])):=pN 37 [] 13 551 (.k 1 (Aa (n+1)) (.c u (.k 6 (az (gV c 13)) (.c (az (gV c 5)) (.c (az (gV c 4)) (.k 2 (aA (fE 14 c)) (.c (az (mG c 4)) (.k 3 (az (mG c 13)) (.c (aA (fE 10 c)) (.k 1 (az (iI 2 f)) (.c (aA (fE 6 c)) (.k 2 (pU k) (.c (aY g) (.c (aA (aY j)) (.c (aA (aY g)) .nil))))))))))))))) (.v 21 (.eq (pO A)) (.v 135 (.eq (pO q)) (.c cp (.v 101 (.eq (nP m 4)) (.c (bK (m % 12)) (.v 91 (.eq (nP m 12)) (.c c16 (.c c60 (.v 24 (.ppt B) .nil))))))))) p;have v:π (n*5) (aX (a::r))++ [ω 6,.bool false,.str [],.str [],.str z]=aX ((a::r)++ [⟨6,false,[],[],z⟩]):=gz d [⟨6,false,[],[],z⟩];rw [v] at l;exact l
  .refine ⟨[⟨5,false,[],[],[99]⟩,⟨1,false,(ae ((m % 12))),(ae 1),[]⟩,⟨1,false,(ae ((m % 5))),(ae 1),[]⟩,⟨15,false,[],[],[]⟩],(f+1),⟨gU y.sm (by simp [Nd.sm]<;>omega),by simp [<- d],by simp;omega,by omega,by simp,λ_=>by omega⟩,λnt p=> ?_⟩;have l:ψ nt f37 (mW (.sl (iL i) i.length t) n f k (aX (a::r))) .normal (mW (.sl (iL i) i.length t) (n+4) (f+1) (k+1) ((π (n*5) (aX (a::r)))++ [ω 5,.bool false,.str [],.str [],.str [99],ω 1,.bool false,.str (ae ((m % 12))),.str (ae 1),.str [],ω 1,.bool false,.str (ae ((m % 5))),.str (ae 1),.str [],ω 15,.bool false,.str [],.str [],.str []])):=pN 37 [] 13 4135 (.k 1 (Aa (n+4)) (.c u (.k 7 (aA (Nj c 13)) (.c (az (gV c 5)) (.c (az (gV c 4)) (.c (az (iI 14 c)) (.c (az (mG c 4)) (.k 3 (az (mG c 13)) (.c (aA (fE 10 c)) (.k 1 (az (iI 2 f)) (.c (aA (fE 6 c)) (.k 2 (pU k) (.c (aY g) (.c (aA (aY j)) (.c (aA (aY g)) .nil))))))))))))))) (.v 21 (.eq (pO A)) (.v 135 (.eq (pO q)) (.c (bK (m % 5)) (.v 124 (.eq (nP m 5)) (.c (bK (m % 12)) (.v 91 (.eq (nP m 12)) (.c c16 (.c c60 (.v 24 (.ppt B) .nil))))))))) p;have v:π (n*5) (aX (a::r))++ [ω 5,.bool false,.str [],.str [],.str [99],ω 1,.bool false,.str (ae ((m % 12))),.str (ae 1),.str [],ω 1,.bool false,.str (ae ((m % 5))),.str (ae 1),.str [],ω 15,.bool false,.str [],.str [],.str []]=aX ((a::r)++ [⟨5,false,[],[],[99]⟩,⟨1,false,(ae ((m % 12))),(ae 1),[]⟩,⟨1,false,(ae ((m % 5))),(ae 1),[]⟩,⟨15,false,[],[],[]⟩]):=gz d [⟨5,false,[],[],[99]⟩,⟨1,false,(ae ((m % 12))),(ae 1),[]⟩,⟨1,false,(ae ((m % 5))),(ae 1),[]⟩,⟨15,false,[],[],[]⟩];rw [v] at l;exact l
  .refine ⟨[⟨1,false,(ae ((m % 12))),(ae 1),[]⟩],(f+1),⟨gU y.sm (by simp [Nd.sm]<;>omega),by simp [<- d],by simp;omega,by omega,by simp,λ_=>by omega⟩,λnt p=> ?_⟩;have l:ψ nt f37 (mW (.sl (iL i) i.length t) n f k (aX (a::r))) .normal (mW (.sl (iL i) i.length t) (n+1) (f+1) (k+1) ((π (n*5) (aX (a::r)))++ [ω 1,.bool false,.str (ae ((m % 12))),.str (ae 1),.str []])):=pN 37 [] 13 7 (.k 1 (Aa (n+1)) (.c u (.k 6 (az (gV c 13)) (.c (az (gV c 5)) (.c (az (gV c 4)) (.c (az (iI 14 c)) (.c (az (mG c 4)) (.k 4 (az (iI 10 c)) (.k 1 (az (iI 2 f)) (.c (aA (fE 6 c)) (.k 2 (pU k) (.c (aY g) (.c (aA (aY j)) (.c (aA (aY g)) .nil)))))))))))))) (.v 21 (.eq (pO A)) (.v 135 (.eq (pO q)) (.c (bK (m % 12)) (.v 91 (.eq (nP m 12)) (.c c16 (.c c60 (.v 24 (.ppt B) .nil))))))) p;have v:π (n*5) (aX (a::r))++ [ω 1,.bool false,.str (ae ((m % 12))),.str (ae 1),.str []]=aX ((a::r)++ [⟨1,false,(ae ((m % 12))),(ae 1),[]⟩]):=gz d [⟨1,false,(ae ((m % 12))),(ae 1),[]⟩];rw [v] at l;exact l
  .refine ⟨[⟨6,false,[],[],z⟩],(f+1),⟨gU y.sm (by simp [Nd.sm]<;>omega),by simp [<- d],by simp;omega,by omega,by simp,λ_=>by omega⟩,λnt p=> ?_⟩;have l:ψ nt f37 (mW (.sl (iL i) i.length t) n f k (aX (a::r))) .normal (mW (.sl (iL i) i.length t) (n+1) (f+1) (k+1) ((π (n*5) (aX (a::r)))++ [ω 6,.bool false,.str [],.str [],.str z])):=pN 37 [] 13 771 (.k 1 (Aa (n+1)) (.c u (.k 6 (az (gV c 13)) (.c (az (gV c 5)) (.c (az (gV c 4)) (.k 3 (aA (rO c 4)) (.k 4 (az (iI 10 c)) (.k 2 (az (iI 6 c)) (.k 2 (pU k) (.c (aY g) (.c (aA (aY j)) (.c (aA (aY g)) .nil)))))))))))) (.v 21 (.eq (pO A)) (.v 135 (.eq (pO q)) (.c cp (.v 101 (.eq (nP m 4)) (.c (bK (m % 12)) (.v 91 (.eq (nP m 12)) (.c c16 (.c c60 (.v 24 (.ppt B) .nil))))))))) p;have v:π (n*5) (aX (a::r))++ [ω 6,.bool false,.str [],.str [],.str z]=aX ((a::r)++ [⟨6,false,[],[],z⟩]):=gz d [⟨6,false,[],[],z⟩];rw [v] at l;exact l
  .refine ⟨[⟨8,false,[],[],z⟩],(f+1),⟨gU y.sm (by simp [Nd.sm]<;>omega),by simp [<- d],by simp;omega,by omega,by simp,λ_=>by omega⟩,λnt p=> ?_⟩;have l:ψ nt f37 (mW (.sl (iL i) i.length t) n f k (aX (a::r))) .normal (mW (.sl (iL i) i.length t) (n+1) (f+1) (k+1) ((π (n*5) (aX (a::r)))++ [ω 8,.bool false,.str [],.str [],.str z])):=pN 37 [] 13 1027 (.k 1 (Aa (n+1)) (.c u (.k 6 (az (gV c 13)) (.c (az (gV c 5)) (.k 2 (aA (Nj c 4)) (.c (az (iI 14 c)) (.c (az (mG c 4)) (.k 4 (az (iI 10 c)) (.k 2 (az (iI 6 c)) (.k 2 (pU k) (.c (aY g) (.c (aA (aY j)) (.c (aA (aY g)) .nil))))))))))))) (.v 21 (.eq (pO A)) (.v 135 (.eq (pO q)) (.c cp (.v 107 (.eq (nP m 4)) (.c (bK (m % 12)) (.v 91 (.eq (nP m 12)) (.c c16 (.c c60 (.v 24 (.ppt B) .nil))))))))) p;have v:π (n*5) (aX (a::r))++ [ω 8,.bool false,.str [],.str [],.str z]=aX ((a::r)++ [⟨8,false,[],[],z⟩]):=gz d [⟨8,false,[],[],z⟩];rw [v] at l;exact l
  .refine ⟨[⟨5,false,[],[],s⟩],(f+1),⟨gU y.sm (by simp [Nd.sm]<;>omega),by simp [<- d],by simp;omega,by omega,by simp,λ_=>by omega⟩,λnt p=> ?_⟩;have l:ψ nt f37 (mW (.sl (iL i) i.length t) n f k (aX (a::r))) .normal (mW (.sl (iL i) i.length t) (n+1) (f+1) (k+1) ((π (n*5) (aX (a::r)))++ [ω 5,.bool false,.str [],.str [],.str s])):=pN 37 [] 13 2051 (.k 1 (Aa (n+1)) (.c u (.k 6 (az (gV c 13)) (.k 1 F (.c (fE 0 (m % 2)) (.c (rO (m % 2) 2) (.k 1 (aA (Nj c 5)) (.c (az (gV c 4)) (.c (az (iI 14 c)) (.c (az (mG c 4)) (.k 4 (az (iI 10 c)) (.k 2 (az (iI 6 c)) (.k 2 (pU k) (.c (aY g) (.c (aA (aY j)) (.c (aA (aY g)) .nil)))))))))))))))) (.v 21 (.eq (pO A)) (.v 135 (.eq (pO q)) (.v 116 (.eq E) (.v 114 (.eq (nP m 2)) (.c (bK (m % 12)) (.v 91 (.eq (nP m 12)) (.c c16 (.c c60 (.v 24 (.ppt B) .nil))))))))) p;have v:π (n*5) (aX (a::r))++ [ω 5,.bool false,.str [],.str [],.str s]=aX ((a::r)++ [⟨5,false,[],[],s⟩]):=gz d [⟨5,false,[],[],s⟩];rw [v] at l;exact l
theorem YZ (c:List Int) (e:Bool) (os:List Nd) (n f k:Nat) (j:BdI os n f k) (g:k<12) (d:k<c.length):
  ∃ (ys:List Nd) (dp':Nat),BdI (os++ys) (n+ys.length) dp' (k+1)/\∀ nt,152<=nt->ψ nt f37 (YY c e (k,n,os,f)) .normal (YY c e (k+1,n+ys.length,os++ys,dp')):=by
 have m:=UX d;obtain ⟨w,h,i,_,_,l⟩:=aaK (1+iK (γ .i64 (Xq6 (c.getD k 0) ((16:Nat):Int))) 60 % 5) (1+iK (γ .i64 (Xq6 (c.getD k 0) ((16:Nat):Int))) 60 % 7) (by omega) (by omega) (by omega);exact ao_ c e os n f k _ _ _ _ w _ j g d m (fF) (fF) h i (jw _ 60) (jw _ 16) l (jy _)
theorem akJ {nt:Nat} (g:152<=nt) (n c:Nat) (os:List Nd) (e:c<2^62) (d:1<=c) (h0:(Xqn (n+1) 1099511627776)=true) (f:(Xqn (n*5) (θ (aX os)))=true) (h:lit true (decide (((1:Nat):Int)<(c:Int)))=true):ak prog ap [] nt (af 2 (ax f37)) (QK n c (aX os)) (.normal) (QK (n+1) (c - 1) ((π (n*5) (aX os))++ [ω 14,.bool false,.str [],.str [],.str []])):=pN 37 [] 1 1 (.k 1 h0 (.c f (.k 1 h .nil))) (.v 150 (.eq (wms (a:=1) d e)) .nil) g
theorem akK {nt:Nat} (d:152<=nt) (n c:Nat) (os:List Nd) (h0:lit false (decide (((1:Nat):Int)<(c:Int)))=true):ak prog ap [] nt (af 2 (ax f37)) (QK n c (aX os)) (.exit 2) (ab9 n (aX os)):=pN 37 [] 1 0 (.c h0 .nil) (.nil) d
theorem ac9 (h:List Int) (o:Bool):∀ (d k:Nat) (os:List Nd) (n g:Nat),k+d=min h.length 12->BdI os n g k->
  ∃ (os':List Nd) (j e:Nat),BdI os' j e (min h.length 12)/\∀ nt,152<=nt->aF prog ap [] nt (af 0 (ax f37)) (λ_=> .exit 0) (YY h o) akL (k,n,os,g) (j,os',e):=by
 intro d
 induction d with
 | zero=>
  intro k os n g hd l;refine ⟨os,n,g,by rw [<- hd];exact l,λnt f=> .done ?_⟩;by_cases c:h.length<=k
  .cases os with
   |nil=>exact pN 37 [] 2 0 (.k 1 (az (xG c)) .nil) (.nil) f
   |cons a r=>exact pN 37 [] 2 0 (.k 1 (az (xG c)) .nil) (.nil) f
  .have i:12<=k:=by omega
   have c:k<h.length:=by omega
   cases os with
   |nil=>exact pN 37 [] 2 1 (.c (az (xG i)) (.c (aA (aY c)) .nil)) (.nil) f
   |cons a r=>exact pN 37 [] 2 1 (.c (az (xG i)) (.c (aA (aY c)) .nil)) (.nil) f
 |succ d ih=>
  intro k os n g hd l;obtain ⟨p,m,v,q⟩:=YZ h o os n g k l (by omega) (by omega);obtain ⟨os',j,e,u,t⟩:=ih (k+1) (os++p) (n+p.length) m (by omega) v;exact ⟨os',j,e,u,λnt f=> .next (q nt f) (t nt f)⟩
theorem akN (c:List Int) (d:Bool) (e:List UInt8) (g:LB 152 0 f37 (agV (.sl (iL c) c.length d)) (.normal) (QL (.nilS) 0)) (f:CO 34 [ω 0] (.ret (.str e))):CO 37 [.sl (iL c) c.length d] (.ret (.own [ω 6,.bool false,.str [],.str [],.str e] 1 5)):=pK [0] 3 1 (.n 5 .nil) (.c f (.l g .nil))
theorem akM (d:List Int) (f:Bool) (n c e:Nat) (os es:List Nd) (h0:((c:Int)==((0:Nat):Int))=false) (h:LB 152 0 f37 (agV (.sl (iL d) d.length f)) (.normal) (QK n c (aX os))) (g:LB 152 2 f37 ⟨[(0,.dead),(2,.dead),(3,.ref 0 0 0 n),(4,ω (c:Int)),(5,.dead),(6,.dead),(7,.dead),(8,.dead),(9,.dead),(11,.dead),(19,.dead),(40,.dead),(61,.dead),(75,.dead),(99,.dead),(105,.dead),(111,.dead),(119,.dead),(137,.bool ((c:Int)==((0:Nat):Int))),(144,.dead)],[(0,⟨(aX os),0,false,0,5,true⟩)],.dead,[]⟩ (.normal) (ab9 e (aX es))):CO 37 [.sl (iL d) d.length f] (.ret (.own (π (e*5) (aX es)) e 5)):=pK [0,2] 1 0 (.c (az h0) .nil) (.l g (.l h .nil))
def akI (p:Nat × List Nd × Nat):St:=(QK p.1 p.2.2 (aX p.2.1))
def ahJ (p:Nat × List Nd):St:=(ab9 p.1 (aX p.2))
def wO:Nd:=⟨14,false,[],[],[]⟩
theorem YX {nt:Nat} (d:152<=nt):∀ (j n:Nat) (os:List Nd),os.length=n->n+j<2^40->
  aF prog ap [] nt (af 2 (ax f37)) (λ_=> .exit 2) akI ahJ (n,os,j+1) (n+j,os++ζ j wO):=by
 intro j
 induction j with
 |zero=>
  intro n os c f;rw [Xza,Xqd];exact .done (akK d n 1 os (az (xG (κ 1))))
 |succ j ih=>
  intro n os c f;have h:=ih (n+1) (os++ [wO]) (by simp [c]) (by omega);rw [show n+1+j=n+(j+1) by omega,Xqe,show [wO]++ζ j wO=ζ (j+1) wO from rfl] at h;refine .next ?_ h
  have e:=akJ d n (j+1+1) os (by omega) (by omega) (Γ (by omega)) (Γ (by rw [yS];omega)) (aA (aY (by omega)));rw [show π (n*5) (aX os)++ [ω 14,.bool false,.str [],.str [],.str []]=aX (os++ [wO]) from gz c [wO],show j+1+1 - 1=j+1 from rfl] at e;exact e
theorem adb (g:List Int) (k:Bool):∃ e:List Nd,e ≠ []/\e.length<=61/\(∀ x ∈ e,x.sm)/\CO 37 [.sl (iL g) g.length k] (.ret (.own (aX e) e.length 5)):=by
 obtain ⟨os,n,q,f,p⟩:=ac9 g k (min g.length 12) 0 [] 0 0 (by omega) ⟨by simp,rfl,by omega,by omega,by simp,by simp⟩;have u:=f.hn;have hd:=f.hd;have c:=f.len;rcases Xqf n with h0|hp
 .have o:os= []:=List.length_eq_zero_iff.1 (by omega);have m:=f.h0 h0;subst o h0 m;have h:=akN g k _ (aF.blk p (by simp) rfl (aK.of ⟨rfl,rfl,rfl,rfl,trivial⟩) (aK.of ⟨rfl,rfl,trivial⟩)) (jy 0);refine ⟨[⟨6,false,[],[],_⟩],by simp,by simp, ?_,h⟩;intro x l;rw [List.mem_singleton] at l;subst l;exact ⟨by simp,by simp⟩
 .have v:=f.h1 (by omega);obtain ⟨j,rfl⟩:∃ j,q=j+1:=⟨q - 1,by omega⟩
  have i:os ≠ []:=λh=>by subst h;simp at c;omega
  have d:(os++ζ j wO).length=n+j:=by simp [c]
  have h:=akM g k n (j+1) (n+j) os (os++ζ j wO) (gV _ _)
   (aF.blk p (by simp) rfl (aK.of ⟨rfl,rfl,rfl,rfl,trivial⟩) (by
    cases os with
    |nil=>exact absurd rfl i
    |cons a r=>exact aK.of ⟨rfl,rfl,trivial⟩))
   (aF.blk (λnt t=>YX t j n os c (by omega)) (by simp) rfl (aK.of ⟨rfl,rfl,trivial⟩) (aK.of ⟨rfl,trivial⟩))
  rw [φ (by rw [yS,d];omega)] at h;refine ⟨os++ζ j wO,by simp [i],by rw [d];omega, ?_,by rw [d];exact h⟩;refine gU f.sm λx l=> ?_
  rw [(List.mem_replicate.1 l).2];exact ⟨by simp [wO],by simp [wO]⟩
def RQ.rt (q:RQ):Rat:=(if q.neg then -1 else 1)*(q.n:Rat) / (q.d:Rat)
theorem og {x:Nat} (h:0<x):(x:Rat) ≠ 0:=by
 intro e;have:x=0:=by exact_mod_cast e
 omega
theorem Jk (c:Bool) (n d:Nat) (h:0<d):(kC c n d).rt=(if c then -1 else 1)*(n:Rat) / (d:Rat):=by
 obtain ⟨a,j⟩:=Yqy n d;obtain ⟨b,i⟩:=Xv4 n d;have e:0<Xxw n d:=Xzm n h;unfold kC RQ.rt;simp only;generalize Xxw n d=g at*
 subst j i;rw [Xw5 _ e,Xw5 _ e];have f:0<b:=Nat.pos_of_mul_pos_left h;have m:=og e;have l:=og f;have k:((if (c && decide (0<g*a))=true then -1 else 1:Rat))*(a:Rat)=(if c=true then -1 else 1)*(a:Rat):=by
  rcases Xqf a with h0|h0
  .subst h0;simp
  .rw [Yq0 (Xjl e h0),Xwo]
 rw [k,Rat.natCast_mul,Rat.natCast_mul];grind
theorem yl (q:RQ):(oO q).rt= - q.rt:=by
 unfold oO RQ.rt;rcases Xqf q.n with h0|h0
 .simp [h0];grind
 .cases q.neg<;>simp [h0]<;>grind
theorem AB {a b:RQ} (j:a.ok) (i:b.ok):(mV a b).rt=a.rt+b.rt:=by
 have l:=og j.1;have k:=og i.1;have hd:0<a.d*b.d:=Xjl j.1 i.1;unfold mV;split
 .rename_i hs;rw [Jk _ _ _ hd,Rat.natCast_add,Rat.natCast_mul,Rat.natCast_mul,Rat.natCast_mul];unfold RQ.rt;rw [hs];cases b.neg<;>simp<;>grind
 .rename_i hs;split
  .rename_i h;obtain ⟨c,d⟩:=Xkd h;have f:(a.n:Rat)*b.d=b.n*a.d+c:=by
    have:=congrArg (λx:Nat=>(x:Rat)) d;simpa only [Rat.natCast_add,Rat.natCast_mul] using this
   rw [d,Xwb,Jk _ _ _ hd,Rat.natCast_mul];unfold RQ.rt;cases g:a.neg<;>cases e:b.neg<;>simp [g,e] at hs ⊢ <;>grind
  .rename_i h;obtain ⟨c,d⟩:=Xkd (Nat.le_of_not_le h);have f:(b.n:Rat)*a.d=a.n*b.d+c:=by
    have:=congrArg (λx:Nat=>(x:Rat)) d;simpa only [Rat.natCast_add,Rat.natCast_mul] using this
   rw [d,Xwb,Jk _ _ _ hd,Rat.natCast_mul];unfold RQ.rt;cases g:a.neg<;>cases e:b.neg<;>simp [g,e] at hs ⊢ <;>grind
theorem AC {a b:RQ} (d:a.ok) (c:b.ok):(gJ a b).rt=a.rt*b.rt:=by
 have f:=og d.1;have e:=og c.1;unfold gJ;rw [Jk _ _ _ (Xjl d.1 c.1),Rat.natCast_mul,Rat.natCast_mul];unfold RQ.rt;cases a.neg<;>cases b.neg<;>simp<;>grind
theorem Ec {a b:RQ} (c:a.ok) (d:b.ok) (h0:0<b.n):(bQ a b).rt=a.rt / b.rt:=by
 have g:=og c.1;have e:=og d.1;have f:=og h0;unfold bQ;rw [Jk _ _ _ (Xjl c.1 h0),Rat.natCast_mul,Rat.natCast_mul];unfold RQ.rt;cases a.neg<;>cases b.neg<;>simp<;>grind
theorem v_ {a b:RQ} (g:a.ok) (f:b.ok) (h:a.rt=b.rt):a=b:=by
 have key:∀ q:RQ,q.ok->∃ h1 h2,q.rt=(⟨if q.neg then -(q.n:Int) else q.n,q.d,h1,h2⟩:Rat):=by
  intro q i;refine ⟨Nat.pos_iff_ne_zero.1 i.1, ?_, ?_⟩
  .show Xxw _ _=1;rw [<- i.2.1];split<;>simp
  .rw [Rat.mk_eq_mkRat];unfold RQ.rt;rw [Rat.mkRat_eq_div];cases q.neg<;>simp [Rat.intCast_natCast]<;>grind
 obtain ⟨_,_,k⟩:=key a g;obtain ⟨_,_,j⟩:=key b f;rw [k,j] at h;have c:=congrArg Rat.num h;have hd:=congrArg Rat.den h;simp only at c hd;obtain ⟨m,r,p⟩:=a;obtain ⟨l,n,o⟩:=b;simp only at c hd;have e:=g.2.2;have d:=f.2.2;simp only at e d;cases m<;>cases l<;>simp at c e d ⊢ <;>omega
theorem ajv {a b:RQ} (c:a.ok) (d:(oO b).ok):(kR a b).rt=a.rt - b.rt:=by
 unfold kR;rw [AB c d,yl];grind
theorem wu {q:RQ} (h:q.ok):(jQ q<0↔q.rt<0)/\(jQ q=0↔q.rt=0)/\(0<jQ q↔0<q.rt):=by
 have d:=og h.1;have hd:(0:Rat)<q.d:=by
  have:0<q.d:=h.1
  exact_mod_cast this
 unfold jQ RQ.rt;rcases Xqf q.n with h0|h0
 .have:(0:Rat) / q.d=0:=by grind
  simp [h0,this]
 .have c:(0:Rat)<q.n:=by exact_mod_cast h0
  have hp:(0:Rat)<(q.n:Rat) / q.d:=(by rw [Rat.div_def];exact Rat.mul_pos c (Rat.inv_pos.2 hd))
  rw [if_neg (by omega)];cases q.neg<;>simp<;>grind
theorem vN {a b c:Rat} (h:0<c):a*c<b*c↔a<b:=Rat.mul_lt_mul_right h
theorem Ar {a b c:Rat} (h:0<c):a*c<=b*c↔a<=b:=⟨λq=>Rat.le_of_mul_le_mul_right q h,λq=>by
 by_cases e:a=b
 .rw [e];exact Rat.le_refl
 .have d:a<b:=by grind
  have f:=(vN h).2 d;grind⟩
def tZ (q:RQ):Int:=if q.neg then -((q.n / q.d+(if q.n % q.d=0 then 0 else 1):Nat):Int) else ((q.n / q.d:Nat):Int)
def vK (k:Int):RQ:=⟨decide (k<0),k.natAbs,1⟩
theorem BQ (k:Int):(vK k).ok:=⟨Nat.one_pos,Yqn _,λh=>by
 have:k<0:=of_decide_eq_true h;show 0<k.natAbs;omega⟩
theorem abE (k:Int):(vK k).rt=(k:Rat):=by
 unfold vK RQ.rt;by_cases h:k<0
 .have e:(k:Int)= -(k.natAbs:Int):=by omega
  have c:(k:Rat)= -((k.natAbs:Nat):Rat):=by
   rw [<- Rat.intCast_natCast,<- Rat.intCast_neg,<- e]
  simp only [Yq0 h,if_true];rw [c];rw [show ((1:Nat):Rat)=1 from rfl];grind
 .have e:(k:Int)=(k.natAbs:Int):=by omega
  have c:(k:Rat)=((k.natAbs:Nat):Rat):=by
   rw [<- Rat.intCast_natCast,<- e]
  simp only [Yq1 h];rw [c];rw [show ((1:Nat):Rat)=1 from rfl];grind
theorem ZZ {q:RQ} (h:q.ok):((tZ q:Int):Rat)<=q.rt/\q.rt<((tZ q:Int):Rat)+1:=by
 have hd:(0:Rat)<q.d:=by
  have:0<q.d:=h.1
  exact_mod_cast this
 have e:(q.n:Rat)=q.d*((q.n / q.d:Nat):Rat)+((q.n % q.d:Nat):Rat):=by
  rw [<- Rat.natCast_mul,<- Rat.natCast_add,Nat.div_add_mod]
 have f:(0:Rat)<=((q.n % q.d:Nat):Rat):=by
  have:0<=q.n % q.d:=Xq7 _
  exact_mod_cast this
 have g:((q.n % q.d:Nat):Rat)<q.d:=by
  have:=Xq3 q.n h.1
  exact_mod_cast this
 unfold tZ RQ.rt;have d:∀ y:Rat,y / q.d*q.d=y:=λy=>by grind
 cases hs:q.neg with
 |false=>
  simp only [Xqy,if_false,Rat.intCast_natCast];rw [<- Ar hd,<- vN hd,d];constructor<;>grind
 | true=>
  simp only [if_true,Rat.intCast_neg,Rat.intCast_natCast];rw [<- Ar hd,<- vN hd,d];split
  .rename_i c;rw [c] at e f g;simp only [Xq4];constructor<;>grind
  .rename_i c;have:(0:Rat)<((q.n % q.d:Nat):Rat):=by
    have:0<q.n % q.d:=by omega
    exact_mod_cast this
   rw [Rat.natCast_add];rw [show ((1:Nat):Rat)=1 from rfl];constructor<;>grind
theorem F6 {k m:Int} {x:Rat} (e:(k:Rat)<=x) (f:x<(k:Rat)+1) (d:(m:Rat)<=x) (c:x<(m:Rat)+1):k=m:=by
 have a:((k:Int):Rat)<((m+1:Int):Rat):=by rw [Rat.intCast_add,Rat.intCast_one];grind
 have b:((m:Int):Rat)<((k+1:Int):Rat):=by rw [Rat.intCast_add,Rat.intCast_one];grind
 rw [Rat.intCast_lt_intCast] at a b;omega
def lu (a s:RQ):RQ:=gJ (vK (tZ (bQ a s))) s
def eqR (a b:RQ):Bool:=(a.neg==b.neg) && ((ae a.n==ae b.n) && (ae a.d==ae b.d))
theorem Nh {a b:RQ}:eqR a b=true↔a=b:=by
 obtain ⟨s,n,d⟩:=a;obtain ⟨s',c,e⟩:=b;simp only [eqR,τ,beq_iff_eq,RQ.mk.injEq];exact ⟨λh=> ⟨h.1,IQ h.2.1,IQ h.2.2⟩,λh=> ⟨h.1,by rw [h.2.1],by rw [h.2.2]⟩⟩
def Yt (a s:RQ):RQ:=if eqR (lu a s) a=true then a else mV (lu a s) s
def XH (a s:RQ):RQ:=if 0<=iH (mV (kR a (lu a s)) (kR a (lu a s))) s then mV (lu a s) s else lu a s
theorem Dc {a b:RQ} (c:a.ok) (d:b.ok):(kR a b).ok:=jr c (qW d)
theorem Gn {a b:RQ} (c:a.ok) (d:b.ok):(kR a b).rt=a.rt - b.rt:=ajv c (qW d)
theorem vC {a b:RQ} (d:a.ok) (c:b.ok):(iH a b<0↔a.rt<b.rt)/\(iH a b=0↔a=b)/\(0<iH a b↔b.rt<a.rt):=by
 have h:=wu (Dc d c);rw [Gn d c] at h;unfold iH;refine ⟨h.1.trans ?_,h.2.1.trans ?_,h.2.2.trans ?_⟩
 .constructor<;>intro _<;>grind
 .constructor
  .intro e;exact v_ d c (by grind)
  .intro e;rw [e];grind
 .constructor<;>intro _<;>grind
theorem Jl {s:RQ} (hs:s.ok) (h:0<jQ s):0<s.rt/\0<s.n:=by
 refine ⟨(wu hs).2.2.1 h, ?_⟩;unfold jQ at h;split at h<;>omega
theorem iZ {a s:RQ} (hs:s.ok):(lu a s).ok:=Ce (BQ _) hs
theorem Jj {a s:RQ} (c:a.ok) (hs:s.ok) (h0:0<s.n):(lu a s).rt=((tZ (bQ a s):Int):Rat)*s.rt/\((tZ (bQ a s):Int):Rat)<=a.rt / s.rt/\a.rt / s.rt<((tZ (bQ a s):Int):Rat)+1:=by
 have h:=ZZ (qc c h0);rw [Ec c hs h0] at h;exact ⟨by unfold lu;rw [AC (BQ _) hs,abE],h⟩
theorem aho {a s:RQ} (d:a.ok) (hs:s.ok) (hp:0<jQ s):oO (lu (oO a) s)=Yt a s:=by
 obtain ⟨p,h0⟩:=Jl hs hp;obtain ⟨j,f,c⟩:=Jj (qW d) hs h0;obtain ⟨h,m,n⟩:=Jj d hs h0;rw [yl] at f c;have i:a.rt=a.rt / s.rt*s.rt:=by grind
 have l: -a.rt / s.rt= -(a.rt / s.rt):=by grind
 rw [l] at f c;generalize a.rt / s.rt=x at*
 unfold Yt;split
 .rename_i e;have e:=Nh.1 e;refine v_ (qW (iZ hs)) d ?_;rw [e,i] at h;have g:x=((tZ (bQ a s):Int):Rat):=by grind
  rw [yl,j,i];have:tZ (bQ (oO a) s)= -tZ (bQ a s):=F6 (x:= -x) f c (by rw [Rat.intCast_neg];grind) (by rw [Rat.intCast_neg];grind);rw [this,Rat.intCast_neg,<- g];grind
 .rename_i e;refine v_ (qW (iZ hs)) (jr (iZ hs) hs) ?_;have k:((tZ (bQ a s):Int):Rat) ≠ x:=by
   intro g;exact e (Nh.2 (v_ (iZ hs) d (by rw [h,g,<- i])))
  have:tZ (bQ (oO a) s)= -(tZ (bQ a s)+1):=F6 (x:= -x) f c (by rw [Rat.intCast_neg,Rat.intCast_add,Rat.intCast_one];grind) (by rw [Rat.intCast_neg,Rat.intCast_add,Rat.intCast_one];grind);rw [yl,j,AB (iZ hs) hs,h,this,Rat.intCast_neg,Rat.intCast_add,Rat.intCast_one];grind
theorem agC {a s:RQ} (c:a.ok) (hs:s.ok) (hp:0<jQ s):lu (mV a (bQ s (vK 2))) s=XH a s:=by
 obtain ⟨p,h0⟩:=Jl hs hp;have l:(bQ s (vK 2)).ok:=qc hs (by decide);have q:(bQ s (vK 2)).rt=s.rt / 2:=by rw [Ec hs (BQ 2) (by decide),abE];rfl
 obtain ⟨m,f,d⟩:=Jj (jr c l) hs h0;obtain ⟨k,r,t⟩:=Jj c hs h0;rw [AB c l,q] at f d;have hd:=iZ (a:=a) hs;have e:(kR a (lu a s)).ok:=Dc c hd;have g:=(vC (jr e e) hs).1;rw [AB e e,Gn c hd,k] at g;have n:a.rt=a.rt / s.rt*s.rt:=by grind
 have o:(a.rt+s.rt / 2) / s.rt=a.rt / s.rt+1 / 2:=by grind
 rw [o] at f d;generalize a.rt / s.rt=x at*
 have i:(x*s.rt - ↑(tZ (bQ a s))*s.rt+(x*s.rt - ↑(tZ (bQ a s))*s.rt))<s.rt↔(x - ↑(tZ (bQ a s))+(x - ↑(tZ (bQ a s))))<1:=by
  rw [<- vN (a:=x - ↑(tZ (bQ a s))+(x - ↑(tZ (bQ a s)))) p];constructor<;>intro _<;>grind
 rw [n,i] at g;unfold XH;split
 .rename_i j;refine v_ (iZ hs) (jr hd hs) ?_;have:¬ (x - ↑(tZ (bQ a s))+(x - ↑(tZ (bQ a s))))<1:=λh=>by have:=g.2 h;omega
  have:tZ (bQ (mV a (bQ s (vK 2))) s)=tZ (bQ a s)+1:=F6 (x:=x+1 / 2) f d (by rw [Rat.intCast_add,Rat.intCast_one];grind) (by rw [Rat.intCast_add,Rat.intCast_one];grind);rw [m,AB hd hs,k,this,Rat.intCast_add,Rat.intCast_one];grind
 .rename_i j;refine v_ (iZ hs) hd ?_;have:(x - ↑(tZ (bQ a s))+(x - ↑(tZ (bQ a s))))<1:=g.1 (by omega);have:tZ (bQ (mV a (bQ s (vK 2))) s)=tZ (bQ a s):=F6 (x:=x+1 / 2) f d (by grind) (by grind);rw [m,k,this]
def af8:List (RQ × RQ)->Prop
 |b::b'::l=>b.1.rt<b'.1.rt/\af8 (b'::l)
 |_=>True
inductive Oq where
 |err (e:Int)
 |val (q:RQ)
def Oq.n:Oq->Bool| .err _=>false| .val q=>q.neg
def Oq.a:Oq->List UInt8| .err _=> []| .val q=>ae q.n
def Oq.d:Oq->List UInt8| .err _=> []| .val q=>ae q.d
def Oq.e:Oq->Int| .err e=>e| .val _=>0
def Oq.q:Oq->RQ| .err _=>q0| .val q=>q
def Qa (o:Oq):List AV:= [.bool o.n,.str o.a,.str o.d,ω o.e]
abbrev gQ (o:Oq):AV:= .agg [.bool o.n,.str o.a,.str o.d,ω o.e]
noncomputable def Q_ (t:Nat):AV->Bool:=match ap.tyAt t with|some ti=>mF ti|none=>λ_=>false
theorem kY (e:Int):CO 119 [ω e] (.ret (.agg [.bool false,.str [],.str [],ω e])):=pK [] 0 0 (.n 5 .nil) (.nil)
theorem ail (n:Bool) (a d:List UInt8) (e:Int) (h0:lit true (!(e==((0:Nat):Int)))=true) (c:CO 119 [ω e] (.ret (.agg [.bool false,.str [],.str [],ω e]))):CO 188 [.agg [.bool n,.str a,.str d,ω e]] (.ret (.agg [.bool false,.str [],.str [],ω e])):=pK [] 1 1 (.k 6 h0 (.n 1 .nil)) (.c c .nil)
theorem aim (n:Bool) (a d:List UInt8) (e:Int) (h0:lit true (!(eP n a d))=true) (c:lit false (!(e==((0:Nat):Int)))=true) (g:CO 77 [Ω n a d] (.ret (.bool (eP n a d)))) (f:CO 119 [ω 3] (.ret (.agg [.bool false,.str [],.str [],ω 3]))):CO 188 [.agg [.bool n,.str a,.str d,ω e]] (.ret (.agg [.bool false,.str [],.str [],ω 3])):=pK [] 2 2 (.k 5 h0 (.k 3 c (.n 1 .nil))) (.c f (.c g .nil))
theorem ain (n:Bool) (a d:List UInt8) (e:Int) (h0:lit false (!(eP n a d))=true) (c:lit false (!(e==((0:Nat):Int)))=true) (f:CO 77 [Ω n a d] (.ret (.bool (eP n a d)))):CO 188 [.agg [.bool n,.str a,.str d,ω e]] (.ret (.agg [.bool n,.str a,.str d,ω e])):=pK [] 2 0 (.k 9 h0 (.k 3 c (.n 1 .nil))) (.c f .nil)
abbrev Vad (a:Oq):lG:= .ret (gQ a)
theorem aiy (n:Bool) (a d:List UInt8) (o:Oq) (c:CO 188 [.agg [.bool n,.str a,.str d,ω 0]] (Vad o)):CO 215 [Ω n a d] (Vad o):=pK [] 0 0 (.n 8 .nil) (.c c .nil)
theorem aiu (b:Bool) (o:Oq) (h0:lit true b=true) (d:CO 75 [ω 1] (.ret (Ω false (ae 1) (ae 1)))) (c:CO 215 [Ω false (ae 1) (ae 1)] (Vad o)):CO 216 [.bool b] (Vad o):=pK [] 1 1 (.k 5 h0 .nil) (.c c (.c d .nil))
theorem aiv (b:Bool) (o:Oq) (h0:lit false b=true) (d:VaC) (c:CO 215 [Ω false (ae 0) (ae 1)] (Vad o)):CO 216 [.bool b] (Vad o):=pK [] 1 0 (.k 5 h0 .nil) (.c c (.c d .nil))
theorem ah4 (n:Bool) (a d:List UInt8) (h0:lit true ((n==false) && ((a==(ae 1)) && ((d==(ae 1)) && true)))=true) (c:CO 75 [ω 1] (.ret (Ω false (ae 1) (ae 1)))):CO 217 [Ω n a d] (.ret (.tup [.bool ((n==false) && ((a==(ae 1)) && ((d==(ae 1)) && true))),.bool true])):=pK [] 1 1 (.c h0 (.n 3 .nil)) (.c c .nil)
theorem ah5 (n:Bool) (a d:List UInt8) (h0:lit false ((n==false) && ((a==(ae 1)) && ((d==(ae 1)) && true)))=true) (e:CO 75 [ω 1] (.ret (Ω false (ae 1) (ae 1)))) (c:VaC):CO 217 [Ω n a d] (.ret (.tup [.bool ((n==false) && ((a==(ae 1)) && ((d==(ae 1)) && true))),.bool ((n==false) && ((a==(ae 0)) && ((d==(ae 1)) && true)))])):=pK [] 1 0 (.k 3 h0 (.n 3 .nil)) (.c c (.c e .nil))
theorem ah7 (e g:Bool) (f d c:List UInt8) (i:Int) (o:Oq) (ks vs m h l:List AV) (k:Nat) (j:CO 215 [Ω e f d] (Vad o)):CO 190 [.agg [.mp ks vs,.mp m h],.agg [ω i,.bool e,.str f,.str d,.str c],.sl l k g] (Vad o):=pK [] 0 0 (.n 8 .nil) (.c j .nil)
abbrev VaH:lG:= .ret (.agg [.bool false,.str [],.str [],ω 12])
abbrev VaP:AV:= .agg [.bool false,.str [],.str [],ω 0]
theorem ah8 (i e lb:Bool) (p h c:List UInt8) (d:Int) (j:Oq) (ks vs o g m:List AV) (k:Nat) (f:AV.tup [(Xwc (dO ks vs (.agg [ω d,.str c])) VaP),.bool (Xz3 (dO ks vs (.agg [ω d,.str c])))]= .tup [gQ j,.bool lb]) (h0:lit true (!lb)=true) (l:(Xwa ks (Q_ 222))=true) (n:CO 119 [ω 12] VaH):CO 191 [.agg [.mp ks vs,.mp o g],.agg [ω d,.bool i,.str p,.str h,.str c],.sl m k e] VaH:=pK [] 1 1 (.k 5 h0 (.k 2 l (.n 3 .nil))) (.c n (.v 17 (.eq f) .nil))
theorem ah9 (j f lb:Bool) (o i c:List UInt8) (d:Int) (e:Oq) (ks vs n h m:List AV) (k:Nat) (g:AV.tup [(Xwc (dO ks vs (.agg [ω d,.str c])) VaP),.bool (Xz3 (dO ks vs (.agg [ω d,.str c])))]= .tup [gQ e,.bool lb]) (h0:lit false (!lb)=true) (l:(Xwa ks (Q_ 222))=true):CO 191 [.agg [.mp ks vs,.mp n h],.agg [ω d,.bool j,.str o,.str i,.str c],.sl m k f] (Vad e):=pK [] 1 0 (.k 9 h0 (.k 2 l (.n 3 .nil))) (.v 17 (.eq g) .nil)
abbrev Va1 (a:Oq) (b:Bool) (c:Bool):Prop:=CO 217 [.agg [.bool a.n,.str a.a,.str a.d]] (.ret (.tup [.bool b,.bool c]))
abbrev Va4 (a:List AV) (b:List AV) (c:List AV) (d:List AV) (e:Int) (f:Bool) (g:List UInt8) (h:List UInt8) (i:List UInt8) (j:Oq) (k:Oq) (l:Oq) (m:Bool):List AV:=[.agg [.mp a b,.mp c d],.agg [ω e,.bool f,.str g,.str h,.str i],.sl [.bool j.n,.str j.a,.str j.d,ω j.e,.bool k.n,.str k.a,.str k.d,ω k.e,.bool l.n,.str l.a,.str l.d,ω l.e] 3 m]
theorem ah0 (k g w1 l:Bool) (o j d:List UInt8) (h:Int) (c f e:Oq) (ks vs n i:List AV) (h0:lit true (!(c.e==((0:Nat):Int)))=true) (m:Va1 c w1 l):CO 192 (Va4 ks vs n i h k o j d c f e g) (Vad c):=pK [] 1 1 (.k 11 h0 (.n 8 .nil)) (.c m .nil)
abbrev Va7:lG:= .ret (.agg [.bool false,.str [],.str [],ω 13])
theorem ah1 (o h w1 g:Bool) (p i d:List UInt8) (m:Int) (c f e:Oq) (ks vs l n:List AV) (h0:lit true (!g)=true) (q:lit false (!(c.e==((0:Nat):Int)))=true) (k:Va1 c w1 g) (j:CO 119 [ω 13] Va7):CO 192 (Va4 ks vs l n m o p i d c f e h) Va7:=pK [] 2 2 (.k 5 h0 (.c q (.n 8 .nil))) (.c j (.c k .nil))
theorem ah2 (o h w1 g:Bool) (p i d:List UInt8) (m:Int) (c e f:Oq) (ks vs k n:List AV) (h0:lit true w1=true) (q:lit false (!g)=true) (l:lit false (!(c.e==((0:Nat):Int)))=true) (j:Va1 c w1 g):CO 192 (Va4 ks vs k n m o p i d c e f h) (Vad e):=pK [] 3 4 (.k 11 h0 (.c q (.c l (.n 8 .nil)))) (.c j .nil)
theorem ah3 (o h w1 g:Bool) (p i e:List UInt8) (m:Int) (c f d:Oq) (ks vs k n:List AV) (h0:lit false w1=true) (q:lit false (!g)=true) (l:lit false (!(c.e==((0:Nat):Int)))=true) (j:Va1 c w1 g):CO 192 (Va4 ks vs k n m o p i e c f d h) (Vad d):=pK [] 3 0 (.k 11 h0 (.c q (.c l (.n 8 .nil)))) (.c j .nil)
abbrev Va2 (a:Oq) (b:Oq):List AV:=[.bool a.n,.str a.a,.str a.d,ω a.e,.bool b.n,.str b.a,.str b.d,ω b.e]
abbrev Vac (a:Oq):List AV:=[.bool a.n,.str a.a,.str a.d]
theorem adD (j f:Bool) (n i e:List UInt8) (o c d:Oq) (r:RQ) (ks vs m h:List AV) (k:CO 214 [ω 9] (.ret (.fn 170 [] []))) (l:CO 170 [.agg (Vac c),.agg (Vac d)] (Va0 r)) (g:CO 215 [.agg (Vag r)] (Vad o)):CO 189 [.agg [.mp ks vs,.mp m h],.agg [ω 9,.bool j,.str n,.str i,.str e],.sl (Va2 c d) 2 f] (Vad o):=pK [] 1 1 (.n 25 .nil) (.c g (.c l (.c k .nil)))
theorem adB:CO 214 [ω 9] (.ret (.fn 170 [] [])):=pK [] 1 1 (.n 1 .nil) (.nil)
theorem Zw (j f:Bool) (n i e:List UInt8) (o c d:Oq) (r:RQ) (ks vs m h:List AV) (k:CO 214 [ω 10] (.ret (.fn 124 [] []))) (l:CO 124 [.agg (Vac c),.agg (Vac d)] (Va0 r)) (g:CO 215 [.agg (Vag r)] (Vad o)):CO 189 [.agg [.mp ks vs,.mp m h],.agg [ω 10,.bool j,.str n,.str i,.str e],.sl (Va2 c d) 2 f] (Vad o):=pK [] 1 1 (.n 25 .nil) (.c g (.c l (.c k .nil)))
theorem Zm:CO 214 [ω 10] (.ret (.fn 124 [] [])):=pK [] 2 2 (.n 2 .nil) (.nil)
theorem Zx (j f:Bool) (n i e:List UInt8) (o c d:Oq) (r:RQ) (ks vs m h:List AV) (k:CO 214 [ω 11] (.ret (.fn 121 [] []))) (l:CO 121 [.agg (Vac c),.agg (Vac d)] (Va0 r)) (g:CO 215 [.agg (Vag r)] (Vad o)):CO 189 [.agg [.mp ks vs,.mp m h],.agg [ω 11,.bool j,.str n,.str i,.str e],.sl (Va2 c d) 2 f] (Vad o):=pK [] 1 1 (.n 25 .nil) (.c g (.c l (.c k .nil)))
theorem Zn:CO 214 [ω 11] (.ret (.fn 121 [] [])):=pK [] 3 4 (.n 3 .nil) (.nil)
abbrev Vb0:lG:= .ret (.nilF)
theorem Zy (j f:Bool) (n i e:List UInt8) (o c d:Oq) (r:RQ) (ks vs m h:List AV) (k:CO 214 [ω 12] Vb0) (l:CO 114 [.agg (Vac c),.agg (Vac d)] (.ret (.tup [.agg (Vag r),.bool true]))) (g:CO 215 [.agg (Vag r)] (Vad o)):CO 189 [.agg [.mp ks vs,.mp m h],.agg [ω 12,.bool j,.str n,.str i,.str e],.sl (Va2 c d) 2 f] (Vad o):=pK [] 3 2 (.n 32 .nil) (.c g (.c l (.c k .nil)))
theorem Xa (j f:Bool) (n i e:List UInt8) (c d:Oq) (ks vs m h:List AV) (l:CO 214 [ω 12] Vb0) (k:CO 114 [.agg (Vac c),.agg (Vac d)] (.ret (.tup [Ω false [] [],.bool false]))) (g:CO 119 [ω 16] (.ret (.agg [.bool false,.str [],.str [],ω 16]))):CO 189 [.agg [.mp ks vs,.mp m h],.agg [ω 12,.bool j,.str n,.str i,.str e],.sl (Va2 c d) 2 f] (.ret (.agg [.bool false,.str [],.str [],ω 16])):=pK [] 3 6 (.n 29 .nil) (.c g (.c k (.c l .nil)))
theorem O8:CO 214 [ω 12] (.ret (.nilF)):=pK [] 5 0 (.n 5 .nil) (.nil)
theorem Ph (n k g:Bool) (a d q j f:List UInt8) (o c e:Oq) (ks vs p i:List AV) (l:CO 214 [ω 13] (.ret (.fn 239 [] [.pp [ω 1] 0]))) (m:CO 239 [.agg (Vac c),.agg (Vac e),.pp [ω 1] 0] (.ret (Ω n a d))) (h:CO 215 [Ω n a d] (Vad o)):CO 189 [.agg [.mp ks vs,.mp p i],.agg [ω 13,.bool k,.str q,.str j,.str f],.sl (Va2 c e) 2 g] (Vad o):=pK [] 1 1 (.n 25 .nil) (.c h (.c m (.c l .nil)))
theorem O9 (c:CO 238 [ω 1] (.ret (.fn 239 [] [.pp [ω 1] 0]))):CO 214 [ω 13] (.ret (.fn 239 [] [.pp [ω 1] 0])):=pK [] 4 8 (.n 4 .nil) (.c c .nil)
theorem Pi (n k g:Bool) (a d q j f:List UInt8) (o c e:Oq) (ks vs p i:List AV) (l:CO 214 [ω 14] (.ret (.fn 239 [] [.pp [ω (-1)] 0]))) (m:CO 239 [.agg (Vac c),.agg (Vac e),.pp [ω (-1)] 0] (.ret (Ω n a d))) (h:CO 215 [Ω n a d] (Vad o)):CO 189 [.agg [.mp ks vs,.mp p i],.agg [ω 14,.bool k,.str q,.str j,.str f],.sl (Va2 c e) 2 g] (Vad o):=pK [] 1 1 (.n 25 .nil) (.c h (.c m (.c l .nil)))
theorem O_ (c:CO 238 [ω (-1)] (.ret (.fn 239 [] [.pp [ω (-1)] 0]))):CO 214 [ω 14] (.ret (.fn 239 [] [.pp [ω (-1)] 0])):=pK [] 5 16 (.n 5 .nil) (.c c .nil)
theorem Zz (k f:Bool) (p j e:List UInt8) (g:Int) (o c d:Oq) (ks vs n i:List AV) (l:CO 214 [ω 16] Vb0) (m:CO 76 [.agg (Vac c),.agg (Vac d)] (.ret (ω g))) (h:CO 216 [.bool (decide (g<((0:Nat):Int)))] (Vad o)):CO 189 [.agg [.mp ks vs,.mp n i],.agg [ω 16,.bool k,.str p,.str j,.str e],.sl (Va2 c d) 2 f] (Vad o):=pK [] 3 4 (.n 28 .nil) (.c h (.c m (.c l .nil)))
theorem Zo:CO 214 [ω 16] (.ret (.nilF)):=pK [] 5 0 (.n 5 .nil) (.nil)
theorem ZA (i f:Bool) (m h e:List UInt8) (o c d:Oq) (ks vs l g:List AV) (j:CO 214 [ω 17] Vb0) (k:CO 216 [.bool ((c.n==d.n) && ((c.a==d.a) && ((c.d==d.d) && true)))] (Vad o)):CO 189 [.agg [.mp ks vs,.mp l g],.agg [ω 17,.bool i,.str m,.str h,.str e],.sl (Va2 c d) 2 f] (Vad o):=pK [] 4 8 (.n 29 .nil) (.c k (.c j .nil))
theorem Zp:CO 214 [ω 17] (.ret (.nilF)):=pK [] 5 0 (.n 5 .nil) (.nil)
theorem ZB (q g w1 f p m:Bool) (r i e:List UInt8) (c d:Oq) (ks vs l o:List AV) (h0:lit true (!f)=true) (k:CO 214 [ω 18] Vb0) (j:Va1 c w1 f) (h:Va1 d p m) (n:CO 119 [ω 13] Va7):CO 189 [.agg [.mp ks vs,.mp l o],.agg [ω 18,.bool q,.str r,.str i,.str e],.sl (Va2 c d) 2 g] Va7:=pK [] 6 48 (.k 6 h0 (.n 24 .nil)) (.c n (.c h (.c j (.c k .nil))))
theorem ZC (q h w1 g p f:Bool) (r j e:List UInt8) (c d:Oq) (ks vs m o:List AV) (h0:lit true (!f)=true) (t:lit false (!g)=true) (l:CO 214 [ω 18] Vb0) (k:Va1 c w1 g) (i:Va1 d p f) (n:CO 119 [ω 13] Va7):CO 189 [.agg [.mp ks vs,.mp m o],.agg [ω 18,.bool q,.str r,.str j,.str e],.sl (Va2 c d) 2 h] Va7:=pK [] 6 32 (.k 5 h0 (.c t (.n 24 .nil))) (.c n (.c i (.c k (.c l .nil))))
theorem ZE (t i w1 h g f:Bool) (u k e:List UInt8) (o c d:Oq) (ks vs n r:List AV) (h0:lit true w1=true) (v:lit false (!f)=true) (q:lit false (!h)=true) (m:CO 214 [ω 18] Vb0) (l:Va1 c w1 h) (j:Va1 d g f) (p:CO 216 [.bool g] (Vad o)):CO 189 [.agg [.mp ks vs,.mp n r],.agg [ω 18,.bool t,.str u,.str k,.str e],.sl (Va2 c d) 2 i] (Vad o):=pK [] 8 192 (.k 5 h0 (.k 2 v (.c q (.n 24 .nil)))) (.c p (.c j (.c l (.c m .nil))))
theorem ZF (t h w1 g r f:Bool) (u j e:List UInt8) (o c d:Oq) (ks vs m q:List AV) (h0:lit false w1=true) (v:lit false (!f)=true) (p:lit false (!g)=true) (l:CO 214 [ω 18] Vb0) (k:Va1 c w1 g) (i:Va1 d r f) (n:CO 216 [.bool false] (Vad o)):CO 189 [.agg [.mp ks vs,.mp m q],.agg [ω 18,.bool t,.str u,.str j,.str e],.sl (Va2 c d) 2 h] (Vad o):=pK [] 8 64 (.k 5 h0 (.k 2 v (.c p (.n 24 .nil)))) (.c n (.c i (.c k (.c l .nil))))
theorem BF:CO 214 [ω 18] (.ret (.nilF)):=pK [] 5 0 (.n 5 .nil) (.nil)
theorem ZG (q g w1 f p m:Bool) (r i e:List UInt8) (c d:Oq) (ks vs l o:List AV) (h0:lit true (!f)=true) (k:CO 214 [ω 19] Vb0) (j:Va1 c w1 f) (h:Va1 d p m) (n:CO 119 [ω 13] Va7):CO 189 [.agg [.mp ks vs,.mp l o],.agg [ω 19,.bool q,.str r,.str i,.str e],.sl (Va2 c d) 2 g] Va7:=pK [] 6 48 (.k 6 h0 (.n 24 .nil)) (.c n (.c h (.c j (.c k .nil))))
theorem ZH (q h w1 g p f:Bool) (r j e:List UInt8) (c d:Oq) (ks vs m o:List AV) (h0:lit true (!f)=true) (t:lit false (!g)=true) (l:CO 214 [ω 19] Vb0) (k:Va1 c w1 g) (i:Va1 d p f) (n:CO 119 [ω 13] Va7):CO 189 [.agg [.mp ks vs,.mp m o],.agg [ω 19,.bool q,.str r,.str j,.str e],.sl (Va2 c d) 2 h] Va7:=pK [] 6 32 (.k 5 h0 (.c t (.n 24 .nil))) (.c n (.c i (.c k (.c l .nil))))
theorem ZI (t h w1 g r f:Bool) (u j e:List UInt8) (o c d:Oq) (ks vs m q:List AV) (h0:lit true w1=true) (v:lit false (!f)=true) (p:lit false (!g)=true) (l:CO 214 [ω 19] Vb0) (k:Va1 c w1 g) (i:Va1 d r f) (n:CO 216 [.bool true] (Vad o)):CO 189 [.agg [.mp ks vs,.mp m q],.agg [ω 19,.bool t,.str u,.str j,.str e],.sl (Va2 c d) 2 h] (Vad o):=pK [] 8 128 (.k 5 h0 (.k 2 v (.c p (.n 24 .nil)))) (.c n (.c i (.c k (.c l .nil))))
theorem ZJ (t i w1 h g f:Bool) (u k e:List UInt8) (o c d:Oq) (ks vs n r:List AV) (h0:lit false w1=true) (v:lit false (!f)=true) (q:lit false (!h)=true) (m:CO 214 [ω 19] Vb0) (l:Va1 c w1 h) (j:Va1 d g f) (p:CO 216 [.bool g] (Vad o)):CO 189 [.agg [.mp ks vs,.mp n r],.agg [ω 19,.bool t,.str u,.str k,.str e],.sl (Va2 c d) 2 i] (Vad o):=pK [] 8 0 (.k 5 h0 (.k 2 v (.c q (.n 24 .nil)))) (.c p (.c j (.c l (.c m .nil))))
theorem BG:CO 214 [ω 19] (.ret (.nilF)):=pK [] 5 0 (.n 5 .nil) (.nil)
theorem UN:CO 238 [ω 1] (.ret (.fn 239 [] [.pp [ω 1] 0])):=pK [] 0 0 .nil (.nil)
theorem adG (h s1:Bool) (f e c d:List UInt8) (g:Int) (h0:lit true (decide (((0:Nat):Int)<(γ .i64 (g*((1:Nat):Int)))))=true) (i:CO 76 [Ω h f e,Ω s1 c d] (.ret (ω g))):CO 239 [Ω h f e,Ω s1 c d,.pp [ω 1] 0] (.ret (Ω s1 c d)):=pK [] 1 1 (.k 7 h0 (.n 7 .nil)) (.c i .nil)
theorem adH (e s1:Bool) (d c f h:List UInt8) (g:Int) (h0:lit false (decide (((0:Nat):Int)<(γ .i64 (g*((1:Nat):Int)))))=true) (i:CO 76 [Ω e d c,Ω s1 f h] (.ret (ω g))):CO 239 [Ω e d c,Ω s1 f h,.pp [ω 1] 0] (.ret (Ω e d c)):=pK [] 1 0 (.k 7 h0 (.n 7 .nil)) (.c i .nil)
theorem UM:CO 238 [ω (-1)] (.ret (.fn 239 [] [.pp [ω (-1)] 0])):=pK [] 0 0 .nil (.nil)
theorem adE (h s1:Bool) (f e c d:List UInt8) (g:Int) (h0:lit true (decide (((0:Nat):Int)<(γ .i64 (g*(-1:Int)))))=true) (i:CO 76 [Ω h f e,Ω s1 c d] (.ret (ω g))):CO 239 [Ω h f e,Ω s1 c d,.pp [ω (-1)] 0] (.ret (Ω s1 c d)):=pK [] 1 1 (.k 7 h0 (.n 7 .nil)) (.c i .nil)
theorem adF (e s1:Bool) (d c f h:List UInt8) (g:Int) (h0:lit false (decide (((0:Nat):Int)<(γ .i64 (g*(-1:Int)))))=true) (i:CO 76 [Ω e d c,Ω s1 f h] (.ret (ω g))):CO 239 [Ω e d c,Ω s1 f h,.pp [ω (-1)] 0] (.ret (Ω e d c)):=pK [] 1 0 (.k 7 h0 (.n 7 .nil)) (.c i .nil)
def oJ (q:RQ):Bool:=decide (dZ q.n<=400) && decide (dZ q.d<=400)
def Oq.ok:Oq->Prop| .err e=>e ≠ 0| .val q=>q.ok/\oJ q=true
def CU (n:Bool) (a d:List UInt8) (e:Int):Oq:=if e=0 then (if eP n a d=true then .val ⟨n,ag a,ag d⟩ else .err 3) else .err e
def uU (q:RQ):Oq:=if oJ q=true then .val q else .err 3
def bR (b:Bool):RQ:=if b then ⟨false,1,1⟩ else ⟨false,0,1⟩
def Q4 (b:Bool):Oq:= .val (bR b)
def Oq.one (o:Oq):Bool:=(o.n==false) && ((o.a==(ae 1)) && ((o.d==(ae 1)) && true))
def Oq.bit (o:Oq):Bool:=o.one||((o.n==false) && ((o.a==(ae 0)) && ((o.d==(ae 1)) && true)))
def eqO (a b:Oq):Bool:=(a.n==b.n) && ((a.a==b.a) && ((a.d==b.d) && true))
def RN (a b c:Oq):Oq:=if a.e=0 then (if a.bit then (if a.one then b else c) else .err 13) else a
def sN (op:Int) (a b:Oq):Oq:=
 if op=9 then uU (mV a.q b.q) else if op=10 then uU (kR a.q b.q) else if op=11 then uU (gJ a.q b.q)
 else if op=12 then (if b.q.n=0 then .err 16 else uU (bQ a.q b.q))
 else if op=13 then (if 0<iH a.q b.q then b else a) else if op=14 then (if iH a.q b.q<0 then b else a)
 else if op=16 then Q4 (decide (iH a.q b.q<0)) else if op=17 then Q4 (eqO a b)
 else if a.bit && b.bit then Q4 (if op=18 then a.one && b.one else a.one||b.one) else .err 13
theorem oL {n:Bool} {a d:List UInt8} (h:eP n a d=true):jG n a d=true/\oJ ⟨n,ag a,ag d⟩=true:=by
 unfold eP at h;simp only [τ] at h;exact ⟨h.1.1,by unfold oJ;simp only [τ];exact ⟨h.1.2,h.2⟩⟩
theorem nK {n:Bool} {a d:List UInt8} (h:jG n a d=true):ae (ag a)=a/\ae (ag d)=d:=by
 rw [mD] at h;exact ⟨(qU a).1 h.1,(qU d).1 h.2.1⟩
theorem Oj (n:Bool) (a d:List UInt8) (e:Int):(CU n a d e).ok:=by
 unfold CU;split
 .split
  .rename_i h;obtain ⟨f,c⟩:=oL h;have:=fJ n a d;unfold vQ at this;rw [if_pos f] at this;exact ⟨this,c⟩
  .exact (by decide:(3:Int) ≠ 0)
 .assumption
theorem ZV {q:RQ} (h:q.ok):eP q.neg (ae q.n) (ae q.d)=oJ q:=by
 unfold eP oJ;rw [xO q h,aI,aI,Xx1]
theorem QF {q:RQ} (h:q.ok):CU q.neg (ae q.n) (ae q.d) 0=uU q:=by
 unfold CU uU;rw [if_pos rfl,ZV h,aI,aI]
theorem wG {q:RQ} (h:q.ok):(uU q).ok:=by
 rw [<- QF h];exact Oj _ _ _ _
theorem akG (b:Bool):(bR b).ok:=by cases b<;>exact ⟨by decide,by decide,by decide⟩
theorem PG:dZ 1<=400/\dZ 0<=400:=⟨kZ (k:=400) (Nat.one_lt_two_pow (n:=400) (by decide)),kZ (k:=400) (Xqv 400)⟩
theorem U7 {x:Nat} (h:dZ x<=400):(ae x).length<=51:=by
 refine dw (k:=51) ?_;rcases Xqf x with h0|h0
 .rw [h0];apply Xqv
 .obtain ⟨m,d,_,c⟩:=yP h0;refine υ c ?_;apply Ψ (by decide);omega
theorem Gu (b:Bool):(Q4 b).ok:=by
 refine ⟨akG b, ?_⟩;unfold oJ bR;have:=PG;cases b<;>simp [this.1,this.2]
theorem fC {q:RQ} (h:oJ q=true):(ae q.n).length<=51/\(ae q.d).length<=51:=by
 unfold oJ at h;simp only [τ,decide_eq_true_eq] at h;exact ⟨U7 h.1,U7 h.2⟩
theorem LM (n:Bool) (a d:List UInt8) (e:Int) (i:a.length<2^36) (hd:d.length<2^36):CO 188 [.agg [.bool n,.str a,.str d,ω e]] (.ret (gQ (CU n a d e))):=by
 have f:=eu n a d i hd;unfold CU;by_cases h:e=0
 .rw [if_pos h];have g:lit false (!(e==((0:Nat):Int)))=true:=by rw [h];rfl
  cases c:eP n a d with
  |true=>
   rw [c] at f;rw [if_pos rfl];have:=ain n a d e (by rw [c];rfl) g (by rw [c];exact f);obtain ⟨k,j⟩:=nK (oL c).1;show CO 188 _ (.ret (.agg [.bool n,.str (ae (ag a)),.str (ae (ag d)),ω 0]));rw [k,j,<- h];exact this
  |false=>
   rw [c] at f;rw [if_neg (by simp)];exact aim n a d e (by rw [c];rfl) g (by rw [c];exact f) (kY 3)
 .rw [if_neg h];exact ail n a d e (by rw [show (e==((0:Nat):Int))=false from beq_eq_false_iff_ne.2 h];rfl) (kY e)
theorem Pn (n:Bool) (a d:List UInt8) (c:a.length<2^36) (hd:d.length<2^36):CO 215 [Ω n a d] (.ret (gQ (CU n a d 0))):=aiy n a d _ (LM n a d 0 c hd)
theorem uu {q:RQ} (h:q.ok) (c:(ae q.n).length<2^36) (d:(ae q.d).length<2^36):CO 215 [qA q] (.ret (gQ (uU q))):=by
 rw [<- QF h];exact Pn _ _ _ c d
theorem ut {o:Oq} (h:o.ok) (h0:o.e=0):CO 215 [.agg [.bool o.n,.str o.a,.str o.d]] (.ret (gQ o)):=by
 cases o with
 |err e=>exact absurd h0 h
 |val q=>
  have c:=uu h.1 (χ (fC h.2).1 (by decide)) (χ (fC h.2).2 (by decide));unfold uU at c;rw [if_pos h.2] at c;exact c
theorem nI (b:Bool):CO 216 [.bool b] (.ret (gQ (Q4 b))):=by
 cases b with
 |true=>exact aiu true _ rfl yc (ut (Gu true) rfl)
 |false=>exact aiv false _ rfl lC (ut (Gu false) rfl)
theorem qj (o:Oq):CO 217 [.agg [.bool o.n,.str o.a,.str o.d]] (.ret (.tup [.bool o.one,.bool o.bit])):=by
 unfold Oq.bit;cases h:o.one with
 |true=>
  have:=ah4 o.n o.a o.d h yc;rw [show ((o.n==false) && ((o.a==(ae 1)) && ((o.d==(ae 1)) && true)))=true from h] at this;exact this
 |false=>
  have:=ah5 o.n o.a o.d (by rw [show ((o.n==false) && ((o.a==(ae 1)) && ((o.d==(ae 1)) && true)))=false from h];rfl) yc lC;rw [show ((o.n==false) && ((o.a==(ae 1)) && ((o.d==(ae 1)) && true)))=false from h] at this;rw [Xx3];exact this
section
variable (op:Int) (ng nn:Bool) (nu de name:List UInt8) (ks vs kt vt:List AV) (o0 o1 o2:Oq)
theorem Sj:CO 192 [.agg [.mp ks vs,.mp kt vt],.agg [ω op,.bool ng,.str nu,.str de,.str name],.sl (Qa o0++(Qa o1++Qa o2)) 3 nn] (.ret (gQ (RN o0 o1 o2))):=by
 have c:=qj o0;unfold RN;by_cases h:o0.e=0
 .rw [if_pos h];have d:lit false (!(o0.e==((0:Nat):Int)))=true:=by rw [h];rfl
  cases f:o0.bit with
  |false=>
   rw [f] at c;exact ah1 _ _ _ _ _ _ _ _ o0 o1 o2 ks vs kt vt rfl d c (kY 13)
  |true=>
   rw [f] at c;cases e:o0.one with
   |true=>rw [e] at c;exact ah2 _ _ _ _ _ _ _ _ o0 o1 o2 ks vs kt vt rfl rfl d c
   |false=>rw [e] at c;exact ah3 _ _ _ _ _ _ _ _ o0 o1 o2 ks vs kt vt rfl rfl d c
 .rw [if_neg h];exact ah0 _ _ _ _ _ _ _ _ o0 o1 o2 ks vs kt vt (by rw [show (o0.e==((0:Nat):Int))=false from beq_eq_false_iff_ne.2 h];rfl) c
theorem aoK {g:Int} (h:g=0\/g=1\/g= -1):decide (((0:Nat):Int)<(γ .i64 (g*((1:Nat):Int))))=decide (0<g)/\decide (((0:Nat):Int)<(γ .i64 (g*(-1:Int))))=decide (g<0):=by
 rcases h with rfl|rfl|rfl<;>decide+kernel
theorem apf (a b:RQ):iH a b=0\/iH a b=1\/iH a b= -1:=by
 unfold iH jQ;split
 .exact .inl rfl
 .split
  .exact .inr (.inr rfl)
  .exact .inr (.inl rfl)
theorem Dp {o:Oq} (h:o.ok) (h0:o.e=0):∃ q:RQ,o= .val q/\q.ok/\oJ q=true:=by
 cases o with
 |err e=>exact absurd h0 h
 |val q=>exact ⟨q,rfl,h.1,h.2⟩
theorem Zv (z:(9<=op/\op<=14)\/(16<=op/\op<=19)) (k0:o0.ok) (v:o0.e=0) (w:o1.ok) (x:o1.e=0):CO 189 [.agg [.mp ks vs,.mp kt vt],.agg [ω op,.bool ng,.str nu,.str de,.str name],.sl (Qa o0++Qa o1) 2 nn] (.ret (gQ (sN op o0 o1))):=by
 obtain ⟨a,rfl,p,B⟩:=Dp k0 v;obtain ⟨b,rfl,t,A⟩:=Dp w x;obtain ⟨j,g⟩:=fC B;obtain ⟨lb,i⟩:=fC A;have r:=jS p;have m:=jS t;have d:∀ k:Nat,k<=51->k<2^28:=λk h=>χ h (by decide)
 have c:∀ k:Nat,k<=51->k<2^29:=λk h=>χ h (by decide)
 have o:CO 76 [qA a,qA b] (.ret (ω (iH a b))):=by
  have:=Jn a.neg b.neg (ae a.n) (ae a.d) (ae b.n) (ae b.d) (d _ j) (d _ g) (d _ lb) (d _ i);rw [r,m] at this;exact this
 have D:=apf a b;obtain ⟨w1,y⟩:=aoK D;have C:op=9\/op=10\/op=11\/op=12\/op=13\/op=14\/op=16\/op=17\/op=18\/op=19:=by omega
 have u:∀ {q:RQ},(ae q.n).length<=4*51+1/\(ae q.d).length<=2*51->(ae q.n).length<2^36/\(ae q.d).length<2^36:=λh=> ⟨χ h.1 (by decide),χ h.2 (by decide)⟩
 rcases C with rfl|rfl|rfl|rfl|rfl|rfl|rfl|rfl|rfl|rfl
 .have:=Jm a.neg b.neg (ae a.n) (ae a.d) (ae b.n) (ae b.d) (c _ j) (c _ g) (c _ lb) (c _ i);rw [r,m] at this;obtain ⟨n,l⟩:=u (BV a b 51 j g lb i);exact adD _ _ _ _ _ _ (.val a) (.val b) _ ks vs kt vt adB this (uu (jr p t) n l)
 .have:=Jp a.neg b.neg (ae a.n) (ae a.d) (ae b.n) (ae b.d) (c _ j) (c _ g) (d _ lb) (d _ i);rw [r,m] at this;obtain ⟨n,l⟩:=u (BV a (oO b) 51 j g lb i);exact Zw _ _ _ _ _ _ (.val a) (.val b) _ ks vs kt vt Zm this (uu (Dc p t) n l)
 .have:=Vz a.neg b.neg (ae a.n) (ae a.d) (ae b.n) (ae b.d) (c _ j) (c _ g) (c _ lb) (c _ i);rw [r,m] at this;have:=dH a.n b.n;have:=dH a.d b.d;have:=nY (!(a.neg==b.neg)) (a.n*b.n) (a.d*b.d);obtain ⟨n,l⟩:=u (q:=gJ a b) ⟨by unfold gJ;omega,by unfold gJ;omega⟩;exact Zx _ _ _ _ _ _ (.val a) (.val b) _ ks vs kt vt Zn (by assumption) (uu (Ce p t) n l)
 .rcases Xqf b.n with h0|h0
  .have:=Qv a.neg b.neg (ae a.n) (ae a.d) (ae b.n) (ae b.d) (c _ j) (c _ g) (c _ lb) (c _ i) (by rw [m];exact h0);show CO 189 _ (.ret (gQ (if b.n=0 then .err 16 else _)));rw [if_pos h0];exact Xa _ _ _ _ _ (.val a) (.val b) ks vs kt vt O8 this (kY 16)
  .have:=Jo a.neg b.neg (ae a.n) (ae a.d) (ae b.n) (ae b.d) (c _ j) (c _ g) (c _ lb) (c _ i) (by rw [m];exact h0);rw [r,m] at this;have:=dH a.n b.d;have:=dH a.d b.n;have:=nY (!(a.neg==b.neg)) (a.n*b.d) (a.d*b.n);obtain ⟨n,l⟩:=u (q:=bQ a b) ⟨by unfold bQ;omega,by unfold bQ;omega⟩;show CO 189 _ (.ret (gQ (if b.n=0 then .err 16 else uU (bQ a b))));rw [if_neg (by omega)];exact Zy _ _ _ _ _ _ (.val a) (.val b) _ ks vs kt vt O8 (by assumption) (uu (qc p h0) n l)
 .show CO 189 _ (.ret (gQ (if 0<iH a b then .val b else .val a)));by_cases h:0<iH a b
  .rw [if_pos h];exact Ph _ _ _ _ _ _ _ _ _ (.val a) (.val b) ks vs kt vt (O9 UN) (adG _ _ _ _ _ _ _ (by rw [w1,Yq0 h];rfl) o) (ut w x)
  .rw [if_neg h];exact Ph _ _ _ _ _ _ _ _ _ (.val a) (.val b) ks vs kt vt (O9 UN) (adH _ _ _ _ _ _ _ (by rw [w1,Yq1 h];rfl) o) (ut k0 v)
 .show CO 189 _ (.ret (gQ (if iH a b<0 then .val b else .val a)));by_cases h:iH a b<0
  .rw [if_pos h];exact Pi _ _ _ _ _ _ _ _ _ (.val a) (.val b) ks vs kt vt (O_ UM) (adE _ _ _ _ _ _ _ (by rw [y,Yq0 h];rfl) o) (ut w x)
  .rw [if_neg h];exact Pi _ _ _ _ _ _ _ _ _ (.val a) (.val b) ks vs kt vt (O_ UM) (adF _ _ _ _ _ _ _ (by rw [y,Yq1 h];rfl) o) (ut k0 v)
 .exact Zz _ _ _ _ _ _ _ (.val a) (.val b) ks vs kt vt Zo o (nI _)
 .exact ZA _ _ _ _ _ _ (.val a) (.val b) ks vs kt vt Zp (nI _)
 .have f:=qj (.val a);have e:=qj (.val b);show CO 189 _ (.ret (gQ (if Oq.bit (.val a) && Oq.bit (.val b) then Q4 (Oq.one (.val a) && Oq.one (.val b)) else .err 13)));generalize Oq.bit (.val a)=x2 at*
  generalize Oq.bit (.val b)=x4 at*
  generalize Oq.one (.val a)=x1 at*
  generalize Oq.one (.val b)=x3 at*
  cases x2 with
  |false=>exact ZB _ _ x1 false x3 x4 _ _ _ (.val a) (.val b) ks vs kt vt rfl BF f e (kY 13)
  | true=>
   cases x4 with
   |false=>exact ZC _ _ x1 true x3 false _ _ _ (.val a) (.val b) ks vs kt vt rfl rfl BF f e (kY 13)
   |true=>
    cases x1 with
    |true=>exact ZE _ _ true true x3 true _ _ _ _ (.val a) (.val b) ks vs kt vt rfl rfl rfl BF f e (nI _)
    |false=>exact ZF _ _ false true x3 true _ _ _ _ (.val a) (.val b) ks vs kt vt rfl rfl rfl BF f e (nI _)
 .have f:=qj (.val a);have e:=qj (.val b);show CO 189 _ (.ret (gQ (if Oq.bit (.val a) && Oq.bit (.val b) then Q4 (Oq.one (.val a)||Oq.one (.val b)) else .err 13)));generalize Oq.bit (.val a)=x2 at*
  generalize Oq.bit (.val b)=x4 at*
  generalize Oq.one (.val a)=x1 at*
  generalize Oq.one (.val b)=x3 at*
  cases x2 with
  |false=>exact ZG _ _ x1 false x3 x4 _ _ _ (.val a) (.val b) ks vs kt vt rfl BG f e (kY 13)
  | true=>
   cases x4 with
   |false=>exact ZH _ _ x1 true x3 false _ _ _ (.val a) (.val b) ks vs kt vt rfl rfl BG f e (kY 13)
   |true=>
    cases x1 with
    |true=>exact ZI _ _ true true x3 true _ _ _ _ (.val a) (.val b) ks vs kt vt rfl rfl rfl BG f e (nI _)
    |false=>exact ZJ _ _ false true x3 true _ _ _ _ (.val a) (.val b) ks vs kt vt rfl rfl rfl BG f e (nI _)
end
abbrev Vak (a:RQ):lG:= .ret (.tup [qA a,.bool true])
theorem alh (r:RQ) (c:Bool) (n:Nat) (f:CO 161 [.agg [.str []],.str (ae 1)] (.ret (.bool true))) (e:CO 162 [.str (ae n)] (.ret (.bool true))) (d:CO 159 [.bool c,.str (ae n),.str (ae 1)] (.ret (qA r))):CO 168 [.bool c,.str (ae n),.str (ae 1)] (Vak r):=pK [] 2 0 (.n 6 .nil) (.c d (.c e (.c f .nil)))
abbrev VaR (a:Nat) (b:Nat) (c:Nat) (d:Nat):Prop:=CO 167 [.str (ae a),.str (ae b)] (.ret (.tup [.str (ae c),.str (ae d),.bool true]))
theorem aiB (r:RQ) (n m y z:Nat) (d:VaR n m y z) (e:CO 116 [ω 1] VaG) (c:CO 168 [.bool false,.str (ae y),.str (ae 1)] (Vak r)):CO 122 [Ω false (ae n) (ae m)] (.ret (qA r)):=pK [] 2 0 (.n 14 .nil) (.c c (.c e (.c d .nil)))
theorem aiz (r:RQ) (n m y z:Nat) (h0:lit true (!((ae z)== []))=true) (e:VaR n m y z) (f:CO 116 [ω 1] VaG) (c:CO 123 [.str (ae y),.str (ae 1)] (.ret (.str (ae (y+1))))) (g:CO 116 [ω 1] VaG) (d:CO 168 [.bool true,.str (ae (y+1)),.str (ae 1)] (Vak r)):CO 122 [Ω true (ae n) (ae m)] (.ret (qA r)):=pK [] 2 3 (.k 9 h0 (.n 4 .nil)) (.c d (.c g (.c c (.c f (.c e .nil)))))
theorem aiA (r:RQ) (n m y z:Nat) (h0:lit false (!((ae z)== []))=true) (d:VaR n m y z) (e:CO 116 [ω 1] VaG) (c:CO 168 [.bool true,.str (ae y),.str (ae 1)] (Vak r)):CO 122 [Ω true (ae n) (ae m)] (.ret (qA r)):=pK [] 2 1 (.k 9 h0 (.n 4 .nil)) (.c c (.c e (.c d .nil)))
theorem aio (a s:RQ) (g:Int) (e:CO 115 [qA a] (.ret (.bool true))) (d:CO 115 [qA s] (.ret (.bool true))) (c:CO 107 [qA s] (.ret (ω g))):CO 120 [qA a,qA s] (.ret (.bool (decide (((0:Nat):Int)<g)))):=pK [] 2 3 (.n 11 .nil) (.c c (.c d (.c e .nil)))
theorem ale (a s q r w:RQ) (e:CO 120 [qA a,qA s] (.ret (.bool true))) (d:CO 114 [qA a,qA s] (Vak q)) (c:CO 122 [qA q] (.ret (qA w))) (f:CO 121 [qA w,qA s] (.ret (qA r))):CO 74 [qA a,qA s] (Vak r):=pK [] 1 0 (.n 24 .nil) (.c f (.c c (.c d (.c e .nil))))
theorem alA (a s r v:RQ) (h0:lit true (!((r.neg==a.neg) && (((ae r.n)==(ae a.n)) && (((ae r.d)==(ae a.d)) && true))))=true) (d:CO 74 [qA a,qA s] (Vak r)) (c:CO 170 [qA r,qA s] (.ret (qA v))):CO 220 [qA a,qA s] (Vak v):=pK [] 2 3 (.k 14 h0 (.n 14 .nil)) (.c c (.c d .nil))
theorem alB (a s r:RQ) (h0:lit false (!((r.neg==a.neg) && (((ae r.n)==(ae a.n)) && (((ae r.d)==(ae a.d)) && true))))=true) (c:CO 74 [qA a,qA s] (Vak r)):CO 220 [qA a,qA s] (Vak r):=pK [] 2 1 (.k 7 h0 (.n 14 .nil)) (.c c .nil)
theorem ali (a s q r v w:RQ) (g:Int) (h0:lit true (decide (((0:Nat):Int)<=g))=true) (f:CO 74 [qA a,qA s] (.ret (.tup [qA r,.bool true]))) (e:CO 124 [qA a,qA r] (.ret (qA q))) (d:CO 170 [qA q,qA q] (.ret (qA w))) (h:CO 76 [qA w,qA s] (.ret (ω g))) (c:CO 170 [qA r,qA s] (.ret (qA v))):CO 218 [qA a,qA s] (.ret (.tup [qA v,.bool true])):=pK [] 2 2 (.k 14 h0 (.n 24 .nil)) (.c c (.c h (.c d (.c e (.c f .nil)))))
theorem alj (a s q r w:RQ) (g:Int) (h0:lit false (decide (((0:Nat):Int)<=g))=true) (e:CO 74 [qA a,qA s] (.ret (.tup [qA r,.bool true]))) (d:CO 124 [qA a,qA r] (.ret (qA q))) (c:CO 170 [qA q,qA q] (.ret (qA w))) (f:CO 76 [qA w,qA s] (.ret (ω g))):CO 218 [qA a,qA s] (.ret (.tup [qA r,.bool true])):=pK [] 2 0 (.k 7 h0 (.n 24 .nil)) (.c f (.c c (.c d (.c e .nil))))
theorem al4:nR (ae 1)=true:=yQ 1
theorem apB:Ea (ae 1)=true:=by unfold Ea;rw [al4,aI];rfl
theorem Hu (c:Bool) (n:Nat) (f:(ae n).length<2^33):CO 168 [.bool c,.str (ae n),.str (ae 1)] (.ret (.tup [qA (kC c n 1),.bool true])):=by
 have d:(ae 1).length<2^33:=χ (dw (x:=1) (k:=1) (by decide)) (by decide);have hp:=abk (ae 1) (υ d (by decide));rw [apB] at hp;have e:=D5 (ae n);rw [yQ] at e;exact alh _ c n hp e (LC c n 1 f d (by decide))
theorem NK (c:Bool) (x:Nat):kC c x 1=vK (if c then -(x:Int) else (x:Int)):=by
 unfold kC vK;rw [Yqn,Xvl,Xvl];cases c with
 |true=>
  simp only [Xx1,if_true,Yxp,Xz4,RQ.mk.injEq,and_true];rcases Xqf x with h|h
  .subst h;rfl
  .rw [Yq0 h,Yq0 (by omega)]
 |false=>
  simp only [Bool.false_and,Xqy,if_false,Xz4,RQ.mk.injEq,and_true];rw [Yq1 (by omega)]
theorem Xi {q:RQ} (h:q.ok) (g:(ae q.n).length<2^32) (i:(ae q.d).length<2^32):CO 122 [qA q] (.ret (qA (vK (tZ q)))):=by
 have e:=TN (ae q.n) (ae q.d) (υ g (by decide)) (υ i (by decide)) (by rw [aI];exact h.1);rw [aI,aI] at e;have o:=nM (Xxg q.n q.d);have l:(ae 1).length<=1:=dw (x:=1) (k:=1) (by decide);have j:=F9 (q.n / q.d) 1;have d:=Cj 1 (by decide);obtain ⟨f,n,m⟩:=q;unfold tZ;simp only at*
 cases f with
 |false=>
  rw [if_neg (by simp)];have c:=Hu false (n / m) (by omega);rw [NK,if_neg (by simp)] at c;exact aiB _ n m _ _ e d c
 | true=>
  rw [if_pos rfl];by_cases hr:n % m=0
  .have c:=Hu true (n / m) (by omega);rw [NK,if_pos rfl] at c;rw [if_pos hr,Xq4];exact aiA _ n m _ _ (by rw [hr,dX];rfl) e d c
  .have c:=Hu true (n / m+1) (by omega);rw [NK,if_pos rfl] at c;rw [if_neg hr];exact aiz _ n m _ _ (by
    rw [show ((ae (n % m))== [])=false from by rw [Yq2];intro h;rw [fQ] at h;exact hr h];rfl) e d (agB _ _) d c
def zx (L:Nat) (q:RQ):Prop:=(ae q.n).length<=L/\(ae q.d).length<=L
theorem zx.mono {L M:Nat} {q:RQ} (h:zx L q) (k:L<=M):zx M q:=⟨Xqr h.1 k,Xqr h.2 k⟩
theorem Ui {L:Nat} {a b:RQ} (d:zx L a) (c:zx L b):zx (4*L+1) (mV a b):=by
 have:=BV a b L d.1 d.2 c.1 c.2;exact ⟨this.1,by omega⟩
theorem aj1 {L:Nat} {a:RQ} (c:zx L a):zx L (oO a):=c
theorem aj2 {L:Nat} {a b:RQ} (d:zx L a) (c:zx L b):zx (4*L+1) (kR a b):=Ui d (aj1 c)
theorem aj0 {L:Nat} {a b:RQ} (d:zx L a) (c:zx L b):zx (2*L) (gJ a b):=by
 have h:=dH a.n b.n;have k:=dH a.d b.d;have j:=nY (!(a.neg==b.neg)) (a.n*b.n) (a.d*b.d);obtain ⟨i,e⟩:=d;obtain ⟨g,f⟩:=c;exact ⟨by unfold gJ;omega,by unfold gJ;omega⟩
theorem Uj {L:Nat} {a b:RQ} (d:zx L a) (c:zx L b):zx (2*L) (bQ a b):=by
 have h:=dH a.n b.d;have k:=dH a.d b.n;have j:=nY (!(a.neg==b.neg)) (a.n*b.d) (a.d*b.n);obtain ⟨i,e⟩:=d;obtain ⟨g,f⟩:=c;exact ⟨by unfold bQ;omega,by unfold bQ;omega⟩
theorem zN {L:Nat} {a:RQ} (c:zx L a) (f:L<2^28):(ae a.n).length<2^28/\(ae a.d).length<2^28/\(ae a.n).length<2^29/\(ae a.d).length<2^29:=by
 obtain ⟨e,d⟩:=c;omega
section
variable {a b:RQ} {L:Nat} (ha:a.ok) (hb:b.ok) (sa:zx L a) (sb:zx L b) (hL:L<2^28)
include ha hb sa sb hL
theorem TW:CO 170 [qA a,qA b] (.ret (qA (mV a b))):=by
 obtain ⟨_,_,d,c⟩:=zN sa hL;obtain ⟨_,_,e,f⟩:=zN sb hL;have h:=Jm a.neg b.neg (ae a.n) (ae a.d) (ae b.n) (ae b.d) d c e f;rw [jS ha,jS hb] at h;exact h
theorem ajA:CO 124 [qA a,qA b] (.ret (qA (kR a b))):=by
 obtain ⟨_,_,d,c⟩:=zN sa hL;obtain ⟨e,f,_,_⟩:=zN sb hL;have h:=Jp a.neg b.neg (ae a.n) (ae a.d) (ae b.n) (ae b.d) d c e f;rw [jS ha,jS hb] at h;exact h
theorem ajx:CO 121 [qA a,qA b] (.ret (qA (gJ a b))):=by
 obtain ⟨_,_,d,c⟩:=zN sa hL;obtain ⟨_,_,e,f⟩:=zN sb hL;have h:=Vz a.neg b.neg (ae a.n) (ae a.d) (ae b.n) (ae b.d) d c e f;rw [jS ha,jS hb] at h;exact h
theorem ajw:CO 76 [qA a,qA b] (.ret (ω (iH a b))):=by
 obtain ⟨d,c,_,_⟩:=zN sa hL;obtain ⟨e,f,_,_⟩:=zN sb hL;have h:=Jn a.neg b.neg (ae a.n) (ae a.d) (ae b.n) (ae b.d) d c e f;rw [jS ha,jS hb] at h;exact h
theorem ajy (h0:0<b.n):CO 114 [qA a,qA b] (.ret (.tup [qA (bQ a b),.bool true])):=by
 obtain ⟨_,_,d,c⟩:=zN sa hL;obtain ⟨_,_,e,f⟩:=zN sb hL;have h:=Jo a.neg b.neg (ae a.n) (ae a.d) (ae b.n) (ae b.d) d c e f (by rw [jS hb];exact h0);rw [jS ha,jS hb] at h;exact h
end
section
variable {a s:RQ} (ha:a.ok) (fa:oJ a=true) (hs:s.ok) (fs:oJ s=true) (hp:0<jQ s)
include ha fa hs fs hp
theorem Xd:CO 120 [qA a,qA s] (.ret (.bool true)):=by
 obtain ⟨f,e⟩:=fC fa;obtain ⟨i,j⟩:=fC fs;have d:=uM a.neg (ae a.n) (ae a.d);have c:=uM s.neg (ae s.n) (ae s.d);rw [xO a ha] at d;rw [xO s hs] at c;have g:=abI s hs (by omega) (by omega);have h:=aio a s _ d c g;rw [Yq0 (show ((0:Nat):Int)<jQ s from hp)] at h;exact h
omit ha hs hp in
theorem Z4:zx 104 (vK (tZ (bQ a s))):=by
 obtain ⟨g,c⟩:=fC fa;obtain ⟨d,f⟩:=fC fs;have l:=(Uj (L:=51) ⟨g,c⟩ ⟨d,f⟩).1;generalize bQ a s=q at*
 have h:(ae 1).length<=1:=dw (x:=1) (k:=1) (by decide);have i:=nM (Xxg q.n q.d);have j:=F9 (q.n / q.d) 1;have e:(tZ q).natAbs<=q.n / q.d+1:=by
  unfold tZ;split
  .rw [Yxp,Xz4];split<;>omega
  .rw [Xz4];omega
 have m:=nM e;exact ⟨by show (ae (tZ q).natAbs).length<=104;omega,by show (ae 1).length<=104;omega⟩
omit ha hs hp in
theorem MX:zx 208 (lu a s):=aj0 (L:=104) (Z4 fa fs) ⟨by have:=(fC fs).1;omega,by have:=(fC fs).2;omega⟩
theorem BH:CO 74 [qA a,qA s] (.ret (.tup [qA (lu a s),.bool true])):=by
 have h0:=(Jl hs hp).2;have s1:zx 51 a:=fC fa;have c:zx 51 s:=fC fs;have d:=Uj s1 c;refine ale a s _ _ _ (Xd ha fa hs fs hp) (ajy ha hs s1 c (by decide) h0) (Xi (qc ha h0) (χ d.1 (by decide)) (χ d.2 (by decide))) ?_;exact ajx (BQ _) hs (Z4 fa fs) (c.mono (by decide)) (by decide)
theorem aiw:CO 220 [qA a,qA s] (.ret (.tup [qA (Yt a s),.bool true])):=by
 have hd:=BH ha fa hs fs hp;have sd:=MX fa fs;have c:zx 51 s:=fC fs;have e:((lu a s).neg==a.neg && ((ae (lu a s).n==ae a.n) && ((ae (lu a s).d==ae a.d) && true)))=eqR (lu a s) a:=by unfold eqR;rw [Xwo]
 unfold Yt;cases h:eqR (lu a s) a with
 |true=>
  rw [if_pos rfl];rw [h] at e;have:=alB a s (lu a s) (by rw [e];rfl) hd;rw [Nh.1 h] at this;exact this
 |false=>
  rw [if_neg (by simp)];rw [h] at e;exact alA a s (lu a s) _ (by rw [e];rfl) hd (TW (iZ hs) hs sd (c.mono (by decide)) (by decide))
theorem Zr:CO 218 [qA a,qA s] (.ret (.tup [qA (XH a s),.bool true])):=by
 have hd:=BH ha fa hs fs hp;have sd:=MX fa fs;have s1:zx 51 a:=fC fa;have g:zx 51 s:=fC fs;have e:=iZ (a:=a) hs;have c:=Dc ha e;have d:=aj2 (s1.mono (show 51<=208 by decide)) sd;have i:=ajA ha e (s1.mono (show 51<=208 by decide)) sd (by decide);have f:=TW c c d d (by decide);have j:=ajw (jr c c) hs (Ui d d) (g.mono (by decide)) (by decide);unfold XH;by_cases h:0<=iH (mV (kR a (lu a s)) (kR a (lu a s))) s
 .rw [if_pos h];exact ali a s _ (lu a s) _ _ _ (Yq0 h) hd i f j (TW e hs sd (g.mono (by decide)) (by decide))
 .rw [if_neg h];exact alj a s _ (lu a s) _ _ (by
   rw [show decide (((0:Nat):Int)<=iH (mV (kR a (lu a s)) (kR a (lu a s))) s)=false from Yq1 h];rfl) hd i f j
end
end Go.Proofs.Tryz
