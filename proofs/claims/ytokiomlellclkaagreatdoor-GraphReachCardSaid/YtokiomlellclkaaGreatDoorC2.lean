/- Contracts of functions that the law reaches, each by its own hypotheses; joined by a program of mine. -/
import Derived.Test.YtokiomlellclkaaGreatDoorC1
import Derived.Test.YtokiomlellclkaaGreatDoorM5
set_option linter.unusedSimpArgs false
set_option linter.unusedVariables false
set_option maxRecDepth 100000
set_option linter.unusedVariables false
open Go AM
open List renaming drop→θ,map_drop→Xj5,drop_eq_getElem_cons→Xq3,getD_eq_getElem?_getD→π,getElem?_eq_getElem→ζ,take→ξ,take_of_length_le→τ,flatMap_append→Xqn,length→ν,length_append→ο,headD→Xqo,countP_append→Xxz,length_cons→Θ,append_nil→υ,append_assoc→Ξ,getElem?_append_left→Xqa,take_length→Xx3,nil_append→μ,dropWhile_cons→Xjs,foldl_cons→Xqy,range→Xqf,getElem?_eq_none→Xxk,map_congr_left→Xzd,dropWhile_sublist→Xwu,getD→Xw0,length_nil→Xqj,getD_cons_zero→Xvd,countP_singleton→Xzq,tail→Xq1
open Int renaming toNat→γ,tmod_lt_of_pos→Xjf,tmod→Xq2,neg_tmod→Xvw,toNat_of_nonneg→Xjq,tdiv→Xxo,fdiv→Xxp
open Nat renaming mul_one→Xzc,le_refl→ε,ble→Xqc,ble_eq_true_of_le→Xqe,add_comm→Xxj,add_assoc→Xxy,zero_mul→Xzg,zero_le→Xqp,le_trans→Xqh,eq_zero_or_pos→Xxg,pow_succ→Xk5,mul_comm→Xvx,mul_assoc→Xvi,add_mul→Xjh,zero_add→Φ,mul_le_mul_right→Xjk,lt_of_lt_of_le→Xqd,pow_le_pow_right→Xq4,div_eq_of_lt→Xwq,div_lt_iff_lt_mul→Xwy,two_pow_pos→Xj1,pow_add→Xwi,mod_eq_of_lt→Xjw,add_mul_div_right→Xwz,pow_mul→Xzz,div_add_mod→Xka,mod_lt→Xvq,gcd→Xji,lt_of_le_of_lt→Xje,lt_or_ge→Xvy,lt_trichotomy→Xx9,one_mul→Xkb,lt_irrefl→Xjg,div_le_self→Xw1,gcd_comm→Xk7,gcd_zero_left→Xvr,gcd_le_right→Xwr,gcd_pos_of_pos_right→Xwc,div_pos→Yqg,div_self→Xk8,mul_pos→Xkc,beq→Δ,le_of_ble_eq_true→Xq0
open Go.IntKind renaming wrap→δ
open UInt8 renaming ofNat→φ,toNat_ofNat'→Xvj,toNat→Xz0
open Bool renaming eq_iff_iff→Xxh,and_true→Xzh,false_eq_true→Xqi,not_false→Xvb
namespace Go.Proofs.Tryz
abbrev zcc2_0 : List UInt8 := [98,97,115,105,99]
abbrev zcc2_1 : List AV := [.bool false,.str [],.str [1],.bool false,.str [1],.str [5],.bool false,.str [5],.str [1],.bool false,.str [2],.str [5]]
abbrev zcc2_2 : List AV := [.bool false,.str [],.str [1],.bool false,.str [1],.str [5],.bool false,.str [5],.str [1],.bool true,.str [1],.str [5]]
def iL (l:List Int):List AV:=l.map fun a=> ω a
theorem WU {a:List Int} {i:Nat} (h:i<a.length):θ (γ (i:Int)*1) (iL a)= [ω (a.getD i 0)]++iL (a.drop (i+1)):=by
 unfold iL;rw [aS,Xzc,← Xj5,Xq3 h,π,ζ h];rfl
abbrev dB (xs:List Int) (nn:Bool) (k:Nat):aK:=⟨[.sl (iL xs) xs.length nn,ω (k:Int)],0,false,0,0,true⟩
theorem PP {x:Int} (h: -2^63≤x) (a:x<2^63):δ .i64 x=x:=dZ h a
theorem Xj (a:Int) (n:Nat) (i:0<n) (e:n<1000):∃ k:Nat,k<n∧CO 61 [ω a,ω (n:Int)] (.ret (ω (k:Int))):=by
 have c:(!((n:Int)==((0:Nat):Int)))=true:=by simp;omega
 have f:=Xjf a (b:=(n:Int)) (by omega);have g: -(n:Int)<Xq2 a n:=by
  have:=Xjf (-a) (b:=(n:Int)) (by omega);rw [Xvw] at this;omega
 by_cases h:Xq2 a n<0
 ·have d:(decide ((Xq2 a (n:Int))<((0:Nat):Int)))=true:=Yq0 h;have hp:CO 61 [ω a,ω (n:Int)] (.ret (ω (δ .i64 ((Xq2 a (n:Int))+(n:Int))))):=pK [] 1 1 (.c (ak d) (.c c .nil)) (.nil);rw [PP (by omega) (by omega)] at hp;refine ⟨(Xq2 a n+n).toNat,by omega, ?_⟩;rw [Xjq (by omega)];exact hp
 ·have d:(decide ((Xq2 a (n:Int))<((0:Nat):Int)))=false:=Yq1 h;have hp:CO 61 [ω a,ω (n:Int)] (.ret (ω (Xq2 a (n:Int)))):=pK [] 1 0 (.c (au d) (.c c .nil)) (.nil);refine ⟨(Xq2 a n).toNat,by omega, ?_⟩;rw [Xjq (by omega)];exact hp
theorem lC (a:Int) (n:Nat) (i:0<n) (e:n<1000):∃ k:Nat,k<n∧CO 86 [ω a,ω (n:Int)] (.ret (ω (k:Int))):=by
 have c:(!((n:Int)==((0:Nat):Int)))=true:=by simp;omega
 have f:=Xjf a (b:=(n:Int)) (by omega);have g: -(n:Int)<Xq2 a n:=by
  have:=Xjf (-a) (b:=(n:Int)) (by omega);rw [Xvw] at this;omega
 by_cases h:Xq2 a n<0
 ·have d:(decide ((Xq2 a (n:Int))<((0:Nat):Int)))=true:=Yq0 h;have hp:CO 86 [ω a,ω (n:Int)] (.ret (ω (δ .i64 ((Xq2 a (n:Int))+(n:Int))))):=pK [] 1 1 (.c (ak d) (.c c .nil)) (.nil);rw [PP (by omega) (by omega)] at hp;refine ⟨(Xq2 a n+n).toNat,by omega, ?_⟩;rw [Xjq (by omega)];exact hp
 ·have d:(decide ((Xq2 a (n:Int))<((0:Nat):Int)))=false:=Yq1 h;have hp:CO 86 [ω a,ω (n:Int)] (.ret (ω (Xq2 a (n:Int)))):=pK [] 1 0 (.c (au d) (.c c .nil)) (.nil);refine ⟨(Xq2 a n).toNat,by omega, ?_⟩;rw [Xjq (by omega)];exact hp
theorem aT (a:List Int) (f:Bool) (k n:Nat) (g:k<2^62) (i:0<n) (d:n<1000):∃ r k':Nat,r<n∧k'≤k+1∧ah prog ap 63 [.ptr 0 0 0,ω (n:Int)] [dB a f k] (.ret (ω (r:Int))) [dB a f k']:=by
 by_cases h:k<a.length
 ·obtain ⟨r,l,hm⟩:=lC (a.getD k 0) n i d;have j:=WU h;have c:(decide ((a.length:Int)≤(k:Int)))=false:=Yq1 (by omega);have e:(decide (((0:Nat):Int)≤(k:Int)))=true:=(k0 _)
  have b:(decide ((k:Int)<(a.length:Int)))=true:=(kl h)
  exact ⟨r,k+1,l,ε _,pK [] 1 0 (.k 1 e (.c b (.k 4 (au c) (.n 2 .nil)))) (.c hm (.v 31 (.ppt j) (.v 30 (.eq (VW g)) (.v 19 (.eq (wpS g)) .nil))))⟩
 ·have c:(decide ((a.length:Int)≤(k:Int)))=true:=Yq0 (by omega);exact ⟨0,k,i,Nat.le_succ _,pK [] 1 1 (.c (ak c) (.n 2 .nil)) (.nil)⟩
theorem Ot (k:Nat) (h:k<8):CO 62 [ω (k:Int)] (.ret (.str [φ (97+k)])):=by
 match k,h with
 |0,_=>exact cD [] .nil
 |1,_=>exact cD [] .nil
 |2,_=>exact cD [] .nil
 |3,_=>exact cD [] .nil
 |4,_=>exact cD [] .nil
 |5,_=>exact cD [] .nil
 |6,_=>exact cD [] .nil
 |7,_=>exact cD [] .nil
def aO:List Nat:= [25,59,60,64,65,101,104,106,114,143,146,147]
theorem jc:CO 65 [ω 1] (.ret (.str [1])):=cD aO (.nil)
theorem gq2:CO 25 [ω 1] (.ret (Ω false [1] [1])):=cD aO (.c jc (.c jc .nil))
theorem gq4:CO 65 [ω 2] (.ret (.str [2])):=cD aO (.nil)
theorem gq5:CO 25 [ω 2] (.ret (Ω false [2] [1])):=cD aO (.c jc (.c gq4 .nil))
theorem gq7:CO 65 [ω 3] (.ret (.str [3])):=cD aO (.nil)
theorem gq8:CO 25 [ω 3] (.ret (Ω false [3] [1])):=cD aO (.c jc (.c gq7 .nil))
theorem abd:CO 65 [ω 4] (.ret (.str [4])):=cD aO (.nil)
theorem aiJ:CO 25 [ω 4] (.ret (Ω false [4] [1])):=cD aO (.c jc (.c abd .nil))
theorem Qn:CO 65 [ω 5] (.ret (.str [5])):=cD aO (.nil)
theorem aiK:CO 25 [ω 5] (.ret (Ω false [5] [1])):=cD aO (.c jc (.c Qn .nil))
theorem aiL:CO 65 [ω 6] (.ret (.str [6])):=cD aO (.nil)
theorem aiM:CO 25 [ω 6] (.ret (Ω false [6] [1])):=cD aO (.c jc (.c aiL .nil))
theorem aiN:CO 65 [ω 7] (.ret (.str [7])):=cD aO (.nil)
theorem aiO:CO 25 [ω 7] (.ret (Ω false [7] [1])):=cD aO (.c jc (.c aiN .nil))
theorem aiP:CO 65 [ω 8] (.ret (.str [8])):=cD aO (.nil)
theorem aiQ:CO 25 [ω 8] (.ret (Ω false [8] [1])):=cD aO (.c jc (.c aiP .nil))
theorem adZ:CO 65 [ω 9] (.ret (.str [9])):=cD aO (.nil)
theorem aiR:CO 25 [ω 9] (.ret (Ω false [9] [1])):=cD aO (.c jc (.c adZ .nil))
theorem Lp:CO 65 [ω 10] (.ret (.str [10])):=cD aO (.nil)
theorem Lr:CO 25 [ω 10] (.ret (Ω false [10] [1])):=cD aO (.c jc (.c Lp .nil))
theorem aiS:CO 65 [ω 11] (.ret (.str [11])):=cD aO (.nil)
theorem aiT:CO 25 [ω 11] (.ret (Ω false [11] [1])):=cD aO (.c jc (.c aiS .nil))
theorem aiU:CO 65 [ω 12] (.ret (.str [12])):=cD aO (.nil)
theorem aiV:CO 25 [ω 12] (.ret (Ω false [12] [1])):=cD aO (.c jc (.c aiU .nil))
theorem aiW:CO 65 [ω 13] (.ret (.str [13])):=cD aO (.nil)
theorem aiX:CO 25 [ω 13] (.ret (Ω false [13] [1])):=cD aO (.c jc (.c aiW .nil))
theorem aiY:CO 65 [ω 14] (.ret (.str [14])):=cD aO (.nil)
theorem aiZ:CO 25 [ω 14] (.ret (Ω false [14] [1])):=cD aO (.c jc (.c aiY .nil))
theorem ai0:CO 65 [ω 15] (.ret (.str [15])):=cD aO (.nil)
theorem ai1:CO 25 [ω 15] (.ret (Ω false [15] [1])):=cD aO (.c jc (.c ai0 .nil))
theorem ai2:CO 65 [ω 16] (.ret (.str [16])):=cD aO (.nil)
theorem ai3:CO 25 [ω 16] (.ret (Ω false [16] [1])):=cD aO (.c jc (.c ai2 .nil))
theorem ai4:CO 65 [ω 17] (.ret (.str [17])):=cD aO (.nil)
theorem ai5:CO 25 [ω 17] (.ret (Ω false [17] [1])):=cD aO (.c jc (.c ai4 .nil))
theorem ai6:CO 65 [ω 18] (.ret (.str [18])):=cD aO (.nil)
theorem ai7:CO 25 [ω 18] (.ret (Ω false [18] [1])):=cD aO (.c jc (.c ai6 .nil))
theorem ai8:CO 65 [ω 19] (.ret (.str [19])):=cD aO (.nil)
theorem ai9:CO 25 [ω 19] (.ret (Ω false [19] [1])):=cD aO (.c jc (.c ai8 .nil))
theorem WQ:CO 65 [ω 20] (.ret (.str [20])):=cD aO (.nil)
theorem aeb:CO 25 [ω 20] (.ret (Ω false [20] [1])):=cD aO (.c jc (.c WQ .nil))
theorem ai_:CO 65 [ω 21] (.ret (.str [21])):=cD aO (.nil)
theorem aja:CO 25 [ω 21] (.ret (Ω false [21] [1])):=cD aO (.c jc (.c ai_ .nil))
theorem ajb:CO 65 [ω 22] (.ret (.str [22])):=cD aO (.nil)
theorem ajc:CO 25 [ω 22] (.ret (Ω false [22] [1])):=cD aO (.c jc (.c ajb .nil))
theorem ajd:CO 65 [ω 23] (.ret (.str [23])):=cD aO (.nil)
theorem aje:CO 25 [ω 23] (.ret (Ω false [23] [1])):=cD aO (.c jc (.c ajd .nil))
theorem ajg:CO 65 [ω 24] (.ret (.str [24])):=cD aO (.nil)
theorem ajh:CO 25 [ω 24] (.ret (Ω false [24] [1])):=cD aO (.c jc (.c ajg .nil))
theorem aji:CO 65 [ω 25] (.ret (.str [25])):=cD aO (.nil)
theorem ajj:CO 25 [ω 25] (.ret (Ω false [25] [1])):=cD aO (.c jc (.c aji .nil))
theorem ajk:CO 65 [ω 26] (.ret (.str [26])):=cD aO (.nil)
theorem ajl:CO 25 [ω 26] (.ret (Ω false [26] [1])):=cD aO (.c jc (.c ajk .nil))
theorem ajm:CO 65 [ω 27] (.ret (.str [27])):=cD aO (.nil)
theorem ajn:CO 25 [ω 27] (.ret (Ω false [27] [1])):=cD aO (.c jc (.c ajm .nil))
theorem ajo:CO 65 [ω 28] (.ret (.str [28])):=cD aO (.nil)
theorem ajp:CO 25 [ω 28] (.ret (Ω false [28] [1])):=cD aO (.c jc (.c ajo .nil))
theorem ajq:CO 65 [ω 29] (.ret (.str [29])):=cD aO (.nil)
theorem ajr:CO 25 [ω 29] (.ret (Ω false [29] [1])):=cD aO (.c jc (.c ajq .nil))
theorem ajs:CO 65 [ω 30] (.ret (.str [30])):=cD aO (.nil)
theorem ajt:CO 25 [ω 30] (.ret (Ω false [30] [1])):=cD aO (.c jc (.c ajs .nil))
theorem aju:CO 65 [ω 31] (.ret (.str [31])):=cD aO (.nil)
theorem ajv:CO 25 [ω 31] (.ret (Ω false [31] [1])):=cD aO (.c jc (.c aju .nil))
theorem ajw:CO 65 [ω 32] (.ret (.str [32])):=cD aO (.nil)
theorem ajx:CO 25 [ω 32] (.ret (Ω false [32] [1])):=cD aO (.c jc (.c ajw .nil))
theorem ajy:CO 65 [ω 33] (.ret (.str [33])):=cD aO (.nil)
theorem ajz:CO 25 [ω 33] (.ret (Ω false [33] [1])):=cD aO (.c jc (.c ajy .nil))
theorem adg:CO 65 [ω 34] (.ret (.str [34])):=cD aO (.nil)
theorem adh:CO 25 [ω 34] (.ret (Ω false [34] [1])):=cD aO (.c jc (.c adg .nil))
theorem adi:CO 65 [ω 35] (.ret (.str [35])):=cD aO (.nil)
theorem adk:CO 25 [ω 35] (.ret (Ω false [35] [1])):=cD aO (.c jc (.c adi .nil))
theorem adl:CO 65 [ω 36] (.ret (.str [36])):=cD aO (.nil)
theorem adm:CO 25 [ω 36] (.ret (Ω false [36] [1])):=cD aO (.c jc (.c adl .nil))
theorem adn:CO 65 [ω 37] (.ret (.str [37])):=cD aO (.nil)
theorem ado:CO 25 [ω 37] (.ret (Ω false [37] [1])):=cD aO (.c jc (.c adn .nil))
theorem adp:CO 65 [ω 38] (.ret (.str [38])):=cD aO (.nil)
theorem adq:CO 25 [ω 38] (.ret (Ω false [38] [1])):=cD aO (.c jc (.c adp .nil))
theorem adr:CO 65 [ω 39] (.ret (.str [39])):=cD aO (.nil)
theorem ads:CO 25 [ω 39] (.ret (Ω false [39] [1])):=cD aO (.c jc (.c adr .nil))
theorem adt:CO 65 [ω 40] (.ret (.str [40])):=cD aO (.nil)
theorem adu:CO 25 [ω 40] (.ret (Ω false [40] [1])):=cD aO (.c jc (.c adt .nil))
theorem adv:CO 65 [ω 41] (.ret (.str [41])):=cD aO (.nil)
theorem adw:CO 25 [ω 41] (.ret (Ω false [41] [1])):=cD aO (.c jc (.c adv .nil))
theorem Sv:CO 147 [.str [1]] (.ret (.tup [ω 1,.bool true])):=cD aO (.nil)
theorem oK:CO 106 [.str [1],ω 7] (.ret (.tup [ω 1,.bool true])):=cD aO (.c Sv .nil)
theorem jv:CO 65 [ω 0] (.ret (.str [])):=cD aO (.nil)
theorem Fb:CO 146 [.str [1],.str [1]] (.ret (.tup [.str [1],.str [],.bool true])):=cD aO (.c jv (.c jc (.c oK (.c oK .nil))))
theorem uP:CO 143 [.str [1],.str [1]] (.ret (ω 0)):=cD aO (.nil)
theorem Sz:CO 114 [Ω false [1] [1]] (.ret (.bool true)):=cD aO (.c uP (.c jc (.c Fb .nil)))
theorem Yz:CO 147 [.str [2]] (.ret (.tup [ω 2,.bool true])):=cD aO (.nil)
theorem I7:CO 106 [.str [2],ω 7] (.ret (.tup [ω 2,.bool true])):=cD aO (.c Yz .nil)
theorem SA:CO 146 [.str [2],.str [1]] (.ret (.tup [.str [2],.str [],.bool true])):=cD aO (.c jv (.c gq4 (.c oK (.c I7 .nil))))
theorem YA:CO 114 [Ω false [2] [1]] (.ret (.bool true)):=cD aO (.c uP (.c jc (.c SA .nil)))
theorem I8:CO 106 [.str [1],ω 3] (.ret (.tup [ω 1,.bool true])):=cD aO (.c Sv .nil)
theorem I9:CO 106 [.str [1],ω 4] (.ret (.tup [ω 1,.bool true])):=cD aO (.c Sv .nil)
theorem I_:CO 104 [.str [1],.str [1]] (.ret (.str [1])):=cD aO (.c jc (.c I9 (.c I8 .nil)))
theorem adx:CO 106 [.str [2],ω 4] (.ret (.tup [ω 2,.bool true])):=cD aO (.c Yz .nil)
theorem YB:CO 104 [.str [1],.str [2]] (.ret (.str [2])):=cD aO (.c gq4 (.c adx (.c I8 .nil)))
theorem ady:CO 146 [.str [1],.str [2]] (.ret (.tup [.str [],.str [1],.bool true])):=cD aO (.c jc (.c jv (.c I7 (.c oK .nil))))
theorem adz:CO 64 [Ω false [1] [1],Ω false [2] [1]] (.ret (.tup [Ω false [1] [2],.bool true])):=cD aO (.c SA (.c Fb (.c SA (.c ady (.c YB (.c I_ (.c YA (.c Sz .nil))))))))
theorem YC:CO 147 [.str [3]] (.ret (.tup [ω 3,.bool true])):=cD aO (.nil)
theorem YD:CO 106 [.str [3],ω 7] (.ret (.tup [ω 3,.bool true])):=cD aO (.c YC .nil)
theorem SB:CO 146 [.str [3],.str [1]] (.ret (.tup [.str [3],.str [],.bool true])):=cD aO (.c jv (.c gq7 (.c oK (.c YD .nil))))
theorem adA:CO 114 [Ω false [3] [1]] (.ret (.bool true)):=cD aO (.c uP (.c jc (.c SB .nil)))
theorem adB:CO 106 [.str [3],ω 4] (.ret (.tup [ω 3,.bool true])):=cD aO (.c YC .nil)
theorem adC:CO 104 [.str [1],.str [3]] (.ret (.str [3])):=cD aO (.c gq7 (.c adB (.c I8 .nil)))
theorem adD:CO 146 [.str [1],.str [3]] (.ret (.tup [.str [],.str [1],.bool true])):=cD aO (.c jc (.c jv (.c YD (.c oK .nil))))
theorem adE:CO 64 [Ω false [1] [1],Ω false [3] [1]] (.ret (.tup [Ω false [1] [3],.bool true])):=cD aO (.c SB (.c Fb (.c SB (.c adD (.c adC (.c I_ (.c adA (.c Sz .nil))))))))
theorem YE:CO 147 [.str [4]] (.ret (.tup [ω 4,.bool true])):=cD aO (.nil)
theorem YF:CO 106 [.str [4],ω 7] (.ret (.tup [ω 4,.bool true])):=cD aO (.c YE .nil)
theorem SE:CO 146 [.str [4],.str [1]] (.ret (.tup [.str [4],.str [],.bool true])):=cD aO (.c jv (.c abd (.c oK (.c YF .nil))))
theorem adF:CO 114 [Ω false [4] [1]] (.ret (.bool true)):=cD aO (.c uP (.c jc (.c SE .nil)))
theorem adG:CO 106 [.str [4],ω 4] (.ret (.tup [ω 4,.bool true])):=cD aO (.c YE .nil)
theorem adH:CO 104 [.str [1],.str [4]] (.ret (.str [4])):=cD aO (.c abd (.c adG (.c I8 .nil)))
theorem adI:CO 146 [.str [1],.str [4]] (.ret (.tup [.str [],.str [1],.bool true])):=cD aO (.c jc (.c jv (.c YF (.c oK .nil))))
theorem adJ:CO 64 [Ω false [1] [1],Ω false [4] [1]] (.ret (.tup [Ω false [1] [4],.bool true])):=cD aO (.c SE (.c Fb (.c SE (.c adI (.c adH (.c I_ (.c adF (.c Sz .nil))))))))
theorem adK:CO 59 [ω 1,ω 0] (.ret (.agg [.bool false,ω 1,ω 0])):=cD aO (.nil)
theorem YG:CO 25 [ω 0] (.ret (Ω false [] [1])):=cD aO (.c jc (.c jv .nil))
theorem SG:CO 65 [ω 50] (.ret (.str [50])):=cD aO (.nil)
theorem NK:CO 25 [ω 50] (.ret (Ω false [50] [1])):=cD aO (.c jc (.c SG .nil))
theorem YH:CO 147 [.str [10]] (.ret (.tup [ω 10,.bool true])):=cD aO (.nil)
theorem BO:CO 106 [.str [10],ω 7] (.ret (.tup [ω 10,.bool true])):=cD aO (.c YH .nil)
theorem NL:CO 146 [.str [10],.str [1]] (.ret (.tup [.str [10],.str [],.bool true])):=cD aO (.c jv (.c Lp (.c oK (.c BO .nil))))
theorem YI:CO 114 [Ω false [10] [1]] (.ret (.bool true)):=cD aO (.c uP (.c jc (.c NL .nil)))
theorem YJ:CO 147 [.str [50]] (.ret (.tup [ω 50,.bool true])):=cD aO (.nil)
theorem Ja:CO 106 [.str [50],ω 7] (.ret (.tup [ω 50,.bool true])):=cD aO (.c YJ .nil)
theorem adL:CO 146 [.str [50],.str [1]] (.ret (.tup [.str [50],.str [],.bool true])):=cD aO (.c jv (.c SG (.c oK (.c Ja .nil))))
theorem SH:CO 114 [Ω false [50] [1]] (.ret (.bool true)):=cD aO (.c uP (.c jc (.c adL .nil)))
theorem adM:CO 106 [.str [10],ω 3] (.ret (.tup [ω 10,.bool true])):=cD aO (.c YH .nil)
theorem SI:CO 104 [.str [10],.str [1]] (.ret (.str [10])):=cD aO (.c Lp (.c I9 (.c adM .nil)))
theorem adN:CO 106 [.str [50],ω 4] (.ret (.tup [ω 50,.bool true])):=cD aO (.c YJ .nil)
theorem SK:CO 104 [.str [1],.str [50]] (.ret (.str [50])):=cD aO (.c SG (.c adN (.c I8 .nil)))
theorem YK:CO 146 [.str [10],.str [50]] (.ret (.tup [.str [],.str [10],.bool true])):=cD aO (.c Lp (.c jv (.c Ja (.c BO .nil))))
theorem Jb:CO 146 [.str [50],.str [10]] (.ret (.tup [.str [5],.str [],.bool true])):=cD aO (.c jv (.c Qn (.c BO (.c Ja .nil))))
theorem YL:CO 146 [.str [10],.str [10]] (.ret (.tup [.str [1],.str [],.bool true])):=cD aO (.c jv (.c jc (.c BO (.c BO .nil))))
theorem YM:CO 64 [Ω false [10] [1],Ω false [50] [1]] (.ret (.tup [Ω false [1] [5],.bool true])):=cD aO (.c Jb (.c YL (.c Jb (.c YK (.c SK (.c SI (.c SH (.c YI .nil))))))))
theorem YN:CO 146 [.str [10],.str [2]] (.ret (.tup [.str [5],.str [],.bool true])):=cD aO (.c jv (.c Qn (.c I7 (.c BO .nil))))
theorem adO:CO 146 [.str [2],.str [2]] (.ret (.tup [.str [1],.str [],.bool true])):=cD aO (.c jv (.c jc (.c I7 (.c I7 .nil))))
theorem NM:CO 64 [Ω false [10] [1],Ω false [2] [1]] (.ret (.tup [Ω false [5] [1],.bool true])):=cD aO (.c adO (.c YN (.c YN (.c YB (.c SI (.c YA (.c YI .nil)))))))
theorem adP:CO 114 [Ω false [] [1]] (.ret (.bool true)):=cD aO (.c uP (.c jc .nil))
theorem YO:CO 147 [.str [5]] (.ret (.tup [ω 5,.bool true])):=cD aO (.nil)
theorem NP:CO 106 [.str [5],ω 7] (.ret (.tup [ω 5,.bool true])):=cD aO (.c YO .nil)
theorem SL:CO 146 [.str [5],.str [1]] (.ret (.tup [.str [5],.str [],.bool true])):=cD aO (.c jv (.c Qn (.c oK (.c NP .nil))))
theorem SN:CO 114 [Ω false [5] [1]] (.ret (.bool true)):=cD aO (.c uP (.c jc (.c SL .nil)))
theorem YP:CO 147 [.str []] (.ret (.tup [ω 0,.bool true])):=cD aO (.nil)
theorem adQ:CO 106 [.str [],ω 3] (.ret (.tup [ω 0,.bool true])):=cD aO (.c YP .nil)
theorem adR:CO 104 [.str [],.str [1]] (.ret (.str [])):=cD aO (.c jv (.c I9 (.c adQ .nil)))
theorem adS:CO 106 [.str [5],ω 3] (.ret (.tup [ω 5,.bool true])):=cD aO (.c YO .nil)
theorem SQ:CO 104 [.str [5],.str [1]] (.ret (.str [5])):=cD aO (.c Qn (.c I9 (.c adS .nil)))
theorem adT:CO 106 [.str [],ω 7] (.ret (.tup [ω 0,.bool true])):=cD aO (.c YP .nil)
theorem YQ:CO 101 [Ω false [] [1],Ω false [5] [1]] (.ret (Ω false [5] [1])):=cD aO (.c Fb (.c SL (.c SL (.c Qn (.c NP (.c adT (.c I_ (.c SQ (.c adR (.c SN (.c adP .nil)))))))))))
theorem adU:CO 147 [.str [9]] (.ret (.tup [ω 9,.bool true])):=cD aO (.nil)
theorem adV:CO 106 [.str [9],ω 7] (.ret (.tup [ω 9,.bool true])):=cD aO (.c adU .nil)
theorem adW:CO 25 [ω (-10)] (.ret (Ω true [10] [1])):=cD aO (.c jc (.c Lp (.c oK (.c adV (.c jc (.c adZ .nil))))))
theorem adX:CO 114 [Ω true [10] [1]] (.ret (.bool true)):=cD aO (.c uP (.c jc (.c NL .nil)))
theorem adY:CO 64 [Ω true [10] [1],Ω false [50] [1]] (.ret (.tup [Ω true [1] [5],.bool true])):=cD aO (.c Jb (.c YL (.c Jb (.c YK (.c SK (.c SI (.c SH (.c adX .nil))))))))
theorem YR:CO 101 [Ω false [5] [1],Ω false [5] [1]] (.ret (Ω false [10] [1])):=cD aO (.c Fb (.c NL (.c NL (.c Lp (.c NP (.c NP (.c I_ (.c SQ (.c SQ (.c SN (.c SN .nil)))))))))))
theorem ad1:CO 60 [.sl [ω 20,ω 9,ω 1,ω 0,ω 9,ω 1] 2 true] (.ret (.agg [.str zcc2_0,ω 1,ω 0,.sl zcc2_2 2 true])):=cD aO (.c YR (.c NM (.c gq5 (.c Lr (.c adY (.c NK (.c adW (.c YQ (.c NM (.c gq5 (.c Lr (.c YM (.c NK (.c Lr (.c YG .nil)))))))))))))))
theorem YS:CO 147 [.str [20]] (.ret (.tup [ω 20,.bool true])):=cD aO (.nil)
theorem NQ:CO 106 [.str [20],ω 7] (.ret (.tup [ω 20,.bool true])):=cD aO (.c YS .nil)
theorem ad2:CO 146 [.str [20],.str [1]] (.ret (.tup [.str [20],.str [],.bool true])):=cD aO (.c jv (.c WQ (.c oK (.c NQ .nil))))
theorem ad3:CO 114 [Ω false [20] [1]] (.ret (.bool true)):=cD aO (.c uP (.c jc (.c ad2 .nil)))
theorem ad4:CO 106 [.str [20],ω 3] (.ret (.tup [ω 20,.bool true])):=cD aO (.c YS .nil)
theorem ad5:CO 104 [.str [20],.str [1]] (.ret (.str [20])):=cD aO (.c WQ (.c I9 (.c ad4 .nil)))
theorem ad6:CO 146 [.str [20],.str [50]] (.ret (.tup [.str [],.str [20],.bool true])):=cD aO (.c WQ (.c jv (.c Ja (.c NQ .nil))))
theorem ad7:CO 146 [.str [50],.str [20]] (.ret (.tup [.str [2],.str [10],.bool true])):=cD aO (.c Lp (.c gq4 (.c NQ (.c Ja .nil))))
theorem YT:CO 146 [.str [20],.str [10]] (.ret (.tup [.str [2],.str [],.bool true])):=cD aO (.c jv (.c gq4 (.c BO (.c NQ .nil))))
theorem ad8:CO 64 [Ω false [20] [1],Ω false [50] [1]] (.ret (.tup [Ω false [2] [5],.bool true])):=cD aO (.c Jb (.c YT (.c YT (.c ad7 (.c ad6 (.c SK (.c ad5 (.c SH (.c ad3 .nil)))))))))
theorem ad9:CO 60 [.sl [ω 20,ω 9,ω 1,ω 30,ω 9,ω 1] 2 true] (.ret (.agg [.str zcc2_0,ω 1,ω 0,.sl zcc2_1 2 true])):=cD aO (.c YR (.c NM (.c gq5 (.c Lr (.c ad8 (.c NK (.c aeb (.c YQ (.c NM (.c gq5 (.c Lr (.c YM (.c NK (.c Lr (.c YG .nil)))))))))))))))
theorem OA (n:Nat) (h:n<41):CO 25 [ω ((n+1:Nat):Int)] (.ret (.agg [.bool false,.str [φ (n+1)],.str [1]])):=by
 match n,h with
 |0,_=>exact gq2
 |1,_=>exact gq5
 |2,_=>exact gq8
 |3,_=>exact aiJ
 |4,_=>exact aiK
 |5,_=>exact aiM
 |6,_=>exact aiO
 |7,_=>exact aiQ
 |8,_=>exact aiR
 |9,_=>exact Lr
 |10,_=>exact aiT
 |11,_=>exact aiV
 |12,_=>exact aiX
 |13,_=>exact aiZ
 |14,_=>exact ai1
 |15,_=>exact ai3
 |16,_=>exact ai5
 |17,_=>exact ai7
 |18,_=>exact ai9
 |19,_=>exact aeb
 |20,_=>exact aja
 |21,_=>exact ajc
 |22,_=>exact aje
 |23,_=>exact ajh
 |24,_=>exact ajj
 |25,_=>exact ajl
 |26,_=>exact ajn
 |27,_=>exact ajp
 |28,_=>exact ajr
 |29,_=>exact ajt
 |30,_=>exact ajv
 |31,_=>exact ajx
 |32,_=>exact ajz
 |33,_=>exact adh
 |34,_=>exact adk
 |35,_=>exact adm
 |36,_=>exact ado
 |37,_=>exact adq
 |38,_=>exact ads
 |39,_=>exact adu
 |40,_=>exact adw
 |n+41,h=>exact absurd h (by omega)
theorem abe:CO 64 [Ω false [1] [1],Ω false [2] [1]] (.ret (.tup [Ω false [1] [2],.bool true])):=adz
theorem abf:CO 64 [Ω false [1] [1],Ω false [3] [1]] (.ret (.tup [Ω false [1] [3],.bool true])):=adE
theorem abg:CO 64 [Ω false [1] [1],Ω false [4] [1]] (.ret (.tup [Ω false [1] [4],.bool true])):=adJ
theorem xh:CO 59 [ω 1,ω 0] (.ret (.agg [.bool false,ω 1,ω 0])):=adK
theorem aaf:CO 60 [.sl [ω 20,ω 9,ω 1,ω 0,ω 9,ω 1] 2 true] (.ret (.agg [.str zcc2_0,ω 1,ω 0,.sl zcc2_2 2 true])):=ad1
theorem aag:CO 60 [.sl [ω 20,ω 9,ω 1,ω 30,ω 9,ω 1] 2 true] (.ret (.agg [.str zcc2_0,ω 1,ω 0,.sl zcc2_1 2 true])):=ad9
def kL (l:List (List Int)):List AV:=l.map fun x=> .sl (iL x) x.length false
def iY (x:Pv):List AV:= [.str x.nm,.bool x.tr,ω x.tm,ω x.td,.sl (bV x.body) x.body.length true,.bool x.ch,.bool x.sn,.str x.sa,.str x.sd,.bool x.cn,.str x.ca,.str x.cd]
def dJ (l:List Pv):List AV:=l.flatMap iY
theorem abH {a:List Nd} {b:Nat} (h:a.length=b) (x:List Nd):ξ (b*5) (bV a)++bV x=bV (a++x):=by
 have e:(bV a).length=b*5:=by rw [← h];exact eX nd5 a
 rw [τ (by omega)];unfold bV;rw [Xqn]
theorem Ua {a:List Nd} {b:Nat} (h:a.length=b):(bV a).length=b*5:=by rw [← h];exact eX nd5 a
theorem w1p {k:Nat} (h:k<2^62):ω (δ .i64 (((1:Nat):Int)+(k:Int)))= ω ((k+1:Nat):Int):=by
 have e:δ .i64 (((1:Nat):Int)+(k:Int))=((k+1:Nat):Int):=by rw [dZ]<;>omega
 rw [e]
def fo (r:Nat):Int:=match r with|0=>9|1=>13|_=>14
theorem Sj {r:Nat} (h:r<3):∃ rest,θ ((0+(γ (r:Int)))*1) [ω 9,ω 13,ω 14]= [ω (fo r)]++rest:=by
 rw [aS]
 match r,h with
 |0,_=>exact ⟨_,rfl⟩
 |1,_=>exact ⟨_,rfl⟩
 |2,_=>exact ⟨_,rfl⟩
def mxn (l:List (List Int)) (nl:Bool) (mn k tm:Nat) (SX:List AV) (nm0:List UInt8) (s1:Bool) (s2 s3:List UInt8) (c1:Bool) (c2 c3:List UInt8) (xs:List Int) (nx:Bool) (p:Nat × Nat × List Nd):St:=⟨[(0,.sl (kL l) l.length nl),(2,.ptr 0 0 0),(3,.ptr 1 0 0),(4,.ptr 2 0 0),(6,ω (mn:Int)),(7,ω (k:Int)),(8,.ptr 3 0 0),(9,.ptr 4 0 0)],[(0,⟨[.nilS,.nilS,.nilS],0,false,0,0,true⟩),(1,⟨[.bool false,ω 1,ω 0],0,false,0,0,true⟩),(2,⟨[.ref 5 0 0 1,.ref 6 0 0 1,.nilS],0,false,0,0,false⟩),(3,⟨[.sl (iL xs) xs.length nx,ω (p.1:Int)],0,false,0,0,true⟩),(4,⟨[.str nm0,.bool false,ω 1,ω 0,.ref 7 0 0 p.2.1,.bool false,.bool s1,.str s2,.str s3,.bool c1,.str c2,.str c3],0,false,0,0,false⟩),(5,⟨[.str [120],.bool false,ω 1,ω 0],0,false,0,4,true⟩),(6,⟨SX,0,false,0,4,true⟩),(7,⟨(bV p.2.2),0,false,0,5,true⟩)],.dead,[]⟩
def mxc (l:List (List Int)) (nl:Bool) (mn k tm:Nat) (SX:List AV) (kp:Nat) (ps:List Pv) (nm0:List UInt8) (s1:Bool) (s2 s3:List UInt8) (c1:Bool) (c2 c3:List UInt8) (xs:List Int) (nx:Bool) (p:Nat × Nat × List Nd):St:=⟨[(0,.sl (kL l) l.length nl),(2,.ptr 0 0 0),(3,.ptr 1 0 0),(4,.ptr 2 0 0),(6,ω (mn:Int)),(7,ω (k:Int)),(8,.ptr 3 0 0),(9,.ptr 4 0 0)],[(0,⟨[.nilS,.nilS,.nilS],0,false,0,0,true⟩),(1,⟨[.bool false,ω 1,ω 0],0,false,0,0,true⟩),(2,⟨[.ref 5 0 0 1,.ref 6 0 0 1,.ref 7 0 0 kp],0,false,0,0,false⟩),(3,⟨[.sl (iL xs) xs.length nx,ω (p.1:Int)],0,false,0,0,true⟩),(4,⟨[.str nm0,.bool false,ω 1,ω 0,.ref 8 0 0 p.2.1,.bool false,.bool s1,.str s2,.str s3,.bool c1,.str c2,.str c3],0,false,0,0,false⟩),(5,⟨[.str [120],.bool false,ω 1,ω 0],0,false,0,4,true⟩),(6,⟨SX,0,false,0,4,true⟩),(7,⟨(dJ ps),0,false,0,12,true⟩),(8,⟨(bV p.2.2),0,false,0,5,true⟩)],.dead,[]⟩
structure Mp where
 l:List (List Int)
 nl:Bool
 mn:Nat
 k:Nat
 tm:Nat
 SX:List AV
 nm0:List UInt8
 s1:Bool
 s2:List UInt8
 s3:List UInt8
 c1:Bool
 c2:List UInt8
 c3:List UInt8
 xs:List Int
 nx:Bool
abbrev Mo:=Option (Nat × List Pv)
def mx (o:Mo) (p:Mp) (x:Nat × Nat × List Nd):St:=match o with
 |none=>mxn p.l p.nl p.mn p.k p.tm p.SX p.nm0 p.s1 p.s2 p.s3 p.c1 p.c2 p.c3 p.xs p.nx x
 |some q=>mxc p.l p.nl p.mn p.k p.tm p.SX q.1 q.2 p.nm0 p.s1 p.s2 p.s3 p.c1 p.c2 p.c3 p.xs p.nx x
def mi (o:Mo) (p:Mp) (x:Nat × Nat × List Nd × Nat):St:=⟨(mx o p (x.1,x.2.1,x.2.2.1)).env++ [(11,ω (p.tm:Int)),(12,ω (x.2.2.2:Int))],(mx o p (x.1,x.2.1,x.2.2.1)).hp,.dead,[]⟩
abbrev NX (p:Mp) (n k r k':Nat):Prop:=ah prog ap 63 [.ptr 0 0 0,ω (n:Int)] [dB p.xs p.nx k] (.ret (ω (r:Int))) [dB p.xs p.nx k']
def OD (q:Bool):Int:=cond q 8 6
theorem W_ {b q:Bool} (h:b=q):lit q b=true:=by subst h;cases b<;>rfl
theorem uS {a:List Nd} {b:Nat} (h:a.length=b) (x:List Nd):∃ b1,a++x=b1∧ξ (b*5) (bV a)++bV x=bV b1∧b1.length=b+x.length∧(Xqc (b*5) (ν (bV a)))=true:=
 ⟨_,rfl,abH h x,by rw [ο,h],Xqe (by rw [Ua h];exact ε _)⟩
abbrev V3 (nt:Nat) (o:Mo) (p:Mp) (kk nb:Nat) (bd:List Nd) (j kz:Nat) (x:List Nd):Prop:=af prog ap [] nt (aj 2 (ae f24)) (mi o p (kk,nb,bd,j)) .normal (mi o p (kz,nb+x.length,bd++x,j+1))
theorem ajG {nt:Nat} (d:140≤nt) (o:Mo) (p:Mp) (q:Bool) {m a j:Nat} {c:List Nd} {s r l k1 k2 k3:Nat} {b:List UInt8} (t:c.length=a) (F:a<2^30) (g:j<p.tm) (z:p.tm<2^30) (y:((s:Int)==((0:Nat):Int))=q) (v:((l:Int)==((0:Nat):Int))=true) (i:NX p 3 m s k1) (h:NX p p.mn k1 r k2) (e:CO 62 [ω (r:Int)] (.ret (.str b))) (f:NX p 12 k2 l k3):V3 nt o p m a c j k3 (⟨OD q,false,[],[],b⟩::[⟨10,false,[],[],[]⟩]):=by
 have H:j<2^62:=by omega
 have G:(decide ((j:Int)<(p.tm:Int)))=true:=kl g;obtain ⟨I,x,w,A,u⟩:=uS t [⟨OD q,false,[],[],b⟩];obtain ⟨B,D,E,K,C⟩:=uS A [⟨10,false,[],[],[]⟩];have k:c++(⟨OD q,false,[],[],b⟩::[⟨10,false,[],[],[]⟩])=B:=by rw [← D,← x];simp
 unfold V3;rw [k]
 let n:=cond q 7 5
 rcases o with _|⟨J,ps⟩<;>cases q<;>exact pN 24 [] 3 n (.k 2 (Xqe (by omega:a+1+1≤1099511627776)) (.c C (.k 2 (ak v) (.k 2 (Xqe (by omega:a+1≤1099511627776)) (.c u (.k 2 (W_ y) (.c (ak G) .nil))))))) (.v 71 (.eq (wpS H)) (.b 94 E (.c f (.b 84 w (.c e (.c h (.c i .nil))))))) d
theorem aeq {nt:Nat} (h:140≤nt) (o:Mo) (p:Mp) (q:Bool) {y c j:Nat} {g:List Nd} {B z b a k1 k2 k3 k4:Nat} {e:List UInt8} {hs:Bool} {f d C:List UInt8} (D:g.length=c) (V:c<2^30) (l:j<p.tm) (Q:p.tm<2^30) (w:b<2^62) (O:a<3) (M:((B:Int)==((0:Nat):Int))=q) (F:((b:Int)==((0:Nat):Int))=false) (K:(decide ((b:Int)<((4:Nat):Int)))=true) (P:((b:Int)==((4:Nat):Int))=false) (x:NX p 3 y B k1) (m:NX p p.mn k1 z k2) (i:CO 62 [ω (z:Int)] (.ret (.str e))) (k:NX p 12 k2 b k3) (r:CO 25 [ω 1] (.ret (Ω false [1] [1]))) (v:CO 25 [ω (((b+1):Nat):Int)] (.ret (Ω false C [1]))) (u:CO 64 [Ω false [1] [1],Ω false C [1]] (.ret (.tup [Ω hs f d,.bool true]))) (t:NX p 3 k3 a k4):V3 nt o p y c g j k4 (⟨OD q,false,[],[],e⟩::[⟨3,hs,f,d,[]⟩,⟨11,false,[],[],[]⟩,⟨fo a,false,[],[],[]⟩]):=by
 have X:j<2^62:=by omega
 have W:(decide ((j:Int)<(p.tm:Int)))=true:=kl l;obtain ⟨rf,A⟩:=Sj O;obtain ⟨Z,I,G,R,E⟩:=uS D [⟨OD q,false,[],[],e⟩];obtain ⟨b2,T,U,L,S⟩:=uS R [⟨3,hs,f,d,[]⟩,⟨11,false,[],[],[]⟩];obtain ⟨J,N,H,h3,Y⟩:=uS L [⟨fo a,false,[],[],[]⟩];have s:g++(⟨OD q,false,[],[],e⟩::[⟨3,hs,f,d,[]⟩,⟨11,false,[],[],[]⟩,⟨fo a,false,[],[],[]⟩])=J:=by rw [← N,← T,← I];simp
 unfold V3;rw [s]
 let n:=cond q 11 9
 rcases o with _|⟨kp,ps⟩<;>cases q<;>exact pN 24 [] 5 n (.k 2 (Xqe (by omega:c+1+2+1≤1099511627776)) (.c Y (.k 1 (by rw [A];rfl:(chk (.int .i64) (Xqo (θ ((0+(γ (a:Int)))*1) [ω 9,ω 13,ω 14]) .dead))=true) (.k 1 (kl (by omega):(decide ((a:Int)<((3:Nat):Int)))=true) (.k 1 (au P) (.k 2 (Xqe (by omega:c+1+2≤1099511627776)) (.c S (.k 6 (ak K) (.c (au F) (.k 2 (Xqe (by omega:c+1≤1099511627776)) (.c E (.k 2 (W_ M) (.c (ak W) .nil))))))))))))) (.v 71 (.eq (wpS X)) (.b 131 H (.v 128 (.rd1 (.int .i64) A rfl) (.c t (.b 112 U (.c u (.c v (.v 101 (.eq (w1p w)) (.c r (.c k (.b 84 G (.c i (.c m (.c x .nil)))))))))))))) h
theorem ajH {nt:Nat} (f:140≤nt) (o:Mo) (p:Mp) (q:Bool) {s b j:Nat} {e:List Nd} {v t c a k1 k2 k3 k4:Nat} {d:List UInt8} (w:e.length=b) (O:b<2^30) (i:j<p.tm) (J:p.tm<2^30) (H:a<3) (F:((v:Int)==((0:Nat):Int))=q) (y:((c:Int)==((0:Nat):Int))=false) (D:(decide ((c:Int)<((4:Nat):Int)))=false) (I:((c:Int)==((4:Nat):Int))=true) (m:NX p 3 s v k1) (k:NX p p.mn k1 t k2) (g:CO 62 [ω (t:Int)] (.ret (.str d))) (h:NX p 12 k2 c k3) (l:NX p 3 k3 a k4):V3 nt o p s b e j k4 (⟨OD q,false,[],[],d⟩::[⟨24,false,[],[],[115]⟩,⟨fo a,false,[],[],[]⟩]):=by
 have Q:j<2^62:=by omega
 have P:(decide ((j:Int)<(p.tm:Int)))=true:=kl i;obtain ⟨U,u⟩:=Sj H;obtain ⟨S,B,z,K,x⟩:=uS w [⟨OD q,false,[],[],d⟩];obtain ⟨W,M,N,E,L⟩:=uS K [⟨24,false,[],[],[115]⟩];obtain ⟨C,G,A,V,R⟩:=uS E [⟨fo a,false,[],[],[]⟩];have r:e++(⟨OD q,false,[],[],d⟩::[⟨24,false,[],[],[115]⟩,⟨fo a,false,[],[],[]⟩])=C:=by rw [← G,← M,← B];simp
 unfold V3;rw [r]
 let n:=cond q 19 17
 rcases o with _|⟨T,ps⟩<;>cases q<;>exact pN 24 [] 5 n (.k 2 (Xqe (by omega:b+1+1+1≤1099511627776)) (.c R (.k 1 (by rw [u];rfl:(chk (.int .i64) (Xqo (θ ((0+(γ (a:Int)))*1) [ω 9,ω 13,ω 14]) .dead))=true) (.k 1 (kl (by omega):(decide ((a:Int)<((3:Nat):Int)))=true) (.k 3 (Xqe (by omega:b+1+1≤1099511627776)) (.c L (.k 2 (ak I) (.c (au D) (.c (au y) (.k 2 (Xqe (by omega:b+1≤1099511627776)) (.c x (.k 2 (W_ F) (.c (ak P) .nil))))))))))))) (.v 71 (.eq (wpS Q)) (.b 131 A (.v 128 (.rd1 (.int .i64) u rfl) (.c l (.b 120 N (.c h (.b 84 z (.c g (.c k (.c m .nil)))))))))) f
theorem aep {nt:Nat} (f:140≤nt) (o:Mo) (p:Mp) (q:Bool) {s b j:Nat} {e:List Nd} {v t c a k1 k2 k3 k4:Nat} {d:List UInt8} (w:e.length=b) (L:b<2^30) (i:j<p.tm) (F:p.tm<2^30) (D:a<3) (C:((v:Int)==((0:Nat):Int))=q) (y:((c:Int)==((0:Nat):Int))=false) (B:(decide ((c:Int)<((4:Nat):Int)))=false) (E:((c:Int)==((4:Nat):Int))=false) (m:NX p 3 s v k1) (k:NX p p.mn k1 t k2) (g:CO 62 [ω (t:Int)] (.ret (.str d))) (h:NX p 12 k2 c k3) (l:NX p 3 k3 a k4):V3 nt o p s b e j k4 (⟨OD q,false,[],[],d⟩::[⟨fo a,false,[],[],[]⟩]):=by
 have N:j<2^62:=by omega
 have M:(decide ((j:Int)<(p.tm:Int)))=true:=kl i;obtain ⟨R,u⟩:=Sj D;obtain ⟨O,A,z,G,x⟩:=uS w [⟨OD q,false,[],[],d⟩];obtain ⟨H,J,K,Q,I⟩:=uS G [⟨fo a,false,[],[],[]⟩];have r:e++(⟨OD q,false,[],[],d⟩::[⟨fo a,false,[],[],[]⟩])=H:=by rw [← J,← A];simp
 unfold V3;rw [r]
 let n:=cond q 3 1
 rcases o with _|⟨P,ps⟩<;>cases q<;>exact pN 24 [] 5 n (.k 2 (Xqe (by omega:b+1+1≤1099511627776)) (.c I (.k 1 (by rw [u];rfl:(chk (.int .i64) (Xqo (θ ((0+(γ (a:Int)))*1) [ω 9,ω 13,ω 14]) .dead))=true) (.k 1 (kl (by omega):(decide ((a:Int)<((3:Nat):Int)))=true) (.k 1 (au E) (.c (au B) (.c (au y) (.k 2 (Xqe (by omega:b+1≤1099511627776)) (.c x (.k 2 (W_ C) (.c (ak M) .nil))))))))))) (.v 71 (.eq (wpS N)) (.b 131 K (.v 128 (.rd1 (.int .i64) u rfl) (.c l (.c h (.b 84 z (.c g (.c k (.c m .nil))))))))) f
theorem aeo {nt:Nat} (a:140≤nt) (o:Mo) (p:Mp) (x:Nat × Nat × List Nd):af prog ap [] nt (aj 2 (ae f24)) (mi o p (x.1,x.2.1,x.2.2,p.tm)) (.exit 2) (mx o p x):=by
 have b:(decide ((p.tm:Int)<(p.tm:Int)))=false:=kn (ε _);rcases o with _|⟨c,ps⟩<;>exact pN 24 [] 1 0 (.c (au b) .nil) .nil a
theorem fo6 (r:Nat):(fo r==6)=false:=by unfold fo;split<;>rfl
theorem fo8 (r:Nat):(fo r==8)=false:=by unfold fo;split<;>rfl
def Em (x:Nd):Bool:=x.op==6||x.op==8
structure mW (mn n:Nat) (e:List Nd):Prop where
 cnt:e.countP Em≤n
 len:e.length≤5*n
 nms:∀ x ∈ e,Em x=true→∃ r,r<mn∧x.name= [φ (97+r)]
theorem mW.app {mn n k:Nat} {e f:List Nd} (h:mW mn n e) (b:mW mn k f):mW mn (n+k) (e++f):=
 ⟨by rw [Xxz];have:=h.cnt;have:=b.cnt;omega,by rw [ο];have:=h.len;have:=b.len;omega,fun x a c=>by
  rcases List.mem_append.1 a with a|a
  ·exact h.nms x a c
  ·exact b.nms x a c⟩
theorem LZ:CO 25 [ω 1] (.ret (Ω false [1] [1])):=OA 0 (by decide)
theorem WR (r:Nat) (h0:0<r) (a:r<4):∃ (hs:Bool) (hn hd:List UInt8),CO 64 [Ω false [1] [1],.agg [.bool false,.str [φ (r+1)],.str [1]]] (.ret (.tup [Ω hs hn hd,.bool true])):=by
 match r,h0,a with
 |1,_,_=>exact ⟨_,_,_,abe⟩
 |2,_,_=>exact ⟨_,_,_,abf⟩
 |3,_,_=>exact ⟨_,_,_,abg⟩
theorem nmQ (q:Bool) (a:Bool) (b c d:List UInt8):Em ⟨OD q,a,b,c,d⟩=true:=by cases q<;>rfl
theorem Ii {mn r:Nat} (q:Bool) {e:List Nd} (d:r<mn) (f:e.length≤4) (c:e.all (fun x=> !Em x)=true):mW mn 1 (⟨OD q,false,[],[],[φ (97+r)]⟩::e):=by
 have b:∀ x ∈ e,Em x=false:=fun x a=>by have:=List.all_eq_true.1 c x a;simpa using this
 refine ⟨?_,by simp only [Θ];omega,fun x a h=> ?_⟩
 ·rw [List.countP_cons,List.countP_eq_zero.2 (fun x a=>by rw [b x a];exact Bool.false_ne_true),if_pos (nmQ ..)];exact ε _
 ·rcases List.mem_cons.1 a with rfl|a
  ·exact ⟨r,d,rfl⟩
  ·rw [b x a] at h;cases h
theorem TS (o:Mo) (p:Mp) (u:0<p.mn) (z:p.mn≤8) (t x j:Nat) (y:List Nd) (I:t<2^50) (r:y.length=x) (k:x<2^30) (d:j<p.tm) (g:p.tm<2^30):
  ∃ (e:List Nd) (k2:Nat),mW p.mn 1 e∧k2≤t+4∧∀ nt,140≤nt→V3 nt o p t x y j k2 e:=by
 obtain ⟨H,k1,D,J,i⟩:=aT p.xs p.nx t 3 (by omega) (by omega) (by omega);obtain ⟨F,k2,h,A,f⟩:=aT p.xs p.nx k1 p.mn (by omega) u (by omega);have b:=Ot F (by omega);obtain ⟨l,k3,G,B,c⟩:=aT p.xs p.nx k2 12 (by omega) (by omega) (by omega);obtain ⟨M,k4,w,E,m⟩:=aT p.xs p.nx k3 3 (by omega) (by omega) (by omega);obtain ⟨q,s⟩:∃ q,((H:Int)==((0:Nat):Int))=q:=⟨_,rfl⟩
 rcases tf ((l:Int)==((0:Nat):Int)) with d2|d2
 ·exact ⟨_,k3,Ii q h (by simp) (by simp [Em]),by omega,fun nt a=>ajG a o p q r k d g s d2 i f b c⟩
 ·have h0:0<l:=by simp at d2;omega
  rcases tf (decide ((l:Int)<((4:Nat):Int))) with d3|d3
  ·have v:l<4:=by simp at d3;omega
   have n:((l:Int)==((4:Nat):Int))=false:=by simp;omega
   obtain ⟨hs,L,K,C⟩:=WR l h0 v;exact ⟨_,k4,Ii q h (by simp) (by simp [Em,fo6,fo8]),by omega,fun nt a=>aeq a o p q r k d g (by omega) w s d2 d3 n i f b c LZ (OA l (by omega)) C m⟩
  ·rcases tf ((l:Int)==((4:Nat):Int)) with n|n
   ·exact ⟨_,k4,Ii q h (by simp) (by simp [Em,fo6,fo8]),by omega,fun nt a=>ajH a o p q r k d g w s d2 d3 n i f b c m⟩
   ·exact ⟨_,k4,Ii q h (by simp) (by simp [Em,fo6,fo8]),by omega,fun nt a=>aep a o p q r k d g w s d2 d3 n i f b c m⟩
theorem xe (o:Mo) (p:Mp) (c:0<p.mn) (b:p.mn≤8) (d:p.tm<2^20):∀ (rem kk nb j:Nat) (bd:List Nd),j+rem=p.tm→kk+4*rem<2^50→bd.length=nb→nb+5*rem<2^30→
  ∃ (e:List Nd) (k2:Nat),mW p.mn rem e∧k2≤kk+4*rem∧∀ nt,140≤nt→aP prog ap [] nt (aj 2 (ae f24)) (fun _=> .exit 2) (mi o p) (mx o p) (kk,nb,bd,j) (k2,nb+e.length,bd++e)
 |0,kk,nb,j,bd,f,hkk,hb,hnb=>by
  refine ⟨[],kk,⟨by simp,by simp,(fun x k=>by cases k)⟩,(by omega),fun nt a=> ?_⟩;have f:j=p.tm:=by omega
  have h:=aeo a o p (kk,nb,bd);rw [υ,f];exact .done h
 |rem+1,kk,nb,j,bd,f,hkk,hb,hnb=>by
  obtain ⟨e,k2,g,q,l⟩:=TS o p c b kk nb j bd (by omega) hb (by omega) (by omega) (by omega);have s:=g.len;obtain ⟨m,k3,i,r,n⟩:=xe o p c b d rem k2 (nb+e.length) (j+1) (bd++e) (by omega) (by omega) (by rw [ο,hb]) (by omega);refine ⟨e++m,k3,by rw [Xxj];exact g.app i,(by omega),fun nt a=> ?_⟩;have:=n nt a;rw [Ξ,Xxy,← ο] at this;exact .next (a':=(k2,nb+e.length,bd++e,j+1)) (l nt a) this
theorem Um {ps:List Pv} {a:Nat} (h:ps.length=a) (x:Pv):ξ (a*12) (dJ ps)++iY x=dJ (ps++ [x]):=by
 have e:(dJ ps).length=a*12:=by rw [← h];exact eX (f:=iY) (n:=12) (fun _=>rfl) ps
 rw [τ (by omega)];unfold dJ;rw [Xqn];simp
theorem Hr {ps:List Pv} {a:Nat} (h:ps.length=a):(dJ ps).length=a*12:=by rw [← h];exact eX (f:=iY) (n:=12) (fun _=>rfl) ps
theorem Jo {l:List (List Int)} {i:Nat} (h:i<l.length):∃ rx,θ ((γ (i:Int))*1) (kL l)= [AV.sl (iL (l.getD i [])) (l.getD i []).length false]++rx:=by
 unfold kL;rw [aS,Xzc,← Xj5,Xq3 h,π,ζ h];exact ⟨_,rfl⟩
def Y1 (l:List (List Int)) (nl:Bool) (mn:Nat) (SX:List AV) (p:Nat × List Pv):St:=match p.2 with
 | []=>(PG (.sl (kL l) l.length nl) mn p.1 SX)
 |q::r=>(Ic (.sl (kL l) l.length nl) mn p.1 [.ref 3 0 0 1,.ref 4 0 0 1,.ref 5 0 0 (q::r).length] SX (dJ (q::r)))
def moX (SX:List AV) (ps:List Pv):St:=match ps with
 | []=>(PH SX)
 |q::r=>(PI [.ref 2 0 0 1,.ref 3 0 0 1,.ref 4 0 0 (q::r).length] SX (dJ (q::r)))
theorem abG {nt:Nat} (g:140≤nt) (l:List (List Int)) (c:Bool) (mn:Nat) (SX:List AV) (k:Nat) (b:List UInt8) (e:List UInt8) (a:List Int) (q:List AV) (n:List Nd) (d i p k1 k2 k3 u nz:Nat) (h:k<mn) (j:k<l.length) (o:mn≤8) (r:(θ ((γ (k:Int))*1) (kL l))= [AV.sl (iL a) a.length false]++q) (s:n.length=nz) (t:(decide (((0:Nat):Int)<(d:Int)))=true) (m:i<2^62)
  (ca1:CO 62 [ω (k:Int)] (.ret (.str b))) (cn1:ah prog ap 63 [.ptr 0 0 0,ω 4] [⟨[.sl (iL a) a.length false,ω 0],0,false,0,0,true⟩] (.ret (ω (d:Int))) [⟨[.sl (iL a) a.length false,ω (k1:Int)],0,false,0,0,true⟩]) (cf1:CO 25 [ω 1] (.ret (Ω false [1] [1]))) (cn2:ah prog ap 63 [.ptr 0 0 0,ω 40] [⟨[.sl (iL a) a.length false,ω (k1:Int)],0,false,0,0,true⟩] (.ret (ω (i:Int))) [⟨[.sl (iL a) a.length false,ω (k2:Int)],0,false,0,0,true⟩]) (cf2:CO 25 [ω (((i+1):Nat):Int)] (.ret (Ω false e [1]))) (cn3:ah prog ap 63 [.ptr 0 0 0,ω 4] [⟨[.sl (iL a) a.length false,ω (k2:Int)],0,false,0,0,true⟩] (.ret (ω (p:Int))) [⟨[.sl (iL a) a.length false,ω (k3:Int)],0,false,0,0,true⟩])
  (l1:LB 140 2 f24 (aaz (.sl (kL l) l.length c) mn k (decide (((0:Nat):Int)<(d:Int))) p (decide ((k:Int)<(mn:Int))) (decide (((0:Nat):Int)<(d:Int))) [.sl (iL a) a.length false,ω (k3:Int)] [.str b,.bool false,ω 1,ω 0,.ref 7 0 0 1,.bool false,.bool false,.str [1],.str [1],.bool false,.str e,.str [1]] SX) (.normal) (Vr (.sl (kL l) l.length c) mn k [.sl (iL a) a.length false,ω (u:Int)] [.str b,.bool false,ω 1,ω 0,.sl (bV n) nz true,.bool false,.bool false,.str [1],.str [1],.bool false,.str e,.str [1]] SX)):
  ψ nt f24 (PG (.sl (kL l) l.length c) mn k SX) .normal (Ic (.sl (kL l) l.length c) mn (k+1) [.ref 3 0 0 1,.ref 4 0 0 1,.ref 5 0 0 1] SX [.str b,.bool false,ω 1,ω 0,.sl (bV n) nz true,.bool false,.bool false,.str [1],.str [1],.bool false,.str e,.str [1]]):=by
 have w:k<2^62:=by omega
 have v:(decide ((k:Int)<(mn:Int)))=true:=kl h;have f:(decide ((k:Int)<(l.length:Int)))=true:=(kl j)
 exact pN 24 [2] 3 3 (.k 19 (ak t) (.k 6 f (.c (ak v) .nil))) (.v 41 (.eq (wpS w)) (.l l1 (.c cn3 (.c cf2 (.v 62 (.eq (w1p m)) (.c cn2 (.c cf1 (.c cn1 (.c ca1 (.v 44 (.ppt r) .nil)))))))))) g
theorem abE {nt:Nat} (f:140≤nt) (l:List (List Int)) (c:Bool) (mn:Nat) (SX:List AV) (k:Nat) (b:List UInt8) (a:List Int) (n:List AV) (i:List Nd) (d m k1 k2 r nz:Nat) (g:k<mn) (h:k<l.length) (j:mn≤8) (o:(θ ((γ (k:Int))*1) (kL l))= [AV.sl (iL a) a.length false]++n) (p:i.length=nz) (q:(decide (((0:Nat):Int)<(d:Int)))=false)
  (ca1:CO 62 [ω (k:Int)] (.ret (.str b))) (cn1:ah prog ap 63 [.ptr 0 0 0,ω 4] [⟨[.sl (iL a) a.length false,ω 0],0,false,0,0,true⟩] (.ret (ω (d:Int))) [⟨[.sl (iL a) a.length false,ω (k1:Int)],0,false,0,0,true⟩]) (cn2:ah prog ap 63 [.ptr 0 0 0,ω 4] [⟨[.sl (iL a) a.length false,ω (k1:Int)],0,false,0,0,true⟩] (.ret (ω (m:Int))) [⟨[.sl (iL a) a.length false,ω (k2:Int)],0,false,0,0,true⟩])
  (l1:LB 140 2 f24 (aaz (.sl (kL l) l.length c) mn k (decide (((0:Nat):Int)<(d:Int))) m (decide ((k:Int)<(mn:Int))) (decide (((0:Nat):Int)<(d:Int))) [.sl (iL a) a.length false,ω (k2:Int)] [.str b,.bool false,ω 1,ω 0,.ref 7 0 0 1,.bool false,.bool false,.str [],.str [],.bool false,.str [],.str []] SX) (.normal) (Vr (.sl (kL l) l.length c) mn k [.sl (iL a) a.length false,ω (r:Int)] [.str b,.bool false,ω 1,ω 0,.sl (bV i) nz true,.bool false,.bool false,.str [],.str [],.bool false,.str [],.str []] SX)):
  ψ nt f24 (PG (.sl (kL l) l.length c) mn k SX) .normal (Ic (.sl (kL l) l.length c) mn (k+1) [.ref 3 0 0 1,.ref 4 0 0 1,.ref 5 0 0 1] SX [.str b,.bool false,ω 1,ω 0,.sl (bV i) nz true,.bool false,.bool false,.str [],.str [],.bool false,.str [],.str []]):=by
 have t:k<2^62:=by omega
 have s:(decide ((k:Int)<(mn:Int)))=true:=kl g;have e:(decide ((k:Int)<(l.length:Int)))=true:=(kl h)
 exact pN 24 [2] 3 1 (.k 17 (au q) (.k 6 e (.c (ak s) .nil))) (.v 41 (.eq (wpS t)) (.l l1 (.c cn2 (.c cn1 (.c ca1 (.v 44 (.ppt o) .nil)))))) f
theorem Xi {nt:Nat} (a:140≤nt) (l:List (List Int)) (b:Bool) (mn:Nat) (SX:List AV):ψ nt f24 (PG (.sl (kL l) l.length b) mn mn SX) (.exit 0) (PH SX):=by
 have c:(decide ((mn:Int)<(mn:Int)))=false:=kn (ε _);exact pN 24 [2] 1 0 (.c (au c) .nil) .nil a
theorem abD {nt:Nat} (n:140≤nt) (l:List (List Int)) (i:Bool) (mn:Nat) (SX:List AV) (k:Nat) (c:Nat) (ps:List Pv) (b:List UInt8) (d:List UInt8) (a:List Int) (y:List AV) (h:List Nd) (j r w k1 k2 k3 D nz:Nat) (p:k<mn) (s:k<l.length) (v:mn≤8) (A:(θ ((γ (k:Int))*1) (kL l))= [AV.sl (iL a) a.length false]++y) (g:ps.length=c) (C:c<2^20) (e:h.length=nz) (B:(decide (((0:Nat):Int)<(j:Int)))=true) (t:r<2^62)
  (ca1:CO 62 [ω (k:Int)] (.ret (.str b))) (cn1:ah prog ap 63 [.ptr 0 0 0,ω 4] [⟨[.sl (iL a) a.length false,ω 0],0,false,0,0,true⟩] (.ret (ω (j:Int))) [⟨[.sl (iL a) a.length false,ω (k1:Int)],0,false,0,0,true⟩]) (cf1:CO 25 [ω 1] (.ret (Ω false [1] [1]))) (cn2:ah prog ap 63 [.ptr 0 0 0,ω 40] [⟨[.sl (iL a) a.length false,ω (k1:Int)],0,false,0,0,true⟩] (.ret (ω (r:Int))) [⟨[.sl (iL a) a.length false,ω (k2:Int)],0,false,0,0,true⟩]) (cf2:CO 25 [ω (((r+1):Nat):Int)] (.ret (Ω false d [1]))) (cn3:ah prog ap 63 [.ptr 0 0 0,ω 4] [⟨[.sl (iL a) a.length false,ω (k2:Int)],0,false,0,0,true⟩] (.ret (ω (w:Int))) [⟨[.sl (iL a) a.length false,ω (k3:Int)],0,false,0,0,true⟩])
  (l1:LB 140 2 f24 (aaA (.sl (kL l) l.length i) mn k (decide (((0:Nat):Int)<(j:Int))) w (decide ((k:Int)<(mn:Int))) (decide (((0:Nat):Int)<(j:Int))) [.ref 5 0 0 1,.ref 6 0 0 1,.ref 7 0 0 c] [.sl (iL a) a.length false,ω (k3:Int)] [.str b,.bool false,ω 1,ω 0,.ref 8 0 0 1,.bool false,.bool false,.str [1],.str [1],.bool false,.str d,.str [1]] SX (dJ ps)) (.normal) (Vs (.sl (kL l) l.length i) mn k [.ref 5 0 0 1,.ref 6 0 0 1,.ref 7 0 0 c] [.sl (iL a) a.length false,ω (D:Int)] [.str b,.bool false,ω 1,ω 0,.sl (bV h) nz true,.bool false,.bool false,.str [1],.str [1],.bool false,.str d,.str [1]] SX (dJ ps))):
  ψ nt f24 (Ic (.sl (kL l) l.length i) mn k [.ref 3 0 0 1,.ref 4 0 0 1,.ref 5 0 0 c] SX (dJ ps)) .normal (Ic (.sl (kL l) l.length i) mn (k+1) [.ref 3 0 0 1,.ref 4 0 0 1,.ref 5 0 0 (c+1)] SX (dJ (ps++ [⟨b,false,1,0,h,false,false,[1],[1],false,d,[1]⟩]))):=by
 have F:k<2^62:=by omega
 have E:(decide ((k:Int)<(mn:Int)))=true:=kl p;obtain ⟨x,f⟩:∃ z:Pv,z=⟨b,false,1,0,h,false,false,[1],[1],false,d,[1]⟩:=⟨_,rfl⟩
 rw [← f];have o:=Um g x;have o:ξ (c*12) (dJ ps)++ [AV.str b,.bool false,ω 1,ω 0,.sl (bV h) nz true,.bool false,.bool false,.str [1],.str [1],.bool false,.str d,.str [1]]=dJ (ps++ [x]):=by rw [← o,f,← e];rfl
 subst e;have u:(Xqc (c+1) 549755813888)=true:=(Xqe (by omega))
 have m:(Xqc (c*12) (ν (dJ ps)))=true:=(Xqe (by rw [Hr g];exact ε _))
 have q:(decide ((k:Int)<(l.length:Int)))=true:=(kl s)
 exact pN 24 [2] 2 3 (.k 2 u (.c m (.k 16 (ak B) (.k 6 q (.c (ak E) .nil))))) (.v 41 (.eq (wpS F)) (.b 137 o (.l l1 (.c cn3 (.c cf2 (.v 62 (.eq (w1p t)) (.c cn2 (.c cf1 (.c cn1 (.c ca1 (.v 44 (.ppt A) .nil))))))))))) n
theorem abC {nt:Nat} (m:140≤nt) (l:List (List Int)) (h:Bool) (mn:Nat) (SX:List AV) (k:Nat) (c:Nat) (ps:List Pv) (b:List UInt8) (a:List Int) (v:List AV) (g:List Nd) (i t k1 k2 A nz:Nat) (o:k<mn) (q:k<l.length) (s:mn≤8) (w:(θ ((γ (k:Int))*1) (kL l))= [AV.sl (iL a) a.length false]++v) (f:ps.length=c) (y:c<2^20) (d:g.length=nz) (x:(decide (((0:Nat):Int)<(i:Int)))=false)
  (ca1:CO 62 [ω (k:Int)] (.ret (.str b))) (cn1:ah prog ap 63 [.ptr 0 0 0,ω 4] [⟨[.sl (iL a) a.length false,ω 0],0,false,0,0,true⟩] (.ret (ω (i:Int))) [⟨[.sl (iL a) a.length false,ω (k1:Int)],0,false,0,0,true⟩]) (cn2:ah prog ap 63 [.ptr 0 0 0,ω 4] [⟨[.sl (iL a) a.length false,ω (k1:Int)],0,false,0,0,true⟩] (.ret (ω (t:Int))) [⟨[.sl (iL a) a.length false,ω (k2:Int)],0,false,0,0,true⟩])
  (l1:LB 140 2 f24 (aaA (.sl (kL l) l.length h) mn k (decide (((0:Nat):Int)<(i:Int))) t (decide ((k:Int)<(mn:Int))) (decide (((0:Nat):Int)<(i:Int))) [.ref 5 0 0 1,.ref 6 0 0 1,.ref 7 0 0 c] [.sl (iL a) a.length false,ω (k2:Int)] [.str b,.bool false,ω 1,ω 0,.ref 8 0 0 1,.bool false,.bool false,.str [],.str [],.bool false,.str [],.str []] SX (dJ ps)) (.normal) (Vs (.sl (kL l) l.length h) mn k [.ref 5 0 0 1,.ref 6 0 0 1,.ref 7 0 0 c] [.sl (iL a) a.length false,ω (A:Int)] [.str b,.bool false,ω 1,ω 0,.sl (bV g) nz true,.bool false,.bool false,.str [],.str [],.bool false,.str [],.str []] SX (dJ ps))):
  ψ nt f24 (Ic (.sl (kL l) l.length h) mn k [.ref 3 0 0 1,.ref 4 0 0 1,.ref 5 0 0 c] SX (dJ ps)) .normal (Ic (.sl (kL l) l.length h) mn (k+1) [.ref 3 0 0 1,.ref 4 0 0 1,.ref 5 0 0 (c+1)] SX (dJ (ps++ [⟨b,false,1,0,g,false,false,[],[],false,[],[]⟩]))):=by
 have C:k<2^62:=by omega
 have B:(decide ((k:Int)<(mn:Int)))=true:=kl o;obtain ⟨u,e⟩:∃ z:Pv,z=⟨b,false,1,0,g,false,false,[],[],false,[],[]⟩:=⟨_,rfl⟩
 rw [← e];have n:=Um f u;have n:ξ (c*12) (dJ ps)++ [AV.str b,.bool false,ω 1,ω 0,.sl (bV g) nz true,.bool false,.bool false,.str [],.str [],.bool false,.str [],.str []]=dJ (ps++ [u]):=by rw [← n,e,← d];rfl
 subst d;have r:(Xqc (c+1) 549755813888)=true:=(Xqe (by omega))
 have j:(Xqc (c*12) (ν (dJ ps)))=true:=(Xqe (by rw [Hr f];exact ε _))
 have p:(decide ((k:Int)<(l.length:Int)))=true:=(kl q)
 exact pN 24 [2] 2 1 (.k 2 r (.c j (.k 14 (au x) (.k 6 p (.c (ak B) .nil))))) (.v 41 (.eq (wpS C)) (.b 137 n (.l l1 (.c cn2 (.c cn1 (.c ca1 (.v 44 (.ppt w) .nil))))))) m
theorem Xh {nt:Nat} (a:140≤nt) (l:List (List Int)) (c:Bool) (mn:Nat) (SX:List AV) (b:Nat) (ps:List Pv):ψ nt f24 (Ic (.sl (kL l) l.length c) mn mn [.ref 3 0 0 1,.ref 4 0 0 1,.ref 5 0 0 b] SX (dJ ps)) (.exit 0) (PI [.ref 2 0 0 1,.ref 3 0 0 1,.ref 4 0 0 b] SX (dJ ps)):=by
 have d:(decide ((mn:Int)<(mn:Int)))=false:=kn (ε _);exact pN 24 [2] 1 0 (.c (au d) .nil) .nil a
theorem NI {a:List Nd} {nz:Nat} (h:a.length=nz):((bV a).drop (0*5)).take (nz*5)=bV a:=by
 rw [Xzg,List.drop_zero,τ (by rw [Ua h];exact ε _)]
structure aaH (mn k:Nat) (p:Pv):Prop where
 nm:p.nm= [φ (97+k)]
 body:∃ e,p.body=⟨5,false,[],[],[120]⟩::e∧mW mn 3 e
theorem Om (l:List (List Int)) (g:Bool) (mn k tm:Nat) (SX:List AV) (b:List UInt8) (s1:Bool) (s2 p:List UInt8) (o:Bool) (m j:List UInt8) (e:List Int) (f:Bool) {a:Code} {s:St} {n:Nat} (q nz:Nat) (c:List Nd) (r:c.length=nz) (h:bD prog ap [] n a s .normal (mxn l g mn k tm SX b s1 s2 p o m j e f (q,nz,c))):bD prog ap [] n a s .normal (Vr (.sl (kL l) l.length g) mn k [.sl (iL e) e.length f,ω (q:Int)] [.str b,.bool false,ω 1,ω 0,.sl (bV c) nz true,.bool false,.bool s1,.str s2,.str p,.bool o,.str m,.str j] SX):=fun nt d=>by
 have i:=h nt d;unfold mxn at i;exact af.forget 7 ⟨bV c,0,false,0,5,true⟩ i (by intro v h;cases h) (Xqp _) rfl ⟨Fz.same rfl,Fz.same rfl,Fz.same rfl,Fz.same rfl,Fz.same rfl,Fz.same rfl,Fz.same rfl,Fz.same rfl,trivial⟩ ⟨rfl,EJ.same rfl,by decide,rfl,EJ.same rfl,by decide,rfl,⟨rfl,rfl,rfl,rfl,.inr ⟨.cons (.same rfl) (.cons (.same rfl) (.cons (.same rfl) .nil)),fun h=>by cases h⟩⟩,by decide,rfl,EJ.same rfl,by decide,rfl,⟨rfl,rfl,rfl,rfl,.inr ⟨.cons (.same rfl) (.cons (.same rfl) (.cons (.same rfl) (.cons (.same rfl) (.cons (.fit .ref (bF.eq (by rw [NI r]))) (.cons (.same rfl) (.cons (.same rfl) (.cons (.same rfl) (.cons (.same rfl) (.cons (.same rfl) (.cons (.same rfl) (.cons (.same rfl) .nil))))))))))),fun _=>rfl⟩⟩,by decide,rfl,EJ.same rfl,by decide,rfl,EJ.same rfl,by decide,rfl⟩
theorem Ol (l:List (List Int)) (g:Bool) (mn k tm:Nat) (SX:List AV) (i:Nat) (ps:List Pv) (b:List UInt8) (s1:Bool) (s2 q:List UInt8) (p:Bool) (o m:List UInt8) (e:List Int) (f:Bool) {a:Code} {s:St} {n:Nat} (r nz:Nat) (c:List Nd) (t:c.length=nz) (h:bD prog ap [] n a s .normal (mxc l g mn k tm SX i ps b s1 s2 q p o m e f (r,nz,c))):bD prog ap [] n a s .normal (Vs (.sl (kL l) l.length g) mn k [.ref 5 0 0 1,.ref 6 0 0 1,.ref 7 0 0 i] [.sl (iL e) e.length f,ω (r:Int)] [.str b,.bool false,ω 1,ω 0,.sl (bV c) nz true,.bool false,.bool s1,.str s2,.str q,.bool p,.str o,.str m] SX (dJ ps)):=fun nt d=>by
 have j:=h nt d;unfold mxc at j;exact af.forget 8 ⟨bV c,0,false,0,5,true⟩ j (by intro v h;cases h) (Xqp _) rfl ⟨Fz.same rfl,Fz.same rfl,Fz.same rfl,Fz.same rfl,Fz.same rfl,Fz.same rfl,Fz.same rfl,Fz.same rfl,trivial⟩ ⟨rfl,EJ.same rfl,by decide,rfl,EJ.same rfl,by decide,rfl,⟨rfl,rfl,rfl,rfl,.inr ⟨.cons (.same rfl) (.cons (.same rfl) (.cons (.same rfl) .nil)),fun h=>by cases h⟩⟩,by decide,rfl,EJ.same rfl,by decide,rfl,⟨rfl,rfl,rfl,rfl,.inr ⟨.cons (.same rfl) (.cons (.same rfl) (.cons (.same rfl) (.cons (.same rfl) (.cons (.fit .ref (bF.eq (by rw [NI t]))) (.cons (.same rfl) (.cons (.same rfl) (.cons (.same rfl) (.cons (.same rfl) (.cons (.same rfl) (.cons (.same rfl) (.cons (.same rfl) .nil))))))))))),fun _=>rfl⟩⟩,by decide,rfl,EJ.same rfl,by decide,rfl,EJ.same rfl,by decide,rfl,EJ.same rfl,by decide,rfl⟩
theorem xf (l:List (List Int)) (a:Bool) (mn:Nat) (SX:List AV) (k:Nat) {ps:List Pv} (h:ps ≠ []):Y1 l a mn SX (k,ps)=(Ic (.sl (kL l) l.length a) mn k [.ref 3 0 0 1,.ref 4 0 0 1,.ref 5 0 0 ps.length] SX (dJ ps)):=by
 cases ps with
 |nil=>exact absurd rfl h
 |cons q r=>rfl
theorem TV (l:List (List Int)) (c:Bool) (mn:Nat) (SX:List AV) (o:0<mn) (a:mn≤8) (G:mn≤l.length) (k:Nat) (ps:List Pv) (B:k<mn) (q:ps.length=k):
  ∃ p:Pv,aaH mn k p∧∀ nt,140≤nt→ψ nt f24 (Y1 l c mn SX (k,ps)) .normal (Y1 l c mn SX (k+1,ps++ [p])):=by
 have j:k<l.length:=by omega
 obtain ⟨A,z⟩:=Jo j;generalize l.getD k []=xs at*
 have n:=Ot k (by omega);obtain ⟨y,k1,F,I,r⟩:=aT xs false 0 4 (by omega) (by omega) (by omega);rcases tf (decide (((0:Nat):Int)<(y:Int))) with hc|hc
 ·obtain ⟨b,k2,D,C,i⟩:=aT xs false k1 40 (by omega) (by omega) (by omega);obtain ⟨s,k3,H,E,w⟩:=aT xs false k2 4 (by omega) (by omega) (by omega);by_cases hne:ps= []
  ·subst hne;obtain ⟨e,m,d,u,h⟩:=xe none ⟨l,c,mn,k,s,SX,[φ (97+k)],false,[1],[1],false,[φ (b+1)],[1],xs,false⟩ o a (by dsimp only;omega) s k3 1 0 [⟨5,false,[],[],[120]⟩] (by dsimp only;omega) (by omega) rfl (by omega);have t:=aP.blk (id:=2) (e':= .normal) (fun nt (hn:140≤nt)=>h nt hn) (by simp) rfl (aJ.refl _) (aJ.refl _);have v:=Om l c mn k s SX [φ (97+k)] false [1] [1] false [φ (b+1)] [1] xs false m _ _ (by simp [Xxj]) t;refine ⟨⟨[φ (97+k)],false,1,0,⟨5,false,[],[],[120]⟩::e,false,false,[1],[1],false,[φ (b+1)],[1]⟩,⟨rfl,e,rfl,⟨Xqh d.cnt (by omega),Xqh d.len (by omega),d.nms⟩⟩,fun nt f=> ?_⟩;have x:=abG f l c mn SX k [φ (97+k)] [φ (b+1)] xs A (⟨5,false,[],[],[120]⟩::e) y b s k1 k2 k3 m (1+e.length) B j a z (by simp [Xxj]) hc (by omega) n r LZ i (OA b (by omega)) w (fun nt g=>(v nt g).weak (aJ.of ⟨rfl,rfl,rfl,rfl,rfl,rfl,rfl,rfl,rfl,rfl,trivial⟩) (aJ.refl _));rw [show 1+e.length=((⟨5,false,[],[],[120]⟩:Nd)::e).length by simp [Xxj]] at x;exact x
  ·obtain ⟨e,m,d,u,h⟩:=xe (some (k,ps)) ⟨l,c,mn,k,s,SX,[φ (97+k)],false,[1],[1],false,[φ (b+1)],[1],xs,false⟩ o a (by dsimp only;omega) s k3 1 0 [⟨5,false,[],[],[120]⟩] (by dsimp only;omega) (by omega) rfl (by omega);have t:=aP.blk (id:=2) (e':= .normal) (fun nt (hn:140≤nt)=>h nt hn) (by simp) rfl (aJ.refl _) (aJ.refl _);have v:=Ol l c mn k s SX k ps [φ (97+k)] false [1] [1] false [φ (b+1)] [1] xs false m _ _ (by simp [Xxj]) t;refine ⟨⟨[φ (97+k)],false,1,0,⟨5,false,[],[],[120]⟩::e,false,false,[1],[1],false,[φ (b+1)],[1]⟩,⟨rfl,e,rfl,⟨Xqh d.cnt (by omega),Xqh d.len (by omega),d.nms⟩⟩,fun nt f=> ?_⟩;rw [xf l c mn SX k hne,xf l c mn SX (k+1) (by simp),ο,q];exact abD f l c mn SX k k ps [φ (97+k)] [φ (b+1)] xs A (⟨5,false,[],[],[120]⟩::e) y b s k1 k2 k3 m (1+e.length) B j a z q (by omega) (by simp [Xxj]) hc (by omega) n r LZ i (OA b (by omega)) w (fun nt g=>(v nt g).weak (aJ.of ⟨rfl,rfl,rfl,rfl,rfl,rfl,rfl,rfl,rfl,rfl,trivial⟩) (aJ.refl _))
 ·obtain ⟨b,k2,D,C,i⟩:=aT xs false k1 4 (by omega) (by omega) (by omega);by_cases hne:ps= []
  ·subst hne;obtain ⟨e,m,d,u,h⟩:=xe none ⟨l,c,mn,k,b,SX,[φ (97+k)],false,[],[],false,[],[],xs,false⟩ o a (by dsimp only;omega) b k2 1 0 [⟨5,false,[],[],[120]⟩] (by dsimp only;omega) (by omega) rfl (by omega);have t:=aP.blk (id:=2) (e':= .normal) (fun nt (hn:140≤nt)=>h nt hn) (by simp) rfl (aJ.refl _) (aJ.refl _);have v:=Om l c mn k b SX [φ (97+k)] false [] [] false [] [] xs false m _ _ (by simp [Xxj]) t;refine ⟨⟨[φ (97+k)],false,1,0,⟨5,false,[],[],[120]⟩::e,false,false,[],[],false,[],[]⟩,⟨rfl,e,rfl,⟨Xqh d.cnt (by omega),Xqh d.len (by omega),d.nms⟩⟩,fun nt f=> ?_⟩;have x:=abE f l c mn SX k [φ (97+k)] xs A (⟨5,false,[],[],[120]⟩::e) y b k1 k2 m (1+e.length) B j a z (by simp [Xxj]) hc n r i (fun nt g=>(v nt g).weak (aJ.of ⟨rfl,rfl,rfl,rfl,rfl,rfl,rfl,rfl,rfl,rfl,trivial⟩) (aJ.refl _));rw [show 1+e.length=((⟨5,false,[],[],[120]⟩:Nd)::e).length by simp [Xxj]] at x;exact x
  ·obtain ⟨e,m,d,u,h⟩:=xe (some (k,ps)) ⟨l,c,mn,k,b,SX,[φ (97+k)],false,[],[],false,[],[],xs,false⟩ o a (by dsimp only;omega) b k2 1 0 [⟨5,false,[],[],[120]⟩] (by dsimp only;omega) (by omega) rfl (by omega);have t:=aP.blk (id:=2) (e':= .normal) (fun nt (hn:140≤nt)=>h nt hn) (by simp) rfl (aJ.refl _) (aJ.refl _);have v:=Ol l c mn k b SX k ps [φ (97+k)] false [] [] false [] [] xs false m _ _ (by simp [Xxj]) t;refine ⟨⟨[φ (97+k)],false,1,0,⟨5,false,[],[],[120]⟩::e,false,false,[],[],false,[],[]⟩,⟨rfl,e,rfl,⟨Xqh d.cnt (by omega),Xqh d.len (by omega),d.nms⟩⟩,fun nt f=> ?_⟩;rw [xf l c mn SX k hne,xf l c mn SX (k+1) (by simp),ο,q];exact abC f l c mn SX k k ps [φ (97+k)] xs A (⟨5,false,[],[],[120]⟩::e) y b k1 k2 m (1+e.length) B j a z q (by omega) (by simp [Xxj]) hc n r i (fun nt g=>(v nt g).weak (aJ.of ⟨rfl,rfl,rfl,rfl,rfl,rfl,rfl,rfl,rfl,rfl,trivial⟩) (aJ.refl _))
def yQ (mn:Nat) (ps:List Pv):Prop:=∀ (k:Nat) (p:Pv),ps[k]? =some p→aaH mn k p
theorem yQ.snoc {mn k:Nat} {ps:List Pv} {p:Pv} (h:yQ mn ps) (hp:aaH mn k p) (b:ps.length=k):yQ mn (ps++ [p]):=fun i q a=>by
 by_cases hl:i<ps.length
 ·rw [Xqa hl] at a;exact h i q a
 ·have e:i=ps.length:=by
   have:=(List.getElem?_eq_some_iff.1 a).1;simp at this;omega
  subst e;simp at a;subst a;rw [b];exact hp
theorem TU {nt:Nat} (a:140≤nt) (l:List (List Int)) (b:Bool) (mn:Nat) (SX:List AV) (ps:List Pv):ψ nt f24 (Y1 l b mn SX (mn,ps)) (.exit 0) (moX SX ps):=by
 cases ps with
 |nil=>exact Xi a l b mn SX
 |cons q r=>exact Xh a l b mn SX (q::r).length (q::r)
theorem Oh (l:List (List Int)) (e:Bool) (mn:Nat) (SX:List AV) (d:0<mn) (b:mn≤8) (c:mn≤l.length):∀ (rem k:Nat) (ps:List Pv),k+rem=mn→ps.length=k→yQ mn ps→
  ∃ a:List Pv,a.length=mn∧yQ mn a∧∀ nt,140≤nt→aP prog ap [] nt (aj 0 (ae f24)) (fun _=> .exit 0) (Y1 l e mn SX) (moX SX) (k,ps) a
 |0,k,ps,g,hps,hok=>by
  have g:k=mn:=by omega
  subst g;exact ⟨ps,hps,hok,fun nt f=> .done (TU f l e k SX ps)⟩
 |rem+1,k,ps,g,hps,hok=>by
  obtain ⟨p,j,i⟩:=TV l e mn SX d b c k ps (by omega) hps;obtain ⟨a,h,n,m⟩:=Oh l e mn SX d b c rem (k+1) (ps++ [p]) (by omega) (by simp [hps]) (hok.snoc j hps);exact ⟨a,h,n,fun nt f=> .next (a':=(k+1,ps++ [p])) (i nt f) (m nt f)⟩
theorem Du:∀ ps:List Pv,QY (dJ ps) (bJ ps)
 | []=> .nil
 |_::ps=> .same (.same (.same (.same (.sl (.same (.same (.same (.same (.same (.same (.same (Du ps))))))))))))
theorem TN (l:List (List Int)) (b:Bool) (mn:Nat) (a:ω (if ((8:Nat):Int)<(l.length:Int) then ((8:Nat):Int) else (l.length:Int))= ω (mn:Int)) (c:CO 61 [ω (l.length:Int),ω 2] (.ret (ω 0)))
  (l1:LB 140 0 f24 (FV (.sl (kL l) l.length b) mn [.str [115],ω 1,ω 0,.sl zcc2_2 2 true] [.str [115],ω 1,ω 0,.sl zcc2_2 2 true]) (.normal) (PH [.str [115],ω 1,ω 0,.sl zcc2_2 2 true])):CO 24 [.sl (kL l) l.length b] (.ret (.agg [.sl [.str [120],.bool false,ω 1,ω 0] 1 true,.sl [.str [115],ω 1,ω 0,.sl zcc2_2 2 true] 1 true,.nilS])):=by
 exact pK [0] 0 0 (.n 19 .nil) (.l l1 (.v 36 (.eq a) (.c aaf (.c c (.c xh .nil)))))
theorem TM (l:List (List Int)) (c:Bool) (mn:Nat) (a:Nat) (ps:List Pv) (d:ps.length=a) (b:ω (if ((8:Nat):Int)<(l.length:Int) then ((8:Nat):Int) else (l.length:Int))= ω (mn:Int)) (e:CO 61 [ω (l.length:Int),ω 2] (.ret (ω 0)))
  (l1:LB 140 0 f24 (FV (.sl (kL l) l.length c) mn [.str [115],ω 1,ω 0,.sl zcc2_2 2 true] [.str [115],ω 1,ω 0,.sl zcc2_2 2 true]) (.normal) (PI [.ref 2 0 0 1,.ref 3 0 0 1,.ref 4 0 0 a] [.str [115],ω 1,ω 0,.sl zcc2_2 2 true] (dJ ps))):CO 24 [.sl (kL l) l.length c] (.ret (.agg [.sl [.str [120],.bool false,ω 1,ω 0] 1 true,.sl [.str [115],ω 1,ω 0,.sl zcc2_2 2 true] 1 true,.sl (ξ (a*12) (dJ ps)) a true])):=by
 exact pK [0] 0 0 (.n 19 .nil) (.l l1 (.v 36 (.eq b) (.c aaf (.c e (.c xh .nil)))))
theorem Oi (l:List (List Int)) (a:Bool) (mn:Nat):AM.norm 0 [0,2,3,4,6,7] (FV (.sl (kL l) l.length a) mn [.str [115],ω 1,ω 0,.sl zcc2_2 2 true] [.str [115],ω 1,ω 0,.sl zcc2_2 2 true])=Y1 l a mn [.str [115],ω 1,ω 0,.sl zcc2_2 2 true] (0,[]):=by kernel_rfl
theorem TQ (l:List (List Int)) (b:Bool) (mn:Nat) (a:ω (if ((8:Nat):Int)<(l.length:Int) then ((8:Nat):Int) else (l.length:Int))= ω (mn:Int)) (c:CO 61 [ω (l.length:Int),ω 2] (.ret (ω 1)))
  (l1:LB 140 0 f24 (FV (.sl (kL l) l.length b) mn [.str [115],ω 1,ω 0,.sl zcc2_1 2 true] [.str [115],ω 1,ω 0,.sl zcc2_1 2 true]) (.normal) (PH [.str [115],ω 1,ω 0,.sl zcc2_1 2 true])):CO 24 [.sl (kL l) l.length b] (.ret (.agg [.sl [.str [120],.bool false,ω 1,ω 0] 1 true,.sl [.str [115],ω 1,ω 0,.sl zcc2_1 2 true] 1 true,.nilS])):=by
 exact pK [0] 0 0 (.n 19 .nil) (.l l1 (.v 36 (.eq a) (.c aag (.c c (.c xh .nil)))))
theorem TP (l:List (List Int)) (c:Bool) (mn:Nat) (a:Nat) (ps:List Pv) (d:ps.length=a) (b:ω (if ((8:Nat):Int)<(l.length:Int) then ((8:Nat):Int) else (l.length:Int))= ω (mn:Int)) (e:CO 61 [ω (l.length:Int),ω 2] (.ret (ω 1)))
  (l1:LB 140 0 f24 (FV (.sl (kL l) l.length c) mn [.str [115],ω 1,ω 0,.sl zcc2_1 2 true] [.str [115],ω 1,ω 0,.sl zcc2_1 2 true]) (.normal) (PI [.ref 2 0 0 1,.ref 3 0 0 1,.ref 4 0 0 a] [.str [115],ω 1,ω 0,.sl zcc2_1 2 true] (dJ ps))):CO 24 [.sl (kL l) l.length c] (.ret (.agg [.sl [.str [120],.bool false,ω 1,ω 0] 1 true,.sl [.str [115],ω 1,ω 0,.sl zcc2_1 2 true] 1 true,.sl (ξ (a*12) (dJ ps)) a true])):=by
 exact pK [0] 0 0 (.n 19 .nil) (.l l1 (.v 36 (.eq b) (.c aag (.c e (.c xh .nil)))))
theorem Oj (l:List (List Int)) (a:Bool) (mn:Nat):AM.norm 0 [0,2,3,4,6,7] (FV (.sl (kL l) l.length a) mn [.str [115],ω 1,ω 0,.sl zcc2_1 2 true] [.str [115],ω 1,ω 0,.sl zcc2_1 2 true])=Y1 l a mn [.str [115],ω 1,ω 0,.sl zcc2_1 2 true] (0,[]):=by kernel_rfl
def fxQ:List AV:= [.str [120],.bool false,ω 1,ω 0]
theorem Xd (l:List (List Int)) (b:Bool):∃ (L:Lw) (cc:Bool),L.ps.length=Min.min 8 l.length∧yQ (Min.min 8 l.length) L.ps∧CO 24 [.sl (kL l) l.length b] (.ret (.agg (L.c true true cc))):=by
 obtain ⟨mn,g⟩:∃ mn,mn=Min.min 8 l.length:=⟨_,rfl⟩
 have c:ω (if ((8:Nat):Int)<(l.length:Int) then ((8:Nat):Int) else (l.length:Int))= ω ((mn:Nat):Int):=by
  congr 1;split<;>omega
 obtain ⟨q,m,j⟩:=Xj (l.length:Int) 2 (by omega) (by omega);rw [← g];have loop:∀ SX,∃ ps2:List Pv,ps2.length=mn∧yQ mn ps2∧∀ nt,140≤nt→aP prog ap [] nt (aj 0 (ae f24)) (fun _=> .exit 0) (Y1 l b mn SX) (moX SX) (0,[]) ps2:=fun SX=>by
  rcases Xxg mn with h0|h0
  ·subst h0;exact ⟨[],rfl,(fun k p h=>by simp at h),fun nt i=> .done (TU i l b 0 SX [])⟩
  ·exact Oh l b mn SX h0 (by omega) (by omega) mn 0 [] (by omega) rfl (fun k p h=>by simp at h)
 match q,m with
 | 0,_=>
  obtain ⟨ps,f,d,n⟩:=loop [.str [115],ω 1,ω 0,.sl zcc2_2 2 true];have e:=aP.blk (id:=0) (e':= .normal) (fun nt (i:140≤nt)=>n nt i) (by simp) rfl (aJ.refl _) (aJ.refl _);cases ps with
  |nil=>
   refine ⟨⟨fxQ,1,[.str [115],ω 1,ω 0,.sl zcc2_2 2 true],1,[]⟩,false,f,d, ?_⟩;have h:=TN l b mn c j (fun nt a=>(e nt a).tidy [0,2,3,4,6,7] (Oi l b mn) rfl);exact h.out (iP.ret rfl rfl (bF.agg (.cons (bF.eq rfl) (.cons (bF.eq rfl) (.cons (bF.nilS false rfl) .nil)))))
  |cons p ps=>
   refine ⟨⟨fxQ,1,[.str [115],ω 1,ω 0,.sl zcc2_2 2 true],1,p::ps⟩,true,f,d, ?_⟩;have h:=TM l b mn (p::ps).length (p::ps) rfl c j (fun nt a=>(e nt a).tidy [0,2,3,4,6,7] (Oi l b mn) rfl);rw [τ (by rw [Hr rfl];exact ε _)] at h;exact h.out (iP.ret rfl rfl (bF.agg (.cons (bF.eq rfl) (.cons (bF.eq rfl) (.cons (bF.slP (Du (p::ps))) .nil)))))
 | 1,_=>
  obtain ⟨ps,f,d,n⟩:=loop [.str [115],ω 1,ω 0,.sl zcc2_1 2 true];have e:=aP.blk (id:=0) (e':= .normal) (fun nt (i:140≤nt)=>n nt i) (by simp) rfl (aJ.refl _) (aJ.refl _);cases ps with
  |nil=>
   refine ⟨⟨fxQ,1,[.str [115],ω 1,ω 0,.sl zcc2_1 2 true],1,[]⟩,false,f,d, ?_⟩;have h:=TQ l b mn c j (fun nt a=>(e nt a).tidy [0,2,3,4,6,7] (Oj l b mn) rfl);exact h.out (iP.ret rfl rfl (bF.agg (.cons (bF.eq rfl) (.cons (bF.eq rfl) (.cons (bF.nilS false rfl) .nil)))))
  |cons p ps=>
   refine ⟨⟨fxQ,1,[.str [115],ω 1,ω 0,.sl zcc2_1 2 true],1,p::ps⟩,true,f,d, ?_⟩;have h:=TP l b mn (p::ps).length (p::ps) rfl c j (fun nt a=>(e nt a).tidy [0,2,3,4,6,7] (Oj l b mn) rfl);rw [τ (by rw [Hr rfl];exact ε _)] at h;exact h.out (iP.ret rfl rfl (bF.agg (.cons (bF.eq rfl) (.cons (bF.eq rfl) (.cons (bF.slP (Du (p::ps))) .nil)))))
def bL (l:List Int):List AV:=l.map fun a=> .int .u8 a
def WC (x c:Cl):Bool:=((x.1==c.1) && ((x.2==c.2) && true))
theorem Ag {x c:Cl}:WC x c=decide (x=c):=by
 unfold WC;rw [Xxh];simp only [Xzh,Bool.and_eq_true,beq_iff_eq,decide_eq_true_eq];exact ⟨fun h=>Prod.ext h.1 h.2,fun h=>h ▸ ⟨rfl,rfl⟩⟩
def eqS (a b:List Cl) (na nb:Bool) (k:Nat):St:=⟨[(0,.sl (cL a) a.length na),(1,.sl (cL b) b.length nb),(5,ω (k:Int))],[],.dead,[]⟩
theorem aiC {nt:Nat} (w:26≤nt) (a b p r m q:List Cl) (s u:Bool) (x y:Cl) (i:a=p++x::r) (d:b=m++y::q) (c:m.length=p.length) (t:a.length<2^40) (o:WC x y=false):ψ nt f15 (eqS a b s u p.length) .ret (yH (.bool false)):=by
 have j:=dS (f:=cC) (n:=2) (fun _=>rfl) i;change θ _ (cL a)=cC x++cL r at j;have e:=dS (f:=cC) (n:=2) (fun _=>rfl) d;change θ _ (cL b)=cC y++cL q at e;rw [c] at e;have h:p.length<a.length:=nT i;have v:p.length<b.length:=c ▸ nT d;have z:p.length<2^62:=by omega
 have l:(decide ((p.length:Int)<(a.length:Int)))=true:=kl h;clear i d c;generalize p.length=k at*
 have g:(decide ((k:Int)<(b.length:Int)))=true:=(kl (by omega))
 exact pN 15 [] 2 3 (.c (fZ o) (.k 3 g (.k 3 l (.c (ak l) .nil)))) (.v 23 (.ppt e) (.v 19 (.ppt j) .nil)) w
theorem aiD {nt:Nat} (w:26≤nt) (a b p r s q:List Cl) (j m:Bool) (x y:Cl) (i:a=p++x::r) (d:b=s++y::q) (c:s.length=p.length) (u:a.length<2^40) (t:WC x y=true):ψ nt f15 (eqS a b j m p.length) .normal (eqS a b j m (p.length+1)):=by
 have l:=dS (f:=cC) (n:=2) (fun _=>rfl) i;change θ _ (cL a)=cC x++cL r at l;have e:=dS (f:=cC) (n:=2) (fun _=>rfl) d;change θ _ (cL b)=cC y++cL q at e;rw [c] at e;have h:p.length<a.length:=nT i;have v:p.length<b.length:=c ▸ nT d;have z:p.length<2^62:=by omega
 have o:(decide ((p.length:Int)<(a.length:Int)))=true:=kl h;clear i d c;generalize p.length=k at*
 have g:(decide ((k:Int)<(b.length:Int)))=true:=(kl (by omega))
 exact pN 15 [] 2 1 (.c (dV t) (.k 3 g (.k 3 o (.c (ak o) .nil)))) (.v 16 (.eq (wpS z)) (.v 23 (.ppt e) (.v 19 (.ppt l) .nil))) w
theorem aiB {nt:Nat} (f:26≤nt) (a b:List Cl) (c d:Bool):ψ nt f15 (eqS a b c d a.length) (.exit 0) zM:=by
 have e:(decide ((a.length:Int)<(a.length:Int)))=false:=kn (ε _);exact pN 15 [] 1 0 (.c (au e) .nil) .nil f
theorem NE {nt:Nat} (i:26≤nt) (a b:List Cl) (f g:Bool) (d:a.length<2^40):∀ (r p p2 q:List Cl),a=p++r→b=p2++q→p2.length=p.length→q.length=r.length→aP prog ap [] nt (aj 0 (ae f15)) (fun b:Bool=>if b then .exit 0 else .ret) (eqS a b f g) (fun b:Bool=>if b then zM else (yH (.bool false))) p.length (decide (r=q))
 | [],p,p2,[],ha,hb,hp,_=>by
  rw [υ] at ha;subst ha;exact .done (aiB i a b f g)
 | x::r,p,p2,y::q,ha,hb,hp,hq=>by
  cases c:WC x y with
  |false=>
   have e:decide (x::r=y::q)=false:=by rw [Ag] at c;simp at c;simp only [List.cons.injEq,decide_eq_false_iff_not];exact fun h=>c h.1
   rw [e];exact .done (aiC i a b p r p2 q f g x y ha hb hp d c)
  |true=>
   have j:x=y:=by rw [Ag] at c;simpa using c
   have e:decide (x::r=y::q)=decide (r=q):=by subst j;simp
   rw [e];have k:=NE i a b f g d r (p++ [x]) (p2++ [y]) q (by rw [ha];simp) (by rw [hb];simp) (by simp [hp]) (by simpa using hq);rw [show (p++ [x]).length=p.length+1 by simp] at k;exact .next (a':=p.length+1) (aiD i a b p r p2 q f g x y ha hb hp d c) k
 | [],_,_,_::_,_,_,_,hq=>by simp at hq
 |_::_,_,_,[],_,_,_,hq=>by simp at hq
theorem RU (a b:List Cl) (g i:Bool) (l:a.length<2^40):CO 15 [.sl (cL a) a.length g,.sl (cL b) b.length i] (.ret (.bool (decide (a=b)))):=by
 by_cases hlen:a.length=b.length
 ·have k:=fun nt (hn:26≤nt)=>NE hn a b g i l a [] [] b rfl rfl rfl hlen.symm
  have j:((a.length:Int)==(b.length:Int))=true:=by simp [hlen]
  cases d:decide (a=b) with
  |false=>
   rw [d] at k;have f:=aP.blk (id:=0) (e':= .ret) k (by simp) rfl (aJ.refl _) (aJ.refl _);unfold eqS at f;have m:LB 26 0 f15 ⟨[(0,.sl (cL a) a.length g),(1,.sl (cL b) b.length i),(4,.bool false),(5,ω 0),(10,.bool (!((a.length:Int)==(b.length:Int)))),(14,.dead),(25,.dead)],[],.dead,[]⟩ (.ret) (yH (.bool false)):=(fun nt c=>(f nt c).weak (aJ.of ⟨rfl,rfl,rfl,trivial⟩) (aJ.refl _))
   exact pK [0] 1 0 (.c (dV j) .nil) (.l m .nil)
  |true=>
   rw [d] at k;have f:=aP.blk (id:=0) (e':= .normal) k (by simp) rfl (aJ.refl _) (aJ.refl _);unfold eqS at f;have m:LB 26 0 f15 ⟨[(0,.sl (cL a) a.length g),(1,.sl (cL b) b.length i),(4,.bool false),(5,ω 0),(10,.bool (!((a.length:Int)==(b.length:Int)))),(14,.dead),(25,.dead)],[],.dead,[]⟩ (.normal) zM:=(fun nt c=>(f nt c).weak (aJ.of ⟨rfl,rfl,rfl,trivial⟩) (aJ.refl _))
   exact pK [0] 1 0 (.c (dV j) .nil) (.l m .nil)
 ·have j:((a.length:Int)==(b.length:Int))=false:=by simp;omega
  have e:decide (a=b)=false:=by simp;exact fun h=>hlen (by rw [h])
  rw [e];exact pK [0] 1 1 (.c (fZ j) .nil) (.nil)
def smS (q:List Int) (nq:Bool) (p:Nat × List Cl):St:=match p.2 with
 | []=>(PD (.sl (bL q) q.length nq) p.1)
 |x::r=>(FU (.sl (bL q) q.length nq) ((x::r).length) p.1 (cL (x::r)))
def smX (os:List Cl):St:=match os with
 | []=>PE
 |x::r=> ⟨[(3,.ref 0 0 0 (x::r).length)],[(0,cB (x::r))],.dead,[]⟩
theorem V9 {q:List Int} {i:Nat} (h:i<q.length):∃ rx,θ (γ (i:Int)*1) (bL q)= [AV.int .u8 (q.getD i 0)]++rx:=by
 unfold bL;rw [aS,Xzc,← Xj5,Xq3 h,π,ζ h];exact ⟨_,rfl⟩
theorem akb {nt:Nat} (j:48≤nt) (q:List Int) (g:Bool) (k:Nat) (a:Int) (h:List AV) (e:k<q.length) (d:k<12) (c:θ (γ (k:Int)*1) (bL q)= [AV.int .u8 a]++h):ψ nt f21 (PD (.sl (bL q) q.length g) k) .normal (FU (.sl (bL q) q.length g) 1 (k+1) [ω (δ .i64 ((δ .i64 (Xxo (Xq2 (δ .i64 a) ((7:Nat):Int)) ((3:Nat):Int))) - (δ .i64 (Xxo (δ .i64 a) ((250:Nat):Int))))),ω (δ .i64 ((Xq2 (δ .i64 (Xxo (δ .i64 a) ((7:Nat):Int))) ((9:Nat):Int)) - (δ .i64 (Xxo (δ .i64 a) ((240:Nat):Int)))))]):=by
 have i:k<2^62:=by omega
 have b:(decide ((k:Int)<(q.length:Int)))=true:=kl e;have f:(decide ((k:Int)<((12:Nat):Int)))=true:=kl d;exact pN 21 [] 3 3 (.k 6 b (.k 4 b (.k 3 b (.k 4 b (.c (ak f) (.c (ak b) .nil)))))) (.v 14 (.eq (wpS i)) (.v 39 (.ppt c) (.v 32 (.ppt c) (.v 25 (.ppt c) (.v 18 (.ppt c) .nil))))) j
theorem XR {nt:Nat} (f:48≤nt) (q:List Int) (d:Bool) (k:Nat) (b:k<q.length) (a:12≤k):ψ nt f21 (PD (.sl (bL q) q.length d) k) (.exit 0) PE:=by
 have e:(decide ((k:Int)<(q.length:Int)))=true:=kl b;have c:(decide ((k:Int)<((12:Nat):Int)))=false:=kn a;exact pN 21 [] 2 1 (.c (au c) (.c (ak e) .nil)) .nil f
theorem Ve {nt:Nat} (d:48≤nt) (q:List Int) (b:Bool) (k:Nat) (a:q.length≤k):ψ nt f21 (PD (.sl (bL q) q.length b) k) (.exit 0) PE:=by
 have c:(decide ((k:Int)<(q.length:Int)))=false:=kn a;exact pN 21 [] 2 0 (.k 1 (au c) .nil) .nil d
theorem aka {nt:Nat} (n:48≤nt) (q:List Int) (i:Bool) (k m:Nat) (os:List Cl) (a:Int) (j:List AV) (f:k<q.length) (e:k<12) (hm:os.length=m) (l:m<2^20) (c:θ (γ (k:Int)*1) (bL q)= [AV.int .u8 a]++j):ψ nt f21 (FU (.sl (bL q) q.length i) m k (cL os)) .normal (FU (.sl (bL q) q.length i) (m+1) (k+1) ((ξ (m*2) (cL os))++ [ω (δ .i64 ((δ .i64 (Xxo (Xq2 (δ .i64 a) ((7:Nat):Int)) ((3:Nat):Int))) - (δ .i64 (Xxo (δ .i64 a) ((250:Nat):Int))))),ω (δ .i64 ((Xq2 (δ .i64 (Xxo (δ .i64 a) ((7:Nat):Int))) ((9:Nat):Int)) - (δ .i64 (Xxo (δ .i64 a) ((240:Nat):Int)))))])):=by
 have o:k<2^62:=by omega
 have b:(decide ((k:Int)<(q.length:Int)))=true:=kl f;have g:(decide ((k:Int)<((12:Nat):Int)))=true:=kl e;have h:(Xqc (m+1) 1099511627776)=true:=(Xqe (by omega))
 have d:(Xqc (m*2) (ν (cL os)))=true:=(dA (nS (b_ _) (by omega)))
 exact pN 21 [] 2 3 (.k 1 h (.c d (.k 4 b (.k 4 b (.k 3 b (.k 4 b (.c (ak g) (.c (ak b) .nil)))))))) (.v 14 (.eq (wpS o)) (.v 39 (.ppt c) (.v 32 (.ppt c) (.v 25 (.ppt c) (.v 18 (.ppt c) .nil))))) n
theorem XQ {nt:Nat} (f:48≤nt) (q:List Int) (d:Bool) (k m:Nat) (os:List Cl) (b:k<q.length) (a:12≤k):ψ nt f21 (FU (.sl (bL q) q.length d) m k (cL os)) (.exit 0) (Vq m (cL os)):=by
 have e:(decide ((k:Int)<(q.length:Int)))=true:=kl b;have c:(decide ((k:Int)<((12:Nat):Int)))=false:=kn a;exact pN 21 [] 2 1 (.c (au c) (.c (ak e) .nil)) .nil f
theorem Vd {nt:Nat} (d:48≤nt) (q:List Int) (b:Bool) (k m:Nat) (os:List Cl) (a:q.length≤k):ψ nt f21 (FU (.sl (bL q) q.length b) m k (cL os)) (.exit 0) (Vq m (cL os)):=by
 have c:(decide ((k:Int)<(q.length:Int)))=false:=kn a;exact pN 21 [] 2 0 (.k 1 (au c) .nil) .nil d
theorem aaS {os:List Cl} {m:Nat} (h:os.length=m) (x:Cl):ξ (m*2) (cL os)++cC x=cL (os++ [x]):=by
 rw [τ (by rw [b_,h];exact ε _)];simp [cL]
theorem Vf (q:List Int) (c:Bool) (k:Nat) (os:List Cl) (a:k<q.length) (b:k<12) (j:os.length=k):∃ x:Cl,∀ nt,48≤nt→ψ nt f21 (smS q c (k,os)) .normal (smS q c (k+1,os++ [x])):=by
 obtain ⟨f,d⟩:=V9 a;refine ⟨(((δ .i64 ((δ .i64 (Xxo (Xq2 (δ .i64 (q.getD k 0)) ((7:Nat):Int)) ((3:Nat):Int))) - (δ .i64 (Xxo (δ .i64 (q.getD k 0)) ((250:Nat):Int))))):Int),((δ .i64 ((Xq2 (δ .i64 (Xxo (δ .i64 (q.getD k 0)) ((7:Nat):Int))) ((9:Nat):Int)) - (δ .i64 (Xxo (δ .i64 (q.getD k 0)) ((240:Nat):Int))))):Int)),fun nt g=> ?_⟩;cases os with
 |nil=>exact akb g q c k _ f a b d
 |cons y os=>
  have h:=aka g q c k (y::os).length (y::os) _ f a b rfl (by omega) d;have e:=aaS (os:=y::os) rfl (((δ .i64 ((δ .i64 (Xxo (Xq2 (δ .i64 (q.getD k 0)) ((7:Nat):Int)) ((3:Nat):Int))) - (δ .i64 (Xxo (δ .i64 (q.getD k 0)) ((250:Nat):Int))))):Int),((δ .i64 ((Xq2 (δ .i64 (Xxo (δ .i64 (q.getD k 0)) ((7:Nat):Int))) ((9:Nat):Int)) - (δ .i64 (Xxo (δ .i64 (q.getD k 0)) ((240:Nat):Int))))):Int));have i:(y::os).length+1=(y::(os++ [(((δ .i64 ((δ .i64 (Xxo (Xq2 (δ .i64 (q.getD k 0)) ((7:Nat):Int)) ((3:Nat):Int))) - (δ .i64 (Xxo (δ .i64 (q.getD k 0)) ((250:Nat):Int))))):Int),((δ .i64 ((Xq2 (δ .i64 (Xxo (δ .i64 (q.getD k 0)) ((7:Nat):Int))) ((9:Nat):Int)) - (δ .i64 (Xxo (δ .i64 (q.getD k 0)) ((240:Nat):Int))))):Int))])).length:=by simp
  rw [i] at h;change af _ _ _ _ _ _ _ ⟨_,[(0,⟨ξ ((y::os).length*2) (cL (y::os))++cC (((δ .i64 ((δ .i64 (Xxo (Xq2 (δ .i64 (q.getD k 0)) ((7:Nat):Int)) ((3:Nat):Int))) - (δ .i64 (Xxo (δ .i64 (q.getD k 0)) ((250:Nat):Int))))):Int),((δ .i64 ((Xq2 (δ .i64 (Xxo (δ .i64 (q.getD k 0)) ((7:Nat):Int))) ((9:Nat):Int)) - (δ .i64 (Xxo (δ .i64 (q.getD k 0)) ((240:Nat):Int))))):Int)),0,false,0,2,true⟩)],_,_⟩ at h;rw [e] at h;exact h
theorem Pi (q:List Int) (b:Bool):∀ (rem k:Nat) (os:List Cl),k+rem=12→os.length=k→∃ c:List Cl,c.length≤12∧∀ nt,48≤nt→aP prog ap [] nt (aj 0 (ae f21)) (fun _=> .exit 0) (smS q b) smX (k,os) c
 | 0,k,os,hk,ho=>by
  refine ⟨os,by omega,fun nt a=> .done ?_⟩;by_cases hkl:k<q.length
  ·cases os with
   |nil=>exact XR a q b k hkl (by omega)
   |cons y os=>exact XQ a q b k (y::os).length (y::os) hkl (by omega)
  ·cases os with
   |nil=>exact Ve a q b k (by omega)
   |cons y os=>exact Vd a q b k (y::os).length (y::os) (by omega)
 | rem+1,k,os,hk,ho=>by
  by_cases hkl:k<q.length
  ·obtain ⟨x,d⟩:=Vf q b k os hkl (by omega) ho;obtain ⟨c,e,f⟩:=Pi q b rem (k+1) (os++ [x]) (by omega) (by simp [ho]);exact ⟨c,e,fun nt a=> .next (a':=(k+1,os++ [x])) (d nt a) (f nt a)⟩
  ·refine ⟨os,by omega,fun nt a=> .done ?_⟩;cases os with
   |nil=>exact Ve a q b k (by omega)
   |cons y os=>exact Vd a q b k (y::os).length (y::os) (by omega)
theorem XT (q:List Int) (e:Bool):∃ c:List Cl,c.length≤12∧CO 21 [.sl (bL q) q.length e] (.ret (XE c)):=by
 obtain ⟨c,g,h⟩:=Pi q e 12 0 [] rfl rfl;refine ⟨c,g, ?_⟩;have d:=aP.blk (id:=0) (e':= .normal) (fun nt (hn:48≤nt)=>h nt hn) (by simp) rfl (aJ.refl _) (aJ.refl _);cases c with
 |nil=>
  unfold smS smX at d;have f:LB 48 0 f21 ⟨[(0,.sl (bL q) q.length e),(2,.nilS),(3,.nilS),(4,ω 0),(12,.dead)],[],.dead,[]⟩ (.normal) PE:=(fun nt b=>(d nt b).weak (aJ.of ⟨rfl,rfl,rfl,trivial⟩) (aJ.refl _))
  exact pK [0] 0 0 .nil (.l f .nil)
 | cons y c=>
  unfold smS smX at d;simp only at d;have a:CO 21 [.sl (bL q) q.length e] (.ret (.own (ξ ((y::c).length*2) (cL (y::c))) (y::c).length 2)):=by
   generalize y::c=os at*
   generalize os.length=m at*
   have f:LB 48 0 f21 ⟨[(0,.sl (bL q) q.length e),(2,.nilS),(3,.nilS),(4,ω 0),(12,.dead)],[],.dead,[]⟩ (.normal) (Vq m (cL os)):=(fun nt b=>(d nt b).weak (aJ.of ⟨rfl,rfl,rfl,trivial⟩) (aJ.refl _))
   exact pK [0] 0 0 .nil (.l f .nil)
  rw [τ (by rw [b_];exact ε _)] at a;exact a
theorem XF {f:Nat} {args:List AV} {c:List Cl} (h:CO f args (.ret (XE c))):CO f args (.ret (.sl (cL c) c.length false)):=by
 cases c with
 |nil=>exact h.out (iP.ret rfl rfl (bF.nilS false rfl))
 |cons o os=>exact xR _ _ (by rw [← b_,Xx3]) h
def ahU (l:List Nat):List AV:=l.map fun (d:Nat)=>AV.int .u32 (d:Int)
theorem gz (l:List Nat):(ahU l).length=l.length:=by simp [ahU]
def FX (l:List Nat):List Nat:=(l.reverse.dropWhile (· ==0)).reverse
theorem MV (l:List Nat) (d:Nat):FX (l++ [d])=if d=0 then FX l else l++ [d]:=by
 unfold FX;rw [List.reverse_append];simp only [List.reverse_cons,List.reverse_nil,μ,List.singleton_append,Xjs];by_cases h:d=0
 ·subst h;simp
 ·simp [h]
def ay (s:List UInt8):Nat:=s.foldl (fun a b=>a*256+b.toNat) 0
theorem Qk (s:List UInt8):∀ a,s.foldl (fun a b=>a*256+b.toNat) a=a*256^s.length+ay s:=by
 induction s with
 |nil=>intro a;simp [ay]
 | cons b r ih=>
  intro a;simp only [Xqy,ay,Θ,Xk5];rw [ih,ih (0*256+b.toNat)];have:a*(256^r.length*256)=a*256*256^r.length:=by
   rw [Xvx (256^r.length) 256,Xvi]
  rw [this];simp only [Xjh,Xzg,Φ];omega
theorem kD (b:UInt8) (r:List UInt8):ay (b::r)=b.toNat*256^r.length+ay r:=by
 show (b::r).foldl _ 0=_;rw [Xqy,Qk];simp
theorem Ij (s:List UInt8):ay s<256^s.length:=by
 induction s with
 |nil=>simp [ay]
 |cons b r ih=>
  rw [kD,Θ,Xk5];have:=b.toNat_lt;have h:b.toNat*256^r.length≤255*256^r.length:=Xjk _ (by omega);omega
def ED (m n:Nat):List Nat:=(Xqf m).map fun i=>n / 2^(32*i) % 2^32
theorem nI (m n:Nat):(ED m n).length=m:=by simp [ED]
theorem Uh {m n i:Nat} (h:i<m):(ED m n)[i]? =some (n / 2^(32*i) % 2^32):=by simp [ED,h]
def rE (n:Nat):List Nat:=FX (ED n n)
theorem uQ (n:Nat):n<2^(32*n):=by
 have a:n<2^n:=Nat.lt_two_pow_self;exact Xqd a (Xq4 (by omega) (by omega))
theorem Ui (m n:Nat):ED (m+1) n=ED m n++ [n / 2^(32*m) % 2^32]:=by
 unfold ED;rw [List.range_succ,List.map_append];rfl
theorem RI (n:Nat):∀ (k:Nat),(rE n).getD k 0=n / 2^(32*k) % 2^32:=by
 have key:∀ (m k:Nat),(FX (ED m n)).getD k 0=if k<m then n / 2^(32*k) % 2^32 else 0:=by
  intro m
  induction m with
  |zero=>intro k;simp [ED,FX]
  | succ m ih=>
   intro k;rw [Ui,MV];by_cases hd:n / 2^(32*m) % 2^32=0
   ·rw [if_pos hd,ih];by_cases hk:k<m
    ·rw [if_pos hk,if_pos (by omega)]
    ·rw [if_neg hk];by_cases hkm:k=m
     ·subst hkm;rw [if_pos (by omega),hd]
     ·rw [if_neg (by omega)]
   ·rw [if_neg hd,π];by_cases hk:k<m
    ·rw [Xqa (by rw [nI];exact hk),Uh hk,if_pos (by omega)];rfl
    ·by_cases hkm:k=m
     ·subst hkm;rw [List.getElem?_append_right (by rw [nI];exact ε _),nI,Nat.sub_self,if_pos (by omega)];rfl
     ·rw [Xxk (by rw [ο,nI];simp;omega),if_neg (by omega)];rfl
 intro k;unfold rE;rw [key];by_cases hk:k<n
 ·rw [if_pos hk]
 ·rw [if_neg hk];have:n<2^(32*k):=Xqd (uQ n) (Xq4 (by omega) (by omega));rw [Xwq this]
theorem CQ {n m:Nat} (h:(rE n).length≤m):n<2^(32*m):=by
 have key:∀ d,n<2^(32*(m+d))→n<2^(32*m):=by
  intro d
  induction d with
  |zero=>exact fun h=>h
  | succ d ih=>
   intro b;refine ih ?_;have c:=RI n (m+d);rw [π,Xxk (by omega)] at c;have e:n / 2^(32*(m+d))<2^32:=by
    rw [Xwy (Xj1 _),← Xwi,show 32+32*(m+d)=32*(m+(d+1)) by omega];exact b
   have a:n / 2^(32*(m+d)) % 2^32=0:=c.symm;rw [Xjw e] at a;rcases Nat.div_eq_zero_iff.1 a with h2|h2
   ·have:=Xj1 (32*(m+d));omega
   ·exact h2
 refine key n ?_;exact Xqd (uQ n) (Xq4 (by omega) (by omega))
def sgn (x y:Nat):Int:=if x<y then -1 else if y<x then 1 else 0
def u8L (l:List Nat):List AV:=l.map fun (d:Nat)=>AV.int .u8 (d:Int)
theorem iE (l:List Nat):(u8L l).length=l.length:=by simp [u8L]
def jQ (m x:Nat):List UInt8:=(Xqf m).map fun i=>φ (x / 2^(8*(m - 1 - i)) % 256)
def ai (x:Nat):List UInt8:=(jQ (4*(rE x).length) x).dropWhile (· ==0)
theorem pF (m x:Nat):jQ (m+1) x=φ (x / 2^(8*m) % 256)::jQ m x:=by
 unfold jQ;rw [List.range_succ_eq_map,List.map_cons,List.map_map];congr 1;apply Xzd;intro i a;simp only [Function.comp];have:=List.mem_range.1 a;rw [show m+1 - 1 - (i+1)=m - 1 - i by omega]
theorem ET:∀ (m:Nat) (b x:Nat),jQ m (b*2^(8*m)+x)=jQ m x:=by
 intro m b x;unfold jQ;apply Xzd;intro i a;have a:=List.mem_range.1 a;have e:8*m=(8*m - 8*(m - 1 - i) - 8)+8+8*(m - 1 - i):=by omega
 congr 1
 conv=>lhs;rw [e]
 rw [Xwi,Xwi,← Xvi,← Xvi,Xxj,Xwz _ _ (Xj1 _)];exact Nat.add_mul_mod_self_right _ _ 256
theorem EU:∀ (s:List UInt8),jQ s.length (ay s)=s
 | []=>rfl
 |b::r=>by
  rw [Θ,pF,kD,show (256:Nat)^r.length=2^(8*r.length) by rw [Xzz],ET,EU r];have h:=Ij r;rw [show (256:Nat)^r.length=2^(8*r.length) by rw [Xzz]] at h;have a:=b.toNat_lt;rw [Xxj,Xwz _ _ (Xj1 _),Xwq h,Φ,Xjw (by omega)];congr 1;exact UInt8.ofNat_toNat
theorem vz (x:Nat):∀ (d m:Nat),x<2^(8*m)→(jQ (m+d) x).dropWhile (· ==0)=(jQ m x).dropWhile (· ==0)
 |0,_,_=>rfl
 |d+1,m,h=>by
  rw [show m+(d+1)=(m+d)+1 by omega,pF];have a:x<2^(8*(m+d)):=Xqd h (Xq4 (by omega) (by omega));rw [Xwq a,Xjs,if_pos (by rfl)];exact vz x d m h
theorem Ou {m x:Nat} (h:x<2^(8*m)):(jQ m x).dropWhile (· ==0)=ai x:=by
 unfold ai;have a:x<2^(8*(4*(rE x).length)):=by
  have:=CQ (n:=x) (ε _);rwa [show 8*(4*(rE x).length)=32*(rE x).length by omega]
 rcases Nat.le_total m (4*(rE x).length) with hm|hm
 ·have:=vz x (4*(rE x).length - m) m h;rw [show m+(4*(rE x).length - m)=4*(rE x).length by omega] at this;exact this.symm
 ·have:=vz x (m - 4*(rE x).length) (4*(rE x).length) a;rw [show 4*(rE x).length+(m - 4*(rE x).length)=m by omega] at this;exact this
theorem C9 (s:List UInt8):ai (ay s)=s.dropWhile (· ==0):=by
 have h:=Ij s;rw [show (256:Nat)^s.length=2^(8*s.length) by rw [Xzz]] at h;rw [← Ou h,EU]
theorem KC:∀ (s:List UInt8),ay (s.dropWhile (· ==0))=ay s
 | []=>rfl
 | b::r=>by
  rw [Xjs];by_cases hb:b=0
  ·subst hb;rw [if_pos (by rfl),KC r,kD];simp
  ·rw [if_neg (by simpa using hb)]
theorem F6:∀ (m x:Nat),x<2^(8*m)→ay (jQ m x)=x
 |0,x,h=>by simp at h;subst h;rfl
 | m+1,x,h=>by
  rw [pF,kD];have c:(jQ m x).length=m:=by simp [jQ]
  have a:x / 2^(8*m)<256:=by
   rw [Xwy (Xj1 _)];have e:(2:Nat)^(8*(m+1))=256*2^(8*m):=by rw [show 8*(m+1)=8+8*m by omega,Xwi]
   rw [← e];exact h
  have hm:ay (jQ m x)=x % 2^(8*m):=by
   have e:x=x / 2^(8*m)*2^(8*m)+x % 2^(8*m):=by
    have:=Xka x (2^(8*m));rw [Xvx] at this;omega
   conv=>lhs;rw [e]
   rw [ET];exact F6 m _ (Xvq _ (Xj1 _))
  rw [c,hm,Xjw a];have b:(φ (x / 2^(8*m))).toNat=x / 2^(8*m):=by
   rw [Xvj];exact Xjw a
  rw [b,show (256:Nat)^m=2^(8*m) by rw [Xzz]];have:=Xka x (2^(8*m));rw [Xvx] at this;exact this
theorem bH (x:Nat):ay (ai x)=x:=by
 unfold ai;rw [KC];refine F6 _ _ ?_;have:=CQ (n:=x) (ε _);rwa [show 8*(4*(rE x).length)=32*(rE x).length by omega]
def nR (s:List UInt8):Bool:=match s with| []=>true|c::_=> !(c==0)
def Fe (neg:Bool) (n d:List UInt8):Bool:=nR n && nR d && decide (0<ay d) && decide (Xji (ay n) (ay d)=1) && (!neg||decide (0<ay n))
theorem iK:ai 0= []:=C9 []
theorem iU {x k:Nat} (h:x<2^(8*k)):(ai x).length≤k:=by
 rw [← Ou h];have a:=(Xwu (· ==0) (l:=jQ k x)).length_le;have b:(jQ k x).length=k:=by
  have:∀ m,(jQ m x).length=m:=by
   intro m
   induction m with
   |zero=>rfl
   |succ m ih=>rw [pF,Θ,ih]
  exact this k
 omega
theorem jL (s:List UInt8):ay s<2^(8*s.length):=by
 have h:=Ij s;rwa [show (256:Nat)=2^8 from rfl,← Xzz] at h
theorem p_ {x:Nat} {s:List UInt8} (h:x≤ay s):(ai x).length≤s.length:=iU (Xje h (jL s))
theorem nH {x:Nat}:ai x= []↔x=0:=by
 constructor
 ·intro h;have:=bH x;rw [h] at this;exact this.symm
 ·intro h;subst h;exact iK
theorem TZ {x y:Nat} (h:ai x=ai y):x=y:=by rw [← bH x,h,bH]
theorem CZ (s:List UInt8):nR s=true↔ai (ay s)=s:=by
 rw [C9];cases s with
 |nil=>simp [nR]
 | cons c r=>
  simp only [nR,Xjs];by_cases h:c=0
  ·subst h;simp only [beq_self_eq_true,Bool.not_true,Xqi,if_true,false_iff];intro a;have:=(Xwu (· ==(0:UInt8)) (l:=r)).length_le;rw [a] at this;simp at this;omega
  ·simp [h]
abbrev aeV (neg:Bool) (n d:Nat):AV:= .agg [.bool neg,.str (ai n),.str (ai d)]
theorem tH {a:Bool} {n d:List UInt8}:Fe a n d=true↔nR n=true∧nR d=true∧0<ay d∧Xji (ay n) (ay d)=1∧(a=true→0<ay n):=by
 unfold Fe;cases a<;>simp [and_assoc]
theorem acS {nt:Nat} (d:19≤nt) (s:List UInt8) (k:Nat) (h0:lit true (((Xz0 (Xw0 s (γ (k:Int)) 0):Nat):Int)==((0:Nat):Int))=true) (b:(decide (((0:Nat):Int)≤(k:Int)))=true) (c:(decide ((k:Int)<(((ν s):Nat):Int)))=true) (a:lit true (decide ((k:Int)<(((ν s):Nat):Int)))=true):ψ nt f105 (Kt s (k:Int)) (.normal) (Kt s (δ .i64 ((k:Int)+((1:Nat):Int)))):=pJ 105 [] 2 3 (.c h0 (.c b (.c c (.c a .nil)))) (.nil) d
theorem acT {nt:Nat} (d:19≤nt) (s:List UInt8) (k:Nat) (h0:lit false (((Xz0 (Xw0 s (γ (k:Int)) 0):Nat):Int)==((0:Nat):Int))=true) (b:(decide (((0:Nat):Int)≤(k:Int)))=true) (c:(decide ((k:Int)<(((ν s):Nat):Int)))=true) (a:lit true (decide ((k:Int)<(((ν s):Nat):Int)))=true):ψ nt f105 (Kt s (k:Int)) (.exit 0) (Kt s (k:Int)):=pJ 105 [] 2 1 (.c h0 (.c b (.c c (.c a .nil)))) (.nil) d
theorem acU {nt:Nat} (a:19≤nt) (s:List UInt8) (k:Nat) (h0:lit false (decide ((k:Int)<(((ν s):Nat):Int)))=true):ψ nt f105 (Kt s (k:Int)) (.exit 0) (Kt s (k:Int)):=pJ 105 [] 2 0 (.k 1 h0 .nil) (.nil) a
theorem aaX (s:List UInt8) (k:Nat) (h0:(decide (((0:Nat):Int)≤(k:Int)))=true) (b:(decide ((k:Int)≤(((ν s):Nat):Int)))=true) (c:(decide ((((ν s):Nat):Int)≤(((ν s):Nat):Int)))=true) (a:LB 19 0 f105 ⟨[(0,.str s),(2,.str []),(3,ω 0),(13,.dead)],[],.dead,[]⟩ (.normal) (Kt s (k:Int))):CO 105 [.str s] (.ret (.str (θ (γ (k:Int)) (ξ (γ (((ν s):Nat):Int)) s)))):=pK [0] 0 0 (.c h0 (.c b (.c c .nil))) (.l a .nil)
def nz:List UInt8→Nat
 | []=>0
 |c::r=>if c=0 then nz r+1 else 0
theorem Wy (s:List UInt8):s.drop (nz s)=s.dropWhile (· ==0):=by
 induction s with
 |nil=>rfl
 |cons c r ih=>
  simp only [nz,Xjs];by_cases h:c=0
  ·subst h;simpa using ih
  ·simp [h]
theorem aeA (s:List UInt8):nz s≤s.length:=by
 induction s with
 |nil=>exact ε _
 |cons c r ih=>simp only [nz,Θ];split<;>omega
def Yx (s:List UInt8) (k:Nat):St:=(Kt s (k:Int))
theorem XY {p r:List UInt8} {c:UInt8} {k:Nat} (h:k=p.length):(p++c::r).getD k 0=c:=by subst h;simp
theorem X8 (c:UInt8):(c.toNat=0)=(c=0):=by
 apply propext;constructor
 ·intro h;apply UInt8.toNat_inj.1;simpa using h
 ·intro h;subst h;rfl
theorem Rw {nt:Nat} (b:19≤nt) (s:List UInt8) (hs:s.length<2^40):∀ (r p:List UInt8),p++r=s→aP prog ap [] nt (aj 0 (ae f105)) (fun _=> .exit 0) (Yx s) (Yx s) p.length (p.length+nz r):=by
 intro r
 induction r with
 |nil=>
  intro p h;have hp:p.length=s.length:=by rw [← h];simp
  refine .done (acU b s p.length ?_);rw [hp,zV];simp [lit]
 | cons c r ih=>
  intro p h;have f:p.length+(r.length+1)=s.length:=by rw [← h];simp
  have d:s.getD p.length 0=c:=by rw [← h];exact XY rfl
  by_cases hc:c=0
  ·have hnext:=ih (p++ [c]) (by simp [h]);rw [ο,List.length_singleton] at hnext;simp only [nz,if_pos hc];rw [show p.length+(nz r+1)=p.length+1+nz r by omega];refine .next ?_ hnext
   have a:=acS b s p.length;have e:c.toNat=0:=by subst hc;rfl
   simp (disch:=first|omega|(simp [gz,iE]<;>omega)) only [aS,d,e,PZ,decide_true,Jn,Wq,IP,zV,Yw,uo] at a;apply a<;>first|exact True.intro|omega|assumption|exact rfl
  ·simp only [nz,if_neg hc,Nat.add_zero];refine .done ?_;have a:=acT b s p.length;have e:¬ c.toNat=0:=by rw [X8];exact hc
   simp (disch:=first|omega|(simp [gz,iE]<;>omega)) only [aS,d,PZ,Jm,Oz,Nw,Wq,IP,zV,Jn] at a;apply a<;>first|exact True.intro|omega|assumption|exact rfl
theorem jC (s:List UInt8) (hs:s.length<2^40):CO 105 [.str s] (.ret (.str (ai (ay s)))):=by
 have b:=aeA s;have h:=aaX s (nz s);simp (disch:=first|omega|(simp [gz,iE]<;>omega)) only [Wq,IP,aS,Xx3,Wy] at h;rw [C9];apply h<;>first|exact True.intro|omega|assumption|exact rfl|skip
 ·refine aP.blk (fun nt a=>Rw a s hs s [] rfl) (by simp) rfl (aJ.of ⟨rfl,rfl,trivial⟩) ?_;rw [Xqj,Φ];exact aJ.refl _
theorem abS (x:Nat) (h0:lit true (decide (((0:Nat):Int)<(x:Int)))=true) (a:CO 105 [.str [φ (γ (δ .u8 (Xxp (x:Int) (2^(min 56 64))))),φ (γ (δ .u8 (Xxp (x:Int) (2^(min 48 64))))),φ (γ (δ .u8 (Xxp (x:Int) (2^(min 40 64))))),φ (γ (δ .u8 (Xxp (x:Int) (2^(min 32 64))))),φ (γ (δ .u8 (Xxp (x:Int) (2^(min 24 64))))),φ (γ (δ .u8 (Xxp (x:Int) (2^(min 16 64))))),φ (γ (δ .u8 (Xxp (x:Int) (2^(min 8 64))))),φ (γ (δ .u8 (Xxp (x:Int) (2^(min 0 64)))))]] (.ret (.str (ai (ay [φ (γ (δ .u8 (Xxp (x:Int) (2^(min 56 64))))),φ (γ (δ .u8 (Xxp (x:Int) (2^(min 48 64))))),φ (γ (δ .u8 (Xxp (x:Int) (2^(min 40 64))))),φ (γ (δ .u8 (Xxp (x:Int) (2^(min 32 64))))),φ (γ (δ .u8 (Xxp (x:Int) (2^(min 24 64))))),φ (γ (δ .u8 (Xxp (x:Int) (2^(min 16 64))))),φ (γ (δ .u8 (Xxp (x:Int) (2^(min 8 64))))),φ (γ (δ .u8 (Xxp (x:Int) (2^(min 0 64)))))]))))):CO 65 [ω (x:Int)] (.ret (.str (ai (ay [φ (γ (δ .u8 (Xxp (x:Int) (2^(min 56 64))))),φ (γ (δ .u8 (Xxp (x:Int) (2^(min 48 64))))),φ (γ (δ .u8 (Xxp (x:Int) (2^(min 40 64))))),φ (γ (δ .u8 (Xxp (x:Int) (2^(min 32 64))))),φ (γ (δ .u8 (Xxp (x:Int) (2^(min 24 64))))),φ (γ (δ .u8 (Xxp (x:Int) (2^(min 16 64))))),φ (γ (δ .u8 (Xxp (x:Int) (2^(min 8 64))))),φ (γ (δ .u8 (Xxp (x:Int) (2^(min 0 64)))))])))):=pK [] 19 131067 (.k 9 h0 (.k 6 h0 (.k 6 h0 (.k 6 h0 (.k 6 h0 (.k 6 h0 (.k 6 h0 (.k 5 h0 (.n 1 .nil))))))))) (.c a .nil)
theorem abT (x:Nat) (h0:lit false (decide (((0:Nat):Int)<(x:Int)))=true) (a:CO 105 [.str []] (.ret (.str (ai (ay []))))):CO 65 [ω (x:Int)] (.ret (.str (ai (ay [])))):=pK [] 2 1 (.k 2 h0 (.n 1 .nil)) (.c a .nil)
theorem abQ {nt:Nat} (c:35≤nt) (s:List UInt8) (n k:Nat) (h0:(decide (((0:Nat):Int)≤(k:Int)))=true) (a:(decide ((k:Int)<(((ν s):Nat):Int)))=true) (b:lit true (decide ((k:Int)<(((ν s):Nat):Int)))=true):ψ nt f147 (Pn s (n:Int) (k:Int)) (.normal) (Pn s (δ .i64 ((δ .i64 ((n:Int)*2^(min 8 64)))+(δ .i64 ((Xz0 (Xw0 s (γ (k:Int)) 0):Nat):Int)))) (δ .i64 ((k:Int)+((1:Nat):Int)))):=pJ 147 [] 1 1 (.c h0 (.c a (.k 1 b .nil))) (.nil) c
theorem abR {nt:Nat} (a:35≤nt) (s:List UInt8) (n k:Nat) (h0:lit false (decide ((k:Int)<(((ν s):Nat):Int)))=true):ψ nt f147 (Pn s (n:Int) (k:Int)) (.exit 0) (yH (ω (n:Int))):=pJ 147 [] 1 0 (.c h0 .nil) (.nil) a
theorem XG (s:List UInt8) (n:Nat) (h0:lit false (decide (((127:Nat):Int)<((Xz0 (Xw0 (ai (ay s)) 0 0):Nat):Int)))=true) (d:(decide (((0:Nat):Int)<(((ν (ai (ay s))):Nat):Int)))=true) (e:lit true ((((ν (ai (ay s))):Nat):Int)==((8:Nat):Int))=true) (a:lit false (decide (((8:Nat):Int)<(((ν (ai (ay s))):Nat):Int)))=true) (b:CO 105 [.str s] (.ret (.str (ai (ay s))))) (c:LB 35 0 f147 (aak (ai (ay s)) (decide (((127:Nat):Int)<((Xz0 (Xw0 (ai (ay s)) 0 0):Nat):Int)))) (.normal) (yH (ω (n:Int)))):CO 147 [.str s] (.ret (.tup [ω (n:Int),.bool true])):=pK [0] 3 2 (.c h0 (.k 1 d (.c e (.c a .nil)))) (.l c (.c b .nil))
theorem XH (s:List UInt8) (n:Nat) (h0:lit false ((((ν (ai (ay s))):Nat):Int)==((8:Nat):Int))=true) (c:lit false (decide (((8:Nat):Int)<(((ν (ai (ay s))):Nat):Int)))=true) (a:CO 105 [.str s] (.ret (.str (ai (ay s))))) (b:LB 35 0 f147 (aak (ai (ay s)) false) (.normal) (yH (ω (n:Int)))):CO 147 [.str s] (.ret (.tup [ω (n:Int),.bool true])):=pK [0] 3 0 (.k 1 h0 (.c c .nil)) (.l b (.c a .nil))
theorem ahs (s:List UInt8) (n b:Nat) (h0:lit false (decide ((b:Int)<(((ν (ai (ay s))):Nat):Int)))=true) (c:CO 105 [.str s] (.ret (.str (ai (ay s))))) (a:CO 147 [.str s] (.ret (.tup [ω (n:Int),.bool true]))):CO 106 [.str s,ω (b:Int)] (.ret (.tup [ω (n:Int),.bool true])):=pK [] 1 0 (.c h0 .nil) (.c a (.c c .nil))
theorem ae2 (s:List UInt8) (h0:lit true ((((ν s):Nat):Int)==((0:Nat):Int))=true):CO 160 [.str s] (.ret (.bool true)):=pK [] 1 1 (.c h0 .nil) (.nil)
theorem ae3 (s:List UInt8) (h0:(decide (((0:Nat):Int)<(((ν s):Nat):Int)))=true) (a:lit false ((((ν s):Nat):Int)==((0:Nat):Int))=true):CO 160 [.str s] (.ret (.bool (!(((Xz0 (Xw0 s 0 0):Nat):Int)==((0:Nat):Int))))):=pK [] 1 0 (.k 1 h0 (.c a .nil)) (.nil)
theorem Xw (s t:List UInt8) (h0:lit true (decide ((((ν (ai (ay s))):Nat):Int)<(((ν (ai (ay t))):Nat):Int)))=true) (c:lit true (!((((ν (ai (ay s))):Nat):Int)==(((ν (ai (ay t))):Nat):Int)))=true) (b:CO 105 [.str s] (.ret (.str (ai (ay s))))) (a:CO 105 [.str t] (.ret (.str (ai (ay t))))):CO 143 [.str s,.str t] (.ret (ω (-1))):=pK [] 2 3 (.c h0 (.c c .nil)) (.c a (.c b .nil))
theorem Xx (s t:List UInt8) (h0:lit false (decide ((((ν (ai (ay s))):Nat):Int)<(((ν (ai (ay t))):Nat):Int)))=true) (c:lit true (!((((ν (ai (ay s))):Nat):Int)==(((ν (ai (ay t))):Nat):Int)))=true) (b:CO 105 [.str s] (.ret (.str (ai (ay s))))) (a:CO 105 [.str t] (.ret (.str (ai (ay t))))):CO 143 [.str s,.str t] (.ret (ω 1)):=pK [] 2 1 (.c h0 (.c c .nil)) (.c a (.c b .nil))
theorem Xy (s t:List UInt8) (h0:lit true (fU (ai (ay s)) (ai (ay t)))=true) (c:lit false (!((((ν (ai (ay s))):Nat):Int)==(((ν (ai (ay t))):Nat):Int)))=true) (b:CO 105 [.str s] (.ret (.str (ai (ay s))))) (a:CO 105 [.str t] (.ret (.str (ai (ay t))))):CO 143 [.str s,.str t] (.ret (ω (-1))):=pK [] 2 2 (.c h0 (.c c .nil)) (.c a (.c b .nil))
theorem Xz (s t:List UInt8) (h0:lit true (!(fU (ai (ay s)) (ai (ay t))||(ai (ay s))==(ai (ay t))))=true) (c:lit false (fU (ai (ay s)) (ai (ay t)))=true) (d:lit false (!((((ν (ai (ay s))):Nat):Int)==(((ν (ai (ay t))):Nat):Int)))=true) (b:CO 105 [.str s] (.ret (.str (ai (ay s))))) (a:CO 105 [.str t] (.ret (.str (ai (ay t))))):CO 143 [.str s,.str t] (.ret (ω 1)):=pK [] 3 4 (.c h0 (.c c (.c d .nil))) (.c a (.c b .nil))
theorem XB (s t:List UInt8) (h0:lit false (!(fU (ai (ay s)) (ai (ay t))||(ai (ay s))==(ai (ay t))))=true) (c:lit false (fU (ai (ay s)) (ai (ay t)))=true) (d:lit false (!((((ν (ai (ay s))):Nat):Int)==(((ν (ai (ay t))):Nat):Int)))=true) (b:CO 105 [.str s] (.ret (.str (ai (ay s))))) (a:CO 105 [.str t] (.ret (.str (ai (ay t))))):CO 143 [.str s,.str t] (.ret (ω 0)):=pK [] 3 0 (.c h0 (.c c (.c d .nil))) (.c a (.c b .nil))
theorem F5 (l:List UInt8) (c:UInt8):ay (l++ [c])=ay l*256+c.toNat:=by
 unfold ay;rw [List.foldl_append];rfl
theorem Kz {x:Nat} (h:x<256):(φ x).toNat=x:=by
 rw [Xvj];exact Xjw h
theorem mf (x:Nat) (c:x<9223372036854775808):CO 65 [ω (x:Int)] (.ret (.str (ai x))):=by
 rcases Xxg x with rfl|h0
 ·exact abT 0 rfl (jC [] (by simp))
 ·have h:=abS x;have e:∀ k,γ (δ .u8 (Xxp (x:Int) (2^k)))=x / 2^k % 256:=by
   intro k;rw [acR,w8u,aS]
  simp only [show min 56 64=56 from rfl,show min 48 64=48 from rfl,show min 40 64=40 from rfl,show min 32 64=32 from rfl,show min 24 64=24 from rfl,show min 16 64=16 from rfl,show min 8 64=8 from rfl,show min 0 64=0 from rfl,e] at h;have a:=jC [φ (x / 2^56 % 256),φ (x / 2^48 % 256),φ (x / 2^40 % 256),φ (x / 2^32 % 256),φ (x / 2^24 % 256),φ (x / 2^16 % 256),φ (x / 2^8 % 256),φ (x / 2^0 % 256)] (by simp);have b:ay [φ (x / 2^56 % 256),φ (x / 2^48 % 256),φ (x / 2^40 % 256),φ (x / 2^32 % 256),φ (x / 2^24 % 256),φ (x / 2^16 % 256),φ (x / 2^8 % 256),φ (x / 2^0 % 256)]=x:=by
   have t:∀ y,(φ (y % 256)).toNat=y % 256:=fun y=>Kz (Xvq _ (by omega))
   simp only [ay,Xqy,List.foldl_nil,t];omega
  rw [b] at a h;apply h
  ·rw [zV];exact Yq0 h0
  ·exact a
def YV (s:List UInt8) (k:Nat):St:=(Pn s ((ay (s.take k):Nat):Int) (k:Int))
def LG (s:List UInt8) (k:Nat):St:=(yH (ω ((ay (s.take k):Nat):Int)))
theorem Ee {s:List UInt8} {k:Nat} (h:k<s.length):ay (s.take (k+1))=ay (s.take k)*256+(s.getD k 0).toNat:=by
 rw [List.take_add_one,ζ h,π,ζ h];exact F5 _ _
theorem Ik (s:List UInt8) (k:Nat):ay (s.take k)≤ay s:=by
 rcases Xvy k s.length with h|h
 ·have e:s=s.take k++s.drop k:=(List.take_append_drop k s).symm;have:∀ (b a:List UInt8),ay a≤ay (a++b):=by
   intro b
   induction b with
   |nil=>intro a;simp
   |cons c r ih=>
    intro a;have d:=ih (a++ [c]);rw [F5,Ξ] at d;simp only [List.cons_append,μ] at d;omega
  calc ay (s.take k)≤ay (s.take k++s.drop k):=this _ _
   _=ay s:=by rw [← e]
 ·rw [τ h];exact ε _
theorem Tm {nt:Nat} (f:35≤nt) (s:List UInt8) (hs:s.length<2^40) (o:ay s<9223372036854775808):∀ (d k:Nat),k+d=s.length→aP prog ap [] nt (aj 0 (ae f147)) (fun _=> .exit 0) (YV s) (LG s) k s.length:=by
 intro d
 induction d with
 |zero=>
  intro k m;have e:k=s.length:=by omega
  subst e;exact .done (abR f s _ _ (by rw [zV];simp [lit]))
 | succ d ih=>
  intro k m;have b:k<s.length:=by omega
  refine .next ?_ (ih (k+1) (by omega))
  have a:=abQ f s (ay (s.take k)) k;rw [aS] at a;have h:=Ik s (k+1);have g:=Ee b;have n:(s.getD k 0).toNat<256:=UInt8.toNat_lt _;unfold YV;rw [g];rw [g] at h;generalize (s.getD k 0).toNat=c at*
  generalize ay (s.take k)=v at*
  have j:δ .i64 ((v:Int)*2^(min 8 64))=((v*256:Nat):Int):=by
   rw [show min 8 64=8 from rfl,dZ]<;>omega
  have l:(((v*256:Nat):Int))+(c:Int)=((v*256+c:Nat):Int):=by omega
  have i:δ .i64 (c:Int)=(c:Int):=uo (by omega);rw [i,j,l,uo (by omega)] at a;simp (disch:=first|omega|(simp [gz,iE]<;>omega)) only [Wq,IP,zV,Jn,Yw,uo] at a;apply a<;>first|exact True.intro|omega|assumption|exact rfl
theorem xg {x k:Nat}:(ai x).length≤k↔x<2^(8*k):=by
 constructor
 ·intro h;have a:=jL (ai x);rw [bH] at a;exact Xqd a (Xq4 (by omega) (by omega))
 ·exact iU
theorem abm (s:List UInt8) (hs:s.length<2^40) (h:ay s<9223372036854775808):CO 147 [.str s] (.ret (.tup [ω ((ay s:Nat):Int),.bool true])):=by
 have j:=jC s hs;have a:=bH (ay s);have k:(ai (ay s)).length≤8:=iU (Xqd h (by decide));have hloop:=fun nt (e:35≤nt)=>Tm e (ai (ay s)) (by omega) (by rw [a];exact h) (ai (ay s)).length 0 (by omega)
 have hless:aJ (yH (ω ((ay s:Nat):Int))) (LG (ai (ay s)) (ai (ay s)).length):=by
  unfold LG;rw [Xx3,a];exact aJ.refl _
 have i:=XG s (ay s);have g:=XH s (ay s);have d:(ai (ay s)).length=8→((ai (ay s)).getD 0 0).toNat≤127:=by
  intro b;cases e:ai (ay s) with
  |nil=>rw [e] at b;cases b
  |cons c r=>
   rw [e] at b a;rw [kD] at a;have:r.length=7:=by simpa using b
   rw [this,show 256^7=72057594037927936 from rfl] at a;simp only [Xvd];omega
 generalize ai (ay s)=t at*
 by_cases b:t.length=8
 ·have f:=d b;simp (disch:=first|omega|(simp [gz,iE]<;>omega)) only [zV,Jm,Oz,Nw,b,IP,PZ,decide_true,Jn] at i;apply i<;>first|exact True.intro|omega|assumption|exact rfl|skip
  exact aP.blk hloop (by simp) rfl (aJ.of ⟨rfl,rfl,rfl,trivial⟩) hless
 ·simp (disch:=first|omega|(simp [gz,iE]<;>omega)) only [PZ,b,decide_false,Jm,Xvb,zV,Oz,Nw] at g;apply g<;>first|exact True.intro|omega|assumption|exact rfl|skip
  exact aP.blk hloop (by simp) rfl (aJ.of ⟨rfl,rfl,rfl,trivial⟩) hless
theorem oV (s:List UInt8) (b:Nat) (hs:s.length<2^40) (d:b≤7) (c:ay s<2^(8*b)):CO 106 [.str s,ω (b:Int)] (.ret (.tup [ω ((ay s:Nat):Int),.bool true])):=by
 have h:=ahs s (ay s) b;have a:ay s<9223372036854775808:=Xqd c (Xqh (Xq4 (by omega) (show 8*b≤63 by omega)) (by decide));have e:=xg.2 c;simp (disch:=first|omega|(simp [gz,iE]<;>omega)) only [zV,Jm,Oz,Nw] at h;exact h (by omega) (jC s hs) (abm s hs a)
theorem UD (s:List UInt8):CO 160 [.str s] (.ret (.bool (nR s))):=by
 cases s with
 |nil=>exact ae2 [] rfl
 | cons c r=>
  have h:=ae3 (c::r);have e:(!((((c::r).getD 0 0).toNat:Int)==((0:Nat):Int)))=nR (c::r):=by
   simp only [Xvd,nR];by_cases hc:c=0
   ·subst hc;rfl
   ·have:c.toNat ≠ 0:=fun h=>hc (by apply UInt8.toNat_inj.1;simpa using h)
    have a:((c.toNat:Int)==((0:Nat):Int))=false:=by simp;omega
    rw [a];simp [hc]
  rw [e] at h;apply h
  ·simp
  ·simp [lit];omega
theorem yT:∀ (a b:List UInt8),a.length=b.length→fU a b=decide (ay a<ay b)
 | [],[],_=>rfl
 | [],_::_,h=>by simp at h
 |_::_,[],h=>by simp at h
 | x::a,y::b,h=>by
  have f:a.length=b.length:=by simpa using h
  have j:=yT a b f;have g:=jL a;have k:=jL b;simp only [fU,j];rw [kD,kD,f,show (256:Nat)=2^8 from rfl,← Xzz];rw [f] at g;have e:decide (x<y)=decide (x.toNat<y.toNat):=by simp [UInt8.lt_iff_toNat_lt]
  have c:(x==y)=decide (x.toNat=y.toNat):=by
   by_cases h:x=y
   ·subst h;simp
   ·have:x.toNat ≠ y.toNat:=fun i=>h (UInt8.toNat_inj.1 i)
    simp [h,this]
  rw [e,c];generalize 2^(8*b.length)=M at*
  generalize ay a=u at*
  generalize ay b=v at*
  generalize x.toNat=p at*
  generalize y.toNat=q at*
  rcases Xx9 p q with h3|h3|h3
  ·have d:(p+1)*M≤q*M:=Xjk _ h3;rw [Xjh,Xkb] at d;rw [Yq0 h3,Yq0 (show p*M+u<q*M+v by omega)];rfl
  ·subst h3;rw [Yq1 (Xjg _),Yq0 rfl];simp
  ·have d:(q+1)*M≤p*M:=Xjk _ h3;rw [Xjh,Xkb] at d;rw [Yq1 (show ¬ p<q by omega),Yq1 (show ¬ p=q by omega),Yq1 (show ¬ p*M+u<q*M+v by omega)];rfl
theorem zy {x y:Nat} (h:(ai x).length<(ai y).length):x<y:=by
 rcases Xvy x y with h1|h1
 ·exact h1
 ·have a:y≤ay (ai x):=by rw [bH];exact h1
  have:=p_ a;omega
theorem Uu (s t:List UInt8) (hs:s.length<2^40) (k:t.length<2^40):CO 143 [.str s,.str t] (.ret (ω (sgn (ay s) (ay t)))):=by
 have c:=jC s hs;have d:=jC t k;have j:=bH (ay s);have g:=bH (ay t);unfold sgn;by_cases hl:(ai (ay s)).length=(ai (ay t)).length
 ·have a:=yT _ _ hl;rw [j,g] at a;have f:(ai (ay s)==ai (ay t))=decide (ay s=ay t):=by
   by_cases h:ay s=ay t
   ·rw [h];simp
   ·have:ai (ay s) ≠ ai (ay t):=fun i=>h (TZ i)
    simp [h,this]
  have b:lit false (!((((ai (ay s)).length:Nat):Int)==(((ai (ay t)).length:Nat):Int)))=true:=by rw [hl];simp [lit]
  by_cases h1:ay s<ay t
  ·rw [if_pos h1];exact Xy s t (by rw [a,Yq0 h1];rfl) b c d
  ·rw [if_neg h1];by_cases e:ay t<ay s
   ·rw [if_pos e];exact Xz s t (by rw [a,f,Yq1 h1,Yq1 (show ¬ ay s=ay t by omega)];rfl) (by rw [a,Yq1 h1];rfl) b c d
   ·rw [if_neg e];exact XB s t (by rw [a,f,Yq1 h1,Yq0 (show ay s=ay t by omega)];rfl) (by rw [a,Yq1 h1];rfl) b c d
 ·have b:lit true (!((((ai (ay s)).length:Nat):Int)==(((ai (ay t)).length:Nat):Int)))=true:=by rw [PZ,Yq1 hl];rfl
  by_cases h1:(ai (ay s)).length<(ai (ay t)).length
  ·rw [if_pos (zy h1)];exact Xw s t (by rw [zV,Yq0 h1];rfl) b c d
  ·have e:=zy (show (ai (ay t)).length<(ai (ay s)).length by omega);rw [if_neg (by omega),if_pos e];exact Xx s t (by rw [zV,Yq1 h1];rfl) b c d
theorem ajQ (s t:List UInt8) (x y q r:Nat) (h0:(!((y:Int)==((0:Nat):Int)))=true) (c:lit false ((((ν (ai (ay t))):Nat):Int)==((0:Nat):Int))=true) (b:CO 105 [.str t] (.ret (.str (ai (ay t))))) (a:CO 106 [.str s,ω 7] (.ret (.tup [ω (x:Int),.bool true]))) (f:CO 106 [.str (ai (ay t)),ω 7] (.ret (.tup [ω (y:Int),.bool true]))) (d:CO 65 [ω (δ .i64 (Xxo (x:Int) (y:Int)))] (.ret (.str (ai q)))) (e:CO 65 [ω (Xq2 (x:Int) (y:Int))] (.ret (.str (ai r)))):CO 146 [.str s,.str t] (.ret (.tup [.str (ai q),.str (ai r),.bool true])):=pK [0] 3 6 (.c h0 (.c h0 (.k 2 c .nil))) (.c e (.c d (.c f (.c a (.c b .nil)))))
theorem HY (s t:List UInt8) (hs:s.length≤7) (r:t.length≤7) (h0:0<ay t):CO 146 [.str s,.str t] (.ret (.tup [.str (ai (ay s / ay t)),.str (ai (ay s % ay t)),.bool true])):=by
 have q:=jC t (by omega);have b:=bH (ay t);have l:(ai (ay t)).length≤t.length:=p_ (ε _);have e:ai (ay t) ≠ []:=fun h=>by have:=nH.1 h;omega
 have f:((ai (ay t)).length=0)=False:=by simp;exact e
 have d:ay s<2^(8*7):=Xqd (jL s) (Xq4 (by omega) (by omega));have c:ay t<2^(8*7):=Xqd (jL t) (Xq4 (by omega) (by omega));have i:=oV s 7 (by omega) (by omega) d;have a:=oV (ai (ay t)) 7 (by omega) (by omega) (by rw [b];exact c);rw [b] at a;have k:ay s<9223372036854775808:=Xqd d (by decide);have j:ay t<9223372036854775808:=Xqd c (by decide);have p:=Xw1 (ay s) (ay t);have o:=Nat.mod_le (ay s) (ay t);have m:=mf (ay s / ay t) (by omega);have n:=mf (ay s % ay t) (by omega);have h:=ajQ s t (ay s) (ay t) (ay s / ay t) (ay s % ay t);have g:(ay t=0)=False:=by simp;omega
 clear d c hs;simp (disch:=first|omega|(simp [gz,iE]<;>omega)) only [PZ,g,decide_false,Xvb,f,Jm,aaU,uo,aaV] at h;apply h<;>first|exact True.intro|omega|assumption|exact rfl
theorem aeY {nt:Nat} (b:25≤nt) (s t q r:List UInt8) (h0:lit true (decide (((0:Nat):Int)<(((ν t):Nat):Int)))=true) (a:CO 146 [.str s,.str t] (.ret (.tup [.str q,.str r,.bool true]))):ψ nt f145 (Po s t) (.normal) (Po t r):=pJ 145 [] 1 1 (.c h0 .nil) (.c a .nil) b
theorem aeZ {nt:Nat} (a:25≤nt) (s t q r:List UInt8) (h0:lit false (decide (((0:Nat):Int)<(((ν t):Nat):Int)))=true):ψ nt f145 (Po s t) (.exit 0) ⟨[(0,.str s)],[],.dead,[]⟩:=pJ 145 [] 1 0 (.c h0 .nil) (.nil) a
theorem aeW (s t g:List UInt8) (b:CO 105 [.str s] (.ret (.str (ai (ay s))))) (a:CO 105 [.str t] (.ret (.str (ai (ay t))))) (c:LB 25 0 f145 ⟨[(0,.str (ai (ay s))),(1,.str (ai (ay t))),(4,.str []),(6,.dead),(14,.dead)],[],.dead,[]⟩ (.normal) ⟨[(0,.str g)],[],.dead,[]⟩):CO 145 [.str s,.str t] (.ret (.str g)):=pK [0] 0 0 .nil (.l c (.c a (.c b .nil)))
def aeX (p:Nat × Nat):St:=(Po (ai p.1) (ai p.2))
def Y5 (x:Nat):St:=⟨[(0,.str (ai x))],[],.dead,[]⟩
theorem QI {nt:Nat} (e:25≤nt):∀ (n y x:Nat),y<n→(ai x).length≤7→(ai y).length≤7→aP prog ap [] nt (aj 0 (ae f145)) (fun _=> .exit 0) aeX Y5 (x,y) (Xji x y):=by
 intro n
 induction n with
 |zero=>intro y x h;omega
 | succ n ih=>
  intro y x h f d;rcases Xxg y with rfl|h0
  ·rw [Nat.gcd_zero_right];refine .done ?_;unfold aeX Y5;rw [iK];exact aeZ e (ai x) [] [] [] rfl
  ·have hm:=Xvq x h0;have g:(ai (x % y)).length≤7:=by
    have:x % y≤ay (ai y):=by rw [bH];omega
    have:=p_ this;omega
   have hnext:=ih (x % y) y (by omega) d g;rw [show Xji y (x % y)=Xji x y by rw [Xk7 y,← Nat.gcd_rec,Xk7]] at hnext;refine .next ?_ hnext
   have b:=HY (ai x) (ai y) f d (by rw [bH];exact h0);rw [bH,bH] at b;have c:ai y ≠ []:=fun h=>by have:=nH.1 h;omega
   have a:0<(ai y).length:=by
    cases b:ai y with
    |nil=>exact absurd b c
    |cons _ _=>simp
   exact aeY e (ai x) (ai y) _ _ (by rw [zV,Jn];exact Yq0 a) b
theorem OX (s t:List UInt8) (hs:s.length≤7) (c:t.length≤7):CO 145 [.str s,.str t] (.ret (.str (ai (Xji (ay s) (ay t))))):=by
 have d:(ai (ay s)).length≤s.length:=p_ (ε _);have b:(ai (ay t)).length≤t.length:=p_ (ε _);exact aeW s t _ (jC s (by omega)) (jC t (by omega)) (aP.blk (fun nt a=>QI a (ay t+1) (ay t) (ay s) (by omega) (by omega) (by omega)) (by simp) rfl (aJ.of ⟨rfl,rfl,trivial⟩) (aJ.of ⟨rfl,trivial⟩))
theorem aeJ (a:Bool) (n d:List UInt8) (g:Nat) (h0:lit true (!(nR n))=true) (c:CO 160 [.str n] (.ret (.bool (nR n)))) (b:CO 160 [.str d] (.ret (.bool (nR d)))):CO 114 [Ω a n d] (.ret (.bool false)):=pK [] 3 7 (.k 2 h0 (.n 2 .nil)) (.c b (.c c .nil))
theorem aeK (a:Bool) (n d:List UInt8) (g:Nat) (h0:lit true (!(nR d))=true) (e:lit false (!(nR n))=true) (c:CO 160 [.str n] (.ret (.bool (nR n)))) (b:CO 160 [.str d] (.ret (.bool (nR d)))):CO 114 [Ω a n d] (.ret (.bool false)):=pK [] 3 6 (.k 1 h0 (.c e (.n 2 .nil))) (.c b (.c c .nil))
theorem aeL (a:Bool) (n d:List UInt8) (g:Nat) (h0:lit true (d== [])=true) (e:lit false (!(nR d))=true) (f:lit false (!(nR n))=true) (c:CO 160 [.str n] (.ret (.bool (nR n)))) (b:CO 160 [.str d] (.ret (.bool (nR d)))):CO 114 [Ω a n d] (.ret (.bool false)):=pK [] 3 4 (.c h0 (.k 1 e (.c f (.n 2 .nil)))) (.c b (.c c .nil))
theorem aeM (a:Bool) (n d:List UInt8) (g:Nat) (h0:lit true (!a)=true) (h:lit true (n== [])=true) (i:lit false (d== [])=true) (e:lit false (!(nR d))=true) (b:lit false (!(nR n))=true) (f:CO 160 [.str n] (.ret (.bool (nR n)))) (c:CO 160 [.str d] (.ret (.bool (nR d)))) (k:CO 65 [ω 1] (.ret (.str (ai 1)))) (j:CO 143 [.str d,.str (ai 1)] (.ret (ω (sgn (ay d) (ay (ai 1)))))):CO 114 [Ω a n d] (.ret (.bool ((sgn (ay d) (ay (ai 1)))==((0:Nat):Int)))):=pK [] 5 24 (.k 1 h0 (.k 1 h (.k 1 i (.k 1 e (.c b (.n 2 .nil)))))) (.c j (.c k (.c c (.c f .nil))))
theorem aeN (a:Bool) (n d:List UInt8) (g:Nat) (h0:lit false (!a)=true) (h:lit true (n== [])=true) (i:lit false (d== [])=true) (e:lit false (!(nR d))=true) (b:lit false (!(nR n))=true) (f:CO 160 [.str n] (.ret (.bool (nR n)))) (c:CO 160 [.str d] (.ret (.bool (nR d)))):CO 114 [Ω a n d] (.ret (.bool false)):=pK [] 5 8 (.c h0 (.k 1 h (.k 1 i (.k 1 e (.c b (.n 2 .nil)))))) (.c c (.c f .nil))
theorem aeO (a:Bool) (n d:List UInt8) (g:Nat) (h0:lit false (n== [])=true) (f:lit false (d== [])=true) (h:lit false (!(nR d))=true) (c:lit false (!(nR n))=true) (e:CO 160 [.str n] (.ret (.bool (nR n)))) (b:CO 160 [.str d] (.ret (.bool (nR d)))) (k:CO 145 [.str n,.str d] (.ret (.str (ai g)))) (i:CO 65 [ω 1] (.ret (.str (ai 1)))) (j:CO 143 [.str (ai g),.str (ai 1)] (.ret (ω (sgn (ay (ai g)) (ay (ai 1)))))):CO 114 [Ω a n d] (.ret (.bool ((sgn (ay (ai g)) (ay (ai 1)))==((0:Nat):Int)))):=pK [] 4 0 (.k 2 h0 (.k 1 f (.k 1 h (.c c (.n 2 .nil))))) (.c j (.c i (.c k (.c b (.c e .nil)))))
theorem aeF (a:Bool) (n d:List UInt8) (g:Nat) (h0:lit true (n== [])=true) (b:CO 65 [ω 1] (.ret (.str (ai 1)))):CO 103 [.bool a,.str n,.str d] (.ret (Ω false [] (ai 1))):=pK [] 1 1 (.k 4 h0 .nil) (.c b .nil)
theorem aeG (a:Bool) (n d:List UInt8) (g:Nat) (h0:lit false (n== [])=true) (c:CO 145 [.str n,.str d] (.ret (.str (ai g)))) (b:CO 146 [.str n,.str (ai g)] (.ret (.tup [.str (ai (ay n / g)),.str (ai (ay n % g)),.bool true]))) (e:CO 146 [.str d,.str (ai g)] (.ret (.tup [.str (ai (ay d / g)),.str (ai (ay d % g)),.bool true]))):CO 103 [.bool a,.str n,.str d] (.ret (Ω a (ai (ay n / g)) (ai (ay d / g)))):=pK [] 1 0 (.k 4 h0 .nil) (.c e (.c b (.c c .nil)))
theorem aeP (a:Bool) (n d:List UInt8) (h0:lit true (!(Fe a n d))=true) (c:CO 114 [Ω a n d] (.ret (.bool (Fe a n d)))) (b:CO 65 [ω 1] (.ret (.str (ai 1)))):CO 102 [Ω a n d] (.ret (Ω false [] (ai 1))):=pK [] 1 1 (.k 4 h0 (.n 3 .nil)) (.c b (.c c .nil))
theorem aeQ (a:Bool) (n d:List UInt8) (h0:lit false (!(Fe a n d))=true) (b:CO 114 [Ω a n d] (.ret (.bool (Fe a n d)))):CO 102 [Ω a n d] (.ret (Ω a n d)):=pK [] 1 0 (.k 7 h0 (.n 3 .nil)) (.c b .nil)
theorem aeH (v:Int) (x z:Nat) (h0:lit true (decide (((0:Nat):Int)≤v))=true) (b:CO 65 [ω v] (.ret (.str (ai z)))) (a:CO 65 [ω 1] (.ret (.str (ai 1)))):CO 25 [ω v] (.ret (Ω false (ai z) (ai 1))):=pK [] 1 1 (.k 4 h0 .nil) (.c a (.c b .nil))
theorem ab1 (s t:List UInt8) (x y z:Nat) (b:CO 106 [.str s,ω 3] (.ret (.tup [ω (x:Int),.bool true]))) (a:CO 106 [.str t,ω 4] (.ret (.tup [ω (y:Int),.bool true]))) (c:CO 65 [ω (δ .i64 ((x:Int)*(y:Int)))] (.ret (.str (ai z)))):CO 104 [.str s,.str t] (.ret (.str (ai z))):=pK [] 2 3 (.n 2 .nil) (.c c (.c a (.c b .nil)))
theorem Ph {x:Nat}:((sgn x (ay (ai 1)))==((0:Nat):Int))=decide (x=1):=by
 rw [bH];unfold sgn;rcases Xx9 x 1 with h|h|h
 ·rw [if_pos h,Yq1 (by omega)];rfl
 ·rw [if_neg (by omega),if_neg (by omega),Yq0 h];rfl
 ·rw [if_neg (by omega),if_pos h,Yq1 (by omega)];rfl
theorem Me (a:Bool) (n d:List UInt8) (t:n.length≤7) (x:d.length≤7):CO 114 [Ω a n d] (.ret (.bool (Fe a n d))):=by
 have i:=UD n;have j:=UD d;have q:=mf 1 (by omega);have v:(ai 1).length≤1:=iU (by omega);have u:=Uu d (ai 1) (by omega) (by omega);have w:=OX n d t x;have l:=@Ph (ay d);cases b:nR n with
 |false=>
  have e:Fe a n d=false:=by unfold Fe;rw [b];rfl
  rw [e];exact aeJ a n d 0 (by rw [b];rfl) i j
 | true=>
  cases c:nR d with
  |false=>
   have e:Fe a n d=false:=by unfold Fe;rw [c];simp
   rw [e];exact aeK a n d 0 (by rw [c];rfl) (by rw [b];rfl) i j
  | true=>
   have r:=(CZ n).1 b;have s:=(CZ d).1 c;by_cases hd0:d= []
   ·have e:Fe a n d=false:=by
     subst hd0;unfold Fe;simp [show ay []=0 from rfl]
    rw [e];exact aeL a n d 0 (by rw [hd0];rfl) (by rw [c];rfl) (by rw [b];rfl) i j
   ·have k:0<ay d:=by
     rcases Xxg (ay d) with h|h
     ·rw [h,iK] at s;exact absurd s.symm hd0
     ·exact h
    have g:(d== [])=false:=by simpa using hd0
    by_cases hn0:n= []
    ·have f:(n== [])=true:=by simpa using hn0
     have p:ay n=0:=by rw [hn0];rfl
     cases a with
     | false=>
      have h:=aeM false n d 0 rfl (by rw [f];rfl) (by rw [g];rfl) (by rw [c];rfl) (by rw [b];rfl) i j q u;rw [l] at h;have e:Fe false n d=decide (ay d=1):=by
       rw [Xxh,tH,p,Xvr];simp [b,c];omega
      rw [e];exact h
     | true=>
      have h:=aeN true n d 0 rfl (by rw [f];rfl) (by rw [g];rfl) (by rw [c];rfl) (by rw [b];rfl) i j;have e:Fe true n d=false:=by
       rw [Bool.eq_false_iff];intro h;have:=(tH.1 h).2.2.2.2 rfl;omega
      rw [e];exact h
    ·have f:(n== [])=false:=by simpa using hn0
     have m:0<ay n:=by
      rcases Xxg (ay n) with h|h
      ·rw [h,iK] at r;exact absurd r.symm hn0
      ·exact h
     have y:(ai (Xji (ay n) (ay d))).length≤d.length:=p_ (Xwr _ k);have o:=Uu (ai (Xji (ay n) (ay d))) (ai 1) (by omega) (by omega);have h:=aeO a n d (Xji (ay n) (ay d)) (by rw [f];rfl) (by rw [g];rfl) (by rw [c];rfl) (by rw [b];rfl) i j w q o;rw [Ph,bH] at h;have e:Fe a n d=decide (Xji (ay n) (ay d)=1):=by
      rw [Xxh,tH];simp [b,c,k,m]
     rw [e];exact h
structure RQ where
 neg:Bool
 n:Nat
 d:Nat
def RQ.ok (q:RQ):Prop:=0<q.d∧Xji q.n q.d=1∧(q.neg=true→0<q.n)
def qA (q:RQ):AV:= .agg [.bool q.neg,.str (ai q.n),.str (ai q.d)]
def q0:RQ:=⟨false,0,1⟩
def G7 (neg:Bool) (n d:Nat):RQ:=⟨neg && decide (0<n),n / Xji n d,d / Xji n d⟩
def vQ (neg:Bool) (n d:List UInt8):RQ:=if Fe neg n d=true then ⟨neg,ay n,ay d⟩ else q0
theorem aeE:q0.ok:=⟨by decide,by decide,by simp [q0]⟩
theorem WY {a:Bool} {n d:List UInt8} (h:Fe a n d=true):Ω a n d=qA ⟨a,ay n,ay d⟩:=by
 obtain ⟨b,c,_⟩:=tH.1 h;unfold qA;rw [(CZ n).1 b,(CZ d).1 c]
theorem VJ (a:Bool) (n d:List UInt8):(vQ a n d).ok:=by
 unfold vQ;split
 ·rename_i h;obtain ⟨_,_,c,b,e⟩:=tH.1 h;exact ⟨c,b,e⟩
 ·exact aeE
theorem Xc {b:Bool} {n d:Nat} (h:0<d):(G7 b n d).ok:=by
 have a:0<Xji n d:=Xwc _ h;refine ⟨Yqg (Xwr _ h) a, ?_, ?_⟩
 ·show Xji (n / Xji n d) (d / Xji n d)=1;rw [Nat.gcd_div (Nat.gcd_dvd_left _ _) (Nat.gcd_dvd_right _ _),Xk8 a]
 ·intro c;have:0<n:=by simp [G7] at c;exact c.2
  exact Yqg (Nat.gcd_le_left _ this) a
theorem xq (a:Bool) (n d:List UInt8) (e:n.length≤7) (f:d.length≤7):CO 102 [Ω a n d] (.ret (qA (vQ a n d))):=by
 have c:=Me a n d e f;unfold vQ;cases b:Fe a n d with
 |false=>
  have h:=aeP a n d (by rw [b];rfl) c (mf 1 (by omega));rw [if_neg (by simp)];unfold qA q0;rw [iK];exact h
 |true=>
  have h:=aeQ a n d (by rw [b];rfl) c;rw [if_pos rfl,← WY b];exact h
theorem JE (a:Bool) (n d:Nat) (g:(ai n).length≤7) (i:(ai d).length≤7) (h0:0<d):CO 103 [.bool a,.str (ai n),.str (ai d)] (.ret (qA (G7 a n d))):=by
 have f:=OX (ai n) (ai d) g i;rw [bH,bH] at f;have b:0<Xji n d:=Xwc _ h0;have k:(ai (Xji n d)).length≤(ai d).length:=p_ (by rw [bH];exact Xwr _ h0);have e:=HY (ai n) (ai (Xji n d)) g (by omega) (by rw [bH];exact b);have j:=HY (ai d) (ai (Xji n d)) i (by omega) (by rw [bH];exact b);simp only [bH] at e j;rcases Xxg n with rfl|hp
 ·have h:=aeF a (ai 0) (ai d) 0 (by rw [iK];rfl) (mf 1 (by omega));unfold qA G7;simp only [Xjg,decide_false,Bool.and_false,Xvr,Nat.zero_div,Xk8 h0,iK];rw [iK] at h;exact h
 ·have c:ai n ≠ []:=fun h=>by have:=nH.1 h;omega
  have h:=aeG a (ai n) (ai d) (Xji n d) (by simp [lit,c]);simp only [bH] at h;unfold qA G7;simp only [hp,decide_true,Xzh];exact h f e j
theorem ajP (a:Nat) (b:a<9223372036854775808):CO 25 [ω (a:Int)] (.ret (aeV false a 1)):=
 aeH (a:Int) 0 a (by simp [lit]) (mf a b) (mf 1 (by omega))
theorem TW (s t:List UInt8) (hs:s.length≤3) (d:t.length≤4):CO 104 [.str s,.str t] (.ret (.str (ai (ay s*ay t)))):=by
 have b:ay s<2^(8*3):=Xqd (jL s) (Xq4 (by omega) (by omega));have c:ay t<2^(8*4):=Xqd (jL t) (Xq4 (by omega) (by omega));have s1:=oV s 3 (by omega) (by omega) b;have s2:=oV t 4 (by omega) (by omega) c;have hm:ay s*ay t<9223372036854775808:=Xje (Nat.mul_le_mul (show ay s≤16777215 by omega) (show ay t≤4294967295 by omega)) (by omega);have a:=mf (ay s*ay t) hm;rw [← Ye hm] at a;exact ab1 s t _ _ _ s1 s2 a
theorem aeS (s0 s1:Bool) (d c n1 e:List UInt8) (a b r:RQ) (i:((ai b.n)== [])=false) (g:CO 102 [Ω s0 d c] (.ret (.agg [.bool a.neg,.str (ai a.n),.str (ai a.d)]))) (f:CO 102 [Ω s1 n1 e] (.ret (.agg [.bool b.neg,.str (ai b.n),.str (ai b.d)]))) (h:CO 104 [.str (ai a.n),.str (ai b.d)] (.ret (.str (ai (a.n*b.d))))) (j:CO 104 [.str (ai a.d),.str (ai b.n)] (.ret (.str (ai (a.d*b.n))))) (k:CO 103 [.bool (!(a.neg==b.neg)),.str (ai (a.n*b.d)),.str (ai (a.d*b.n))] (.ret (.agg [.bool r.neg,.str (ai r.n),.str (ai r.d)]))):CO 64 [Ω s0 d c,Ω s1 n1 e] (.ret (.tup [.agg [.bool r.neg,.str (ai r.n),.str (ai r.d)],.bool true])):=pK [] 1 0 (.k 10 (au i) (.n 9 .nil)) (.c k (.c j (.c h (.c f (.c g .nil)))))
def aer (a b:RQ):RQ:=G7 (!(a.neg==b.neg)) (a.n*b.n) (a.d*b.d)
def aeT (a b:RQ):RQ:=G7 (!(a.neg==b.neg)) (a.n*b.d) (a.d*b.n)
theorem TG (x:Nat):x<2^(8*(ai x).length):=xg.1 (ε _)
theorem Ak (x y:Nat):(ai (x*y)).length≤(ai x).length+(ai y).length:=by
 refine iU ?_;rw [Nat.mul_add,Xwi];exact Nat.mul_lt_mul'' (TG x) (TG y)
theorem YY (s:List UInt8):(ai (ay s)).length≤s.length:=iU (jL s)
theorem GZ (s:Bool) (n d:List UInt8):(ai (vQ s n d).n).length≤n.length∧(ai (vQ s n d).d).length≤d.length+1:=by
 unfold vQ;split
 ·exact ⟨YY n,Nat.le_succ_of_le (YY d)⟩
 ·refine ⟨by show (ai 0).length≤_;rw [iK];simp, ?_⟩;show (ai 1).length≤_;have:(ai 1).length≤1:=iU (by decide);omega
theorem OL (x y:Nat) (b:(ai x).length≤3) (a:(ai y).length≤4):CO 104 [.str (ai x),.str (ai y)] (.ret (.str (ai (x*y)))):=by
 have h:=TW (ai x) (ai y) (by omega) (by omega);rw [bH,bH] at h;exact h
theorem Xu (s0 s1:Bool) (d c n1 e:List UInt8) (l:d.length≤3) (r:c.length≤2) (k:n1.length≤3) (j:e.length≤2) (h0:0<(vQ s1 n1 e).n):CO 64 [Ω s0 d c,Ω s1 n1 e] (.ret (.tup [qA (aeT (vQ s0 d c) (vQ s1 n1 e)),.bool true])):=by
 have g:=xq s0 d c (by omega) (by omega);have f:=xq s1 n1 e (by omega) (by omega);obtain ⟨n,q⟩:=GZ s0 d c;obtain ⟨p,s⟩:=GZ s1 n1 e;have i:=VJ s0 d c;generalize vQ s0 d c=a at*
 generalize vQ s1 n1 e=b at*
 have m:=Ak a.n b.d;have o:=Ak a.d b.n;exact aeS s0 s1 d c n1 e a b (aeT a b) (by rw [Yq2];intro h;rw [nH] at h;omega) g f (OL a.n b.d (by omega) (by omega)) (OL a.d b.n (by omega) (by omega)) (JE _ _ _ (by omega) (by omega) (Xkc i.1 h0))
inductive Oq where
 |err (e:Int)
 |val (q:RQ)
theorem aeR (s0 s1:Bool) (d c n1 e:List UInt8) (a b r:RQ) (g:CO 102 [Ω s0 d c] (.ret (.agg [.bool a.neg,.str (ai a.n),.str (ai a.d)]))) (f:CO 102 [Ω s1 n1 e] (.ret (.agg [.bool b.neg,.str (ai b.n),.str (ai b.d)]))) (h:CO 104 [.str (ai a.n),.str (ai b.n)] (.ret (.str (ai (a.n*b.n))))) (i:CO 104 [.str (ai a.d),.str (ai b.d)] (.ret (.str (ai (a.d*b.d))))) (j:CO 103 [.bool (!(a.neg==b.neg)),.str (ai (a.n*b.n)),.str (ai (a.d*b.d))] (.ret (.agg [.bool r.neg,.str (ai r.n),.str (ai r.d)]))):CO 131 [Ω s0 d c,Ω s1 n1 e] (.ret (.agg [.bool r.neg,.str (ai r.n),.str (ai r.d)])):=pK [] 0 0 (.n 18 .nil) (.c j (.c i (.c h (.c f (.c g .nil)))))
theorem Un (s0 s1:Bool) (d c n1 e:List UInt8) (l:d.length≤3) (r:c.length≤2) (k:n1.length≤3) (j:e.length≤2):CO 131 [Ω s0 d c,Ω s1 n1 e] (.ret (qA (aer (vQ s0 d c) (vQ s1 n1 e)))):=by
 have h:=xq s0 d c (by omega) (by omega);have g:=xq s1 n1 e (by omega) (by omega);obtain ⟨n,q⟩:=GZ s0 d c;obtain ⟨p,s⟩:=GZ s1 n1 e;have i:=VJ s0 d c;have f:=VJ s1 n1 e;generalize vQ s0 d c=a at*
 generalize vQ s1 n1 e=b at*
 have m:=Ak a.n b.n;have o:=Ak a.d b.d;exact aeR s0 s1 d c n1 e a b (aer a b) h g (OL a.n b.n (by omega) (by omega)) (OL a.d b.d (by omega) (by omega)) (JE _ _ _ (by omega) (by omega) (Xkc i.1 f.1))
structure Ty where
 tr:Bool
 m:Int
 d:Int
def FY (t:Ty):List AV:= [.bool t.tr,ω t.m,ω t.d]
def sG (m d:Int):Bool:=decide (-3≤m∧m≤3∧ -3≤d∧d≤3)
def kW (t:Ty):Bool:=cond t.tr ((t.m==0) && (t.d==0)) (sG t.m t.d)
theorem UG (t:Ty):CO 171 [.agg [ω t.m,ω t.d]] (.ret (.bool (sG t.m t.d))):=by
 rcases tf (decide ((-3:Int)≤t.m)) with b0|b0
 ·rcases tf (decide (t.m≤((3:Nat):Int))) with b1|b1
  ·rcases tf (decide ((-3:Int)≤t.d)) with b2|b2
   ·have e:sG t.m t.d=(decide (t.d≤((3:Nat):Int))):=by
     unfold sG;simp only [decide_eq_true_eq,decide_eq_false_iff_not,beq_iff_eq,Yq2] at*
     first|omega|(split at b0<;>omega)|(rw [Xxh];simp only [decide_eq_true_eq];first|omega|(split at b0<;>split<;>omega))
    rw [e];exact pK [] 3 7 (.k 1 (ak b2) (.k 1 (ak b1) (.k 1 (ak b0) (.n 1 .nil)))) (.nil)
   ·have e:sG t.m t.d=false:=by
     unfold sG;simp only [decide_eq_true_eq,decide_eq_false_iff_not,beq_iff_eq,Yq2] at*
     first|omega|(split at b0<;>omega)|(rw [Xxh];simp only [decide_eq_true_eq];first|omega|(split at b0<;>split<;>omega))
    rw [e];exact pK [] 3 3 (.c (au b2) (.k 1 (ak b1) (.k 1 (ak b0) (.n 1 .nil)))) (.nil)
  ·have e:sG t.m t.d=false:=by
    unfold sG;simp only [decide_eq_true_eq,decide_eq_false_iff_not,beq_iff_eq,Yq2] at*
    first|omega|(split at b0<;>omega)|(rw [Xxh];simp only [decide_eq_true_eq];first|omega|(split at b0<;>split<;>omega))
   rw [e];exact pK [] 3 1 (.k 1 (au b1) (.k 1 (ak b0) (.n 1 .nil))) (.nil)
 ·have e:sG t.m t.d=false:=by
   unfold sG;simp only [decide_eq_true_eq,decide_eq_false_iff_not,beq_iff_eq,Yq2] at*
   first|omega|(split at b0<;>omega)|(rw [Xxh];simp only [decide_eq_true_eq];first|omega|(split at b0<;>split<;>omega))
  rw [e];exact pK [] 3 0 (.k 2 (au b0) (.n 1 .nil)) (.nil)
theorem ql (t:Ty):CO 170 [.agg (FY t)] (.ret (.bool (kW t))):=by
 rcases tf ((t.tr==true) && ((t.m==((0:Nat):Int)) && ((t.d==((0:Nat):Int)) && true))) with b0|b0
 ·have e:kW t=true:=by first|(simp only [kW,b0]<;>rfl)|(unfold kW;cases a:t.tr<;>simp_all)
  rw [e];exact pK [] 1 1 (.c (ak b0) (.n 3 .nil)) (.nil)
 ·rcases tf t.tr with b1|b1
  ·have e:kW t=false:=by first|(simp only [kW,b0,b1]<;>rfl)|(unfold kW;cases a:t.tr<;>simp_all)
   rw [e];exact pK [] 2 0 (.c (dV b1) (.k 1 (au b0) (.n 3 .nil))) (.nil)
  ·have e:kW t=(sG t.m t.d):=by first|(simp only [kW,b0,b1]<;>rfl)|(unfold kW;cases a:t.tr<;>simp_all)
   rw [e];exact pK [] 2 2 (.k 2 (fZ b1) (.k 1 (au b0) (.n 3 .nil))) (.c (UG t) .nil)
theorem wk1 {i:Nat} (h:i<2^62):ω (δ .i64 ((i:Int)+((1:Nat):Int)))= ω ((i+1:Nat):Int):=by rw [dZ]<;>first|rfl|omega
def G_ (op:Int):Bool:=decide ((5≤op∧op≤8)∨op=24)
structure Sg where
 op:Int
 name:List UInt8
 ty:Ty
def J_ (s:Sg):List AV:= [ω s.op,.str s.name,.bool s.ty.tr,ω s.ty.m,ω s.ty.d]
def iO (l:List Sg):List AV:=l.flatMap J_
theorem DZ (x:Sg) (r:List Sg):iO (x::r)=J_ x++iO r:=rfl
theorem XO (a b:List Sg):iO (a++b)=iO a++iO b:=by unfold iO;rw [Xqn]
theorem nM (l:List Sg):(iO l).length=l.length*5:=by
 induction l with
 |nil=>rfl
 |cons x r ih=>rw [DZ,ο,ih,Θ];simp [J_];omega
theorem Ar {p r:List Sg} {x:Sg} {k:Nat} (h:k=p.length):θ (γ (k:Int)*5) (iO (p++x::r))=J_ x++iO r:=by
 subst h;rw [aS,XO,DZ,← nM,List.drop_left]
def oL (s:Sg) (op:Int) (nm:List UInt8):Bool:=(s.op==op) && ((s.name==nm) && (G_ op && (kW s.ty && (!(op==((24:Nat):Int))|| !s.ty.tr))))
def BK (l:List Sg) (op:Int) (nm:List UInt8):Option Ty:=(l.find? fun s=>oL s op nm).map (·.ty)
def zT:Ty:=⟨false,0,0⟩
def O_ (hit:Sg→Bool) (_:Unit) (s:Sg):Unit ⊕ Option Ty:=if hit s then .inr (some s.ty) else .inl ()
theorem XN (hit:Sg→Bool) (l:List Sg):goL (O_ hit) (fun _=>none) l ()=(l.find? hit).map (·.ty):=by
 induction l with
 |nil=>rfl
 |cons s r ih=>
  simp only [goL,O_,List.find?_cons];cases h:hit s with
  |true=>simp
  |false=>simpa using ih
def fiE:Option Ty→aV
 |none=> .exit 0
 |some _=> .ret
theorem oQ (op:Int):CO 263 [ω op] (.ret (.bool (G_ op))):=by
 rcases tf (decide (((5:Nat):Int)≤op)) with b0|b0
 ·rcases tf (decide (op≤((8:Nat):Int))) with b1|b1
  ·have e:G_ op=true:=by
    simp only [decide_eq_true_eq,decide_eq_false_iff_not,beq_iff_eq,Yq2] at*
    unfold G_;first|(rw [decide_eq_true_eq];omega)|(rw [Xxh];simp only [decide_eq_true_eq,beq_iff_eq];omega)
   rw [e];exact pK [] 2 3 (.c (ak b1) (.c (ak b0) .nil)) (.nil)
  ·have e:G_ op=(op==((24:Nat):Int)):=by
    simp only [decide_eq_true_eq,decide_eq_false_iff_not,beq_iff_eq,Yq2] at*
    unfold G_;first|(rw [decide_eq_true_eq];omega)|(rw [Xxh];simp only [decide_eq_true_eq,beq_iff_eq];omega)
   rw [e];exact pK [] 2 1 (.c (au b1) (.c (ak b0) .nil)) (.nil)
 ·have e:G_ op=(op==((24:Nat):Int)):=by
   simp only [decide_eq_true_eq,decide_eq_false_iff_not,beq_iff_eq,Yq2] at*
   unfold G_;first|(rw [decide_eq_true_eq];omega)|(rw [Xxh];simp only [decide_eq_true_eq,beq_iff_eq];omega)
  rw [e];exact pK [] 2 0 (.k 1 (au b0) .nil) (.nil)
def Qj (l:List Sg) (nn:Bool) (op:Int) (nm:List UInt8) (p:Nat × Unit):St:=⟨[(0,.sl (iO l) l.length nn),(1,ω op),(2,.str nm),(6,.ptr 0 0 0),(8,ω (p.1:Int))],[(0,⟨[.bool false,ω 0,ω 0],0,false,0,0,true⟩)],.dead,[]⟩
def NG:Option Ty→St
 |none=>aam
 |some t=> ⟨[(6,.ptr 0 0 0),(7,.bool true)],[(0,⟨[.bool t.tr,.int .i64 t.m,.int .i64 t.d],0,false,0,0,true⟩)],.dead,[]⟩
theorem WL {nt:Nat} (e:52≤nt) (l:List Sg) (h:Bool) (op:Int) (b:List UInt8) (n:l.length<2^40):aP prog ap [] nt (aj 0 (ae f235)) fiE (Qj l h op b) (NG) (0,()) ((l.find? fun s=>oL s op b).map (·.ty)):=by
 rw [← XN];refine aP.goL (O_ fun s=>oL s op b) (fun _=>none) l (fun _ _=>True) ?_ ?_ l [] () rfl trivial
 ·intro p s r _ m _;have key:match oL s op b with
   |true=>ψ nt f235 (Qj l h op b (p.length,())) .ret (NG (some s.ty))
   |false=>ψ nt f235 (Qj l h op b (p.length,())) .normal (Qj l h op b (p.length+1,())):=by
   have c:θ (γ (p.length:Int)*5) (iO l)=J_ s++iO r:=by rw [m];exact Ar rfl
   have j:p.length+(r.length+1)=l.length:=by rw [m];simp
   generalize p.length=k at*
   have g:k<2^62:=by omega
   have h0:decide (((0:Nat):Int)≤(k:Int))=true:=Yq0 (by omega);have d:decide ((k:Int)<(l.length:Int))=true:=Yq0 (by omega);have f:=d;rcases tf (s.op==op) with a|a
   ·rcases tf (s.name==b) with b1|b1
    ·rcases tf (G_ op) with b2|b2
     ·rcases tf (kW s.ty) with b3|b3
      ·rcases tf (op==((24:Nat):Int)) with b4|b4
       ·rcases tf s.ty.tr with b5|b5
        ·rw [show oL s op b=false by simp only [oL,a,b1,b2,b3,b4,b5]<;>rfl];exact pN 235 [] 7 31 (.c (dV b5) (.k 1 (dV b4) (.c (ak b3) (.k 3 (ak b2) (.c (ak b1) (.k 1 (ak a) (.k 7 h0 (.c d (.c (ak f) .nil))))))))) (.v 15 (.eq (wk1 g)) (.c (ql s.ty) (.c (oQ op) (.v 18 (.ppt c) .nil)))) e
        ·rw [show oL s op b=true by simp only [oL,a,b1,b2,b3,b4,b5]<;>rfl];exact pN 235 [] 7 95 (.k 4 (fZ b5) (.k 1 (dV b4) (.c (ak b3) (.k 3 (ak b2) (.c (ak b1) (.k 1 (ak a) (.k 7 h0 (.c d (.c (ak f) .nil))))))))) (.c (ql s.ty) (.c (oQ op) (.v 18 (.ppt c) .nil))) e
       ·rw [show oL s op b=true by simp only [oL,a,b1,b2,b3,b4]<;>rfl];exact pN 235 [] 7 127 (.k 5 (fZ b4) (.c (ak b3) (.k 3 (ak b2) (.c (ak b1) (.k 1 (ak a) (.k 7 h0 (.c d (.c (ak f) .nil)))))))) (.c (ql s.ty) (.c (oQ op) (.v 18 (.ppt c) .nil))) e
      ·rw [show oL s op b=false by simp only [oL,a,b1,b2,b3]<;>rfl];exact pN 235 [] 6 15 (.k 1 (au b3) (.k 3 (ak b2) (.c (ak b1) (.k 1 (ak a) (.k 7 h0 (.c d (.c (ak f) .nil))))))) (.v 15 (.eq (wk1 g)) (.c (ql s.ty) (.c (oQ op) (.v 18 (.ppt c) .nil)))) e
     ·rw [show oL s op b=false by simp only [oL,a,b1,b2]<;>rfl];exact pN 235 [] 6 7 (.k 2 (au b2) (.c (ak b1) (.k 1 (ak a) (.k 7 h0 (.c d (.c (ak f) .nil)))))) (.v 15 (.eq (wk1 g)) (.c (oQ op) (.v 18 (.ppt c) .nil))) e
    ·rw [show oL s op b=false by simp only [oL,a,b1]<;>rfl];exact pN 235 [] 6 3 (.k 3 (au b1) (.k 1 (ak a) (.k 7 h0 (.c d (.c (ak f) .nil))))) (.v 15 (.eq (wk1 g)) (.v 18 (.ppt c) .nil)) e
   ·rw [show oL s op b=false by simp only [oL,a]<;>rfl];exact pN 235 [] 6 1 (.k 4 (au a) (.k 7 h0 (.c d (.c (ak f) .nil)))) (.v 15 (.eq (wk1 g)) (.v 18 (.ppt c) .nil)) e
  unfold O_;cases i:oL s op b with
  |true=>rw [i] at key;simp only [i,if_true];exact key
  |false=>rw [i] at key;simp only [i,Xqi,if_false];exact ⟨key,trivial⟩
 ·intro _ _;have a:decide ((l.length:Int)<(l.length:Int))=false:=Yq1 (by omega);exact pN 235 [] 1 0 (.c (au a) .nil) (.nil) e
theorem adb (l:List Sg) (b:Bool) (op:Int) (a:List UInt8) (c:LB 52 0 f235 (aan (.sl (iO l) l.length b) op a) (.normal) aam):CO 235 [.sl (iO l) l.length b,ω op,.str a] (.ret (.tup [.agg [.bool false,ω 0,ω 0],.bool false])):=pK [0] 0 0 (.n 4 .nil) (.l c .nil)
theorem adc (l:List Sg) (b:Bool) (op:Int) (a:List UInt8) (t:Ty) (c:LB 52 0 f235 (aan (.sl (iO l) l.length b) op a) (.ret) ⟨[(6,.ptr 0 0 0),(7,.bool true)],[(0,⟨[.bool t.tr,ω t.m,ω t.d],0,false,0,0,true⟩)],.dead,[]⟩):CO 235 [.sl (iO l) l.length b,ω op,.str a] (.ret (.tup [.agg [.bool t.tr,ω t.m,ω t.d],.bool true])):=pK [0] 0 0 (.n 3 .nil) (.l c .nil)
theorem IY (l:List Sg) (c:Bool) (op:Int) (a:List UInt8) (d:l.length<2^40):CO 235 [.sl (iO l) l.length c,ω op,.str a] (.ret (.tup [.agg (FY ((BK l op a).getD zT)),.bool (BK l op a).isSome])):=by
 have hloop:=fun nt (hn:52≤nt)=>WL hn l c op a d
 unfold BK;cases f:(l.find? fun s=>oL s op a).map (·.ty) with
 |none=>
  rw [f] at hloop;have e:=aP.blk (id:=0) (e':= .normal) (s:=Qj l c op a (0,())) (s':=NG none) hloop (by simp [fiE]) rfl (aJ.refl _) (aJ.refl _);exact adb l c op a (fun nt b=>(e nt b).weak (aJ.of ⟨rfl,rfl,rfl,rfl,rfl,trivial⟩) (aJ.refl _))
 |some t=>
  rw [f] at hloop;have e:=aP.blk (id:=0) (e':= .ret) (s:=Qj l c op a (0,())) (s':=NG (some t)) hloop (by simp [fiE]) rfl (aJ.refl _) (aJ.refl _);exact adc l c op a t (fun nt b=>(e nt b).weak (aJ.of ⟨rfl,rfl,rfl,rfl,rfl,trivial⟩) (aJ.refl _))
theorem Oo (x:Nat):nR (ai x)=true:=(CZ _).2 (by rw [bH])
theorem aeI (v:Int) (x z:Nat) (h0:lit false (decide (((0:Nat):Int)≤v))=true) (b:CO 65 [ω (δ .i64 (0 - (δ .i64 (v+((1:Nat):Int)))))] (.ret (.str (ai z)))) (a:CO 65 [ω 1] (.ret (.str (ai 1)))) (d:CO 66 [.str (ai z),.str (ai 1)] (.ret (.str (ai x)))) (c:CO 65 [ω 1] (.ret (.str (ai 1)))):CO 25 [ω v] (.ret (Ω true (ai x) (ai 1))):=pK [] 1 0 (.k 4 h0 .nil) (.c c (.c d (.c a (.c b .nil))))
theorem abZ (s t:List UInt8) (x y z:Nat) (b:CO 106 [.str s,ω 7] (.ret (.tup [ω (x:Int),.bool true]))) (a:CO 106 [.str t,ω 7] (.ret (.tup [ω (y:Int),.bool true]))) (c:CO 65 [ω (δ .i64 ((x:Int)+(y:Int)))] (.ret (.str (ai z)))):CO 66 [.str s,.str t] (.ret (.str (ai z))):=pK [] 2 3 (.n 2 .nil) (.c c (.c a (.c b .nil)))
theorem abn (q:RQ) (h:q.ok):Fe q.neg (ai q.n) (ai q.d)=true:=by
 rw [tH,bH,bH];exact ⟨Oo _,Oo _,h⟩
theorem WX {a:Bool} {n:Nat} (h:a=true→0<n):(⟨a,n,1⟩:RQ).ok:=⟨by simp,by simp,h⟩
theorem Yc {a:Bool} {n d:Nat} (h:(⟨a,n,d⟩:RQ).ok):vQ a (ai n) (ai d)=⟨a,n,d⟩:=by
 unfold vQ;rw [if_pos (abn ⟨a,n,d⟩ h),bH,bH]
theorem XJ (x:Nat) (i:x<1000000):CO 25 [ω (-((x:Int)+1))] (.ret (aeV true (x+1) 1)):=by
 have a:x<9223372036854775808:=by omega
 have g:=mf x a;have d:=mf 1 (by omega);have k:(ai x).length≤7:=iU (by omega);have j:(ai 1).length≤7:=iU (by omega);have s1:=oV (ai x) 7 (by omega) (by omega) (by rw [bH];omega);have s2:=oV (ai 1) 7 (by omega) (by omega) (by rw [bH];omega);rw [bH] at s1 s2;have c:=abZ (ai x) (ai 1) x 1 (x+1);rw [Yd (by omega)] at c;have b:=c s1 s2 (mf (x+1) (by omega));have h:=aeI (-((x:Int)+1)) (x+1) x;have e:δ .i64 (-((x:Int)+1)+((1:Nat):Int))= -(x:Int):=by rw [dZ]<;>omega
 have f:δ .i64 (0 - -(x:Int))=(x:Int):=by rw [dZ]<;>omega
 rw [e,f] at h;exact h (by simp only [lit,Bool.not_eq_true'];exact Yq1 (by omega)) g d b d
def vS (v:Int):RQ:=⟨decide (v<0),v.natAbs,1⟩
theorem jG (v:Int) (h: -1000000≤v) (a:v≤1000000):CO 25 [ω v] (.ret (qA (vS v))):=by
 by_cases h0:0≤v
 ·obtain ⟨x,rfl⟩:∃ x:Nat,v=(x:Int):=⟨v.toNat,by omega⟩
  have:=ajP x (by omega);unfold vS;rw [Yq1 (by omega),Int.natAbs_natCast];exact this
 ·obtain ⟨x,rfl⟩:∃ x:Nat,v= -((x:Int)+1):=⟨(-v - 1).toNat,by omega⟩
  have:=XJ x (by omega);unfold vS;rw [Yq0 (by omega),show (-((x:Int)+1)).natAbs=x+1 by omega];exact this
theorem abx (a:Bool) (n d:Nat):(G7 a n d).n≤n∧(G7 a n d).d≤d:=⟨Xw1 _ _,Xw1 _ _⟩
theorem T_ (x:Nd) (r:List Nd):bV (x::r)=Qy x++bV r:=rfl
theorem Ov (a b:List Nd):bV (a++b)=bV a++bV b:=by unfold bV;rw [Xqn]
theorem aW (l:List Nd):(bV l).length=l.length*5:=by
 induction l with
 |nil=>rfl
 |cons x r ih=>rw [T_,ο,ih,Θ];simp [Qy];omega
theorem LY {n:Nat} (a b:List Nd) (h:n=a.length):ξ (n*5) (bV a)++bV b=bV (a++b):=by
 rw [τ (by rw [aW];omega),Ov]
theorem Ha {n:Nat} (a:List Nd) (x:Nd) (h:n=a.length):ξ (n*5) (bV a)++ [ω x.op,.bool x.neg,.str x.num,.str x.den,.str x.name]=bV (a++ [x]):=by
 rw [τ (by rw [aW];omega),Ov];rfl
theorem acG (x:Nd) (a:List Nd) (h0:(Xqc (a.length+1) 1099511627776)=true) (d:(Xqc (a.length*5) (ν (bV a)))=true) (e:(Δ (ν (bV a)) (a.length*5))=true) (c:(Xqc a.length 1099511627776)=true) (b:lit false (Δ a.length 0)=true):CO 176 [.agg [ω x.op,.bool x.neg,.str x.num,.str x.den,.str x.name],.sl [.sl (bV a) a.length true] 1 true] (.ret (.own (ξ ((a.length+1)*5) (bV (a++ [x]))) (a.length+1) 5)):=pK [] 3 1 (.k 1 h0 (.c d (.k 7 e (.c c (.c b (.n 4 .nil)))))) (.b 22 (Ha a x rfl) (.b 18 (Eq.refl (bV a)) .nil))
theorem aaM (x:Nd) (a:List Nd) (c:a ≠ []) (d:a.length<1000):CO 176 [.agg (Qy x),.sl [.sl (bV a) a.length true] 1 true] (.ret (.own (bV (a++ [x])) (a++ [x]).length 5)):=by
 have hp:0<a.length:=by cases a with|nil=>exact absurd rfl c|cons _ _=>simp
 have b:Δ a.length 0=false:=by cases d:a.length with|zero=>omega|succ n=>rfl
 have h:=acG x a (by first|(simp [aW];done)|(simp [aW];omega)|omega) (by first|(simp [aW];done)|(simp [aW];omega)|omega) (by first|(simp [aW];done)|(simp [aW];omega)|omega) (by first|(simp [aW];done)|(simp [aW];omega)|omega) (au b);rw [τ (by rw [aW];first|(simp;done)|(simp;omega))] at h;rw [show (a++ [x]).length=a.length+1 by simp [Xxy]];exact h
theorem acH (x:Nd) (a b:List Nd) (h0:(Xqc ((a.length+b.length)+1) 1099511627776)=true) (e:(Xqc ((a.length+b.length)*5) (ν (bV (a++b))))=true) (h:(Δ (ν (bV b)) (b.length*5))=true) (d:(Xqc (a.length+b.length) 1099511627776)=true) (c:(Xqc (a.length*5) (ν (bV a)))=true) (i:(Δ (ν (bV a)) (a.length*5))=true) (g:(Xqc a.length 1099511627776)=true) (f:lit false (Δ a.length 0)=true):CO 176 [.agg [ω x.op,.bool x.neg,.str x.num,.str x.den,.str x.name],.sl [.sl (bV a) a.length true,.sl (bV b) b.length true] 2 true] (.ret (.own (ξ (((a.length+b.length)+1)*5) (bV (a++b++ [x]))) ((a.length+b.length)+1) 5)):=pK [] 4 5 (.k 1 h0 (.c e (.k 7 h (.c d (.c c (.k 5 i (.c g (.c f (.n 4 .nil))))))))) (.b 22 (Ha (a++b) x List.length_append.symm) (.b 18 (LY a b rfl) (.b 18 (Eq.refl (bV a)) .nil)))
theorem aaN (x:Nd) (a b:List Nd) (d:a ≠ []) (e:a.length<1000) (c:b.length<1000):CO 176 [.agg (Qy x),.sl [.sl (bV a) a.length true,.sl (bV b) b.length true] 2 true] (.ret (.own (bV (a++b++ [x])) (a++b++ [x]).length 5)):=by
 have hp:0<a.length:=by cases a with|nil=>exact absurd rfl d|cons _ _=>simp
 have c:Δ a.length 0=false:=by cases e:a.length with|zero=>omega|succ n=>rfl
 have h:=acH x a b (by first|(simp [aW];done)|(simp [aW];omega)|omega) (by first|(simp [aW];done)|(simp [aW];omega)|omega) (by first|(simp [aW];done)|(simp [aW];omega)|omega) (by first|(simp [aW];done)|(simp [aW];omega)|omega) (by first|(simp [aW];done)|(simp [aW];omega)|omega) (by first|(simp [aW];done)|(simp [aW];omega)|omega) (by first|(simp [aW];done)|(simp [aW];omega)|omega) (au c);rw [τ (by rw [aW];first|(simp;done)|(simp;omega))] at h;rw [show (a++b++ [x]).length=a.length+b.length+1 by simp [Xxy]];exact h
theorem acI (x:Nd) (a b c:List Nd) (h0:(Xqc (((a.length+b.length)+c.length)+1) 1099511627776)=true) (h:(Xqc (((a.length+b.length)+c.length)*5) (ν (bV (a++b++c))))=true) (l:(Δ (ν (bV c)) (c.length*5))=true) (f:(Xqc ((a.length+b.length)+c.length) 1099511627776)=true) (e:(Xqc ((a.length+b.length)*5) (ν (bV (a++b))))=true) (m:(Δ (ν (bV b)) (b.length*5))=true) (k:(Xqc (a.length+b.length) 1099511627776)=true) (j:(Xqc (a.length*5) (ν (bV a)))=true) (g:(Δ (ν (bV a)) (a.length*5))=true) (i:(Xqc a.length 1099511627776)=true) (d:lit false (Δ a.length 0)=true):CO 176 [.agg [ω x.op,.bool x.neg,.str x.num,.str x.den,.str x.name],.sl [.sl (bV a) a.length true,.sl (bV b) b.length true,.sl (bV c) c.length true] 3 true] (.ret (.own (ξ ((((a.length+b.length)+c.length)+1)*5) (bV (a++b++c++ [x]))) (((a.length+b.length)+c.length)+1) 5)):=pK [] 5 13 (.k 1 h0 (.c h (.k 7 l (.c f (.c e (.k 5 m (.c k (.c j (.k 5 g (.c i (.c d (.n 4 .nil)))))))))))) (.b 22 (Ha (a++b++c) x (by rw [ο,ο])) (.b 18 (LY (a++b) c List.length_append.symm) (.b 18 (LY a b rfl) (.b 18 (Eq.refl (bV a)) .nil))))
theorem aaO (x:Nd) (a b c:List Nd) (e:a ≠ []) (f:a.length<1000) (d:b.length<1000) (g:c.length<1000):CO 176 [.agg (Qy x),.sl [.sl (bV a) a.length true,.sl (bV b) b.length true,.sl (bV c) c.length true] 3 true] (.ret (.own (bV (a++b++c++ [x])) (a++b++c++ [x]).length 5)):=by
 have hp:0<a.length:=by cases a with|nil=>exact absurd rfl e|cons _ _=>simp
 have d:Δ a.length 0=false:=by cases f:a.length with|zero=>omega|succ n=>rfl
 have h:=acI x a b c (by first|(simp [aW];done)|(simp [aW];omega)|omega) (by first|(simp [aW];done)|(simp [aW];omega)|omega) (by first|(simp [aW];done)|(simp [aW];omega)|omega) (by first|(simp [aW];done)|(simp [aW];omega)|omega) (by first|(simp [aW];done)|(simp [aW];omega)|omega) (by first|(simp [aW];done)|(simp [aW];omega)|omega) (by first|(simp [aW];done)|(simp [aW];omega)|omega) (by first|(simp [aW];done)|(simp [aW];omega)|omega) (by first|(simp [aW];done)|(simp [aW];omega)|omega) (by first|(simp [aW];done)|(simp [aW];omega)|omega) (au d);rw [τ (by rw [aW];first|(simp;done)|(simp;omega))] at h;rw [show (a++b++c++ [x]).length=a.length+b.length+c.length+1 by simp [Xxy]];exact h
theorem Hf (v:Int):(vS v).ok:=WX (fun h=>by simp only [decide_eq_true_eq] at h;omega)
theorem rU {x:Nat} (h:x<65536):(ai x).length≤2:=iU (k:=2) (by omega)
theorem VK {q:RQ} (h:q.ok):vQ q.neg (ai q.n) (ai q.d)=q:=by cases q;exact Yc h
theorem JF (n d:Int) (j: -60000≤n) (l:n≤60000) (o:0<d) (e:d≤60000):∃ w:RQ,w.ok∧w.n≤n.natAbs∧w.d≤d.natAbs∧CO 64 [qA (vS n),qA (vS d)] (.ret (.tup [qA w,.bool true])):=by
 have c:=VK (Hf n);have a:=VK (Hf d);have m:(vS n).n=n.natAbs:=rfl;have k:(vS d).n=d.natAbs:=rfl;have p:(ai (vS n).n).length≤2:=rU (by omega);have f:(ai (vS n).d).length≤2:=rU (show 1<65536 by decide);have i:(ai (vS d).n).length≤2:=rU (by omega);have g:(ai (vS d).d).length≤2:=rU (show 1<65536 by decide);have h:=Xu (vS n).neg (vS d).neg (ai (vS n).n) (ai (vS n).d) (ai (vS d).n) (ai (vS d).d) (by omega) f (by omega) g (by rw [a];omega);rw [c,a] at h;have b:=abx (!((vS n).neg==(vS d).neg)) ((vS n).n*(vS d).d) ((vS n).d*(vS d).n);refine ⟨_,Xc (Xkc (Hf n).1 (show 0<d.natAbs by omega)),Xqh b.1 (by show n.natAbs*1≤_;omega),Xqh b.2 (by show 1*d.natAbs≤_;omega),h⟩
theorem aes (w:RQ) (n:Int) (c:w.ok) (a:w.n<65536) (b:w.d<65536) (e: -60000≤n) (d:n≤60000):∃ q:RQ,CO 131 [qA w,qA (vS n)] (.ret (qA q)):=by
 have h:=Un w.neg (vS n).neg (ai w.n) (ai w.d) (ai (vS n).n) (ai (vS n).d) (Xqh (rU a) (by decide)) (rU b) (Xqh (rU (show n.natAbs<65536 by omega)) (by decide)) (rU (show 1<65536 by decide));exact ⟨_,h⟩
theorem fH (n d:Int) (i: -60000≤n) (j:n≤60000) (k:0<d) (e:d≤60000):∃ w:RQ,w.ok∧w.n≤n.natAbs∧w.d≤d.natAbs∧CO 85 [ω n,ω d] (.ret (qA w)):=by
 obtain ⟨w,a,b,c,h⟩:=JF n d i j k e;have g:=jG n (by omega) (by omega);have f:=jG d (by omega) (by omega);exact ⟨w,a,b,c,pK [] 0 0 (.n 8 .nil) (.c h (.c f (.c g .nil)))⟩
def Dr (f:Nat) (args:List AV) (xs:List Int) (nn:Bool) (k D:Nat) (out:AV):Prop:=∃ k2,k2≤k+D∧ah prog ap f args [dB xs nn k] (.ret out) [dB xs nn k2]
theorem JH (g:List Int) (i:Bool) (k:Nat) (a:Int) (q:k<2^61) (p: -8≤a) (r:a≤1):∃ w:RQ,Dr 177 [.ptr 0 0 0,ω a] g i k 2 (qA w):=by
 obtain ⟨b,k1,m,o,f⟩:=aT g i k 40 (by omega) (by omega) (by omega);obtain ⟨n,k2,j,l,n1⟩:=aT g i k1 4 (by omega) (by omega) (by omega);have e:δ .i64 (a+(b:Int))=a+(b:Int):=dZ (by omega) (by omega);have d:=jG (a+(b:Int)) (by omega) (by omega);rw [← e] at d
 match n,j,n1 with
 |0,_,n1=>
  obtain ⟨w,_,_,_,h⟩:=JF (a+(b:Int)) 1 (by omega) (by omega) (by omega) (by omega);rw [← e] at h;have c:=jG 1 (by omega) (by omega);exact ⟨w,k2,(by omega),pK [] 0 0 (.n 11 .nil) (.c h (.c c (.c n1 (.c d (.c f .nil)))))⟩
 |1,_,n1=>
  obtain ⟨w,_,_,_,h⟩:=JF (a+(b:Int)) 1 (by omega) (by omega) (by omega) (by omega);rw [← e] at h;have c:=jG 1 (by omega) (by omega);exact ⟨w,k2,(by omega),pK [] 0 0 (.n 11 .nil) (.c h (.c c (.c n1 (.c d (.c f .nil)))))⟩
 |2,_,n1=>
  obtain ⟨w,_,_,_,h⟩:=JF (a+(b:Int)) 2 (by omega) (by omega) (by omega) (by omega);rw [← e] at h;have c:=jG 2 (by omega) (by omega);exact ⟨w,k2,(by omega),pK [] 0 0 (.n 11 .nil) (.c h (.c c (.c n1 (.c d (.c f .nil)))))⟩
 |3,_,n1=>
  obtain ⟨w,_,_,_,h⟩:=JF (a+(b:Int)) 10 (by omega) (by omega) (by omega) (by omega);rw [← e] at h;have c:=jG 10 (by omega) (by omega);exact ⟨w,k2,(by omega),pK [] 0 0 (.n 11 .nil) (.c h (.c c (.c n1 (.c d (.c f .nil)))))⟩
def qN (op:Int) (q:RQ):Nd:=⟨op,q.neg,ai q.n,ai q.d,[]⟩
def En (b:Nat) (e:List Nd):Prop:=e ≠ []∧e.length+1≤2*b∧e.countP Em≤b
theorem Uc {x:Nd} (h:9≤x.op):Em x=false:=by unfold Em;simp;omega
theorem En.one (x:Nd):En 1 [x]:=⟨by simp,by simp,by simpa using List.countP_le_length (l:= [x]) (p:=Em)⟩
theorem En.n1 {b:Nat} {e:List Nd} {x:Nd} (h:En b e) (a:9≤x.op):En (3*b) (e++ [x]):=by
 obtain ⟨d,f,c⟩:=h;refine ⟨by simp,by simp;omega, ?_⟩;rw [Xxz,Xzq,Uc a];simp;omega
theorem En.n2 {b:Nat} {e f:List Nd} {x:Nd} (h:En b e) (a:En b f) (c:9≤x.op):En (3*b) (e++f++ [x]):=by
 obtain ⟨j,k,g⟩:=h;obtain ⟨d,l,i⟩:=a;refine ⟨by simp,by simp;omega, ?_⟩;rw [Xxz,Xxz,Xzq,Uc c];simp;omega
theorem En.n3 {b:Nat} {e f g:List Nd} {x:Nd} (h:En b e) (c:En b f) (a:En b g) (d:9≤x.op):En (3*b) (e++f++g++ [x]):=by
 obtain ⟨n,p,j⟩:=h;obtain ⟨i,q,m⟩:=c;obtain ⟨l,o,k⟩:=a;refine ⟨by simp,by simp;omega, ?_⟩;rw [Xxz,Xxz,Xxz,Xzq,Uc d];simp;omega
def tM:Ty:=⟨false,1,0⟩
def tD:Ty:=⟨false,0,1⟩
def tP:Ty:=⟨false,0,0⟩
def tT:Ty:=⟨true,0,0⟩
def Xo (t:Ty):Prop:=t=tM∨t=tD∨t=tP
def Ed (f:Nat) (args:List AV) (xs:List Int) (nn:Bool) (b k D:Nat):Prop:=∃ e:List Nd,En b e∧Dr f args xs nn k D (.own (bV e) e.length 5)
theorem IL (t:Ty) (e:Xo t) (c:List Int) (d:Bool) (k:Nat) (f:k<2^61):Ed 236 [.ptr 0 0 0,.agg (FY t)] c d 1 k 2:=by
 obtain ⟨w,k2,a,b⟩:=JH c d k (-8) f (by omega) (by omega);rcases e with rfl|rfl|rfl
 ·exact ⟨[qN 1 w],.one _,k2,a,pK [] 1 1 (.n 7 .nil) (.c b .nil)⟩
 ·exact ⟨[qN 2 w],.one _,k2,a,pK [] 2 2 (.n 8 .nil) (.c b .nil)⟩
 ·exact ⟨[qN 3 w],.one _,k2,a,pK [] 4 0 (.n 12 .nil) (.c b .nil)⟩
def lfS (l:List Sg) (nl:Bool) (t:Ty) (xs:List Int) (nn:Bool) (k:Nat) (p:Nat × Bool × Nat × List Nd):St:=⟨[(0,.sl (iO l) l.length nl),(1,.ptr 0 0 0),(5,.ptr 1 0 0),(7,cond p.2.1 (.ref 2 0 0 p.2.2.1) .nilS),(8,ω (p.1:Int))],(0,⟨[.sl (iL xs) xs.length nn,ω (k:Int)],0,false,0,0,true⟩)::(1,⟨[.bool t.tr,ω t.m,ω t.d],0,false,0,0,true⟩)::cond p.2.1 [(2,⟨bV p.2.2.2,0,false,0,5,true⟩)] [],.dead,[]⟩
def lfX (l:List Sg) (nl:Bool) (t:Ty) (xs:List Int) (nn:Bool) (k:Nat) (p:Bool × Nat × List Nd):St:=⟨[(1,.ptr 0 0 0),(5,.ptr 1 0 0),(7,cond p.1 (.ref 2 0 0 p.2.1) .nilS)],(0,⟨[.sl (iL xs) xs.length nn,ω (k:Int)],0,false,0,0,true⟩)::(1,⟨[.bool t.tr,ω t.m,ω t.d],0,false,0,0,true⟩)::cond p.1 [(2,⟨bV p.2.2,0,false,0,5,true⟩)] [],.dead,[]⟩
theorem TJ (l:List Sg) (j:Bool) (t:Ty) (o:List Int) (p:Bool) (k:Nat) (w:l.length≤100) (i:Nat) (c:Bool) (n:Nat) (os:List Nd) (x:Sg) (s:List Sg) (d:os.length=n) (v:n≤i) (h:c=false→os= []) (m:i<l.length) (b:(θ ((γ (i:Int))*5) (iO l))=J_ x++iO s):
  ∃ (c2:Bool) (n2:Nat) (o2:List Nd),o2.length=n2∧n2≤i+1∧(c2=false→o2= [])∧∀ nt,85≤nt→af prog ap [dB o p k] nt (aj 0 (ae f175)) (lfS l j t o p k (i,c,n,os)) .normal (lfS l j t o p k (i+1,c2,n2,o2)):=by
 have a:(decide ((i:Int)<(l.length:Int)))=true:=kl m;have g:i<2^62:=by omega
 have f:=IY l j x.op x.name (by omega);generalize (BK l x.op x.name).getD zT=tf_ at f;generalize (BK l x.op x.name).isSome=fb_ at f;have q:(Xqc (n+1) 1099511627776)=true:=(dA (by omega))
 have r:(Xqc (n*5) (ν (bV os)))=true:=(dA (by rw [aW,d];exact ε _))
 rcases tf fb_ with b0|b0
 ·rcases tf (x.op==((24:Nat):Int)) with b1|b1
  ·refine ⟨c,n,os,d,by omega,h,fun nt e=> ?_⟩;cases c with
   |false=>exact pN 175 [] 4 3 (.k 1 (dV b1) (.k 1 (k0 i) (.c a (.c (ak b0) (.k 2 (k0 i) (.c a (.k 1 (k0 i) (.c a (.c (ak a) .nil))))))))) (.v 17 (.eq (wpS g)) (.v 37 (.ppt b) (.c f (.v 27 (.ppt b) (.v 22 (.ppt b) .nil))))) e
   |true=>exact pN 175 [] 4 3 (.k 1 (dV b1) (.k 1 (k0 i) (.c a (.c (ak b0) (.k 2 (k0 i) (.c a (.k 1 (k0 i) (.c a (.c (ak a) .nil))))))))) (.v 17 (.eq (wpS g)) (.v 37 (.ppt b) (.c f (.v 27 (.ppt b) (.v 22 (.ppt b) .nil))))) e
  ·rcases tf ((tf_.tr==t.tr) && ((tf_.m==t.m) && ((tf_.d==t.d) && true))) with b2|b2
   ·refine ⟨true,n+1,os++ [⟨x.op,false,[],[],x.name⟩],by simp [d],(by omega),(by simp),fun nt e=> ?_⟩;cases c with
    |false=>have u:=h rfl;subst u;subst d;exact pN 175 [] 5 15 (.k 4 (k0 i) (.c a (.k 1 (k0 i) (.c a (.c (ak b2) (.k 6 (fZ b1) (.k 1 (k0 i) (.c a (.c (ak b0) (.k 2 (k0 i) (.c a (.k 1 (k0 i) (.c a (.c (ak a) .nil)))))))))))))) (.v 17 (.eq (wpS g)) (.v 55 (.ppt b) (.v 50 (.ppt b) (.v 37 (.ppt b) (.c f (.v 27 (.ppt b) (.v 22 (.ppt b) .nil))))))) e
    |true=>exact pN 175 [] 4 15 (.k 1 q (.c r (.k 2 (k0 i) (.c a (.k 1 (k0 i) (.c a (.c (ak b2) (.k 6 (fZ b1) (.k 1 (k0 i) (.c a (.c (ak b0) (.k 2 (k0 i) (.c a (.k 1 (k0 i) (.c a (.c (ak a) .nil)))))))))))))))) (.v 17 (.eq (wpS g)) (.b 60 (Ha os ⟨x.op,false,[],[],x.name⟩ d.symm) (.v 55 (.ppt b) (.v 50 (.ppt b) (.v 37 (.ppt b) (.c f (.v 27 (.ppt b) (.v 22 (.ppt b) .nil)))))))) e
   ·refine ⟨c,n,os,d,by omega,h,fun nt e=> ?_⟩;cases c with
    |false=>exact pN 175 [] 4 7 (.c (au b2) (.k 6 (fZ b1) (.k 1 (k0 i) (.c a (.c (ak b0) (.k 2 (k0 i) (.c a (.k 1 (k0 i) (.c a (.c (ak a) .nil)))))))))) (.v 17 (.eq (wpS g)) (.v 37 (.ppt b) (.c f (.v 27 (.ppt b) (.v 22 (.ppt b) .nil))))) e
    |true=>exact pN 175 [] 4 7 (.c (au b2) (.k 6 (fZ b1) (.k 1 (k0 i) (.c a (.c (ak b0) (.k 2 (k0 i) (.c a (.k 1 (k0 i) (.c a (.c (ak a) .nil)))))))))) (.v 17 (.eq (wpS g)) (.v 37 (.ppt b) (.c f (.v 27 (.ppt b) (.v 22 (.ppt b) .nil))))) e
 ·refine ⟨c,n,os,d,by omega,h,fun nt e=> ?_⟩;cases c with
  |false=>exact pN 175 [] 4 1 (.k 2 (au b0) (.k 2 (k0 i) (.c a (.k 1 (k0 i) (.c a (.c (ak a) .nil)))))) (.v 17 (.eq (wpS g)) (.c f (.v 27 (.ppt b) (.v 22 (.ppt b) .nil)))) e
  |true=>exact pN 175 [] 4 1 (.k 2 (au b0) (.k 2 (k0 i) (.c a (.k 1 (k0 i) (.c a (.c (ak a) .nil)))))) (.v 17 (.eq (wpS g)) (.c f (.v 27 (.ppt b) (.v 22 (.ppt b) .nil)))) e
theorem N_ (l:List Sg) (f:Bool) (t:Ty) (d:List Int) (e:Bool) (k:Nat) (i:l.length≤100):∀ (rx p:List Sg) (c:Bool) (n:Nat) (os:List Nd),l=p++rx→os.length=n→n≤p.length→(c=false→os= [])→
  ∃ (g:Bool) (n2:Nat) (b:List Nd),b.length=n2∧n2≤l.length∧(g=false→b= [])∧∀ nt,85≤nt→aP prog ap [dB d e k] nt (aj 0 (ae f175)) (fun _=> .exit 0) (lfS l f t d e k) (lfX l f t d e k) (p.length,c,n,os) (g,n2,b)
 | [],p,c,n,os,hp,hn0,ho,hc=>by
  rw [υ] at hp;subst hp;have h:(decide ((l.length:Int)<(l.length:Int)))=false:=kn (ε _);refine ⟨c,n,os,hn0,ho,hc,fun nt a=> .done ?_⟩;cases c with
  |false=>exact pN 175 [] 1 0 (.c (au h) .nil) .nil a
  |true=>exact pN 175 [] 1 0 (.c (au h) .nil) .nil a
 |x::rx,p,c,n,os,hp,hn0,ho,hc=>by
  obtain ⟨u,n1,o,h0,q,h,m⟩:=TJ l f t d e k i p.length c n os x rx hn0 ho hc (nT hp) (by rw [hp];exact Ar rfl);obtain ⟨g,n2,b,r,j,s,v⟩:=N_ l f t d e k i rx (p++ [x]) u n1 o (by simp [hp]) h0 (by simpa using q) h;refine ⟨g,n2,b,r,j,s,fun nt a=> .next (m nt a) ?_⟩;have:=v nt a;rw [ο] at this;exact this
theorem GY (l:List Sg) (q:Bool) (N:l.length≤100) (t:Ty) (f:Xo t∨t=tT) (b:List Int) (d:Bool) (k:Nat) (O:k<2^60):Ed 175 [.sl (iO l) l.length q,.ptr 0 0 0,.agg (FY t)] b d 1 k 3:=by
 obtain ⟨c,n,os,w,K,J,M⟩:=N_ l q t b d k N l [] false 0 [] rfl rfl (ε _) (fun _=>rfl);have r:=aP.blk (id:=0) (e':= .normal) (fun nt (hn:85≤nt)=>M nt hn) (by simp) rfl (aJ.refl _) (aJ.refl _);cases c with
 | false=>
  have L:=J rfl;subst L;subst w;obtain ⟨a,k1,A,I,p⟩:=aT b d k 2 (by omega) (by omega) (by omega);have g:(decide ((a:Int)<((0:Nat):Int)))=false:=Yq1 (by omega);rcases f with f|f
  ·have m:t.tr=false:=by rcases f with rfl|rfl|rfl<;>rfl
   obtain ⟨e,u,k2,j,o⟩:=IL t f b d k1 (by omega);have h:ah prog ap 175 [.sl (iO l) l.length q,.ptr 0 0 0,.agg (FY t)] [dB b d k] (.ret (.own (ξ (e.length*5) (bV e)) e.length 5)) [dB b d k2]:=pK [0] 2 0 (.k 3 (au m) (.k 1 (au g) .nil)) (.c o (.c p (.k [0,1,5,7,8] r .nil)));rw [τ (by rw [aW];exact ε _)] at h;exact ⟨e,u,k2,(by omega),h⟩
  ·obtain ⟨s,k2,B,j,n1⟩:=aT b d k1 2 (by omega) (by omega) (by omega);have m:t.tr=true:=by rw [f];rfl
   have o:=jG (s:Int) (by omega) (by omega);exact ⟨[qN 4 (vS (s:Int))],.one _,k2,(by omega),pK [0] 2 2 (.c (ak m) (.k 1 (au g) .nil)) (.c o (.c n1 (.c p (.k [0,1,5,7,8] r .nil))))⟩
 | true=>
  obtain ⟨a,k1,A,I,p⟩:=aT b d k (n+2) (by omega) (by omega) (by omega);have e:δ .i64 ((n:Int)+((2:Nat):Int))=((n+2:Nat):Int):=by rw [dZ]<;>omega
  rw [← e] at p;rcases tf (decide ((a:Int)<(n:Int))) with g|g
  ·have G:a<os.length:=by simp only [decide_eq_true_eq] at g;omega
   obtain ⟨y,x⟩:∃ y,os[a]? =some y:=⟨_,ζ G⟩
   have i:=NJ nd5 x;rw [show γ (a:Int)*5=(0+γ (a:Int))*5 by rw [Φ]] at i;change θ _ (bV os)=_ at i;have C:(chk (.int .i64) (Xqo (θ ((0+(γ (a:Int)))*5) (bV os)) .dead))=true:=(by rw [i];rfl)
   have H:(chk .bool (Xqo (Xq1 (θ ((0+(γ (a:Int)))*5) (bV os))) .dead))=true:=(by rw [i];rfl)
   have v:(chk .str (Xqo (Xq1 (Xq1 (θ ((0+(γ (a:Int)))*5) (bV os)))) .dead))=true:=(by rw [i];rfl)
   have E:(chk .str (Xqo (Xq1 (Xq1 (Xq1 (θ ((0+(γ (a:Int)))*5) (bV os))))) .dead))=true:=(by rw [i];rfl)
   have D:(chk .str (Xqo (Xq1 (Xq1 (Xq1 (Xq1 (θ ((0+(γ (a:Int)))*5) (bV os)))))) .dead))=true:=(by rw [i];rfl)
   have z:(decide (((0:Nat):Int)≤(a:Int)))=true:=(k0 a)
   have F:(decide ((a:Int)<(n:Int)))=true:=g;have h:ah prog ap 175 [.sl (iO l) l.length q,.ptr 0 0 0,.agg (FY t)] [dB b d k] (.ret (.own [ω (AV.toInt (Xqo (θ ((0+(γ (a:Int)))*5) (bV os)) .dead)),.bool (AV.toBool (Xqo (Xq1 (θ ((0+(γ (a:Int)))*5) (bV os))) .dead)),.str (AV.toStr (Xqo (Xq1 (Xq1 (θ ((0+(γ (a:Int)))*5) (bV os)))) .dead)),.str (AV.toStr (Xqo (Xq1 (Xq1 (Xq1 (θ ((0+(γ (a:Int)))*5) (bV os))))) .dead)),.str (AV.toStr (Xqo (Xq1 (Xq1 (Xq1 (Xq1 (θ ((0+(γ (a:Int)))*5) (bV os)))))) .dead))] 1 5)) [dB b d k1]:=pK [0] 1 1 (.c C (.c H (.c v (.c E (.c D (.c z (.c F (.c (ak g) .nil)))))))) (.c p (.k [0,1,5,7,8] r .nil));rw [i] at h;exact ⟨[y],.one y,k1,(by omega),h⟩
  ·skip
   rcases f with f|f
   ·have m:t.tr=false:=by rcases f with rfl|rfl|rfl<;>rfl
    obtain ⟨e,u,k2,j,o⟩:=IL t f b d k1 (by omega);have h:ah prog ap 175 [.sl (iO l) l.length q,.ptr 0 0 0,.agg (FY t)] [dB b d k] (.ret (.own (ξ (e.length*5) (bV e)) e.length 5)) [dB b d k2]:=pK [0] 2 0 (.k 3 (au m) (.k 1 (au g) .nil)) (.c o (.c p (.k [0,1,5,7,8] r .nil)));rw [τ (by rw [aW];exact ε _)] at h;exact ⟨e,u,k2,(by omega),h⟩
   ·obtain ⟨s,k2,B,j,n1⟩:=aT b d k1 2 (by omega) (by omega) (by omega);have m:t.tr=true:=by rw [f];rfl
    have o:=jG (s:Int) (by omega) (by omega);exact ⟨[qN 4 (vS (s:Int))],.one _,k2,(by omega),pK [0] 2 2 (.c (ak m) (.k 1 (au g) .nil)) (.c o (.c n1 (.c p (.k [0,1,5,7,8] r .nil))))⟩
def stL (l:List (List UInt8)):List AV:=l.flatMap fun s=> [.str s]
theorem XW (l:List (List UInt8)):(stL l).length=l.length*1:=by induction l with|nil=>rfl|cons x r ih=>simp only [stL,List.flatMap_cons,ο,Θ,Xqj] at*;omega
def rtS (l:List Sg) (nl:Bool) (t:Ty) (xs:List Int) (nn:Bool) (k:Nat) (p:Nat × Bool × Nat × List (List UInt8)):St:=⟨[(0,.sl (iO l) l.length nl),(1,.ptr 0 0 0),(5,.ptr 1 0 0),(8,cond p.2.1 (.ref 2 0 0 p.2.2.1) .nilS),(9,ω (p.1:Int))],(0,⟨[.sl (iL xs) xs.length nn,ω (k:Int)],0,false,0,0,true⟩)::(1,⟨[.bool t.tr,ω t.m,ω t.d],0,false,0,0,true⟩)::cond p.2.1 [(2,⟨stL p.2.2.2,0,false,0,1,true⟩)] [],.dead,[]⟩
def rtX (l:List Sg) (nl:Bool) (t:Ty) (xs:List Int) (nn:Bool) (k:Nat) (p:Bool × Nat × List (List UInt8)):St:=⟨[(1,.ptr 0 0 0),(5,.ptr 1 0 0),(8,cond p.1 (.ref 2 0 0 p.2.1) .nilS)],(0,⟨[.sl (iL xs) xs.length nn,ω (k:Int)],0,false,0,0,true⟩)::(1,⟨[.bool t.tr,ω t.m,ω t.d],0,false,0,0,true⟩)::cond p.1 [(2,⟨stL p.2.2,0,false,0,1,true⟩)] [],.dead,[]⟩
theorem UF (l:List Sg) (m:Bool) (t:Ty) (p:List Int) (q:Bool) (k:Nat) (z:l.length≤100) (i:Nat) (c:Bool) (n:Nat) (os:List (List UInt8)) (x:Sg) (v:List Sg) (d:os.length=n) (y:n≤i) (j:c=false→os= []) (o:i<l.length) (b:(θ ((γ (i:Int))*5) (iO l))=J_ x++iO v):
  ∃ (c2:Bool) (n2:Nat) (o2:List (List UInt8)),o2.length=n2∧n2≤i+1∧(c2=false→o2= [])∧∀ nt,60≤nt→af prog ap [dB p q k] nt (aj 0 (ae f178)) (rtS l m t p q k (i,c,n,os)) .normal (rtS l m t p q k (i+1,c2,n2,o2)):=by
 have a:(decide ((i:Int)<(l.length:Int)))=true:=kl o;have h:i<2^62:=by omega
 have g:=IY l m 24 x.name (by omega);generalize (BK l 24 x.name).getD zT=tf_ at g;generalize (BK l 24 x.name).isSome=fb_ at g;have r:(Xqc (n+1) 1099511627776)=true:=(dA (by omega))
 have u:(Xqc (n*1) (ν (stL os)))=true:=(dA (by rw [XW,d];exact ε _))
 rcases tf fb_ with b0|b0
 ·rcases tf (x.op==((24:Nat):Int)) with b1|b1
  ·rcases tf ((tf_.tr==t.tr) && ((tf_.m==t.m) && ((tf_.d==t.d) && true))) with b2|b2
   ·refine ⟨true,n+1,os++ [x.name],by simp [d],(by omega),(by simp),fun nt e=> ?_⟩;cases c with
    |false=>have w:=j rfl;subst w;subst d;exact pN 178 [] 5 15 (.k 4 (k0 i) (.c a (.c (ak b2) (.k 6 (ak b1) (.k 1 (k0 i) (.c a (.c (ak b0) (.k 2 (k0 i) (.c a (.c (ak a) .nil)))))))))) (.v 17 (.eq (wpS h)) (.v 45 (.ppt b) (.v 32 (.ppt b) (.c g (.v 22 (.ppt b) .nil))))) e
    |true=>exact pN 178 [] 4 15 (.k 1 r (.c u (.k 2 (k0 i) (.c a (.c (ak b2) (.k 6 (ak b1) (.k 1 (k0 i) (.c a (.c (ak b0) (.k 2 (k0 i) (.c a (.c (ak a) .nil)))))))))))) (.v 17 (.eq (wpS h)) (.b 49 (fE (f:=fun s=> [AV.str s]) (n:=1) (fun _=>rfl) os x.name d) (.v 45 (.ppt b) (.v 32 (.ppt b) (.c g (.v 22 (.ppt b) .nil)))))) e
   ·refine ⟨c,n,os,d,by omega,j,fun nt e=> ?_⟩;cases c with
    |false=>exact pN 178 [] 4 7 (.c (au b2) (.k 6 (ak b1) (.k 1 (k0 i) (.c a (.c (ak b0) (.k 2 (k0 i) (.c a (.c (ak a) .nil)))))))) (.v 17 (.eq (wpS h)) (.v 32 (.ppt b) (.c g (.v 22 (.ppt b) .nil)))) e
    |true=>exact pN 178 [] 4 7 (.c (au b2) (.k 6 (ak b1) (.k 1 (k0 i) (.c a (.c (ak b0) (.k 2 (k0 i) (.c a (.c (ak a) .nil)))))))) (.v 17 (.eq (wpS h)) (.v 32 (.ppt b) (.c g (.v 22 (.ppt b) .nil)))) e
  ·refine ⟨c,n,os,d,by omega,j,fun nt e=> ?_⟩;cases c with
   |false=>exact pN 178 [] 4 3 (.k 1 (au b1) (.k 1 (k0 i) (.c a (.c (ak b0) (.k 2 (k0 i) (.c a (.c (ak a) .nil))))))) (.v 17 (.eq (wpS h)) (.v 32 (.ppt b) (.c g (.v 22 (.ppt b) .nil)))) e
   |true=>exact pN 178 [] 4 3 (.k 1 (au b1) (.k 1 (k0 i) (.c a (.c (ak b0) (.k 2 (k0 i) (.c a (.c (ak a) .nil))))))) (.v 17 (.eq (wpS h)) (.v 32 (.ppt b) (.c g (.v 22 (.ppt b) .nil)))) e
 ·refine ⟨c,n,os,d,by omega,j,fun nt e=> ?_⟩;cases c with
  |false=>exact pN 178 [] 4 1 (.k 2 (au b0) (.k 2 (k0 i) (.c a (.c (ak a) .nil)))) (.v 17 (.eq (wpS h)) (.c g (.v 22 (.ppt b) .nil))) e
  |true=>exact pN 178 [] 4 1 (.k 2 (au b0) (.k 2 (k0 i) (.c a (.c (ak a) .nil)))) (.v 17 (.eq (wpS h)) (.c g (.v 22 (.ppt b) .nil))) e
theorem O4 (l:List Sg) (f:Bool) (t:Ty) (d:List Int) (e:Bool) (k:Nat) (i:l.length≤100):∀ (rx p:List Sg) (c:Bool) (n:Nat) (os:List (List UInt8)),l=p++rx→os.length=n→n≤p.length→(c=false→os= [])→
  ∃ (g:Bool) (n2:Nat) (b:List (List UInt8)),b.length=n2∧n2≤l.length∧(g=false→b= [])∧∀ nt,60≤nt→aP prog ap [dB d e k] nt (aj 0 (ae f178)) (fun _=> .exit 0) (rtS l f t d e k) (rtX l f t d e k) (p.length,c,n,os) (g,n2,b)
 | [],p,c,n,os,hp,hn0,ho,hc=>by
  rw [υ] at hp;subst hp;have h:(decide ((l.length:Int)<(l.length:Int)))=false:=kn (ε _);refine ⟨c,n,os,hn0,ho,hc,fun nt a=> .done ?_⟩;cases c with
  |false=>exact pN 178 [] 1 0 (.c (au h) .nil) .nil a
  |true=>exact pN 178 [] 1 0 (.c (au h) .nil) .nil a
 |x::rx,p,c,n,os,hp,hn0,ho,hc=>by
  obtain ⟨u,n1,o,h0,q,h,m⟩:=UF l f t d e k i p.length c n os x rx hn0 ho hc (nT hp) (by rw [hp];exact Ar rfl);obtain ⟨g,n2,b,r,j,s,v⟩:=O4 l f t d e k i rx (p++ [x]) u n1 o (by simp [hp]) h0 (by simpa using q) h;refine ⟨g,n2,b,r,j,s,fun nt a=> .next (m nt a) ?_⟩;have:=v nt a;rw [ο] at this;exact this
theorem Us (l:List Sg) (g:Bool) (C:l.length≤100) (t:Ty) (b:List Int) (d:Bool) (k:Nat) (D:k<2^60):∃ (nm:List UInt8) (ok:Bool),Dr 178 [.sl (iO l) l.length g,.ptr 0 0 0,.agg (FY t)] b d k 1 (.tup [.str nm,.bool ok]):=by
 obtain ⟨c,n,os,u,z,v,r⟩:=O4 l g t b d k C l [] false 0 [] rfl rfl (ε _) (fun _=>rfl);have j:=aP.blk (id:=0) (e':= .normal) (fun nt (hn:60≤nt)=>r nt hn) (by simp) rfl (aJ.refl _) (aJ.refl _);cases c with
 |false=>
  have x:=v rfl;subst x;exact ⟨[],false,k,(by omega),pK [0] 1 1 (.n 1 .nil) (.k [0,1,5,8,9] j .nil)⟩
 | true=>
  rcases tf ((n:Int)==((0:Nat):Int)) with hr|hr
  ·exact ⟨[],false,k,(by omega),pK [0] 1 1 (.c (ak hr) .nil) (.k [0,1,5,8,9] j .nil)⟩
  ·have h0:0<n:=by simp only [Yq2] at hr;omega
   obtain ⟨a,k1,w,B,A⟩:=aT b d k n (by omega) h0 (by omega);have m:a<os.length:=by omega
   obtain ⟨y,i⟩:∃ y,os[a]? =some y:=⟨_,ζ m⟩
   have e:=NJ (f:=fun s=> [AV.str s]) (n:=1) (fun _=>rfl) i;rw [show γ (a:Int)*1=(0+γ (a:Int))*1 by rw [Φ]] at e;change θ _ (stL os)=_ at e;have p:(chk .str (Xqo (θ ((0+(γ (a:Int)))*1) (stL os)) .dead))=true:=(by rw [e];rfl)
   have o:(decide (((0:Nat):Int)≤(a:Int)))=true:=(k0 a)
   have q:(decide ((a:Int)<(n:Int)))=true:=(kl (by omega))
   have h:ah prog ap 178 [.sl (iO l) l.length g,.ptr 0 0 0,.agg (FY t)] [dB b d k] (.ret (.tup [.str (AV.toStr (Xqo (θ ((0+(γ (a:Int)))*1) (stL os)) .dead)),.bool true])) [dB b d k1]:=pK [0] 1 0 (.c p (.c o (.c q (.c (au hr) .nil)))) (.c A (.k [0,1,5,8,9] j .nil));exact ⟨_,true,k1,(by omega),h⟩
theorem QX {i:Nat} (h:i<2^62):ω (δ .i64 (((i+1:Nat):Int) - ((1:Nat):Int)))= ω (i:Int):=by rw [dZ]<;>first|(congr 1;omega)|omega
theorem Qz (a:List Nd):ξ (a.length*5) (bV a)=bV a:=τ (by rw [aW];omega)
theorem En.mono {b c:Nat} {e:List Nd} (h:En b e) (a:b≤c):En c e:=⟨h.1,by have:=h.2.1;omega,Xqh h.2.2 a⟩
theorem je {f:Nat} {args:List AV} {a:List Int} {b:Bool} {k k2:Nat} {e:List Nd} (h:ah prog ap f args [dB a b k] (.ret (.own (ξ (e.length*5) (bV e)) e.length 5)) [dB a b k2]):ah prog ap f args [dB a b k] (.ret (.own (bV e) e.length 5)) [dB a b k2]:=by rw [Qz] at h;exact h
theorem n59:CO 59 [ω 0,ω 0] (.ret (.agg (FY tP))):=cD [] .nil
theorem n80:CO 80 [] (.ret (.agg (FY tT))):=cD [] .nil
theorem YX (u:Nat) (a:u<3):∃ t,Xo t∧CO 87 [ω (u:Int)] (.ret (.agg (FY t))):=by
 match u,a with
 |0,_=>exact ⟨tM,.inl rfl,cD [] .nil⟩
 |1,_=>exact ⟨tD,.inr (.inl rfl),cD [] .nil⟩
 |2,_=>exact ⟨tP,.inr (.inr rfl),cD [] .nil⟩
theorem aaL (x:Nd) (a:List Nd) (c:a ≠ []) (b:a.length<1000):CO 176 [.agg (Qy x),.sl [.sl (ξ (a.length*5) (bV a)) a.length true] 1 true] (.ret (.own (bV (a++ [x])) (a++ [x]).length 5)):=by
 simp only [Qz];exact aaM x a c b
theorem KO (x:Nd) (a b:List Nd) (d:a ≠ []) (e:a.length<1000) (c:b.length<1000):CO 176 [.agg (Qy x),.sl [.sl (ξ (a.length*5) (bV a)) a.length true,.sl (ξ (b.length*5) (bV b)) b.length true] 2 true] (.ret (.own (bV (a++b++ [x])) (a++b++ [x]).length 5)):=by
 simp only [Qz];exact aaN x a b d e c
theorem acJ (x:Nd) (a b c:List Nd) (f:a ≠ []) (g:a.length<1000) (d:b.length<1000) (e:c.length<1000):CO 176 [.agg (Qy x),.sl [.sl (ξ (a.length*5) (bV a)) a.length true,.sl (ξ (b.length*5) (bV b)) b.length true,.sl (ξ (c.length*5) (bV c)) c.length true] 3 true] (.ret (.own (bV (a++b++c++ [x])) (a++b++c++ [x]).length 5)):=by
 simp only [Qz];exact aaO x a b c f g d e
theorem Xq (a r:Nat) (b:9≤a) (h:a+r<1000):9≤δ .i64 ((a:Int)+(r:Int)):=by rw [dZ]<;>omega
def plT (t:Ty):Prop:=Xo t∨t=tT
theorem FB (l:List Sg) (I:Bool) (U:l.length≤100) (q:List Int) (r:Bool) (G b D B:Nat) (f:G<100) (X:1≤b) (hb:b≤30) (hD:3≤D) (hD2:D≤20) (hB:B+100≤2^60)
  (ih:∀ t,plT t→∀ k,k<B+100→Ed 129 [.sl (iO l) l.length I,.ptr 0 0 0,.agg (FY t),ω (G:Int)] q r b k D)
  (t:Ty) (ht:plT t) (k:Nat) (hk:k<B):Ed 129 [.sl (iO l) l.length I,.ptr 0 0 0,.agg (FY t),ω ((G+1:Nat):Int)] q r (3*b) k (3*D+5):=by
 have f:G<2^62:=by omega
 have A:(decide ((((G+1):Nat):Int)≤((0:Nat):Int)))=false:=Yq1 (by omega);obtain ⟨Z,k1,hr0,hk1,z⟩:=aT q r k 5 (by omega) (by omega) (by omega);rcases tf ((Z:Int)==((0:Nat):Int)) with s|s
 ·obtain ⟨e,P,k2,J,O⟩:=GY l I U t ht q r k1 (by omega);exact ⟨e,P.mono (by omega),k2,(by omega),je (pK [] 2 2 (.k 3 (ak s) (.c (au A) .nil)) (.c O (.c z .nil)))⟩
 ·rcases tf t.tr with v|v
  ·have ht':t=tT:=by rcases ht with (rfl|rfl|rfl)|h;all_goals first|exact h|cases v
   obtain ⟨T,k2,E,J,n1⟩:=aT q r k1 5 (by omega) (by omega) (by omega)
   match T,E,n1 with
   |0,_,n1=>
    obtain ⟨d,k3,y,i,n2⟩:=aT q r k2 3 (by omega) (by omega) (by omega);obtain ⟨H,C,ck⟩:=YX d y;obtain ⟨F,k4,S,j,n3⟩:=aT q r k3 2 (by omega) (by omega) (by omega);obtain ⟨n,a,k5,u,m⟩:=ih H (.inl C) k4 (by omega);obtain ⟨o,g,k6,N,p⟩:=ih H (.inl C) k5 (by omega);have c:=KO (⟨δ .i64 (((16:Nat):Int)+(F:Int)),false,[],[],[]⟩) n o a.1 (by have:=a.2.1;omega) (by have:=g.2.1;omega);exact ⟨_,.n2 (x:=⟨δ .i64 (((16:Nat):Int)+(F:Int)),false,[],[],[]⟩) a g (Xq 16 F (by omega) (by omega)),k6,(by omega),je (pK [] 5 28 (.k 9 (ak v) (.k 1 (au s) (.c (au A) .nil))) (.c c (.c p (.c m (.c n3 (.c ck (.c n2 (.c n1 (.v 27 (.eq (QX f)) (.c z .nil))))))))))⟩
   |1,_,n1=>
    obtain ⟨d,k3,y,i,n2⟩:=aT q r k2 3 (by omega) (by omega) (by omega);obtain ⟨H,C,ck⟩:=YX d y;obtain ⟨F,k4,S,j,n3⟩:=aT q r k3 2 (by omega) (by omega) (by omega);obtain ⟨n,a,k5,u,m⟩:=ih H (.inl C) k4 (by omega);obtain ⟨o,g,k6,N,p⟩:=ih H (.inl C) k5 (by omega);have c:=KO (⟨δ .i64 (((16:Nat):Int)+(F:Int)),false,[],[],[]⟩) n o a.1 (by have:=a.2.1;omega) (by have:=g.2.1;omega);exact ⟨_,.n2 (x:=⟨δ .i64 (((16:Nat):Int)+(F:Int)),false,[],[],[]⟩) a g (Xq 16 F (by omega) (by omega)),k6,(by omega),je (pK [] 5 20 (.k 9 (ak v) (.k 1 (au s) (.c (au A) .nil))) (.c c (.c p (.c m (.c n3 (.c ck (.c n2 (.c n1 (.v 27 (.eq (QX f)) (.c z .nil))))))))))⟩
   |2,_,n1=>
    obtain ⟨n,a,k3,i,m⟩:=ih t ht k2 (by omega);have c:=aaL (⟨20,false,[],[],[]⟩) n a.1 (by have:=a.2.1;omega);exact ⟨_,.n1 (x:=⟨20,false,[],[],[]⟩) a (by decide),k3,(by omega),je (pK [] 6 36 (.k 6 (ak v) (.k 1 (au s) (.c (au A) .nil))) (.c c (.c m (.c n1 (.v 27 (.eq (QX f)) (.c z .nil))))))⟩
   |3,_,n1=>
    obtain ⟨n,a,k3,i,m⟩:=ih t ht k2 (by omega);obtain ⟨o,g,k4,j,p⟩:=ih t ht k3 (by omega);obtain ⟨R,K,k5,u,M⟩:=ih t ht k4 (by omega);have c:=acJ (⟨15,false,[],[],[]⟩) n o R a.1 (by have:=a.2.1;omega) (by have:=g.2.1;omega) (by have:=K.2.1;omega);exact ⟨_,.n3 (x:=⟨15,false,[],[],[]⟩) a g K (by decide),k5,(by omega),je (pK [] 7 68 (.k 13 (ak v) (.k 1 (au s) (.c (au A) .nil))) (.c c (.c M (.c p (.c m (.c n1 (.v 27 (.eq (QX f)) (.c z .nil))))))))⟩
   |4,_,n1=>
    obtain ⟨d,k3,y,i,n2⟩:=aT q r k2 2 (by omega) (by omega) (by omega);obtain ⟨n,a,k4,j,m⟩:=ih t ht k3 (by omega);obtain ⟨o,g,k5,u,p⟩:=ih t ht k4 (by omega);have c:=KO (⟨δ .i64 (((18:Nat):Int)+(d:Int)),false,[],[],[]⟩) n o a.1 (by have:=a.2.1;omega) (by have:=g.2.1;omega);exact ⟨_,.n2 (x:=⟨δ .i64 (((18:Nat):Int)+(d:Int)),false,[],[],[]⟩) a g (Xq 18 d (by omega) (by omega)),k5,(by omega),je (pK [] 7 4 (.k 10 (ak v) (.k 1 (au s) (.c (au A) .nil))) (.c c (.c p (.c m (.c n2 (.c n1 (.v 27 (.eq (QX f)) (.c z .nil))))))))⟩
  ·obtain ⟨T,k2,E,J,n1⟩:=aT q r k1 7 (by omega) (by omega) (by omega)
   match T,E,n1 with
   |0,_,n1=>
    obtain ⟨d,k3,y,i,n2⟩:=aT q r k2 4 (by omega) (by omega) (by omega);obtain ⟨n,a,k4,j,m⟩:=ih t ht k3 (by omega);obtain ⟨o,g,k5,u,p⟩:=ih t ht k4 (by omega);have c:=KO (⟨([9,10,13,14]:List Int).getD d 0,false,[],[],[]⟩) n o a.1 (by have:=a.2.1;omega) (by have:=g.2.1;omega);have L:=En.n2 (x:=⟨([9,10,13,14]:List Int).getD d 0,false,[],[],[]⟩) a g (by rcases (show d=0∨d=1∨d=2∨d=3 by omega) with rfl|rfl|rfl|rfl<;>decide);rcases (show d=0∨d=1∨d=2∨d=3 by omega) with rfl|rfl|rfl|rfl<;>exact ⟨_,L,k5,(by omega),je (pK [] 5 24 (.k 11 (au v) (.k 1 (au s) (.c (au A) .nil))) (.c c (.c p (.c m (.c n2 (.c n1 (.v 27 (.eq (QX f)) (.c z .nil))))))))⟩
   |1,_,n1=>
    obtain ⟨d,k3,y,i,n2⟩:=aT q r k2 4 (by omega) (by omega) (by omega);obtain ⟨n,a,k4,j,m⟩:=ih t ht k3 (by omega);obtain ⟨o,g,k5,u,p⟩:=ih t ht k4 (by omega);have c:=KO (⟨([9,10,13,14]:List Int).getD d 0,false,[],[],[]⟩) n o a.1 (by have:=a.2.1;omega) (by have:=g.2.1;omega);have L:=En.n2 (x:=⟨([9,10,13,14]:List Int).getD d 0,false,[],[],[]⟩) a g (by rcases (show d=0∨d=1∨d=2∨d=3 by omega) with rfl|rfl|rfl|rfl<;>decide);rcases (show d=0∨d=1∨d=2∨d=3 by omega) with rfl|rfl|rfl|rfl<;>exact ⟨_,L,k5,(by omega),je (pK [] 5 16 (.k 11 (au v) (.k 1 (au s) (.c (au A) .nil))) (.c c (.c p (.c m (.c n2 (.c n1 (.v 27 (.eq (QX f)) (.c z .nil))))))))⟩
   |2,_,n1=>
    obtain ⟨n,a,k3,i,m⟩:=ih t ht k2 (by omega);obtain ⟨o,g,k4,j,p⟩:=ih tP (.inl (.inr (.inr rfl))) k3 (by omega);have c:=KO (⟨11,false,[],[],[]⟩) n o a.1 (by have:=a.2.1;omega) (by have:=g.2.1;omega);exact ⟨_,.n2 (x:=⟨11,false,[],[],[]⟩) a g (by decide),k4,(by omega),je (pK [] 6 32 (.k 6 (au v) (.k 1 (au s) (.c (au A) .nil))) (.c c (.c p (.c n59 (.c m (.c n1 (.v 27 (.eq (QX f)) (.c z .nil))))))))⟩
   |3,_,n1=>
    obtain ⟨n,a,k3,i,m⟩:=ih t ht k2 (by omega);obtain ⟨o,g,k4,j,p⟩:=ih tP (.inl (.inr (.inr rfl))) k3 (by omega);have c:=KO (⟨12,false,[],[],[]⟩) n o a.1 (by have:=a.2.1;omega) (by have:=g.2.1;omega);exact ⟨_,.n2 (x:=⟨12,false,[],[],[]⟩) a g (by decide),k4,(by omega),je (pK [] 7 64 (.k 7 (au v) (.k 1 (au s) (.c (au A) .nil))) (.c c (.c p (.c n59 (.c m (.c n1 (.v 27 (.eq (QX f)) (.c z .nil))))))))⟩
   |4,_,n1=>
    obtain ⟨n,a,k3,i,m⟩:=ih tT (.inr rfl) k2 (by omega);obtain ⟨o,g,k4,j,p⟩:=ih t ht k3 (by omega);obtain ⟨R,K,k5,u,M⟩:=ih t ht k4 (by omega);have c:=acJ (⟨15,false,[],[],[]⟩) n o R a.1 (by have:=a.2.1;omega) (by have:=g.2.1;omega) (by have:=K.2.1;omega);exact ⟨_,.n3 (x:=⟨15,false,[],[],[]⟩) a g K (by decide),k5,(by omega),je (pK [] 8 128 (.k 11 (au v) (.k 1 (au s) (.c (au A) .nil))) (.c c (.c M (.c p (.c m (.c n80 (.c n1 (.v 27 (.eq (QX f)) (.c z .nil)))))))))⟩
   |5,_,n1=>
    obtain ⟨d,k3,y,i,n2⟩:=aT q r k2 3 (by omega) (by omega) (by omega);obtain ⟨w,k4,j,Y⟩:=JH q r k3 1 (by omega) (by omega) (by omega);obtain ⟨n,a,k5,u,m⟩:=ih t ht k4 (by omega);have c:=aaL (⟨δ .i64 (((21:Nat):Int)+(d:Int)),w.neg,ai w.n,ai w.d,[]⟩) n a.1 (by have:=a.2.1;omega);exact ⟨_,.n1 (x:=⟨δ .i64 (((21:Nat):Int)+(d:Int)),w.neg,ai w.n,ai w.d,[]⟩) a (Xq 21 d (by omega) (by omega)),k5,(by omega),je (pK [] 9 256 (.k 9 (au v) (.k 1 (au s) (.c (au A) .nil))) (.c c (.c m (.c Y (.c n2 (.c n1 (.v 27 (.eq (QX f)) (.c z .nil))))))))⟩
   | 6,_,n1=>
    obtain ⟨W,Q,k3,i,V⟩:=Us l I U t q r k2 (by omega);rcases tf Q with zr|zr
    ·skip
     obtain ⟨n,a,k4,j,m⟩:=ih t ht k3 (by omega);have c:=aaL (⟨24,false,[],[],W⟩) n a.1 (by have:=a.2.1;omega);exact ⟨_,.n1 (x:=⟨24,false,[],[],W⟩) a (show (9:Int)≤24 by decide),k4,(by omega),je (pK [] 10 0 (.k 3 (dV zr) (.k 9 (au v) (.k 1 (au s) (.c (au A) .nil)))) (.c c (.c m (.c V (.c n1 (.v 27 (.eq (QX f)) (.c z .nil)))))))⟩
    ·obtain ⟨e,P,k4,j,O⟩:=GY l I U t ht q r k3 (by omega);exact ⟨e,P.mono (by omega),k4,(by omega),je (pK [] 10 512 (.k 3 (fZ zr) (.k 9 (au v) (.k 1 (au s) (.c (au A) .nil)))) (.c O (.c V (.c n1 (.v 27 (.eq (QX f)) (.c z .nil))))))⟩
theorem aby (l:List Sg) (d:Bool) (j:l.length≤100) (b:List Int) (c:Bool) (t:Ty) (h:plT t) (k:Nat) (i:k<2^60):Ed 129 [.sl (iO l) l.length d,.ptr 0 0 0,.agg (FY t),ω ((0:Nat):Int)] b c 1 k 3:=by
 obtain ⟨e,f,k2,a,g⟩:=GY l d j t h b c k i;exact ⟨e,f,k2,a,je (pK [] 2 3 (.n 5 .nil) (.c g .nil))⟩
theorem abz (l:List Sg) (d:Bool) (f:l.length≤100) (b:List Int) (c:Bool) (t:Ty) (a:plT t):Ed 129 [.sl (iO l) l.length d,.ptr 0 0 0,.agg (FY t),ω ((2:Nat):Int)] b c 9 0 47:=
 FB l d f b c 1 3 14 1000 (by omega) (by omega) (by omega) (by omega) (by omega) (by decide) (fun t a k e=>FB l d f b c 0 1 3 1100 (by omega) (by omega) (by omega) (by omega) (by omega) (by decide) (fun t a k e=>aby l d f b c t a k (Nat.lt_trans e (by decide))) t a k e) t a 0 (by omega)
theorem abt:CO 87 [ω 0] (.ret (.agg (FY tM))):=cD [] .nil
theorem TL (l:List Sg) (c:Bool) (j:l.length≤100) (t:Ty) (f:t=tM∨t=tT) (a:List Int) (b:Bool):∃ e:List Nd,En 9 e∧CO 82 [.sl (iO l) l.length c,.agg (FY t),.sl (iL a) a.length b] (.ret (.sl (bV e) e.length true)):=by
 obtain ⟨e,i,k2,_,d⟩:=abz l c j a b t (by rcases f with rfl|rfl;exact .inl (.inl rfl);exact .inr rfl);refine ⟨e,i, ?_⟩;have h:CO 82 [.sl (iO l) l.length c,.agg (FY t),.sl (iL a) a.length b] (.ret (.own (ξ (e.length*5) (bV e)) e.length 5)):=by
  rcases f with rfl|rfl
  ·exact pK [] 4 1 (.n 11 .nil) (.c d (.c (abt) .nil))
  ·exact pK [] 4 0 (.n 8 .nil) (.c d .nil)
 rw [Qz] at h;have g:=h.thaw (by simp);simp only [qL,thaw,Qz] at g;exact g
theorem OO (a:List UInt8):∃ r:Nat,r≤6∧CO 130 [.str a] (.ret (ω (r:Int))):=by
 rcases tf ([98,97,115,101]==a) with b0|b0
 ·exact ⟨0,by omega,pK [] 2 3 (.c (ak b0) (.n 5 .nil)) .nil⟩
 ·rcases tf ([114,101,108,105,101,102]==a) with b1|b1
  ·exact ⟨1,by omega,pK [] 4 13 (.c (ak b1) (.k 4 (au b0) (.n 5 .nil))) .nil⟩
  ·rcases tf ([99,114,101,100,105,116]==a) with b2|b2
   ·exact ⟨2,by omega,pK [] 6 53 (.c (ak b2) (.k 4 (au b1) (.k 4 (au b0) (.n 5 .nil)))) .nil⟩
   ·rcases tf ([116,104,114,101,115,104,111,108,100]==a) with b3|b3
    ·exact ⟨3,by omega,pK [] 8 213 (.c (ak b3) (.k 4 (au b2) (.k 4 (au b1) (.k 4 (au b0) (.n 5 .nil))))) .nil⟩
    ·rcases tf ([116,97,120]==a) with b4|b4
     ·exact ⟨4,by omega,pK [] 10 853 (.c (ak b4) (.k 4 (au b3) (.k 4 (au b2) (.k 4 (au b1) (.k 4 (au b0) (.n 5 .nil)))))) .nil⟩
     ·rcases tf ([116,111,116,97,108]==a) with b5|b5
      ·exact ⟨5,by omega,pK [] 12 3413 (.c (ak b5) (.k 4 (au b4) (.k 4 (au b3) (.k 4 (au b2) (.k 4 (au b1) (.k 4 (au b0) (.n 5 .nil))))))) .nil⟩
      ·exact ⟨6,by omega,pK [] 13 1365 (.k 1 (au b5) (.k 4 (au b4) (.k 4 (au b3) (.k 4 (au b2) (.k 4 (au b1) (.k 4 (au b0) (.n 5 .nil))))))) .nil⟩
def bfS (l:List Sg) (nl:Bool) (nm:List UInt8) (fr:Bool) (p:Nat × Bool × Nat × List Sg):St:=⟨[(0,.sl (iO l) l.length nl),(1,.str nm),(2,.bool fr),(7,cond p.2.1 (.ref 0 0 0 p.2.2.1) .nilS),(8,ω (p.1:Int))],cond p.2.1 [(0,⟨iO p.2.2.2,0,false,0,5,true⟩)] [],.dead,[]⟩
def bfX (l:List Sg) (nl:Bool) (nm:List UInt8) (fr:Bool) (p:Bool × Nat × List Sg):St:=⟨[(7,cond p.1 (.ref 0 0 0 p.2.1) .nilS)],cond p.1 [(0,⟨iO p.2.2,0,false,0,5,true⟩)] [],.dead,[]⟩
theorem Ro (l:List Sg) (s:Bool) (q:List UInt8) (fr:Bool) (w:l.length≤100) (i:Nat) (c:Bool) (n:Nat) (os:List Sg) (x:Sg) (u:List Sg) (d:os.length=n) (v:n≤i) (p:c=false→os= []) (r:i<l.length) (b:(θ ((γ (i:Int))*5) (iO l))=J_ x++iO u):
  ∃ (c2:Bool) (n2:Nat) (o2:List Sg),o2.length=n2∧n2≤i+1∧(c2=false→o2= [])∧∀ nt,54≤nt→ψ nt f83 (bfS l s q fr (i,c,n,os)) .normal (bfS l s q fr (i+1,c2,n2,o2)):=by
 have a:(decide ((i:Int)<(l.length:Int)))=true:=kl r;have g:i<2^62:=by omega
 obtain ⟨t,_,m⟩:=OO x.name;obtain ⟨rb,_,k⟩:=OO q;have h:(Xqc (n+1) 1099511627776)=true:=(dA (by omega))
 have j:(Xqc (n*5) (ν (iO os)))=true:=(dA (by rw [nM,d];exact ε _))
 rcases tf (x.op==((6:Nat):Int)) with b0|b0
 ·rcases tf fr with b1|b1
  ·refine ⟨true,n+1,os++ [x],by simp [d],(by omega),(by simp),fun nt e=> ?_⟩;cases c with
   |false=>have o:=p rfl;subst o;subst d;exact pN 83 [] 6 31 (.k 8 (k0 i) (.c a (.k 1 (ak b1) (.k 1 (k0 i) (.c a (.k 1 (ak b0) (.k 1 (k0 i) (.c a (.c (ak a) .nil))))))))) (.v 15 (.eq (wpS g)) (.v 49 (.ppt b) (.c k (.c m (.v 33 (.ppt b) (.v 18 (.ppt b) .nil)))))) e
   |true=>exact pN 83 [] 5 31 (.k 1 h (.c j (.k 6 (k0 i) (.c a (.k 1 (ak b1) (.k 1 (k0 i) (.c a (.k 1 (ak b0) (.k 1 (k0 i) (.c a (.c (ak a) .nil))))))))))) (.v 15 (.eq (wpS g)) (.b 52 (fE (f:=J_) (n:=5) (fun _=>rfl) os x d) (.v 49 (.ppt b) (.c k (.c m (.v 33 (.ppt b) (.v 18 (.ppt b) .nil))))))) e
  ·rcases tf (decide ((rb:Int)≤(t:Int))) with b2|b2
   ·refine ⟨c,n,os,d,by omega,p,fun nt e=> ?_⟩;cases c with
    |false=>exact pN 83 [] 5 7 (.c (dV b2) (.c (au b1) (.k 1 (k0 i) (.c a (.k 1 (ak b0) (.k 1 (k0 i) (.c a (.c (ak a) .nil)))))))) (.v 15 (.eq (wpS g)) (.c k (.c m (.v 33 (.ppt b) (.v 18 (.ppt b) .nil))))) e
    |true=>exact pN 83 [] 5 7 (.c (dV b2) (.c (au b1) (.k 1 (k0 i) (.c a (.k 1 (ak b0) (.k 1 (k0 i) (.c a (.c (ak a) .nil)))))))) (.v 15 (.eq (wpS g)) (.c k (.c m (.v 33 (.ppt b) (.v 18 (.ppt b) .nil))))) e
   ·refine ⟨true,n+1,os++ [x],by simp [d],(by omega),(by simp),fun nt e=> ?_⟩;cases c with
    |false=>have o:=p rfl;subst o;subst d;exact pN 83 [] 6 23 (.k 8 (k0 i) (.c a (.c (fZ b2) (.c (au b1) (.k 1 (k0 i) (.c a (.k 1 (ak b0) (.k 1 (k0 i) (.c a (.c (ak a) .nil)))))))))) (.v 15 (.eq (wpS g)) (.v 49 (.ppt b) (.c k (.c m (.v 33 (.ppt b) (.v 18 (.ppt b) .nil)))))) e
    |true=>exact pN 83 [] 5 23 (.k 1 h (.c j (.k 6 (k0 i) (.c a (.c (fZ b2) (.c (au b1) (.k 1 (k0 i) (.c a (.k 1 (ak b0) (.k 1 (k0 i) (.c a (.c (ak a) .nil)))))))))))) (.v 15 (.eq (wpS g)) (.b 52 (fE (f:=J_) (n:=5) (fun _=>rfl) os x d) (.v 49 (.ppt b) (.c k (.c m (.v 33 (.ppt b) (.v 18 (.ppt b) .nil))))))) e
 ·rcases tf (x.op==((8:Nat):Int)) with b1|b1
  ·rcases tf fr with b2|b2
   ·refine ⟨true,n+1,os++ [x],by simp [d],(by omega),(by simp),fun nt e=> ?_⟩;cases c with
    |false=>have o:=p rfl;subst o;subst d;exact pN 83 [] 6 29 (.k 8 (k0 i) (.c a (.k 1 (ak b2) (.k 1 (k0 i) (.c a (.c (ak b1) (.k 1 (k0 i) (.c a (.c (au b0) (.k 1 (k0 i) (.c a (.c (ak a) .nil)))))))))))) (.v 15 (.eq (wpS g)) (.v 49 (.ppt b) (.c k (.c m (.v 33 (.ppt b) (.v 25 (.ppt b) (.v 18 (.ppt b) .nil))))))) e
    |true=>exact pN 83 [] 5 29 (.k 1 h (.c j (.k 6 (k0 i) (.c a (.k 1 (ak b2) (.k 1 (k0 i) (.c a (.c (ak b1) (.k 1 (k0 i) (.c a (.c (au b0) (.k 1 (k0 i) (.c a (.c (ak a) .nil)))))))))))))) (.v 15 (.eq (wpS g)) (.b 52 (fE (f:=J_) (n:=5) (fun _=>rfl) os x d) (.v 49 (.ppt b) (.c k (.c m (.v 33 (.ppt b) (.v 25 (.ppt b) (.v 18 (.ppt b) .nil)))))))) e
   ·rcases tf (decide ((rb:Int)≤(t:Int))) with b3|b3
    ·refine ⟨c,n,os,d,by omega,p,fun nt e=> ?_⟩;cases c with
     |false=>exact pN 83 [] 5 5 (.c (dV b3) (.c (au b2) (.k 1 (k0 i) (.c a (.c (ak b1) (.k 1 (k0 i) (.c a (.c (au b0) (.k 1 (k0 i) (.c a (.c (ak a) .nil))))))))))) (.v 15 (.eq (wpS g)) (.c k (.c m (.v 33 (.ppt b) (.v 25 (.ppt b) (.v 18 (.ppt b) .nil)))))) e
     |true=>exact pN 83 [] 5 5 (.c (dV b3) (.c (au b2) (.k 1 (k0 i) (.c a (.c (ak b1) (.k 1 (k0 i) (.c a (.c (au b0) (.k 1 (k0 i) (.c a (.c (ak a) .nil))))))))))) (.v 15 (.eq (wpS g)) (.c k (.c m (.v 33 (.ppt b) (.v 25 (.ppt b) (.v 18 (.ppt b) .nil)))))) e
    ·refine ⟨true,n+1,os++ [x],by simp [d],(by omega),(by simp),fun nt e=> ?_⟩;cases c with
     |false=>have o:=p rfl;subst o;subst d;exact pN 83 [] 6 21 (.k 8 (k0 i) (.c a (.c (fZ b3) (.c (au b2) (.k 1 (k0 i) (.c a (.c (ak b1) (.k 1 (k0 i) (.c a (.c (au b0) (.k 1 (k0 i) (.c a (.c (ak a) .nil))))))))))))) (.v 15 (.eq (wpS g)) (.v 49 (.ppt b) (.c k (.c m (.v 33 (.ppt b) (.v 25 (.ppt b) (.v 18 (.ppt b) .nil))))))) e
     |true=>exact pN 83 [] 5 21 (.k 1 h (.c j (.k 6 (k0 i) (.c a (.c (fZ b3) (.c (au b2) (.k 1 (k0 i) (.c a (.c (ak b1) (.k 1 (k0 i) (.c a (.c (au b0) (.k 1 (k0 i) (.c a (.c (ak a) .nil))))))))))))))) (.v 15 (.eq (wpS g)) (.b 52 (fE (f:=J_) (n:=5) (fun _=>rfl) os x d) (.v 49 (.ppt b) (.c k (.c m (.v 33 (.ppt b) (.v 25 (.ppt b) (.v 18 (.ppt b) .nil)))))))) e
  ·rcases tf fr with b2|b2
   ·refine ⟨true,n+1,os++ [x],by simp [d],(by omega),(by simp),fun nt e=> ?_⟩;cases c with
    |false=>have o:=p rfl;subst o;subst d;exact pN 83 [] 6 25 (.k 8 (k0 i) (.c a (.k 1 (ak b2) (.c (au b1) (.k 1 (k0 i) (.c a (.c (au b0) (.k 1 (k0 i) (.c a (.c (ak a) .nil)))))))))) (.v 15 (.eq (wpS g)) (.v 49 (.ppt b) (.v 25 (.ppt b) (.v 18 (.ppt b) .nil)))) e
    |true=>exact pN 83 [] 5 25 (.k 1 h (.c j (.k 6 (k0 i) (.c a (.k 1 (ak b2) (.c (au b1) (.k 1 (k0 i) (.c a (.c (au b0) (.k 1 (k0 i) (.c a (.c (ak a) .nil)))))))))))) (.v 15 (.eq (wpS g)) (.b 52 (fE (f:=J_) (n:=5) (fun _=>rfl) os x d) (.v 49 (.ppt b) (.v 25 (.ppt b) (.v 18 (.ppt b) .nil))))) e
   ·refine ⟨true,n+1,os++ [x],by simp [d],(by omega),(by simp),fun nt e=> ?_⟩;cases c with
    |false=>have o:=p rfl;subst o;subst d;exact pN 83 [] 6 17 (.k 8 (k0 i) (.c a (.k 1 (au b2) (.c (au b1) (.k 1 (k0 i) (.c a (.c (au b0) (.k 1 (k0 i) (.c a (.c (ak a) .nil)))))))))) (.v 15 (.eq (wpS g)) (.v 49 (.ppt b) (.v 25 (.ppt b) (.v 18 (.ppt b) .nil)))) e
    |true=>exact pN 83 [] 5 17 (.k 1 h (.c j (.k 6 (k0 i) (.c a (.k 1 (au b2) (.c (au b1) (.k 1 (k0 i) (.c a (.c (au b0) (.k 1 (k0 i) (.c a (.c (ak a) .nil)))))))))))) (.v 15 (.eq (wpS g)) (.b 52 (fE (f:=J_) (n:=5) (fun _=>rfl) os x d) (.v 49 (.ppt b) (.v 25 (.ppt b) (.v 18 (.ppt b) .nil))))) e
theorem Nk (l:List Sg) (e:Bool) (d:List UInt8) (fr:Bool) (h:l.length≤100):∀ (rx p:List Sg) (c:Bool) (n:Nat) (os:List Sg),l=p++rx→os.length=n→n≤p.length→(c=false→os= [])→
  ∃ (f:Bool) (n2:Nat) (b:List Sg),b.length=n2∧n2≤l.length∧(f=false→b= [])∧∀ nt,54≤nt→aP prog ap [] nt (aj 0 (ae f83)) (fun _=> .exit 0) (bfS l e d fr) (bfX l e d fr) (p.length,c,n,os) (f,n2,b)
 | [],p,c,n,os,hp,hn0,ho,hc=>by
  rw [υ] at hp;subst hp;have g:(decide ((l.length:Int)<(l.length:Int)))=false:=kn (ε _);refine ⟨c,n,os,hn0,ho,hc,fun nt a=> .done ?_⟩;cases c with
  |false=>exact pN 83 [] 1 0 (.c (au g) .nil) .nil a
  |true=>exact pN 83 [] 1 0 (.c (au g) .nil) .nil a
 |x::rx,p,c,n,os,hp,hn0,ho,hc=>by
  obtain ⟨q,n1,k,h0,m,g,j⟩:=Ro l e d fr h p.length c n os x rx hn0 ho hc (nT hp) (by rw [hp];exact Ar rfl);obtain ⟨f,n2,b,o,i,s,r⟩:=Nk l e d fr h rx (p++ [x]) q n1 k (by simp [hp]) h0 (by simpa using m) g;refine ⟨f,n2,b,o,i,s,fun nt a=> .next (j nt a) ?_⟩;have:=r nt a;rw [ο] at this;exact this
theorem P6 (l:List Sg) (b:Bool) (p:l.length≤100) (a:List UInt8) (fr:Bool):∃ o:List Sg,o.length≤l.length∧CO 83 [.sl (iO l) l.length b,.str a,.bool fr] (.ret (.sl (iO o) o.length false)):=by
 obtain ⟨c,n,os,d,k,j,i⟩:=Nk l b a fr p l [] false 0 [] rfl rfl (ε _) (fun _=>rfl);have f:=aP.blk (id:=0) (e':= .normal) (fun nt (hn:54≤nt)=>i nt hn) (by simp) rfl (aJ.refl _) (aJ.refl _);refine ⟨os,by omega, ?_⟩;cases c with
 |false=>
  have m:=j rfl;subst m;have h:CO 83 [.sl (iO l) l.length b,.str a,.bool fr] (.ret .nilS):=pK [0] 0 0 .nil (.k [0,1,2,7,8] f .nil);exact h.out (iP.ret rfl rfl (bF.nilS false rfl))
 |true=>
  have h:CO 83 [.sl (iO l) l.length b,.str a,.bool fr] (.ret (.own (ξ (n*5) (iO os)) n 5)):=pK [0] 0 0 .nil (.k [0,1,2,7,8] f .nil);have g:=h.thaw (by simp);have e:ξ (n*5) (iO os)=iO os:=τ (by rw [nM];omega);simp only [qL,thaw,e] at g;subst d;exact g.out (iP.ret rfl rfl (bF.sl _ _ _))
def sgP (q:Nat) (x:Pv):Sg:=⟨(q:Int),x.nm,⟨x.tr,x.tm,x.td⟩⟩
def sgS (F1 S1:List AV) (fN sN:Nat) (ps:List Pv) (np:Bool) (q:Nat) (p:Nat × Nat × List Sg):St:=⟨[(1,.ptr 0 0 0),(3,.ref 1 0 0 p.2.1),(5,ω (q:Int)),(6,ω (p.1:Int))],[(0,⟨[.sl F1 fN true,.sl S1 sN true,.sl (bJ ps) ps.length np],0,false,0,0,true⟩),(1,⟨iO p.2.2,0,false,0,5,true⟩)],.dead,[]⟩
def sgX (F1 S1:List AV) (fN sN:Nat) (ps:List Pv) (np:Bool) (q:Nat) (p:Nat × List Sg):St:=(aaC p.1 q [.sl F1 fN true,.sl S1 sN true,.sl (bJ ps) ps.length np] (iO p.2))
theorem Pg (F1 S1:List AV) (fN sN:Nat) (ps:List Pv) (e:Bool) (q:Nat) (hp:ps.length≤20):∀ (rx p:List Pv) (n:Nat) (os:List Sg),ps=p++rx→os.length=n→n≤40+p.length→
  ∃ (n2:Nat) (c:List Sg),c.length=n2∧n2≤n+rx.length∧∀ nt,84≤nt→aP prog ap [] nt (aj 4 (ae f81)) (fun _=> .exit 4) (sgS F1 S1 fN sN ps e q) (sgX F1 S1 fN sN ps e q) (p.length,n,os) (n2,c)
 | [],p,n,os,hp,hn0,ho=>by
  rw [υ] at hp;subst hp;have a:(decide ((ps.length:Int)<(ps.length:Int)))=false:=kn (ε _);exact ⟨n,os,hn0,by simp,fun nt b=> .done (pN 81 [] 1 0 (.c (au a) (.n 1 .nil)) .nil b)⟩
 |x::rx,p,n,os,hp,hn0,ho=>by
  have j:(θ ((γ (p.length:Int))*12) (bJ ps))=xn x++bJ rx:=dS Ul hp;have d:=nT hp;obtain ⟨n2,c,k,o,m⟩:=Pg F1 S1 fN sN ps e q (by assumption) rx (p++ [x]) (n+1) (os++ [sgP q x]) (by simp [hp]) (by simp [hn0]) (by simp;omega);refine ⟨n2,c,k,by simp;omega,fun nt b=> ?_⟩;have:=m nt b;rw [ο] at this;refine .next ?_ this
  generalize p.length=i at*
  have a:(decide ((i:Int)<(ps.length:Int)))=true:=kl d;have l:i<2^62:=by omega
  have g:(Xqc (n+1) 1099511627776)=true:=(dA (by omega))
  have h:(Xqc (n*5) (ν (iO os)))=true:=(dA (by rw [nM,hn0];exact ε _))
  exact pN 81 [] 1 1 (.k 1 g (.c h (.k 4 (k0 i) (.c a (.k 2 (k0 i) (.c a (.k 1 (ak a) (.n 1 .nil)))))))) (.v 41 (.eq (wpS l)) (.b 58 (fE (f:=J_) (n:=5) (fun _=>rfl) os (sgP q x) hn0) (.v 53 (.ppt j) (.v 47 (.ppt j) .nil)))) b
def sgR (F1 S1:List AV) (fN sN:Nat) (ps:List Pv) (np:Bool) (p:Nat × Nat × List Sg):St:=(aaC p.2.1 p.1 [.sl F1 fN true,.sl S1 sN true,.sl (bJ ps) ps.length np] (iO p.2.2))
def sgY (F1 S1:List AV) (fN sN:Nat) (ps:List Pv) (np:Bool) (p:Nat × List Sg):St:=⟨[(1,.ptr 0 0 0),(3,.ref 1 0 0 p.1)],[(0,⟨[.sl F1 fN true,.sl S1 sN true,.sl (bJ ps) ps.length np],0,false,0,0,true⟩),(1,⟨iO p.2,0,false,0,5,true⟩)],.dead,[]⟩
theorem FT (F1 S1:List AV) (fN sN:Nat) (ps:List Pv) (b:Bool) (hp:ps.length≤10):∀ (rem q n:Nat) (os:List Sg),q+rem=9→os.length=n→n+10*rem≤33→
  ∃ (n2:Nat) (c:List Sg),c.length=n2∧n2≤33∧∀ nt,84≤nt→aP prog ap [] nt (aj 2 (ae f81)) (fun _=> .exit 2) (sgR F1 S1 fN sN ps b) (sgY F1 S1 fN sN ps b) (q,n,os) (n2,c)
 |0,q,n,os,hq,hn0,ho=>by
  have d:(decide ((q:Int)≤((8:Nat):Int)))=false:=Yq1 (by omega);exact ⟨n,os,hn0,ho,fun nt a=> .done (pN 81 [4] 1 0 (.c (au d) .nil) .nil a)⟩
 |rem+1,q,n,os,hq,hn0,ho=>by
  obtain ⟨n2,c,g,m,l⟩:=Pg F1 S1 fN sN ps b q (by omega) ps [] n os rfl hn0 (by simp;omega);have e:=aP.blk (id:=4) (e':= .normal) (fun nt (a:84≤nt)=>l nt a) (by simp) rfl (aJ.refl _) (aJ.refl _);obtain ⟨n3,j,k,f,i⟩:=FT F1 S1 fN sN ps b hp rem (q+1) n2 c (by omega) g (by omega);have d:(decide ((q:Int)≤((8:Nat):Int)))=true:=Yq0 (by omega);have h:q<2^62:=by omega
  exact ⟨n3,j,k,f,fun nt a=> .next (pN 81 [4] 1 1 (.c (ak d) .nil) (.v 34 (.eq (wpS h)) (.k [1,3,5,6] e .nil)) a) (i nt a)⟩
def gK (r:Bool):List AV:=cond r [.str [97,103,101],.bool false,ω 0,ω 0,.str [114,101,110,116],.bool false,ω 1,ω 0,.str [119,97,103,101],.bool false,ω 1,ω 0] [.str [97,103,101],.bool false,ω 0,ω 0,.str [119,97,103,101],.bool false,ω 1,ω 0]
def gV (x:Bool) (b1 b2:List AV) (n1 n2:Nat):List AV:=cond x [.str zcc2_0,ω 1,ω 0,.sl b1 n1 true,.str [101,120,116,114,97],ω 1,ω 0,.sl b2 n2 true] [.str zcc2_0,ω 1,ω 0,.sl b1 n1 true]
def sgF (r:Bool):List Sg:=cond r [⟨5,[97,103,101],⟨false,0,0⟩⟩,⟨5,[114,101,110,116],⟨false,1,0⟩⟩,⟨5,[119,97,103,101],⟨false,1,0⟩⟩] [⟨5,[97,103,101],⟨false,0,0⟩⟩,⟨5,[119,97,103,101],⟨false,1,0⟩⟩]
def sgB:Sg:=⟨24,zcc2_0,⟨false,1,0⟩⟩
def sgE:Sg:=⟨24,[101,120,116,114,97],⟨false,1,0⟩⟩
theorem Qx:CO 128 [.agg [ω 1,ω 0]] (.ret (.agg [.bool false,ω 1,ω 0])):=cD [] .nil
theorem aah {f:Nat} {args:List AV} {n:Nat} {o:List Sg} (a:o.length=n) (h:CO f args (.ret (.own (ξ (n*5) (iO o)) n 5))):CO f args (.ret (.own (iO o) o.length 5)):=by
 subst a;have e:ξ (o.length*5) (iO o)=iO o:=τ (by rw [nM];omega);rw [e] at h;exact h
theorem XP (r x:Bool) (j i:List AV) (n1 n2:Nat) (ps:List Pv) (l:Bool) (hp:ps.length≤10):∃ sg:List Sg,sg.length≤100∧CO 81 [.agg [.sl (gK r) (cond r 3 2) true,.sl (gV x j i n1 n2) (cond x 2 1) true,.sl (bJ ps) ps.length l]] (.ret (.own (iO sg) sg.length 5)):=by
 obtain ⟨a,b,c,s,q⟩:=FT (gK r) (gV x j i n1 n2) (cond r 3 2) (cond x 2 1) ps l hp 3 6 (cond r 3 2) (sgF r) rfl (by cases r<;>rfl) (by cases r<;>simp);have g:=aP.blk (id:=2) (e':= .normal) (fun nt (hn:84≤nt)=>q nt hn) (by simp) rfl (aJ.refl _) (aJ.refl _);have h:=fE (f:=J_) (n:=5) (fun _=>rfl) b sgB c;have o:=fE (f:=J_) (n:=5) (fun _=>rfl) (b++ [sgB]) sgE (k:=a+1) (by simp [c]);have d:Xqc (a+1) 1099511627776=true:=dA (by omega);have e:Xqc (a*5) (ν (iO b))=true:=dA (by rw [nM,c];exact ε _);have p:Xqc ((a+1)+1) 1099511627776=true:=dA (by omega);have m:Xqc ((a+1)*5) (ν (iO (b++ [sgB])))=true:=dA (by rw [nM];simp [c]);cases x with
 |false=>
  refine ⟨b++ [sgB],by simp;omega,aah (n:=a+1) (by simp [c]) ?_⟩;cases r with
  |false=>exact pK [2] 6 21 (.k 3 d (.c e (.n 45 .nil))) (.b 82 h (.c Qx (.k [1,3,5] g .nil)))
  |true=>exact pK [2] 7 45 (.k 3 d (.c e (.n 61 .nil))) (.b 82 h (.c Qx (.k [1,3,5] g .nil)))
 |true=>
  refine ⟨b++ [sgB]++ [sgE],by simp;omega,aah (n:=a+1+1) (by simp [c]) ?_⟩;cases r with
  |false=>exact pK [2] 7 53 (.k 3 p (.c m (.k 13 d (.c e (.n 45 .nil))))) (.b 82 o (.c Qx (.b 82 h (.c Qx (.k [1,3,5] g .nil)))))
  |true=>exact pK [2] 8 109 (.k 3 p (.c m (.k 13 d (.c e (.n 61 .nil))))) (.b 82 o (.c Qx (.b 82 h (.c Qx (.k [1,3,5] g .nil)))))
theorem fP {a b:Nat} (h:a+b<2^62):ω (δ .i64 ((a:Int)+(b:Int)))= ω ((a+b:Nat):Int):=by rw [dZ]<;>first|rfl|omega
theorem F9 {a:Int} {b:Nat} (h: -100≤a) (c:a≤100) (d:b<2^60):ω (δ .i64 (a+(b:Int)))= ω (a+(b:Int)):=by rw [dZ]<;>first|rfl|omega
theorem yS (g:Bool) (c:List Int) (d:Bool) (k:Nat) (hk:k<2^60):∃ (W:List AV) (n k2:Nat),W.length=n*6∧n≤3∧k2≤k+12∧ah prog ap 79 [.ptr 0 0 0,.bool g] [dB c d k] (.ret (.sl W n true)) [dB c d k2]:=by
 have own:∀ {W:List AV} {n k2:Nat},W.length=n*6→ah prog ap 79 [.ptr 0 0 0,.bool g] [dB c d k] (.ret (.own W n 6)) [dB c d k2]→ah prog ap 79 [.ptr 0 0 0,.bool g] [dB c d k] (.ret (.sl W n true)) [dB c d k2]:=fun {W n k2} hW h=>by
  have I:=h.thaw (by intro B G;simp only [List.mem_singleton] at G;subst G;rfl);simp only [qL,thaw,τ (Nat.le_of_eq hW)] at I;exact I
 obtain ⟨L,k1,Q,hk1,x⟩:=aT c d k 5 (by omega) (by omega) (by omega);obtain ⟨w0,_,_,_,A⟩:=fH (L:Int) 10 (by omega) (by omega) (by omega) (by omega);obtain ⟨o,k2,R,N,t⟩:=aT c d k1 2 (by omega) (by omega) (by omega);obtain ⟨f,k3,X,O,u⟩:=aT c d k2 100 (by omega) (by omega) (by omega);obtain ⟨i,k4,Y,S,v⟩:=aT c d k3 6 (by omega) (by omega) (by omega);obtain ⟨m,k5,hr4,hk5,r⟩:=aT c d k4 2 (by omega) (by omega) (by omega);obtain ⟨s,k6,U,P,K⟩:=aT c d k5 100 (by omega) (by omega) (by omega);obtain ⟨p,k7,Z,T,H⟩:=aT c d k6 6 (by omega) (by omega) (by omega);obtain ⟨C,k8,V,M,F⟩:=aT c d k7 2 (by omega) (by omega) (by omega);have w:(decide (((0:Nat):Int)<((1+o:Nat):Int)))=true:=Yq0 (by omega);have E:(decide (((2:Nat):Int)<((1+C:Nat):Int)))=false:=Yq1 (by omega);obtain ⟨q0,y⟩:∃ q:RQ,CO 25 [ω 0] (.ret (qA q)):=⟨_,jG 0 (by omega) (by omega)⟩
 obtain ⟨e,z⟩:∃ q:RQ,CO 25 [ω ((1+f:Nat):Int)] (.ret (qA q)):=⟨_,jG ((1+f:Nat):Int) (by omega) (by omega)⟩
 obtain ⟨l,J⟩:∃ q:RQ,CO 25 [ω ((1+f+1+s:Nat):Int)] (.ret (qA q)):=⟨_,jG ((1+f+1+s:Nat):Int) (by omega) (by omega)⟩
 rcases tf (decide (((1:Nat):Int)<((1+m:Nat):Int))) with z1|z1
 ·cases g with
  |true=>
   obtain ⟨w1,_,_,_,j⟩:=fH (((0:Nat):Int)+(i:Int)) 10 (by omega) (by omega) (by omega) (by omega);obtain ⟨w2,_,_,_,D⟩:=fH (((0:Nat):Int)+(p:Int)) 10 (by omega) (by omega) (by omega) (by omega);have h:ah prog ap 79 [.ptr 0 0 0,.bool true] [dB c d k] (.ret (.own [.bool q0.neg,.str (ai q0.n),.str (ai q0.d),.bool w0.neg,.str (ai w0.n),.str (ai w0.d),.bool e.neg,.str (ai e.n),.str (ai e.d),.bool w1.neg,.str (ai w1.n),.str (ai w1.d),.bool l.neg,.str (ai l.n),.str (ai l.d),.bool w2.neg,.str (ai w2.n),.str (ai w2.d)] 3 6)) [dB c d k8]:=pK [] 4 6 (.c (au E) (.k 4 (ak z1) (.k 4 (ak w) (.n 1 .nil)))) (.v 20 (.eq (fP (a:=1) (b:=C) (by omega))) (.c F (.c D (.v 35 (.eq (F9 (a:=((0:Nat):Int)) (b:=p) (by omega) (by omega) (by omega))) (.c H (.c J (.v 28 (.eq (fP (a:=1+f+1) (b:=s) (by omega))) (.c K (.v 25 (.eq (fP (a:=1+f) (b:=1) (by omega))) (.v 20 (.eq (fP (a:=1) (b:=m) (by omega))) (.c r (.c j (.v 35 (.eq (F9 (a:=((0:Nat):Int)) (b:=i) (by omega) (by omega) (by omega))) (.c v (.c z (.v 28 (.eq (fP (a:=1) (b:=f) (by omega))) (.c u (.v 20 (.eq (fP (a:=1) (b:=o) (by omega))) (.c t (.c A (.c x (.c y .nil))))))))))))))))))))));refine ⟨_,3,k8, ?_,by omega,by omega,own ?_ h⟩<;>rfl
  |false=>
   obtain ⟨w1,_,_,_,j⟩:=fH ((-2)+(i:Int)) 10 (by omega) (by omega) (by omega) (by omega);obtain ⟨w2,_,_,_,D⟩:=fH ((-2)+(p:Int)) 10 (by omega) (by omega) (by omega) (by omega);have h:ah prog ap 79 [.ptr 0 0 0,.bool false] [dB c d k] (.ret (.own [.bool q0.neg,.str (ai q0.n),.str (ai q0.d),.bool w0.neg,.str (ai w0.n),.str (ai w0.d),.bool e.neg,.str (ai e.n),.str (ai e.d),.bool w1.neg,.str (ai w1.n),.str (ai w1.d),.bool l.neg,.str (ai l.n),.str (ai l.d),.bool w2.neg,.str (ai w2.n),.str (ai w2.d)] 3 6)) [dB c d k8]:=pK [] 4 7 (.c (au E) (.k 4 (ak z1) (.k 4 (ak w) (.n 1 .nil)))) (.v 20 (.eq (fP (a:=1) (b:=C) (by omega))) (.c F (.c D (.v 35 (.eq (F9 (a:=(-2)) (b:=p) (by omega) (by omega) (by omega))) (.c H (.c J (.v 28 (.eq (fP (a:=1+f+1) (b:=s) (by omega))) (.c K (.v 25 (.eq (fP (a:=1+f) (b:=1) (by omega))) (.v 20 (.eq (fP (a:=1) (b:=m) (by omega))) (.c r (.c j (.v 35 (.eq (F9 (a:=(-2)) (b:=i) (by omega) (by omega) (by omega))) (.c v (.c z (.v 28 (.eq (fP (a:=1) (b:=f) (by omega))) (.c u (.v 20 (.eq (fP (a:=1) (b:=o) (by omega))) (.c t (.c A (.c x (.c y .nil))))))))))))))))))))));refine ⟨_,3,k8, ?_,by omega,by omega,own ?_ h⟩<;>rfl
 ·cases g with
  |true=>
   obtain ⟨w1,_,_,_,j⟩:=fH (((0:Nat):Int)+(i:Int)) 10 (by omega) (by omega) (by omega) (by omega);have h:ah prog ap 79 [.ptr 0 0 0,.bool true] [dB c d k] (.ret (.own [.bool q0.neg,.str (ai q0.n),.str (ai q0.d),.bool w0.neg,.str (ai w0.n),.str (ai w0.d),.bool e.neg,.str (ai e.n),.str (ai e.d),.bool w1.neg,.str (ai w1.n),.str (ai w1.d)] 2 6)) [dB c d k5]:=pK [] 3 2 (.c (au z1) (.k 4 (ak w) (.n 1 .nil))) (.v 20 (.eq (fP (a:=1) (b:=m) (by omega))) (.c r (.c j (.v 35 (.eq (F9 (a:=((0:Nat):Int)) (b:=i) (by omega) (by omega) (by omega))) (.c v (.c z (.v 28 (.eq (fP (a:=1) (b:=f) (by omega))) (.c u (.v 20 (.eq (fP (a:=1) (b:=o) (by omega))) (.c t (.c A (.c x (.c y .nil)))))))))))));refine ⟨_,2,k5, ?_,by omega,by omega,own ?_ h⟩<;>rfl
  |false=>
   obtain ⟨w1,_,_,_,j⟩:=fH ((-2)+(i:Int)) 10 (by omega) (by omega) (by omega) (by omega);have h:ah prog ap 79 [.ptr 0 0 0,.bool false] [dB c d k] (.ret (.own [.bool q0.neg,.str (ai q0.n),.str (ai q0.d),.bool w0.neg,.str (ai w0.n),.str (ai w0.d),.bool e.neg,.str (ai e.n),.str (ai e.d),.bool w1.neg,.str (ai w1.n),.str (ai w1.d)] 2 6)) [dB c d k5]:=pK [] 3 3 (.c (au z1) (.k 4 (ak w) (.n 1 .nil))) (.v 20 (.eq (fP (a:=1) (b:=m) (by omega))) (.c r (.c j (.v 35 (.eq (F9 (a:=(-2)) (b:=i) (by omega) (by omega) (by omega))) (.c v (.c z (.v 28 (.eq (fP (a:=1) (b:=f) (by omega))) (.c u (.v 20 (.eq (fP (a:=1) (b:=o) (by omega))) (.c t (.c A (.c x (.c y .nil)))))))))))));refine ⟨_,2,k5, ?_,by omega,by omega,own ?_ h⟩<;>rfl
theorem ah3 (a b c:RQ) (r:Nat) (g:r<3) (f:a.ok∧a.n<65536∧a.d<65536) (d:b.ok∧b.n<65536∧b.d<65536) (e:c.ok∧c.n<65536∧c.d<65536):∃ (ws:RQ) (rx:List AV),(ws.ok∧ws.n<65536∧ws.d<65536)∧
  θ ((γ (r:Int))*3) [AV.bool a.neg,.str (ai a.n),.str (ai a.d),.bool b.neg,.str (ai b.n),.str (ai b.d),.bool c.neg,.str (ai c.n),.str (ai c.d)]= [.bool ws.neg,.str (ai ws.n),.str (ai ws.d)]++rx:=by
 match r,g with
 |0,_=>exact ⟨a,_,f,rfl⟩
 |1,_=>exact ⟨b,_,d,rfl⟩
 |2,_=>exact ⟨c,_,e,rfl⟩
theorem xM (p:Pv) (X:List AV) (n:Nat) (bx:Bool) (y:List UInt8) (t:List Int) (v:Bool) (k:Nat) (hk:k<2^60):∃ (p2:Pv) (k2:Nat),p2.body.length≤6∧p2.nm=p.nm∧k2≤k+8∧ah prog ap 84 [.ptr 0 0 0,.agg [.str p.nm,.bool p.tr,ω p.tm,ω p.td,.sl X n bx,.bool p.ch,.bool p.sn,.str p.sa,.str p.sd,.bool p.cn,.str p.ca,.str p.cd],.str y] [dB t v k] (.ret (.agg (iY p2))) [dB t v k2]:=by
 obtain ⟨U,k1,hr0,hk1,E⟩:=aT t v k 3 (by omega) (by omega) (by omega);obtain ⟨A,k2,hr1,hk2,I⟩:=aT t v k1 4 (by omega) (by omega) (by omega);obtain ⟨w,k3,hr2,Y,J⟩:=aT t v k2 3 (by omega) (by omega) (by omega);obtain ⟨r3,k4,hr3,hk4,L⟩:=aT t v k3 40 (by omega) (by omega) (by omega);obtain ⟨T,k5,hr4,hk5,B⟩:=aT t v k4 2 (by omega) (by omega) (by omega);obtain ⟨Q,k6,hr5,Z,G⟩:=aT t v k5 2 (by omega) (by omega) (by omega);obtain ⟨s,k7,O,hk7,M⟩:=aT t v k6 3 (by omega) (by omega) (by omega);obtain ⟨r,k8,hr7,V,K⟩:=aT t v k7 30 (by omega) (by omega) (by omega);have z:=jG ((1+r:Nat):Int) (by omega) (by omega);obtain ⟨w0,_,_,_,N⟩:=fH ((1+A:Nat):Int) ((2+w:Nat):Int) (by omega) (by omega) (by omega) (by omega);obtain ⟨w1,_,_,_,F⟩:=fH (r3:Int) 4 (by omega) (by omega) (by omega) (by omega);obtain ⟨q,_,_,_,P⟩:=fH 1 4 (by omega) (by omega) (by omega) (by omega);obtain ⟨d,a1,a2,a3,H⟩:=fH 1 1 (by omega) (by omega) (by omega) (by omega);obtain ⟨wb,o,m,b3,C⟩:=fH 1 2 (by omega) (by omega) (by omega) (by omega);obtain ⟨e,W,e2,e3,D⟩:=fH 5 1 (by omega) (by omega) (by omega) (by omega);obtain ⟨c,rx,S,R⟩:=ah3 d wb e s O ⟨a1,by omega,by omega⟩ ⟨o,by omega,by omega⟩ ⟨W,by omega,by omega⟩;obtain ⟨u,x⟩:=aes c ((1+r:Nat):Int) S.1 S.2.1 S.2.2 (by omega) (by omega);generalize vS ((1+r:Nat):Int)=q0 at z x;have j:AV.agg [.bool (AV.toBool (Xqo (θ ((γ (s:Int))*3) [.bool d.neg,.str (ai d.n),.str (ai d.d),.bool wb.neg,.str (ai wb.n),.str (ai wb.d),.bool e.neg,.str (ai e.n),.str (ai e.d)]) .dead)),.str (AV.toStr (Xqo (Xq1 (θ ((γ (s:Int))*3) [.bool d.neg,.str (ai d.n),.str (ai d.d),.bool wb.neg,.str (ai wb.n),.str (ai wb.d),.bool e.neg,.str (ai e.n),.str (ai e.d)])) .dead)),.str (AV.toStr (Xqo (Xq1 (Xq1 (θ ((γ (s:Int))*3) [.bool d.neg,.str (ai d.n),.str (ai d.d),.bool wb.neg,.str (ai wb.n),.str (ai wb.d),.bool e.neg,.str (ai e.n),.str (ai e.d)]))) .dead))]= .agg [.bool c.neg,.str (ai c.n),.str (ai c.d)]:=by rw [R];rfl
 have f:(decide (((0:Nat):Int)≤(s:Int)))=true:=(k0 s)
 have h:(decide ((s:Int)<((3:Nat):Int)))=true:=(kl O)
 have i:(chk .bool (Xqo (θ ((γ (s:Int))*3) [.bool d.neg,.str (ai d.n),.str (ai d.d),.bool wb.neg,.str (ai wb.n),.str (ai wb.d),.bool e.neg,.str (ai e.n),.str (ai e.d)]) .dead))=true:=(by rw [R];rfl)
 have l:(chk .str (Xqo (Xq1 (θ ((γ (s:Int))*3) [.bool d.neg,.str (ai d.n),.str (ai d.d),.bool wb.neg,.str (ai wb.n),.str (ai wb.d),.bool e.neg,.str (ai e.n),.str (ai e.d)])) .dead))=true:=(by rw [R];rfl)
 have g:(chk .str (Xqo (Xq1 (Xq1 (θ ((γ (s:Int))*3) [.bool d.neg,.str (ai d.n),.str (ai d.d),.bool wb.neg,.str (ai wb.n),.str (ai wb.d),.bool e.neg,.str (ai e.n),.str (ai e.d)]))) .dead))=true:=(by rw [R];rfl)
 rcases tf ((U:Int)==((0:Nat):Int)) with b0|b0
 ·rcases tf ((T:Int)==((0:Nat):Int)) with o|o
  ·rcases tf ((Q:Int)==((0:Nat):Int)) with m|m
   ·exact ⟨⟨p.nm,p.tr,p.tm,p.td,[⟨5,false,[],[],[119,97,103,101]⟩,⟨3,w0.neg,ai w0.n,ai w0.d,[]⟩,⟨8,false,[],[],y⟩,⟨11,false,[],[],[]⟩,⟨9,false,[],[],[]⟩,⟨21,q.neg,ai q.n,ai q.d,[]⟩],p.ch,c.neg,ai c.n,ai c.d,u.neg,ai u.n,ai u.d⟩,k8,Xq0 rfl,rfl,(by omega),pK [] 3 7 (.k 30 f (.c h (.c i (.c l (.c g (.k 6 (ak m) (.k 12 (ak o) (.k 2 (ak b0) .nil)))))))) (.c x (.c z (.v 60 (.eq (fP (a:=1) (b:=r) (by omega))) (.c K (.v 54 (.eq j) (.c M (.c D (.c C (.c H (.c P (.c G (.c B (.c F (.c L (.c N (.v 18 (.eq (fP (a:=2) (b:=w) (by omega))) (.c J (.v 15 (.eq (fP (a:=1) (b:=A) (by omega))) (.c I (.c E .nil))))))))))))))))))))⟩
   ·exact ⟨⟨p.nm,p.tr,p.tm,p.td,[⟨5,false,[],[],[119,97,103,101]⟩,⟨3,w0.neg,ai w0.n,ai w0.d,[]⟩,⟨8,false,[],[],y⟩,⟨11,false,[],[],[]⟩,⟨9,false,[],[],[]⟩],p.ch,c.neg,ai c.n,ai c.d,u.neg,ai u.n,ai u.d⟩,k8,Xq0 rfl,rfl,(by omega),pK [] 3 3 (.k 30 f (.c h (.c i (.c l (.c g (.c (au m) (.k 12 (ak o) (.k 2 (ak b0) .nil)))))))) (.c x (.c z (.v 60 (.eq (fP (a:=1) (b:=r) (by omega))) (.c K (.v 54 (.eq j) (.c M (.c D (.c C (.c H (.c G (.c B (.c F (.c L (.c N (.v 18 (.eq (fP (a:=2) (b:=w) (by omega))) (.c J (.v 15 (.eq (fP (a:=1) (b:=A) (by omega))) (.c I (.c E .nil)))))))))))))))))))⟩
  ·rcases tf ((Q:Int)==((0:Nat):Int)) with m|m
   ·exact ⟨⟨p.nm,p.tr,p.tm,p.td,[⟨1,w1.neg,ai w1.n,ai w1.d,[]⟩,⟨3,w0.neg,ai w0.n,ai w0.d,[]⟩,⟨8,false,[],[],y⟩,⟨11,false,[],[],[]⟩,⟨9,false,[],[],[]⟩,⟨21,q.neg,ai q.n,ai q.d,[]⟩],p.ch,c.neg,ai c.n,ai c.d,u.neg,ai u.n,ai u.d⟩,k8,Xq0 rfl,rfl,(by omega),pK [] 3 5 (.k 30 f (.c h (.c i (.c l (.c g (.k 6 (ak m) (.k 11 (au o) (.k 2 (ak b0) .nil)))))))) (.c x (.c z (.v 60 (.eq (fP (a:=1) (b:=r) (by omega))) (.c K (.v 54 (.eq j) (.c M (.c D (.c C (.c H (.c P (.c G (.c B (.c F (.c L (.c N (.v 18 (.eq (fP (a:=2) (b:=w) (by omega))) (.c J (.v 15 (.eq (fP (a:=1) (b:=A) (by omega))) (.c I (.c E .nil))))))))))))))))))))⟩
   ·exact ⟨⟨p.nm,p.tr,p.tm,p.td,[⟨1,w1.neg,ai w1.n,ai w1.d,[]⟩,⟨3,w0.neg,ai w0.n,ai w0.d,[]⟩,⟨8,false,[],[],y⟩,⟨11,false,[],[],[]⟩,⟨9,false,[],[],[]⟩],p.ch,c.neg,ai c.n,ai c.d,u.neg,ai u.n,ai u.d⟩,k8,Xq0 rfl,rfl,(by omega),pK [] 3 1 (.k 30 f (.c h (.c i (.c l (.c g (.c (au m) (.k 11 (au o) (.k 2 (ak b0) .nil)))))))) (.c x (.c z (.v 60 (.eq (fP (a:=1) (b:=r) (by omega))) (.c K (.v 54 (.eq j) (.c M (.c D (.c C (.c H (.c G (.c B (.c F (.c L (.c N (.v 18 (.eq (fP (a:=2) (b:=w) (by omega))) (.c J (.v 15 (.eq (fP (a:=1) (b:=A) (by omega))) (.c I (.c E .nil)))))))))))))))))))⟩
 ·rcases tf ((T:Int)==((0:Nat):Int)) with o|o
  ·rcases tf ((Q:Int)==((0:Nat):Int)) with m|m
   ·exact ⟨⟨p.nm,p.tr,p.tm,p.td,[⟨5,false,[],[],[119,97,103,101]⟩,⟨3,w0.neg,ai w0.n,ai w0.d,[]⟩,⟨6,false,[],[],y⟩,⟨11,false,[],[],[]⟩,⟨9,false,[],[],[]⟩,⟨21,q.neg,ai q.n,ai q.d,[]⟩],p.ch,c.neg,ai c.n,ai c.d,u.neg,ai u.n,ai u.d⟩,k8,Xq0 rfl,rfl,(by omega),pK [] 3 6 (.k 30 f (.c h (.c i (.c l (.c g (.k 6 (ak m) (.k 12 (ak o) (.k 2 (au b0) .nil)))))))) (.c x (.c z (.v 60 (.eq (fP (a:=1) (b:=r) (by omega))) (.c K (.v 54 (.eq j) (.c M (.c D (.c C (.c H (.c P (.c G (.c B (.c F (.c L (.c N (.v 18 (.eq (fP (a:=2) (b:=w) (by omega))) (.c J (.v 15 (.eq (fP (a:=1) (b:=A) (by omega))) (.c I (.c E .nil))))))))))))))))))))⟩
   ·exact ⟨⟨p.nm,p.tr,p.tm,p.td,[⟨5,false,[],[],[119,97,103,101]⟩,⟨3,w0.neg,ai w0.n,ai w0.d,[]⟩,⟨6,false,[],[],y⟩,⟨11,false,[],[],[]⟩,⟨9,false,[],[],[]⟩],p.ch,c.neg,ai c.n,ai c.d,u.neg,ai u.n,ai u.d⟩,k8,Xq0 rfl,rfl,(by omega),pK [] 3 2 (.k 30 f (.c h (.c i (.c l (.c g (.c (au m) (.k 12 (ak o) (.k 2 (au b0) .nil)))))))) (.c x (.c z (.v 60 (.eq (fP (a:=1) (b:=r) (by omega))) (.c K (.v 54 (.eq j) (.c M (.c D (.c C (.c H (.c G (.c B (.c F (.c L (.c N (.v 18 (.eq (fP (a:=2) (b:=w) (by omega))) (.c J (.v 15 (.eq (fP (a:=1) (b:=A) (by omega))) (.c I (.c E .nil)))))))))))))))))))⟩
  ·rcases tf ((Q:Int)==((0:Nat):Int)) with m|m
   ·exact ⟨⟨p.nm,p.tr,p.tm,p.td,[⟨1,w1.neg,ai w1.n,ai w1.d,[]⟩,⟨3,w0.neg,ai w0.n,ai w0.d,[]⟩,⟨6,false,[],[],y⟩,⟨11,false,[],[],[]⟩,⟨9,false,[],[],[]⟩,⟨21,q.neg,ai q.n,ai q.d,[]⟩],p.ch,c.neg,ai c.n,ai c.d,u.neg,ai u.n,ai u.d⟩,k8,Xq0 rfl,rfl,(by omega),pK [] 3 4 (.k 30 f (.c h (.c i (.c l (.c g (.k 6 (ak m) (.k 11 (au o) (.k 2 (au b0) .nil)))))))) (.c x (.c z (.v 60 (.eq (fP (a:=1) (b:=r) (by omega))) (.c K (.v 54 (.eq j) (.c M (.c D (.c C (.c H (.c P (.c G (.c B (.c F (.c L (.c N (.v 18 (.eq (fP (a:=2) (b:=w) (by omega))) (.c J (.v 15 (.eq (fP (a:=1) (b:=A) (by omega))) (.c I (.c E .nil))))))))))))))))))))⟩
   ·exact ⟨⟨p.nm,p.tr,p.tm,p.td,[⟨1,w1.neg,ai w1.n,ai w1.d,[]⟩,⟨3,w0.neg,ai w0.n,ai w0.d,[]⟩,⟨6,false,[],[],y⟩,⟨11,false,[],[],[]⟩,⟨9,false,[],[],[]⟩],p.ch,c.neg,ai c.n,ai c.d,u.neg,ai u.n,ai u.d⟩,k8,Xq0 rfl,rfl,(by omega),pK [] 3 0 (.k 30 f (.c h (.c i (.c l (.c g (.c (au m) (.k 11 (au o) (.k 2 (au b0) .nil)))))))) (.c x (.c z (.v 60 (.eq (fP (a:=1) (b:=r) (by omega))) (.c K (.v 54 (.eq j) (.c M (.c D (.c C (.c H (.c G (.c B (.c F (.c L (.c N (.v 18 (.eq (fP (a:=2) (b:=w) (by omega))) (.c J (.v 15 (.eq (fP (a:=1) (b:=A) (by omega))) (.c I (.c E .nil)))))))))))))))))))⟩
end Go.Proofs.Tryz
