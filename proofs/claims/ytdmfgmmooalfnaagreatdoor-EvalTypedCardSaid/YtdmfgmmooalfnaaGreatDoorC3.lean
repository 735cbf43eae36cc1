/- Contracts of functions that the law reaches, each by its own hypotheses; joined by a program of mine. -/
import Derived.Test.YtdmfgmmooalfnaaGreatDoorC2
import Derived.Test.YtdmfgmmooalfnaaGreatDoorM5
import Derived.Test.YtdmfgmmooalfnaaGreatDoorC1
set_option linter.unusedSimpArgs false
set_option linter.unusedVariables false
set_option maxRecDepth 100000
set_option linter.unusedVariables false
open Go AM
open AV renaming tup→Yqq
open Option renaming getD→Xz4,isSome→Xza
open List renaming all→Xzx,drop→ε,drop_append→Xwd,drop_of_length_le→Xx8,map_drop→Xju,drop_eq_getElem_cons→Xxf,getD_eq_getElem?_getD→κ,getElem?_eq_getElem→π,length_append→η,length_singleton→φ,length_cons→ξ,append_nil→Γ,any_cons→Xv0,take→ν,length→θ,flatMap_cons→Xxu,drop_left→Xj2,take_of_length_le→υ,flatMap_append→Xxi,getElem_mem→Xxv,mem_singleton→Xjp,all_cons→Xj3,find?_append→Xk4,all_eq_true→Xjz,mem_of_getElem?→Xqt,length_map→Xjm,length_eq_zero_iff→Xv1,all_map→Xk7,mem_append→Xz6
open IntKind renaming wrap→γ
open Bool renaming and_eq_true→ο,true_and→Xqp,false_or→Xwo,false_eq_true→Xx4,and_true→Xw7,eq_iff_iff→Xx5,not_eq_true'→Xqw
open Nat renaming two_pow_pos→Xqv,eq_zero_or_pos→Xqg,lt_of_lt_of_le→Φ,pow_le_pow_right→Ψ,zero_le→Xx1,lt_of_le_of_lt→Xqk,div_one→Xwr,div_le_self→Xjw,le_trans→Xxr,add_sub_cancel_left→Xjo,mul_one→Ξ,zero_add→Xqd,lt_trans→Xqz,ble→Xqc,succ_mul→Xke,add_comm→Xx3,le_refl→Δ,lt_trichotomy→Xzf,not_lt_zero→Xz5,lt_or_ge→Xxc,one_le_pow→Yq4,mul_le_mul_left→Xq0,ble_eq_true_of_le→Xql,le_of_ble_eq_true→Xz3,one_mul→Xzt,succ_pos→Xk9,pow_add→Xxp,beq→Xqn,add_assoc→Xxy
open Int renaming natAbs_neg→Yqz,natAbs_natCast→Xzy,toNat→δ,fdiv→Xq4,emod_nonneg→Yqr,emod_lt_of_pos→Xkw,tmod→Xxj,tmod_lt_of_pos→Xwk,emod_eq_of_lt→Xk5
namespace Go.Proofs.Tryz
abbrev zcc3_0 : List UInt8 := [115,105,110,103,108,101]
abbrev zcc3_1 : List UInt8 := [105,110,99,111,109,101]
abbrev zcc3_2 : List UInt8 := [115,99,97,108,101]
abbrev zcc3_3 : List UInt8 := [98,97,115,105,99]
inductive Oq where
 |err (e:Int)
 |val (q:RQ)
def Oq.n:Oq→Bool| .err _=>false| .val q=>q.neg
def Oq.a:Oq→List UInt8| .err _=> []| .val q=>ae q.n
def Oq.d:Oq→List UInt8| .err _=> []| .val q=>ae q.d
def Oq.e:Oq→Int| .err e=>e| .val _=>0
def Oq.q:Oq→RQ| .err _=>q0| .val q=>q
def Dt (o:Oq):List AV:= [.bool o.n,.str o.a,.str o.d,ω o.e]
abbrev gz (o:Oq):AV:= .agg [.bool o.n,.str o.a,.str o.d,ω o.e]
noncomputable def Rk (t:Nat):AV→Bool:=match ap.tyAt t with|some ti=>kX ti|none=>fun _=>false
theorem ja (e:Int):CO 41 [ω e] (.ret (.agg [.bool false,.str [],.str [],ω e])):=pK [] 0 0 (.n 5 .nil) (.nil)
theorem afv (n:Bool) (a d:List UInt8) (e:Int) (c:lit true (!(e==((0:Nat):Int)))=true) (f:CO 41 [ω e] (.ret (.agg [.bool false,.str [],.str [],ω e]))):CO 43 [.agg [.bool n,.str a,.str d,ω e]] (.ret (.agg [.bool false,.str [],.str [],ω e])):=pK [] 1 1 (.k 6 c (.n 1 .nil)) (.c f .nil)
theorem afw (n:Bool) (a d:List UInt8) (e:Int) (c:lit true (!(fF n a d))=true) (h:lit false (!(e==((0:Nat):Int)))=true) (f:CO 70 [Ω n a d] (.ret (.bool (fF n a d)))) (g:CO 41 [ω 3] (.ret (.agg [.bool false,.str [],.str [],ω 3]))):CO 43 [.agg [.bool n,.str a,.str d,ω e]] (.ret (.agg [.bool false,.str [],.str [],ω 3])):=pK [] 2 2 (.k 5 c (.k 3 h (.n 1 .nil))) (.c g (.c f .nil))
theorem afx (n:Bool) (a d:List UInt8) (e:Int) (c:lit false (!(fF n a d))=true) (g:lit false (!(e==((0:Nat):Int)))=true) (f:CO 70 [Ω n a d] (.ret (.bool (fF n a d)))):CO 43 [.agg [.bool n,.str a,.str d,ω e]] (.ret (.agg [.bool n,.str a,.str d,ω e])):=pK [] 2 0 (.k 9 c (.k 3 g (.n 1 .nil))) (.c f .nil)
theorem afH (n:Bool) (a d:List UInt8) (o:Oq) (c:CO 43 [.agg [.bool n,.str a,.str d,ω 0]] (.ret (gz o))):CO 124 [Ω n a d] (.ret (gz o)):=pK [] 0 0 (.n 8 .nil) (.c c .nil)
theorem afE (b:Bool) (o:Oq) (c:lit true b=true) (d:CO 42 [ω 1] (.ret (Ω false (ae 1) (ae 1)))) (e:CO 124 [Ω false (ae 1) (ae 1)] (.ret (gz o))):CO 126 [.bool b] (.ret (gz o)):=pK [] 1 1 (.k 5 c .nil) (.c e (.c d .nil))
theorem afF (b:Bool) (o:Oq) (c:lit false b=true) (d:CO 42 [ω 0] (.ret (Ω false (ae 0) (ae 1)))) (e:CO 124 [Ω false (ae 0) (ae 1)] (.ret (gz o))):CO 126 [.bool b] (.ret (gz o)):=pK [] 1 0 (.k 5 c .nil) (.c e (.c d .nil))
theorem afa (n:Bool) (a d:List UInt8) (c:lit true ((n==false) && ((a==(ae 1)) && ((d==(ae 1)) && true)))=true) (e:CO 42 [ω 1] (.ret (Ω false (ae 1) (ae 1)))):CO 128 [Ω n a d] (.ret (.tup [.bool ((n==false) && ((a==(ae 1)) && ((d==(ae 1)) && true))),.bool true])):=pK [] 1 1 (.c c (.n 3 .nil)) (.c e .nil)
theorem afb (n:Bool) (a d:List UInt8) (c:lit false ((n==false) && ((a==(ae 1)) && ((d==(ae 1)) && true)))=true) (e:CO 42 [ω 1] (.ret (Ω false (ae 1) (ae 1)))) (f:CO 42 [ω 0] (.ret (Ω false (ae 0) (ae 1)))):CO 128 [Ω n a d] (.ret (.tup [.bool ((n==false) && ((a==(ae 1)) && ((d==(ae 1)) && true))),.bool ((n==false) && ((a==(ae 0)) && ((d==(ae 1)) && true)))])):=pK [] 1 0 (.k 3 c (.n 3 .nil)) (.c f (.c e .nil))
theorem afc (d nn:Bool) (f e c:List UInt8) (op:Int) (o:Oq) (ks vs g h xs:List AV) (k:Nat) (i:CO 124 [Ω d f e] (.ret (gz o))):CO 75 [.agg [.mp ks vs,.mp g h],.agg [ω op,.bool d,.str f,.str e,.str c],.sl xs k nn] (.ret (gz o)):=pK [] 0 0 (.n 8 .nil) (.c i .nil)
theorem afd (e nn d:Bool) (p f c:List UInt8) (op:Int) (o:Oq) (ks vs i j xs:List AV) (k:Nat) (m:Yqq [(Xz4 (dY ks vs (.agg [ω op,.str c])) (.agg [.bool false,.str [],.str [],ω 0])),.bool (Xza (dY ks vs (.agg [ω op,.str c])))]= .tup [gz o,.bool d]) (h:lit true (!d)=true) (g:(Xzx ks (Rk 134))=true) (n:CO 41 [ω 12] (.ret (.agg [.bool false,.str [],.str [],ω 12]))):CO 76 [.agg [.mp ks vs,.mp i j],.agg [ω op,.bool e,.str p,.str f,.str c],.sl xs k nn] (.ret (.agg [.bool false,.str [],.str [],ω 12])):=pK [] 1 1 (.k 5 h (.k 2 g (.n 3 .nil))) (.c n (.v 17 (.eq m) .nil))
theorem afe (f nn e:Bool) (o g c:List UInt8) (op:Int) (d:Oq) (ks vs j m xs:List AV) (k:Nat) (n:Yqq [(Xz4 (dY ks vs (.agg [ω op,.str c])) (.agg [.bool false,.str [],.str [],ω 0])),.bool (Xza (dY ks vs (.agg [ω op,.str c])))]= .tup [gz d,.bool e]) (i:lit false (!e)=true) (h:(Xzx ks (Rk 134))=true):CO 76 [.agg [.mp ks vs,.mp j m],.agg [ω op,.bool f,.str o,.str g,.str c],.sl xs k nn] (.ret (gz d)):=pK [] 1 0 (.k 9 i (.k 2 h (.n 3 .nil))) (.v 17 (.eq n) .nil)
theorem ae7 (g nn i o:Bool) (p h d:List UInt8) (op:Int) (c f e:Oq) (ks vs k m:List AV) (j:lit true (!(c.e==((0:Nat):Int)))=true) (n:CO 128 [.agg [.bool c.n,.str c.a,.str c.d]] (.ret (.tup [.bool i,.bool o]))):CO 77 [.agg [.mp ks vs,.mp k m],.agg [ω op,.bool g,.str p,.str h,.str d],.sl [.bool c.n,.str c.a,.str c.d,ω c.e,.bool f.n,.str f.a,.str f.d,ω f.e,.bool e.n,.str e.a,.str e.d,ω e.e] 3 nn] (.ret (gz c)):=pK [] 1 1 (.k 11 j (.n 8 .nil)) (.c n .nil)
theorem ae8 (k nn q g:Bool) (r h d:List UInt8) (op:Int) (c f e:Oq) (ks vs i n:List AV) (m:lit true (!g)=true) (p:lit false (!(c.e==((0:Nat):Int)))=true) (j:CO 128 [.agg [.bool c.n,.str c.a,.str c.d]] (.ret (.tup [.bool q,.bool g]))) (o:CO 41 [ω 13] (.ret (.agg [.bool false,.str [],.str [],ω 13]))):CO 77 [.agg [.mp ks vs,.mp i n],.agg [ω op,.bool k,.str r,.str h,.str d],.sl [.bool c.n,.str c.a,.str c.d,ω c.e,.bool f.n,.str f.a,.str f.d,ω f.e,.bool e.n,.str e.a,.str e.d,ω e.e] 3 nn] (.ret (.agg [.bool false,.str [],.str [],ω 13])):=pK [] 2 2 (.k 5 m (.c p (.n 8 .nil))) (.c o (.c j .nil))
theorem ae9 (m nn h g:Bool) (r i d:List UInt8) (op:Int) (c e f:Oq) (ks vs j p:List AV) (n:lit true h=true) (q:lit false (!g)=true) (o:lit false (!(c.e==((0:Nat):Int)))=true) (k:CO 128 [.agg [.bool c.n,.str c.a,.str c.d]] (.ret (.tup [.bool h,.bool g]))):CO 77 [.agg [.mp ks vs,.mp j p],.agg [ω op,.bool m,.str r,.str i,.str d],.sl [.bool c.n,.str c.a,.str c.d,ω c.e,.bool e.n,.str e.a,.str e.d,ω e.e,.bool f.n,.str f.a,.str f.d,ω f.e] 3 nn] (.ret (gz e)):=pK [] 3 4 (.k 11 n (.c q (.c o (.n 8 .nil)))) (.c k .nil)
theorem ae_ (m nn h g:Bool) (r i e:List UInt8) (op:Int) (c f d:Oq) (ks vs j p:List AV) (n:lit false h=true) (q:lit false (!g)=true) (o:lit false (!(c.e==((0:Nat):Int)))=true) (k:CO 128 [.agg [.bool c.n,.str c.a,.str c.d]] (.ret (.tup [.bool h,.bool g]))):CO 77 [.agg [.mp ks vs,.mp j p],.agg [ω op,.bool m,.str r,.str i,.str e],.sl [.bool c.n,.str c.a,.str c.d,ω c.e,.bool f.n,.str f.a,.str f.d,ω f.e,.bool d.n,.str d.a,.str d.d,ω d.e] 3 nn] (.ret (gz d)):=pK [] 3 0 (.k 11 n (.c q (.c o (.n 8 .nil)))) (.c k .nil)
theorem aaY (f nn:Bool) (m g e:List UInt8) (o c d:Oq) (r:RQ) (ks vs h i:List AV) (j:CO 123 [ω 9] (.ret (.fn 167 [] []))) (n:CO 167 [.agg [.bool c.n,.str c.a,.str c.d],.agg [.bool d.n,.str d.a,.str d.d]] (.ret (.agg [.bool r.neg,.str (ae r.n),.str (ae r.d)]))) (k:CO 124 [.agg [.bool r.neg,.str (ae r.n),.str (ae r.d)]] (.ret (gz o))):CO 74 [.agg [.mp ks vs,.mp h i],.agg [ω 9,.bool f,.str m,.str g,.str e],.sl [.bool c.n,.str c.a,.str c.d,ω c.e,.bool d.n,.str d.a,.str d.d,ω d.e] 2 nn] (.ret (gz o)):=pK [] 1 1 (.n 25 .nil) (.c k (.c n (.c j .nil)))
theorem aaQ:CO 123 [ω 9] (.ret (.fn 167 [] [])):=pK [] 1 1 (.n 1 .nil) (.nil)
theorem Xm (f nn:Bool) (m g e:List UInt8) (o c d:Oq) (r:RQ) (ks vs h i:List AV) (j:CO 123 [ω 10] (.ret (.fn 168 [] []))) (n:CO 168 [.agg [.bool c.n,.str c.a,.str c.d],.agg [.bool d.n,.str d.a,.str d.d]] (.ret (.agg [.bool r.neg,.str (ae r.n),.str (ae r.d)]))) (k:CO 124 [.agg [.bool r.neg,.str (ae r.n),.str (ae r.d)]] (.ret (gz o))):CO 74 [.agg [.mp ks vs,.mp h i],.agg [ω 10,.bool f,.str m,.str g,.str e],.sl [.bool c.n,.str c.a,.str c.d,ω c.e,.bool d.n,.str d.a,.str d.d,ω d.e] 2 nn] (.ret (gz o)):=pK [] 1 1 (.n 25 .nil) (.c k (.c n (.c j .nil)))
theorem Xb:CO 123 [ω 10] (.ret (.fn 168 [] [])):=pK [] 2 2 (.n 2 .nil) (.nil)
theorem Xn (f nn:Bool) (m g e:List UInt8) (o c d:Oq) (r:RQ) (ks vs h i:List AV) (j:CO 123 [ω 11] (.ret (.fn 169 [] []))) (n:CO 169 [.agg [.bool c.n,.str c.a,.str c.d],.agg [.bool d.n,.str d.a,.str d.d]] (.ret (.agg [.bool r.neg,.str (ae r.n),.str (ae r.d)]))) (k:CO 124 [.agg [.bool r.neg,.str (ae r.n),.str (ae r.d)]] (.ret (gz o))):CO 74 [.agg [.mp ks vs,.mp h i],.agg [ω 11,.bool f,.str m,.str g,.str e],.sl [.bool c.n,.str c.a,.str c.d,ω c.e,.bool d.n,.str d.a,.str d.d,ω d.e] 2 nn] (.ret (gz o)):=pK [] 1 1 (.n 25 .nil) (.c k (.c n (.c j .nil)))
theorem Xc:CO 123 [ω 11] (.ret (.fn 169 [] [])):=pK [] 3 4 (.n 3 .nil) (.nil)
theorem Xo (f nn:Bool) (m g e:List UInt8) (o c d:Oq) (r:RQ) (ks vs h i:List AV) (j:CO 123 [ω 12] (.ret (.nilF))) (n:CO 125 [.agg [.bool c.n,.str c.a,.str c.d],.agg [.bool d.n,.str d.a,.str d.d]] (.ret (.tup [.agg [.bool r.neg,.str (ae r.n),.str (ae r.d)],.bool true]))) (k:CO 124 [.agg [.bool r.neg,.str (ae r.n),.str (ae r.d)]] (.ret (gz o))):CO 74 [.agg [.mp ks vs,.mp h i],.agg [ω 12,.bool f,.str m,.str g,.str e],.sl [.bool c.n,.str c.a,.str c.d,ω c.e,.bool d.n,.str d.a,.str d.d,ω d.e] 2 nn] (.ret (gz o)):=pK [] 3 2 (.n 32 .nil) (.c k (.c n (.c j .nil)))
theorem UD (f nn:Bool) (m g e:List UInt8) (c d:Oq) (ks vs h i:List AV) (j:CO 123 [ω 12] (.ret (.nilF))) (n:CO 125 [.agg [.bool c.n,.str c.a,.str c.d],.agg [.bool d.n,.str d.a,.str d.d]] (.ret (.tup [Ω false [] [],.bool false]))) (k:CO 41 [ω 16] (.ret (.agg [.bool false,.str [],.str [],ω 16]))):CO 74 [.agg [.mp ks vs,.mp h i],.agg [ω 12,.bool f,.str m,.str g,.str e],.sl [.bool c.n,.str c.a,.str c.d,ω c.e,.bool d.n,.str d.a,.str d.d,ω d.e] 2 nn] (.ret (.agg [.bool false,.str [],.str [],ω 16])):=pK [] 3 6 (.n 29 .nil) (.c k (.c n (.c j .nil)))
theorem Lu:CO 123 [ω 12] (.ret (.nilF)):=pK [] 5 0 (.n 5 .nil) (.nil)
theorem LM (n g nn:Bool) (a d p h f:List UInt8) (o c e:Oq) (ks vs i j:List AV) (k:CO 123 [ω 13] (.ret (.fn 166 [] [.pp [ω 1] 0]))) (q:CO 166 [.agg [.bool c.n,.str c.a,.str c.d],.agg [.bool e.n,.str e.a,.str e.d],.pp [ω 1] 0] (.ret (Ω n a d))) (m:CO 124 [Ω n a d] (.ret (gz o))):CO 74 [.agg [.mp ks vs,.mp i j],.agg [ω 13,.bool g,.str p,.str h,.str f],.sl [.bool c.n,.str c.a,.str c.d,ω c.e,.bool e.n,.str e.a,.str e.d,ω e.e] 2 nn] (.ret (gz o)):=pK [] 1 1 (.n 25 .nil) (.c m (.c q (.c k .nil)))
theorem LC (c:CO 165 [ω 1] (.ret (.fn 166 [] [.pp [ω 1] 0]))):CO 123 [ω 13] (.ret (.fn 166 [] [.pp [ω 1] 0])):=pK [] 4 8 (.n 4 .nil) (.c c .nil)
theorem LP (n g nn:Bool) (a d p h f:List UInt8) (o c e:Oq) (ks vs i j:List AV) (k:CO 123 [ω 14] (.ret (.fn 166 [] [.pp [ω (-1)] 0]))) (q:CO 166 [.agg [.bool c.n,.str c.a,.str c.d],.agg [.bool e.n,.str e.a,.str e.d],.pp [ω (-1)] 0] (.ret (Ω n a d))) (m:CO 124 [Ω n a d] (.ret (gz o))):CO 74 [.agg [.mp ks vs,.mp i j],.agg [ω 14,.bool g,.str p,.str h,.str f],.sl [.bool c.n,.str c.a,.str c.d,ω c.e,.bool e.n,.str e.a,.str e.d,ω e.e] 2 nn] (.ret (gz o)):=pK [] 1 1 (.n 25 .nil) (.c m (.c q (.c k .nil)))
theorem LD (c:CO 165 [ω (-1)] (.ret (.fn 166 [] [.pp [ω (-1)] 0]))):CO 123 [ω 14] (.ret (.fn 166 [] [.pp [ω (-1)] 0])):=pK [] 5 16 (.n 5 .nil) (.c c .nil)
theorem Xp (f nn:Bool) (n h e:List UInt8) (g:Int) (o c d:Oq) (ks vs i j:List AV) (k:CO 123 [ω 16] (.ret (.nilF))) (p:CO 127 [.agg [.bool c.n,.str c.a,.str c.d],.agg [.bool d.n,.str d.a,.str d.d]] (.ret (ω g))) (m:CO 126 [.bool (decide (g<((0:Nat):Int)))] (.ret (gz o))):CO 74 [.agg [.mp ks vs,.mp i j],.agg [ω 16,.bool f,.str n,.str h,.str e],.sl [.bool c.n,.str c.a,.str c.d,ω c.e,.bool d.n,.str d.a,.str d.d,ω d.e] 2 nn] (.ret (gz o)):=pK [] 3 4 (.n 28 .nil) (.c m (.c p (.c k .nil)))
theorem Xd:CO 123 [ω 16] (.ret (.nilF)):=pK [] 5 0 (.n 5 .nil) (.nil)
theorem Xq (f nn:Bool) (k g e:List UInt8) (o c d:Oq) (ks vs h i:List AV) (j:CO 123 [ω 17] (.ret (.nilF))) (m:CO 126 [.bool ((c.n==d.n) && ((c.a==d.a) && ((c.d==d.d) && true)))] (.ret (gz o))):CO 74 [.agg [.mp ks vs,.mp h i],.agg [ω 17,.bool f,.str k,.str g,.str e],.sl [.bool c.n,.str c.a,.str c.d,ω c.e,.bool d.n,.str d.a,.str d.d,ω d.e] 2 nn] (.ret (gz o)):=pK [] 4 8 (.n 29 .nil) (.c m (.c j .nil))
theorem Xe:CO 123 [ω 17] (.ret (.nilF)):=pK [] 5 0 (.n 5 .nil) (.nil)
theorem Xr (m nn t f r h:Bool) (u g e:List UInt8) (c d:Oq) (ks vs i o:List AV) (n:lit true (!f)=true) (j:CO 123 [ω 18] (.ret (.nilF))) (p:CO 128 [.agg [.bool c.n,.str c.a,.str c.d]] (.ret (.tup [.bool t,.bool f]))) (k:CO 128 [.agg [.bool d.n,.str d.a,.str d.d]] (.ret (.tup [.bool r,.bool h]))) (q:CO 41 [ω 13] (.ret (.agg [.bool false,.str [],.str [],ω 13]))):CO 74 [.agg [.mp ks vs,.mp i o],.agg [ω 18,.bool m,.str u,.str g,.str e],.sl [.bool c.n,.str c.a,.str c.d,ω c.e,.bool d.n,.str d.a,.str d.d,ω d.e] 2 nn] (.ret (.agg [.bool false,.str [],.str [],ω 13])):=pK [] 6 48 (.k 6 n (.n 24 .nil)) (.c q (.c k (.c p (.c j .nil))))
theorem Xt (m nn u g t f:Bool) (v h e:List UInt8) (c d:Oq) (ks vs i o:List AV) (n:lit true (!f)=true) (q:lit false (!g)=true) (j:CO 123 [ω 18] (.ret (.nilF))) (p:CO 128 [.agg [.bool c.n,.str c.a,.str c.d]] (.ret (.tup [.bool u,.bool g]))) (k:CO 128 [.agg [.bool d.n,.str d.a,.str d.d]] (.ret (.tup [.bool t,.bool f]))) (r:CO 41 [ω 13] (.ret (.agg [.bool false,.str [],.str [],ω 13]))):CO 74 [.agg [.mp ks vs,.mp i o],.agg [ω 18,.bool m,.str v,.str h,.str e],.sl [.bool c.n,.str c.a,.str c.d,ω c.e,.bool d.n,.str d.a,.str d.d,ω d.e] 2 nn] (.ret (.agg [.bool false,.str [],.str [],ω 13])):=pK [] 6 32 (.k 5 n (.c q (.n 24 .nil))) (.c r (.c k (.c p (.c j .nil))))
theorem Xu (p nn i g h f:Bool) (y j e:List UInt8) (o c d:Oq) (ks vs k t:List AV) (q:lit true i=true) (u:lit false (!f)=true) (r:lit false (!g)=true) (m:CO 123 [ω 18] (.ret (.nilF))) (v:CO 128 [.agg [.bool c.n,.str c.a,.str c.d]] (.ret (.tup [.bool i,.bool g]))) (n:CO 128 [.agg [.bool d.n,.str d.a,.str d.d]] (.ret (.tup [.bool h,.bool f]))) (w:CO 126 [.bool h] (.ret (gz o))):CO 74 [.agg [.mp ks vs,.mp k t],.agg [ω 18,.bool p,.str y,.str j,.str e],.sl [.bool c.n,.str c.a,.str c.d,ω c.e,.bool d.n,.str d.a,.str d.d,ω d.e] 2 nn] (.ret (gz o)):=pK [] 8 192 (.k 5 q (.k 2 u (.c r (.n 24 .nil)))) (.c w (.c n (.c v (.c m .nil))))
theorem Xv (n nn h g w f:Bool) (y i e:List UInt8) (o c d:Oq) (ks vs j r:List AV) (p:lit false h=true) (t:lit false (!f)=true) (q:lit false (!g)=true) (k:CO 123 [ω 18] (.ret (.nilF))) (u:CO 128 [.agg [.bool c.n,.str c.a,.str c.d]] (.ret (.tup [.bool h,.bool g]))) (m:CO 128 [.agg [.bool d.n,.str d.a,.str d.d]] (.ret (.tup [.bool w,.bool f]))) (v:CO 126 [.bool false] (.ret (gz o))):CO 74 [.agg [.mp ks vs,.mp j r],.agg [ω 18,.bool n,.str y,.str i,.str e],.sl [.bool c.n,.str c.a,.str c.d,ω c.e,.bool d.n,.str d.a,.str d.d,ω d.e] 2 nn] (.ret (gz o)):=pK [] 8 64 (.k 5 p (.k 2 t (.c q (.n 24 .nil)))) (.c v (.c m (.c u (.c k .nil))))
theorem zf:CO 123 [ω 18] (.ret (.nilF)):=pK [] 5 0 (.n 5 .nil) (.nil)
theorem Xw (m nn t f r h:Bool) (u g e:List UInt8) (c d:Oq) (ks vs i o:List AV) (n:lit true (!f)=true) (j:CO 123 [ω 19] (.ret (.nilF))) (p:CO 128 [.agg [.bool c.n,.str c.a,.str c.d]] (.ret (.tup [.bool t,.bool f]))) (k:CO 128 [.agg [.bool d.n,.str d.a,.str d.d]] (.ret (.tup [.bool r,.bool h]))) (q:CO 41 [ω 13] (.ret (.agg [.bool false,.str [],.str [],ω 13]))):CO 74 [.agg [.mp ks vs,.mp i o],.agg [ω 19,.bool m,.str u,.str g,.str e],.sl [.bool c.n,.str c.a,.str c.d,ω c.e,.bool d.n,.str d.a,.str d.d,ω d.e] 2 nn] (.ret (.agg [.bool false,.str [],.str [],ω 13])):=pK [] 6 48 (.k 6 n (.n 24 .nil)) (.c q (.c k (.c p (.c j .nil))))
theorem Xx (m nn u g t f:Bool) (v h e:List UInt8) (c d:Oq) (ks vs i o:List AV) (n:lit true (!f)=true) (q:lit false (!g)=true) (j:CO 123 [ω 19] (.ret (.nilF))) (p:CO 128 [.agg [.bool c.n,.str c.a,.str c.d]] (.ret (.tup [.bool u,.bool g]))) (k:CO 128 [.agg [.bool d.n,.str d.a,.str d.d]] (.ret (.tup [.bool t,.bool f]))) (r:CO 41 [ω 13] (.ret (.agg [.bool false,.str [],.str [],ω 13]))):CO 74 [.agg [.mp ks vs,.mp i o],.agg [ω 19,.bool m,.str v,.str h,.str e],.sl [.bool c.n,.str c.a,.str c.d,ω c.e,.bool d.n,.str d.a,.str d.d,ω d.e] 2 nn] (.ret (.agg [.bool false,.str [],.str [],ω 13])):=pK [] 6 32 (.k 5 n (.c q (.n 24 .nil))) (.c r (.c k (.c p (.c j .nil))))
theorem Xy (n nn h g w f:Bool) (y i e:List UInt8) (o c d:Oq) (ks vs j r:List AV) (p:lit true h=true) (t:lit false (!f)=true) (q:lit false (!g)=true) (k:CO 123 [ω 19] (.ret (.nilF))) (u:CO 128 [.agg [.bool c.n,.str c.a,.str c.d]] (.ret (.tup [.bool h,.bool g]))) (m:CO 128 [.agg [.bool d.n,.str d.a,.str d.d]] (.ret (.tup [.bool w,.bool f]))) (v:CO 126 [.bool true] (.ret (gz o))):CO 74 [.agg [.mp ks vs,.mp j r],.agg [ω 19,.bool n,.str y,.str i,.str e],.sl [.bool c.n,.str c.a,.str c.d,ω c.e,.bool d.n,.str d.a,.str d.d,ω d.e] 2 nn] (.ret (gz o)):=pK [] 8 128 (.k 5 p (.k 2 t (.c q (.n 24 .nil)))) (.c v (.c m (.c u (.c k .nil))))
theorem Xz (p nn i g h f:Bool) (y j e:List UInt8) (o c d:Oq) (ks vs k t:List AV) (q:lit false i=true) (u:lit false (!f)=true) (r:lit false (!g)=true) (m:CO 123 [ω 19] (.ret (.nilF))) (v:CO 128 [.agg [.bool c.n,.str c.a,.str c.d]] (.ret (.tup [.bool i,.bool g]))) (n:CO 128 [.agg [.bool d.n,.str d.a,.str d.d]] (.ret (.tup [.bool h,.bool f]))) (w:CO 126 [.bool h] (.ret (gz o))):CO 74 [.agg [.mp ks vs,.mp k t],.agg [ω 19,.bool p,.str y,.str j,.str e],.sl [.bool c.n,.str c.a,.str c.d,ω c.e,.bool d.n,.str d.a,.str d.d,ω d.e] 2 nn] (.ret (gz o)):=pK [] 8 0 (.k 5 q (.k 2 u (.c r (.n 24 .nil)))) (.c w (.c n (.c v (.c m .nil))))
theorem zg:CO 123 [ω 19] (.ret (.nilF)):=pK [] 5 0 (.n 5 .nil) (.nil)
theorem QX:CO 165 [ω 1] (.ret (.fn 166 [] [.pp [ω 1] 0])):=pK [] 0 0 .nil (.nil)
theorem aa1 (f c:Bool) (h i d e:List UInt8) (g:Int) (j:lit true (decide (((0:Nat):Int)<(γ .i64 (g*((1:Nat):Int)))))=true) (k:CO 127 [Ω f h i,Ω c d e] (.ret (ω g))):CO 166 [Ω f h i,Ω c d e,.pp [ω 1] 0] (.ret (Ω c d e)):=pK [] 1 1 (.k 7 j (.n 7 .nil)) (.c k .nil)
theorem aa2 (c f:Bool) (d e h i:List UInt8) (g:Int) (j:lit false (decide (((0:Nat):Int)<(γ .i64 (g*((1:Nat):Int)))))=true) (k:CO 127 [Ω c d e,Ω f h i] (.ret (ω g))):CO 166 [Ω c d e,Ω f h i,.pp [ω 1] 0] (.ret (Ω c d e)):=pK [] 1 0 (.k 7 j (.n 7 .nil)) (.c k .nil)
theorem QW:CO 165 [ω (-1)] (.ret (.fn 166 [] [.pp [ω (-1)] 0])):=pK [] 0 0 .nil (.nil)
theorem aaZ (f c:Bool) (h i d e:List UInt8) (g:Int) (j:lit true (decide (((0:Nat):Int)<(γ .i64 (g*(-1:Int)))))=true) (k:CO 127 [Ω f h i,Ω c d e] (.ret (ω g))):CO 166 [Ω f h i,Ω c d e,.pp [ω (-1)] 0] (.ret (Ω c d e)):=pK [] 1 1 (.k 7 j (.n 7 .nil)) (.c k .nil)
theorem aa0 (c f:Bool) (d e h i:List UInt8) (g:Int) (j:lit false (decide (((0:Nat):Int)<(γ .i64 (g*(-1:Int)))))=true) (k:CO 127 [Ω c d e,Ω f h i] (.ret (ω g))):CO 166 [Ω c d e,Ω f h i,.pp [ω (-1)] 0] (.ret (Ω c d e)):=pK [] 1 0 (.k 7 j (.n 7 .nil)) (.c k .nil)
def kJ (q:RQ):Bool:=decide (g_ q.n≤400) && decide (g_ q.d≤400)
def Oq.ok:Oq→Prop| .err e=>e ≠ 0| .val q=>q.ok∧kJ q=true
def vZ (n:Bool) (a d:List UInt8) (e:Int):Oq:=if e=0 then (if fF n a d=true then .val ⟨n,ah a,ah d⟩ else .err 3) else .err e
def og (q:RQ):Oq:=if kJ q=true then .val q else .err 3
def bR (b:Bool):RQ:=if b then ⟨false,1,1⟩ else ⟨false,0,1⟩
def BM (b:Bool):Oq:= .val (bR b)
def Oq.one (o:Oq):Bool:=(o.n==false) && ((o.a==(ae 1)) && ((o.d==(ae 1)) && true))
def Oq.bit (o:Oq):Bool:=o.one||((o.n==false) && ((o.a==(ae 0)) && ((o.d==(ae 1)) && true)))
def eqO (a b:Oq):Bool:=(a.n==b.n) && ((a.a==b.a) && ((a.d==b.d) && true))
def Ui (a b c:Oq):Oq:=if a.e=0 then (if a.bit then (if a.one then b else c) else .err 13) else a
def FZ (op:Int) (a b:Oq):Oq:=
 if op=9 then og (jf a.q b.q) else if op=10 then og (jD a.q b.q) else if op=11 then og (nX a.q b.q)
 else if op=12 then (if b.q.n=0 then .err 16 else og (yj a.q b.q))
 else if op=13 then (if 0<lS a.q b.q then b else a) else if op=14 then (if lS a.q b.q<0 then b else a)
 else if op=16 then BM (decide (lS a.q b.q<0)) else if op=17 then BM (eqO a b)
 else if a.bit && b.bit then BM (if op=18 then a.one && b.one else a.one||b.one) else .err 13
theorem vJ {n:Bool} {a d:List UInt8} (h:fF n a d=true):je n a d=true∧kJ ⟨n,ah a,ah d⟩=true:=by
 unfold fF at h;simp only [ο] at h;exact ⟨h.1.1,by unfold kJ;simp only [ο];exact ⟨h.1.2,h.2⟩⟩
theorem lV {n:Bool} {a d:List UInt8} (h:je n a d=true):ae (ah a)=a∧ae (ah d)=d:=by
 rw [kW] at h;exact ⟨(pq a).1 h.1,(pq d).1 h.2.1⟩
theorem D6 (n:Bool) (a d:List UInt8) (e:Int):(vZ n a d e).ok:=by
 unfold vZ;split
 ·split
  ·rename_i h;obtain ⟨c,f⟩:=vJ h;have:=ny n a d;unfold vQ at this;rw [if_pos c] at this;exact ⟨this,f⟩
  ·exact (by decide:(3:Int) ≠ 0)
 ·assumption
theorem rW {q:RQ} (h:q.ok):fF q.neg (ae q.n) (ae q.d)=kJ q:=by
 unfold fF kJ;rw [qP q h,aH,aH,Xqp]
theorem Aa {q:RQ} (h:q.ok):vZ q.neg (ae q.n) (ae q.d) 0=og q:=by
 unfold vZ og;rw [if_pos rfl,rW h,aH,aH]
theorem qJ {q:RQ} (h:q.ok):(og q).ok:=by
 rw [← Aa h];exact D6 _ _ _ _
theorem Ws (b:Bool):(bR b).ok:=by cases b<;>exact ⟨by decide,by decide,by decide⟩
theorem MB:g_ 1≤400∧g_ 0≤400:=⟨jA (k:=400) (Nat.one_lt_two_pow (n:=400) (by decide)),jA (k:=400) (Xqv 400)⟩
theorem Rn {x:Nat} (h:g_ x≤400):(ae x).length≤51:=by
 refine eu (k:=51) ?_;rcases Xqg x with h0|h0
 ·rw [h0];apply Xqv
 ·obtain ⟨m,d,_,c⟩:=wJ h0;refine Φ c ?_;apply Ψ (by decide);omega
theorem uC (b:Bool):(BM b).ok:=by
 refine ⟨Ws b, ?_⟩;unfold kJ bR;have:=MB;cases b<;>simp [this.1,this.2]
theorem dn {q:RQ} (h:kJ q=true):(ae q.n).length≤51∧(ae q.d).length≤51:=by
 unfold kJ at h;simp only [ο,decide_eq_true_eq] at h;exact ⟨Rn h.1,Rn h.2⟩
theorem agr {o:Oq} (h:o.ok):o.a.length≤51∧o.d.length≤51:=by
 cases o with
 |err e=>exact ⟨Xx1 _,Xx1 _⟩
 |val q=>exact dn h.2
theorem wR (n:Bool) (a d:List UInt8) (e:Int) (j:a.length<2^36) (hd:d.length<2^36):CO 43 [.agg [.bool n,.str a,.str d,ω e]] (.ret (gz (vZ n a d e))):=by
 have f:=eQ n a d j hd;unfold vZ;by_cases h:e=0
 ·rw [if_pos h];have g:lit false (!(e==((0:Nat):Int)))=true:=by rw [h];rfl
  cases c:fF n a d with
  |true=>
   rw [c] at f;rw [if_pos rfl];have:=afx n a d e (by rw [c];rfl) g (by rw [c];exact f);obtain ⟨k,i⟩:=lV (vJ c).1;show CO 43 _ (.ret (.agg [.bool n,.str (ae (ah a)),.str (ae (ah d)),ω 0]));rw [k,i,← h];exact this
  |false=>
   rw [c] at f;rw [if_neg (by simp)];exact afw n a d e (by rw [c];rfl) g (by rw [c];exact f) (ja 3)
 ·rw [if_neg h];exact afv n a d e (by rw [show (e==((0:Nat):Int))=false from beq_eq_false_iff_ne.2 h];rfl) (ja e)
theorem LQ (n:Bool) (a d:List UInt8) (c:a.length<2^36) (hd:d.length<2^36):CO 124 [Ω n a d] (.ret (gz (vZ n a d 0))):=afH n a d _ (wR n a d 0 c hd)
theorem rV {q:RQ} (h:q.ok) (c:(ae q.n).length<2^36) (d:(ae q.d).length<2^36):CO 124 [qA q] (.ret (gz (og q))):=by
 rw [← Aa h];exact LQ _ _ _ c d
theorem rU {o:Oq} (h:o.ok) (d:o.e=0):CO 124 [.agg [.bool o.n,.str o.a,.str o.d]] (.ret (gz o)):=by
 cases o with
 |err e=>exact absurd d h
 |val q=>
  have c:=rV h.1 (Xqk (dn h.2).1 (by decide)) (Xqk (dn h.2).2 (by decide));unfold og at c;rw [if_pos h.2] at c;exact c
theorem lT (b:Bool):CO 126 [.bool b] (.ret (gz (BM b))):=by
 cases b with
 |true=>exact afE true _ rfl uo (rU (uC true) rfl)
 |false=>exact afF false _ rfl iY (rU (uC false) rfl)
theorem ou (o:Oq):CO 128 [.agg [.bool o.n,.str o.a,.str o.d]] (.ret (.tup [.bool o.one,.bool o.bit])):=by
 unfold Oq.bit;cases h:o.one with
 |true=>
  have:=afa o.n o.a o.d h uo;rw [show ((o.n==false) && ((o.a==(ae 1)) && ((o.d==(ae 1)) && true)))=true from h] at this;exact this
 |false=>
  have:=afb o.n o.a o.d (by rw [show ((o.n==false) && ((o.a==(ae 1)) && ((o.d==(ae 1)) && true)))=false from h];rfl) uo iY;rw [show ((o.n==false) && ((o.a==(ae 1)) && ((o.d==(ae 1)) && true)))=false from h] at this;rw [Xwo];exact this
section
variable (op:Int) (ng nn:Bool) (nu de name:List UInt8) (ks vs kt vt:List AV) (o0 o1 o2:Oq)
theorem OT:CO 77 [.agg [.mp ks vs,.mp kt vt],.agg [ω op,.bool ng,.str nu,.str de,.str name],.sl (Dt o0++(Dt o1++Dt o2)) 3 nn] (.ret (gz (Ui o0 o1 o2))):=by
 have c:=ou o0;unfold Ui;by_cases h:o0.e=0
 ·rw [if_pos h];have d:lit false (!(o0.e==((0:Nat):Int)))=true:=by rw [h];rfl
  cases e:o0.bit with
  |false=>
   rw [e] at c;exact ae8 _ _ _ _ _ _ _ _ o0 o1 o2 ks vs kt vt rfl d c (ja 13)
  |true=>
   rw [e] at c;cases f:o0.one with
   |true=>rw [f] at c;exact ae9 _ _ _ _ _ _ _ _ o0 o1 o2 ks vs kt vt rfl rfl d c
   |false=>rw [f] at c;exact ae_ _ _ _ _ _ _ _ _ o0 o1 o2 ks vs kt vt rfl rfl d c
 ·rw [if_neg h];exact ae7 _ _ _ _ _ _ _ _ o0 o1 o2 ks vs kt vt (by rw [show (o0.e==((0:Nat):Int))=false from beq_eq_false_iff_ne.2 h];rfl) c
theorem amU {g:Int} (h:g=0∨g=1∨g= -1):decide (((0:Nat):Int)<(γ .i64 (g*((1:Nat):Int))))=decide (0<g)∧decide (((0:Nat):Int)<(γ .i64 (g*(-1:Int))))=decide (g<0):=by
 rcases h with rfl|rfl|rfl<;>decide+kernel
theorem anA (a b:RQ):lS a b=0∨lS a b=1∨lS a b= -1:=by
 unfold lS xh;split
 ·exact .inl rfl
 ·split
  ·exact .inr (.inr rfl)
  ·exact .inr (.inl rfl)
theorem GI {o:Oq} (h:o.ok) (c:o.e=0):∃ q:RQ,o= .val q∧q.ok∧kJ q=true:=by
 cases o with
 |err e=>exact absurd c h
 |val q=>exact ⟨q,rfl,h.1,h.2⟩
theorem Xl (E:(9≤op∧op≤14)∨(16≤op∧op≤19)) (k0:o0.ok) (y:o0.e=0) (k1:o1.ok) (z:o1.e=0):CO 74 [.agg [.mp ks vs,.mp kt vt],.agg [ω op,.bool ng,.str nu,.str de,.str name],.sl (Dt o0++Dt o1) 2 nn] (.ret (gz (FZ op o0 o1))):=by
 obtain ⟨a,rfl,t,G⟩:=GI k0 y;obtain ⟨b,rfl,w,C⟩:=GI k1 z;obtain ⟨j,g⟩:=dn G;obtain ⟨i,m⟩:=dn C;have u:=lC t;have p:=lC w;have d:∀ k:Nat,k≤51→k<2^28:=fun k h=>Xqk h (by decide)
 have c:∀ k:Nat,k≤51→k<2^29:=fun k h=>Xqk h (by decide)
 have r:CO 127 [qA a,qA b] (.ret (ω (lS a b))):=by
  have:=Gm a.neg b.neg (ae a.n) (ae a.d) (ae b.n) (ae b.d) (d _ j) (d _ g) (d _ i) (d _ m);rw [u,p] at this;exact this
 have D:=anA a b;obtain ⟨B,A⟩:=amU D;have F:op=9∨op=10∨op=11∨op=12∨op=13∨op=14∨op=16∨op=17∨op=18∨op=19:=by omega
 have v:∀ {q:RQ},(ae q.n).length≤4*51+1∧(ae q.d).length≤2*51→(ae q.n).length<2^36∧(ae q.d).length<2^36:=fun h=> ⟨Xqk h.1 (by decide),Xqk h.2 (by decide)⟩
 rcases F with rfl|rfl|rfl|rfl|rfl|rfl|rfl|rfl|rfl|rfl
 ·have:=Gl a.neg b.neg (ae a.n) (ae a.d) (ae b.n) (ae b.d) (c _ j) (c _ g) (c _ i) (c _ m);rw [u,p] at this;obtain ⟨o,n⟩:=v (zH a b 51 j g i m);exact aaY _ _ _ _ _ _ (.val a) (.val b) _ ks vs kt vt aaQ this (rV (jQ t w) o n)
 ·have:=Gn a.neg b.neg (ae a.n) (ae a.d) (ae b.n) (ae b.d) (c _ j) (c _ g) (d _ i) (d _ m);rw [u,p] at this;obtain ⟨o,n⟩:=v (zH a (zM b) 51 j g i m);exact Xm _ _ _ _ _ _ (.val a) (.val b) _ ks vs kt vt Xb this (rV (qH t w) o n)
 ·have:=Sz a.neg b.neg (ae a.n) (ae a.d) (ae b.n) (ae b.d) (c _ j) (c _ g) (c _ i) (c _ m);rw [u,p] at this;have:=fD a.n b.n;have:=fD a.d b.d;have:=t_ (!(a.neg==b.neg)) (a.n*b.n) (a.d*b.d);obtain ⟨o,n⟩:=v (q:=nX a b) ⟨by unfold nX;omega,by unfold nX;omega⟩;exact Xn _ _ _ _ _ _ (.val a) (.val b) _ ks vs kt vt Xc (by assumption) (rV (ug t w) o n)
 ·rcases Xqg b.n with h0|h0
  ·have:=YZ a.neg b.neg (ae a.n) (ae a.d) (ae b.n) (ae b.d) (c _ j) (c _ g) (c _ i) (c _ m) (by rw [p];exact h0);show CO 74 _ (.ret (gz (if b.n=0 then .err 16 else _)));rw [if_pos h0];exact UD _ _ _ _ _ (.val a) (.val b) ks vs kt vt Lu this (ja 16)
  ·have:=Nu a.neg b.neg (ae a.n) (ae a.d) (ae b.n) (ae b.d) (c _ j) (c _ g) (c _ i) (c _ m) (by rw [p];exact h0);rw [u,p] at this;have:=fD a.n b.d;have:=fD a.d b.n;have:=t_ (!(a.neg==b.neg)) (a.n*b.d) (a.d*b.n);obtain ⟨o,n⟩:=v (q:=yj a b) ⟨by unfold yj;omega,by unfold yj;omega⟩;show CO 74 _ (.ret (gz (if b.n=0 then .err 16 else og (yj a b))));rw [if_neg (by omega)];exact Xo _ _ _ _ _ _ (.val a) (.val b) _ ks vs kt vt Lu (by assumption) (rV (J6 t h0) o n)
 ·show CO 74 _ (.ret (gz (if 0<lS a b then .val b else .val a)));by_cases h:0<lS a b
  ·rw [if_pos h];exact LM _ _ _ _ _ _ _ _ _ (.val a) (.val b) ks vs kt vt (LC QX) (aa1 _ _ _ _ _ _ _ (by rw [B,Yq0 h];rfl) r) (rU k1 z)
  ·rw [if_neg h];exact LM _ _ _ _ _ _ _ _ _ (.val a) (.val b) ks vs kt vt (LC QX) (aa2 _ _ _ _ _ _ _ (by rw [B,Yq1 h];rfl) r) (rU k0 y)
 ·show CO 74 _ (.ret (gz (if lS a b<0 then .val b else .val a)));by_cases h:lS a b<0
  ·rw [if_pos h];exact LP _ _ _ _ _ _ _ _ _ (.val a) (.val b) ks vs kt vt (LD QW) (aaZ _ _ _ _ _ _ _ (by rw [A,Yq0 h];rfl) r) (rU k1 z)
  ·rw [if_neg h];exact LP _ _ _ _ _ _ _ _ _ (.val a) (.val b) ks vs kt vt (LD QW) (aa0 _ _ _ _ _ _ _ (by rw [A,Yq1 h];rfl) r) (rU k0 y)
 ·exact Xp _ _ _ _ _ _ _ (.val a) (.val b) ks vs kt vt Xd r (lT _)
 ·exact Xq _ _ _ _ _ _ (.val a) (.val b) ks vs kt vt Xe (lT _)
 ·have f:=ou (.val a);have e:=ou (.val b);show CO 74 _ (.ret (gz (if Oq.bit (.val a) && Oq.bit (.val b) then BM (Oq.one (.val a) && Oq.one (.val b)) else .err 13)));generalize Oq.bit (.val a)=x2 at*
  generalize Oq.bit (.val b)=x4 at*
  generalize Oq.one (.val a)=x1 at*
  generalize Oq.one (.val b)=x3 at*
  cases x2 with
  |false=>exact Xr _ _ x1 false x3 x4 _ _ _ (.val a) (.val b) ks vs kt vt rfl zf f e (ja 13)
  | true=>
   cases x4 with
   |false=>exact Xt _ _ x1 true x3 false _ _ _ (.val a) (.val b) ks vs kt vt rfl rfl zf f e (ja 13)
   |true=>
    cases x1 with
    |true=>exact Xu _ _ true true x3 true _ _ _ _ (.val a) (.val b) ks vs kt vt rfl rfl rfl zf f e (lT _)
    |false=>exact Xv _ _ false true x3 true _ _ _ _ (.val a) (.val b) ks vs kt vt rfl rfl rfl zf f e (lT _)
 ·have f:=ou (.val a);have e:=ou (.val b);show CO 74 _ (.ret (gz (if Oq.bit (.val a) && Oq.bit (.val b) then BM (Oq.one (.val a)||Oq.one (.val b)) else .err 13)));generalize Oq.bit (.val a)=x2 at*
  generalize Oq.bit (.val b)=x4 at*
  generalize Oq.one (.val a)=x1 at*
  generalize Oq.one (.val b)=x3 at*
  cases x2 with
  |false=>exact Xw _ _ x1 false x3 x4 _ _ _ (.val a) (.val b) ks vs kt vt rfl zg f e (ja 13)
  | true=>
   cases x4 with
   |false=>exact Xx _ _ x1 true x3 false _ _ _ (.val a) (.val b) ks vs kt vt rfl rfl zg f e (ja 13)
   |true=>
    cases x1 with
    |true=>exact Xy _ _ true true x3 true _ _ _ _ (.val a) (.val b) ks vs kt vt rfl rfl rfl zg f e (lT _)
    |false=>exact Xz _ _ false true x3 true _ _ _ _ (.val a) (.val b) ks vs kt vt rfl rfl rfl zg f e (lT _)
end
theorem ajv (r:RQ) (c:Bool) (n:Nat) (d:CO 158 [.agg [.str []],.str (ae 1)] (.ret (.bool true))) (f:CO 159 [.str (ae n)] (.ret (.bool true))) (e:CO 160 [.bool c,.str (ae n),.str (ae 1)] (.ret (qA r))):CO 205 [.bool c,.str (ae n),.str (ae 1)] (.ret (.tup [qA r,.bool true])):=pK [] 2 0 (.n 6 .nil) (.c e (.c f (.c d .nil)))
theorem afM (r:RQ) (n m y z:Nat) (c:CO 191 [.str (ae n),.str (ae m)] (.ret (.tup [.str (ae y),.str (ae z),.bool true]))) (e:CO 72 [ω 1] (.ret (.str (ae 1)))) (d:CO 205 [.bool false,.str (ae y),.str (ae 1)] (.ret (.tup [qA r,.bool true]))):CO 177 [Ω false (ae n) (ae m)] (.ret (qA r)):=pK [] 2 0 (.n 14 .nil) (.c d (.c e (.c c .nil)))
theorem afK (r:RQ) (n m y z:Nat) (c:lit true (!((ae z)== []))=true) (d:CO 191 [.str (ae n),.str (ae m)] (.ret (.tup [.str (ae y),.str (ae z),.bool true]))) (g:CO 72 [ω 1] (.ret (.str (ae 1)))) (f:CO 71 [.str (ae y),.str (ae 1)] (.ret (.str (ae (y+1))))) (h:CO 72 [ω 1] (.ret (.str (ae 1)))) (e:CO 205 [.bool true,.str (ae (y+1)),.str (ae 1)] (.ret (.tup [qA r,.bool true]))):CO 177 [Ω true (ae n) (ae m)] (.ret (qA r)):=pK [] 2 3 (.k 9 c (.n 4 .nil)) (.c e (.c h (.c f (.c g (.c d .nil)))))
theorem afL (r:RQ) (n m y z:Nat) (c:lit false (!((ae z)== []))=true) (d:CO 191 [.str (ae n),.str (ae m)] (.ret (.tup [.str (ae y),.str (ae z),.bool true]))) (f:CO 72 [ω 1] (.ret (.str (ae 1)))) (e:CO 205 [.bool true,.str (ae y),.str (ae 1)] (.ret (.tup [qA r,.bool true]))):CO 177 [Ω true (ae n) (ae m)] (.ret (qA r)):=pK [] 2 1 (.k 9 c (.n 4 .nil)) (.c e (.c f (.c d .nil)))
theorem afy (a s:RQ) (g:Int) (c:CO 115 [qA a] (.ret (.bool true))) (e:CO 115 [qA s] (.ret (.bool true))) (d:CO 121 [qA s] (.ret (ω g))):CO 176 [qA a,qA s] (.ret (.bool (decide (((0:Nat):Int)<g)))):=pK [] 2 3 (.n 11 .nil) (.c d (.c e (.c c .nil)))
theorem ajn (a s q r w:RQ) (c:CO 176 [qA a,qA s] (.ret (.bool true))) (e:CO 125 [qA a,qA s] (.ret (.tup [qA q,.bool true]))) (d:CO 177 [qA q] (.ret (qA w))) (f:CO 169 [qA w,qA s] (.ret (qA r))):CO 131 [qA a,qA s] (.ret (.tup [qA r,.bool true])):=pK [] 1 0 (.n 24 .nil) (.c f (.c d (.c e (.c c .nil))))
theorem ajV (a s r v:RQ) (c:lit true (!((r.neg==a.neg) && (((ae r.n)==(ae a.n)) && (((ae r.d)==(ae a.d)) && true))))=true) (d:CO 131 [qA a,qA s] (.ret (.tup [qA r,.bool true]))) (e:CO 167 [qA r,qA s] (.ret (qA v))):CO 132 [qA a,qA s] (.ret (.tup [qA v,.bool true])):=pK [] 2 3 (.k 14 c (.n 14 .nil)) (.c e (.c d .nil))
theorem ajW (a s r:RQ) (c:lit false (!((r.neg==a.neg) && (((ae r.n)==(ae a.n)) && (((ae r.d)==(ae a.d)) && true))))=true) (d:CO 131 [qA a,qA s] (.ret (.tup [qA r,.bool true]))):CO 132 [qA a,qA s] (.ret (.tup [qA r,.bool true])):=pK [] 2 1 (.k 7 c (.n 14 .nil)) (.c d .nil)
theorem ajw (a s q r v w:RQ) (g:Int) (c:lit true (decide (((0:Nat):Int)≤g))=true) (d:CO 131 [qA a,qA s] (.ret (.tup [qA r,.bool true]))) (h:CO 168 [qA a,qA r] (.ret (qA q))) (f:CO 167 [qA q,qA q] (.ret (qA w))) (i:CO 127 [qA w,qA s] (.ret (ω g))) (e:CO 167 [qA r,qA s] (.ret (qA v))):CO 129 [qA a,qA s] (.ret (.tup [qA v,.bool true])):=pK [] 2 2 (.k 14 c (.n 24 .nil)) (.c e (.c i (.c f (.c h (.c d .nil)))))
theorem ajx (a s q r w:RQ) (g:Int) (c:lit false (decide (((0:Nat):Int)≤g))=true) (d:CO 131 [qA a,qA s] (.ret (.tup [qA r,.bool true]))) (f:CO 168 [qA a,qA r] (.ret (qA q))) (e:CO 167 [qA q,qA q] (.ret (qA w))) (h:CO 127 [qA w,qA s] (.ret (ω g))):CO 129 [qA a,qA s] (.ret (.tup [qA r,.bool true])):=pK [] 2 0 (.k 7 c (.n 24 .nil)) (.c h (.c e (.c f (.c d .nil))))
theorem akD:nR (ae 1)=true:=zK 1
theorem aou:BA (ae 1)=true:=by unfold BA;rw [akD,aH];rfl
theorem EK (c:Bool) (n:Nat) (f:(ae n).length<2^33):CO 205 [.bool c,.str (ae n),.str (ae 1)] (.ret (.tup [qA (iK c n 1),.bool true])):=by
 have e:(ae 1).length<2^33:=Xqk (eu (x:=1) (k:=1) (by decide)) (by decide);have hp:=YJ (ae 1) (Φ e (by decide));rw [aou] at hp;have d:=Bh (ae n);rw [zK] at d;exact ajv _ c n hp d (IX c n 1 f e (by decide))
theorem JK (c:Bool) (x:Nat):iK c x 1=UR (if c then -(x:Int) else (x:Int)):=by
 unfold iK UR;rw [Nat.gcd_one_right,Xwr,Xwr];cases c with
 |true=>
  simp only [Xqp,if_true,Yqz,Xzy,RQ.mk.injEq,and_true];rcases Xqg x with h|h
  ·subst h;rfl
  ·rw [Yq0 h,Yq0 (by omega)]
 |false=>
  simp only [Bool.false_and,Xx4,if_false,Xzy,RQ.mk.injEq,and_true];rw [Yq1 (by omega)]
theorem UI {q:RQ} (h:q.ok) (i:(ae q.n).length<2^32) (g:(ae q.d).length<2^32):CO 177 [qA q] (.ret (qA (UR (flI q)))):=by
 have e:=PT (ae q.n) (ae q.d) (Φ i (by decide)) (Φ g (by decide)) (by rw [aH];exact h.1);rw [aH,aH] at e;have o:=oZ (Xjw q.n q.d);have j:(ae 1).length≤1:=eu (x:=1) (k:=1) (by decide);have p:=zG (q.n / q.d) 1;have d:=FN 1 (by decide);obtain ⟨f,n,m⟩:=q;unfold flI;simp only at*
 cases f with
 |false=>
  rw [if_neg (by simp)];have c:=EK false (n / m) (by omega);rw [JK,if_neg (by simp)] at c;exact afM _ n m _ _ e d c
 | true=>
  rw [if_pos rfl];by_cases hr:n % m=0
  ·have c:=EK true (n / m) (by omega);rw [JK,if_pos rfl] at c;rw [if_pos hr,Nat.add_zero];exact afL _ n m _ _ (by rw [hr,eF];rfl) e d c
  ·have c:=EK true (n / m+1) (by omega);rw [JK,if_pos rfl] at c;rw [if_neg hr];exact afK _ n m _ _ (by
    rw [show ((ae (n % m))== [])=false from by rw [Yq2];intro h;rw [ji] at h;exact hr h];rfl) e d (ad6 _ _ (by omega) (by omega)) d c
def nM (L:Nat) (q:RQ):Prop:=(ae q.n).length≤L∧(ae q.d).length≤L
theorem nM.mono {L M:Nat} {q:RQ} (h:nM L q) (k:L≤M):nM M q:=⟨Xxr h.1 k,Xxr h.2 k⟩
theorem Gu {L:Nat} {a b:RQ} (d:nM L a) (c:nM L b):nM (4*L+1) (jf a b):=by
 have:=zH a b L d.1 d.2 c.1 c.2;exact ⟨this.1,by omega⟩
theorem ahr {L:Nat} {a:RQ} (c:nM L a):nM L (zM a):=c
theorem Qe {L:Nat} {a b:RQ} (d:nM L a) (c:nM L b):nM (4*L+1) (jD a b):=Gu d (ahr c)
theorem Qd {L:Nat} {a b:RQ} (d:nM L a) (c:nM L b):nM (2*L) (nX a b):=by
 have e:=fD a.n b.n;have i:=fD a.d b.d;have h:=t_ (!(a.neg==b.neg)) (a.n*b.n) (a.d*b.d);obtain ⟨k,g⟩:=d;obtain ⟨f,j⟩:=c;exact ⟨by unfold nX;omega,by unfold nX;omega⟩
theorem Zp {L:Nat} {a b:RQ} (d:nM L a) (c:nM L b):nM (2*L) (yj a b):=by
 have e:=fD a.n b.d;have i:=fD a.d b.n;have h:=t_ (!(a.neg==b.neg)) (a.n*b.d) (a.d*b.n);obtain ⟨k,g⟩:=d;obtain ⟨f,j⟩:=c;exact ⟨by unfold yj;omega,by unfold yj;omega⟩
theorem xC {L:Nat} {a:RQ} (c:nM L a) (e:L<2^28):(ae a.n).length<2^28∧(ae a.d).length<2^28∧(ae a.n).length<2^29∧(ae a.d).length<2^29:=by
 obtain ⟨d,f⟩:=c;omega
section
variable {a b:RQ} {L:Nat} (ha:a.ok) (hb:b.ok) (sa:nM L a) (sb:nM L b) (hL:L<2^28)
include ha hb sa sb hL
theorem Gj:CO 167 [qA a,qA b] (.ret (qA (jf a b))):=by
 obtain ⟨_,_,f,c⟩:=xC sa hL;obtain ⟨_,_,d,e⟩:=xC sb hL;have h:=Gl a.neg b.neg (ae a.n) (ae a.d) (ae b.n) (ae b.d) f c d e;rw [lC ha,lC hb] at h;exact h
theorem PY:CO 168 [qA a,qA b] (.ret (qA (jD a b))):=by
 obtain ⟨_,_,f,c⟩:=xC sa hL;obtain ⟨d,e,_,_⟩:=xC sb hL;have h:=Gn a.neg b.neg (ae a.n) (ae a.d) (ae b.n) (ae b.d) f c d e;rw [lC ha,lC hb] at h;exact h
theorem PX:CO 169 [qA a,qA b] (.ret (qA (nX a b))):=by
 obtain ⟨_,_,f,c⟩:=xC sa hL;obtain ⟨_,_,d,e⟩:=xC sb hL;have h:=Sz a.neg b.neg (ae a.n) (ae a.d) (ae b.n) (ae b.d) f c d e;rw [lC ha,lC hb] at h;exact h
theorem YX:CO 127 [qA a,qA b] (.ret (ω (lS a b))):=by
 obtain ⟨f,c,_,_⟩:=xC sa hL;obtain ⟨d,e,_,_⟩:=xC sb hL;have h:=Gm a.neg b.neg (ae a.n) (ae a.d) (ae b.n) (ae b.d) f c d e;rw [lC ha,lC hb] at h;exact h
theorem ag5 (e:0<b.n):CO 125 [qA a,qA b] (.ret (.tup [qA (yj a b),.bool true])):=by
 obtain ⟨_,_,f,c⟩:=xC sa hL;obtain ⟨_,_,d,g⟩:=xC sb hL;have h:=Nu a.neg b.neg (ae a.n) (ae a.d) (ae b.n) (ae b.d) f c d g (by rw [lC hb];exact e);rw [lC ha,lC hb] at h;exact h
end
section
variable {a s:RQ} (ha:a.ok) (fa:kJ a=true) (hs:s.ok) (fs:kJ s=true) (hp:0<xh s)
include ha fa hs fs hp
theorem UF:CO 176 [qA a,qA s] (.ret (.bool true)):=by
 obtain ⟨f,e⟩:=dn fa;obtain ⟨i,j⟩:=dn fs;have c:=mY a.neg (ae a.n) (ae a.d) (by omega) (by omega);have d:=mY s.neg (ae s.n) (ae s.d) (by omega) (by omega);rw [qP a ha] at c;rw [qP s hs] at d;have g:=Y1 s hs (by omega) (by omega);have h:=afy a s _ c d g;rw [Yq0 (show ((0:Nat):Int)<xh s from hp)] at h;exact h
omit ha hs hp in
theorem XH:nM 104 (UR (flI (yj a s))):=by
 obtain ⟨d,g⟩:=dn fa;obtain ⟨e,c⟩:=dn fs;have j:=(Zp (L:=51) ⟨d,g⟩ ⟨e,c⟩).1;generalize yj a s=q at*
 have h:(ae 1).length≤1:=eu (x:=1) (k:=1) (by decide);have m:=oZ (Xjw q.n q.d);have n:=zG (q.n / q.d) 1;have f:(flI q).natAbs≤q.n / q.d+1:=by
  unfold flI;split
  ·rw [Yqz,Xzy];split<;>omega
  ·rw [Xzy];omega
 have i:=oZ f;exact ⟨by show (ae (flI q).natAbs).length≤104;omega,by show (ae 1).length≤104;omega⟩
omit ha hs hp in
theorem OO:nM 208 (DK a s):=Qd (L:=104) (XH fa fs) ⟨by have:=(dn fs).1;omega,by have:=(dn fs).2;omega⟩
theorem EJ:CO 131 [qA a,qA s] (.ret (.tup [qA (DK a s),.bool true])):=by
 have f:=(agZ hs hp).2;have e:nM 51 a:=dn fa;have c:nM 51 s:=dn fs;have d:=Zp e c;refine ajn a s _ _ _ (UF ha fa hs fs hp) (ag5 ha hs e c (by decide) f) (UI (J6 ha f) (Xqk d.1 (by decide)) (Xqk d.2 (by decide))) ?_;exact PX (Rh _) hs (XH fa fs) (c.mono (by decide)) (by decide)
theorem afG:CO 132 [qA a,qA s] (.ret (.tup [qA (upR a s),.bool true])):=by
 have hd:=EJ ha fa hs fs hp;have c:=OO fa fs;have d:nM 51 s:=dn fs;have e:((DK a s).neg==a.neg && ((ae (DK a s).n==ae a.n) && ((ae (DK a s).d==ae a.d) && true)))=eqR (DK a s) a:=by unfold eqR;rw [Xw7]
 unfold upR;cases h:eqR (DK a s) a with
 |true=>
  rw [if_pos rfl];rw [h] at e;have:=ajW a s (DK a s) (by rw [e];rfl) hd;rw [aa3.1 h] at this;exact this
 |false=>
  rw [if_neg (by simp)];rw [h] at e;exact ajV a s (DK a s) _ (by rw [e];rfl) hd (Gj (xO hs) hs c (d.mono (by decide)) (by decide))
theorem Xi:CO 129 [qA a,qA s] (.ret (.tup [qA (nrR a s),.bool true])):=by
 have hd:=EJ ha fa hs fs hp;have e:=OO fa fs;have g:nM 51 a:=dn fa;have j:nM 51 s:=dn fs;have f:=xO (a:=a) hs;have d:=qH ha f;have c:=Qe (g.mono (show 51≤208 by decide)) e;have k:=PY ha f (g.mono (show 51≤208 by decide)) e (by decide);have i:=Gj d d c c (by decide);have m:=YX (jQ d d) hs (Gu c c) (j.mono (by decide)) (by decide);unfold nrR;by_cases h:0≤lS (jf (jD a (DK a s)) (jD a (DK a s))) s
 ·rw [if_pos h];exact ajw a s _ (DK a s) _ _ _ (Yq0 h) hd k i m (Gj f hs e (j.mono (by decide)) (by decide))
 ·rw [if_neg h];exact ajx a s _ (DK a s) _ _ (by
   rw [show decide (((0:Nat):Int)≤lS (jf (jD a (DK a s)) (jD a (DK a s))) s)=false from Yq1 h];rfl) hd k i m
end
structure Sc where
 name:List UInt8
 u1:Int
 u2:Int
 bx:List AV
 bn:Nat
def Tc (x:Sc):List AV:= [.str x.name,ω x.u1,ω x.u2,.sl x.bx x.bn false]
def kL (l:List Sc):List AV:=l.flatMap Tc
theorem Y7 {l:List Sc} {k:Nat} (h:k<l.length):ε (k*4) (kL l)=Tc l[k]++kL (l.drop (k+1)):=by
 induction l generalizing k with
 |nil=>simp at h
 | cons x r ih=>
  cases k with
  |zero=>simp [kL]
  |succ k=>
   have c:k<r.length:=by simpa using h
   show ε ((k+1)*4) (Tc x++kL r)=_;rw [show (k+1)*4=(Tc x).length+k*4 by simp [Tc];omega,Xwd,Xjo,ih c,Xx8 (by omega)];rfl
theorem Oy {A:List (List Nat)} {k:Nat} (h:k<A.length):ε (δ (k:Int)*1) (dH A)= [Uc (A.getD k [])]++dH (A.drop (k+1)):=by
 unfold dH;rw [aK,Ξ,← Xju,Xxf h,κ,π h];rfl
theorem V4 (k:Nat):decide (((0:Nat):Int)≤(k:Int))=true:=Yq0 (by omega)
theorem dlt {k n:Nat} (h:k<n):decide ((k:Int)<(n:Int))=true:=Yq0 (by omega)
theorem Ic:∀ (r:List Nd) (k:Nat) (st:List Nat),(∀ j ∈ st,j<k)→(∃ e,iE r st.length= .inl e)→(p_ r k st).length=r.length∧∀ i x,r[i]? =some x→((p_ r k st).getD i []).length=dM x.op∧∀ j ∈ (p_ r k st).getD i [],j<k+i
 | [],k,st,_,_=> ⟨rfl,fun i x h=>by simp at h⟩
 | x ::r,k,st,hst,⟨e,he⟩=>by
  simp only [iE] at he;split at he
  ·split at he
   ·cases he
   ·rename_i p o;have g:(st.take (st.length - dM x.op)++ [k]).length=st.length - dM x.op+1:=by rw [η,List.length_take,φ];omega
    have f:=Ic r (k+1) (st.take (st.length - dM x.op)++ [k]) (by
     intro j c;rcases List.mem_append.1 c with c|c
     ·have:=hst j (List.mem_of_mem_take c);omega
     ·rw [List.mem_singleton.1 c];omega) ⟨e,by rw [g];exact he⟩
    refine ⟨by simp only [p_,ξ,f.1], ?_⟩;intro i y d;cases i with
    |zero=>
     simp only [List.getElem?_cons_zero,Option.some.injEq] at d;subst d;simp only [p_,List.getD_cons_zero];refine ⟨by rw [List.length_drop];omega,fun j c=> ?_⟩;have:=hst j (List.mem_of_mem_drop c);omega
    |succ i=>
     simp only [List.getElem?_cons_succ] at d;obtain ⟨m,n⟩:=f.2 i y d;simp only [p_,List.getD_cons_succ];exact ⟨m,fun j c=>by have:=n j c;omega⟩
  ·cases he
theorem DF:∀ (r:List Nd) (d:Nat) (w:Int),iE r d= .inr w→w ≠ 0
 | [],d,w,h=>by simp [iE] at h
 | x::r,d,w,h=>by
  simp only [iE] at h;split at h
  ·split at h
   ·cases h;decide
   ·exact DF r _ w h
  ·rename_i c;cases h;exact c
theorem Ep {e:List Nd} (c:cO e=0):(dh e).length=e.length∧∀ i x,e[i]? =some x→((dh e).getD i []).length=dM x.op∧∀ j ∈ (dh e).getD i [],j<i:=by
 have h:∃ d,iE e ([]:List Nat).length= .inl d:=by
  unfold cO at c;split at c
  ·cases c
  ·split at c
   ·rename_i d hd;exact ⟨d,hd⟩
   ·rename_i w g;exact absurd c (DF _ _ _ g)
 obtain ⟨m,k⟩:=Ic e 0 [] (by simp) h;exact ⟨m,fun i x f=>by have:=k i x f;rw [Xqd] at this;exact this⟩
theorem wkn {n c:Nat} (h:n=c+1) (d:n<2^40):ω (γ .i64 ((n:Int) - ((1:Nat):Int)))= ω (c:Int):=by rw [bH]<;>first|(congr 1;omega)|omega
theorem dle {n:Nat} (h:n<2^40):decide ((n:Int)≤((1099511627776:Nat):Int))=true:=Yq0 (by omega)
theorem Wp (l:List Nd) (nn:Bool) (c:∀ x ∈ l,x.sm) (d:cO l=0):CO 24 [.sl (a_ l) l.length nn] (.ret (.tup [.sl (dH (dh l)) (dh l).length true,.bool true])):=by
 rw [(Ep d).1];exact Qw l nn c d
structure Br where
 fn:Bool
 fa:List UInt8
 fd:List UInt8
 rn:Bool
 ra:List UInt8
 rd:List UInt8
def Ug (x:Br):List AV:= [.bool x.fn,.str x.fa,.str x.fd,.bool x.rn,.str x.ra,.str x.rd]
def oq (l:List Br):List AV:=l.flatMap Ug
def Br.sm (x:Br):Prop:=(x.fa.length<2^33∧x.fd.length<2^33)∧(x.ra.length<2^33∧x.rd.length<2^33)
abbrev brF (x:Br):AV:= .agg [.bool x.fn,.str x.fa,.str x.fd]
abbrev brR (x:Br):AV:= .agg [.bool x.rn,.str x.ra,.str x.rd]
theorem Es {l:List Br} {k:Nat} (h:k<l.length):ε (δ (k:Int)*6) (oq l)=Ug l[k]++oq (l.drop (k+1)):=by
 rw [aK]
 induction l generalizing k with
 |nil=>simp at h
 | cons x r ih=>
  cases k with
  |zero=>simp [oq]
  |succ k=>
   have c:k<r.length:=by simpa using h
   show ε ((k+1)*6) (Ug x++oq r)=_;rw [show (k+1)*6=(Ug x).length+k*6 by simp [Ug];omega,Xwd,Xjo,ih c,Xx8 (by omega)];rfl
def Ie (cmp:Br→Br→Int):Option Br→List Br→Bool
 |_,[]=>true
 |none,x::r=>cond (je x.fn x.fa x.fd) (cond (je x.rn x.ra x.rd) (cond (sN x.fn x.fa x.fd==((0:Nat):Int)) (Ie cmp (some x) r) false) false) false
 |some y,x::r=>cond (je x.fn x.fa x.fd) (cond (je x.rn x.ra x.rd) (cond (decide (((0:Nat):Int)≤cmp y x)) false (Ie cmp (some x) r)) false) false
def ah9 (nm:List UInt8) (u1 u2:Int) (l:List Br) (k:Nat):St:=⟨[(1,.ptr 0 0 0),(3,.sl (oq l) l.length false),(16,.sl (oq l) l.length false),(17,ω (l.length:Int)),(18,ω (k:Int))],[(0,⟨[.str nm,ω u1,ω u2,.sl (oq l) l.length false],0,false,0,0,true⟩)],.dead,[]⟩
def adN (l:List Br):Bool→St
 |true=> ⟨[(3,.sl (oq l) l.length false)],[],.dead,[]⟩
 |false=> ⟨[(2,.int .i64 11)],[],.dead,[]⟩
def bkE:Bool→bM
 |true=> .exit 1
 |false=> .ret
def H6 (f:Nat) (cmp:Br→Br→Int) (l:List Br):Prop:=∀ i y x,l[i]? =some y→l[i+1]? =some x→je x.fn x.fa x.fd=true→je x.rn x.ra x.rd=true→CO f [brF y,brF x] (.ret (ω (cmp y x)))
theorem aak {nt:Nat} (i:60≤nt) (J:List UInt8) (u1 u2:Int) (l:List Br) (cmp:Br→Br→Int) (H:l.length<2^40) (A:∀ x ∈ l,x.sm) (M:H6 127 cmp l):∀ (r p:List Br),p++r=l→
  aC prog ap [] nt (af 1 (ai f202)) bkE (ah9 J u1 u2 l) (adN l) p.length (Ie cmp p.getLast? r):=by
 intro r
 induction r with
 |nil=>
  intro p hp;rw [Γ] at hp;subst hp;have c:(decide ((p.length:Int)<(p.length:Int)))=false:=Yq1 (by omega);rw [show Ie cmp p.getLast? []=true by cases p.getLast? <;>rfl];exact .done (pN 202 [] 1 0 (.c (aF c) .nil) (.nil) i)
 | cons x r ih=>
  intro p hp;have F:p.length<l.length:=by rw [← hp];simp
  have o:l[p.length]=x:=by subst hp;simp
  have g:=Es F;rw [o] at g;have j:=ih (p++ [x]) (by rw [← hp];simp);rw [List.getLast?_append,List.getLast?_singleton,η,φ] at j;simp only [Option.some_or] at j;have hs:=A x (by rw [← hp];simp);have d:CO 115 [brF x] (.ret (.bool (je x.fn x.fa x.fd))):=mY x.fn x.fa x.fd (Xqz hs.1.1 (by decide)) (Xqz hs.1.2 (by decide));have f:CO 115 [brR x] (.ret (.bool (je x.rn x.ra x.rd))):=mY x.rn x.ra x.rd (Xqz hs.2.1 (by decide)) (Xqz hs.2.2 (by decide));have I:CO 121 [brF x] (.ret (ω (sN x.fn x.fa x.fd))):=pM x.fn x.fa x.fd (Xqz hs.1.1 (by decide)) (Xqz hs.1.2 (by decide));cases v:p.getLast? with
  | none=>
   have C:p= []:=List.getLast?_eq_none_iff.1 v;subst C;generalize K:([]:List Br).length=k at*
   have B:k=0:=by rw [← K];rfl
   generalize oq (l.drop (k+1))=rB at g;have c:(decide ((k:Int)<(l.length:Int)))=true:=Yq0 (by omega);have n:((k:Int)==((0:Nat):Int))=true:=by rw [B];rfl
   have w:(decide (((0:Nat):Int)<(k:Int)))=false:=Yq1 (by omega);have D:k<2^62:=by omega
   rcases tf (je x.fn x.fa x.fd) with d0|d0
   ·rcases tf (je x.rn x.ra x.rd) with d1|d1
    ·rcases tf ((sN x.fn x.fa x.fd)==((0:Nat):Int)) with d2|d2
     ·simp only [Ie,d0,d1,d2,cond_true,cond_false];exact .next (pN 202 [] 7 9 (.k 1 (aF w) (.c (aV d2) (.k 3 (aA n) (.c (aV d1) (.k 3 (aV d0) (.k 10 (V4 k) (.c c (.c (aA c) .nil)))))))) (.v 57 (.eq (xk D)) (.c I (.c f (.c d (.v 21 (.ppt g) .nil))))) i) j
     ·simp only [Ie,d0,d1,d2,cond_true,cond_false];exact .done (pN 202 [] 6 57 (.k 1 (di d2) (.k 3 (aA n) (.c (aV d1) (.k 3 (aV d0) (.k 10 (V4 k) (.c c (.c (aA c) .nil))))))) (.c I (.c f (.c d (.v 21 (.ppt g) .nil)))) i)
    ·simp only [Ie,d0,d1,cond_true,cond_false];exact .done (pN 202 [] 3 5 (.c (di d1) (.k 3 (aV d0) (.k 10 (V4 k) (.c c (.c (aA c) .nil))))) (.c f (.c d (.v 21 (.ppt g) .nil))) i)
   ·simp only [Ie,d0,cond_true,cond_false];exact .done (pN 202 [] 3 7 (.k 1 (di d0) (.k 10 (V4 k) (.c c (.c (aA c) .nil)))) (.c d (.v 21 (.ppt g) .nil)) i)
  | some y=>
   obtain ⟨q,E⟩:∃ q,p=q++ [y]:=by
    obtain ⟨q,h⟩:=List.getLast?_eq_some_iff.1 v;exact ⟨q,h⟩
   have m:p.length=q.length+1:=by rw [E];simp
   have e:q.length<l.length:=by omega
   have z:=Es e;have u:l[q.length]=y:=by subst hp E;simp
   rw [u] at z;have G:=M q.length y x (by rw [π e,u]) (by rw [← m,π F,o]);clear E;generalize p.length=k at*
   generalize q.length=k1 at*
   generalize oq (l.drop (k+1))=rB at g;generalize oq (l.drop (k1+1))=rC at z;have c:(decide ((k:Int)<(l.length:Int)))=true:=Yq0 (by omega);have n:((k:Int)==((0:Nat):Int))=false:=beq_eq_false_iff_ne.2 (by omega);have w:(decide (((0:Nat):Int)<(k:Int)))=true:=Yq0 (by omega);have D:k<2^62:=by omega
   have t:k<2^40:=by omega
   rcases tf (je x.fn x.fa x.fd) with d0|d0
   ·rcases tf (je x.rn x.ra x.rd) with d1|d1
    ·rcases tf (decide (((0:Nat):Int)≤(cmp y x))) with d2|d2
     ·simp only [Ie,d0,d1,d2,cond_true,cond_false];exact .done (pN 202 [] 7 97 (.c (aA d2) (.k 6 (V4 k1) (.c (dlt e) (.c (aA w) (.k 1 (aF n) (.c (aV d1) (.k 3 (aV d0) (.k 10 (V4 k) (.c c (.c (aA c) .nil)))))))))) (.c (G d0 d1) (.v 48 (.ppt z) (.v 47 (.eq (wkn m t)) (.c f (.c d (.v 21 (.ppt g) .nil)))))) i)
     ·simp only [Ie,d0,d1,d2,cond_true,cond_false];exact .next (pN 202 [] 7 33 (.c (aF d2) (.k 6 (V4 k1) (.c (dlt e) (.c (aA w) (.k 1 (aF n) (.c (aV d1) (.k 3 (aV d0) (.k 10 (V4 k) (.c c (.c (aA c) .nil)))))))))) (.v 57 (.eq (xk D)) (.c (G d0 d1) (.v 48 (.ppt z) (.v 47 (.eq (wkn m t)) (.c f (.c d (.v 21 (.ppt g) .nil))))))) i) j
    ·simp only [Ie,d0,d1,cond_true,cond_false];exact .done (pN 202 [] 3 5 (.c (di d1) (.k 3 (aV d0) (.k 10 (V4 k) (.c c (.c (aA c) .nil))))) (.c f (.c d (.v 21 (.ppt g) .nil))) i)
   ·simp only [Ie,d0,cond_true,cond_false];exact .done (pN 202 [] 3 7 (.k 1 (di d0) (.k 10 (V4 k) (.c c (.c (aA c) .nil)))) (.c d (.v 21 (.ppt g) .nil)) i)
def JC (P:Br→Bool):List Br→Nat→Option Nat
 | [],_=>none
 |x::r,i=>if P x then some i else JC P r (i+1)
theorem L_ (P:Br→Bool):∀ (r:List Br) (i:Nat),(JC P r i).isSome=r.any P
 | [],_=>rfl
 |x::r,i=>by
  unfold JC;rw [Xv0];rcases tf (P x) with h|h
  ·rw [if_pos h,h];rfl
  ·rw [if_neg (by rw [h];decide),h,Xwo];exact L_ P r (i+1)
def ad1 (l:List Br) (k:Nat):St:=⟨[(0,.sl (oq l) l.length false),(1,.fn 218 [] []),(7,ω (l.length:Int)),(8,ω (k:Int))],[],.dead,[]⟩
def XU (l:List Br):Option Nat→St
 |none=> ⟨[(0,.sl (oq l) l.length false)],[],.dead,[]⟩
 |some i=> ⟨[(4,.int .i64 (i:Int))],[],.dead,[]⟩
theorem XV {nt:Nat} (g:19≤nt) (l:List Br) (P:Br→Bool) (h:l.length<2^40) (j:∀ x ∈ l,CO 218 [.agg (Ug x)] (.ret (.bool (P x)))):∀ (r p:List Br),p++r=l→
  aC prog ap [] nt (af 0 (ai f230)) ixE (ad1 l) (XU l) p.length (JC P r p.length):=by
 intro r
 induction r with
 |nil=>
  intro p hp;rw [Γ] at hp;subst hp;have c:(decide ((p.length:Int)<(p.length:Int)))=false:=Yq1 (by omega);exact .done (pN 230 [] 1 0 (.c (aF c) .nil) (.nil) g)
 | cons x r ih=>
  intro p hp;have n:p.length<l.length:=by rw [← hp];simp
  have f:l[p.length]=x:=by subst hp;simp
  have e:=Es n;rw [f] at e;have d:=ih (p++ [x]) (by rw [← hp];simp);rw [η,φ] at d;have i:=j x (by rw [← hp];simp);unfold JC;generalize p.length=k at*
  generalize oq (l.drop (k+1))=rB at e;have c:(decide ((k:Int)<(l.length:Int)))=true:=Yq0 (by omega);have m:k<2^62:=by omega
  rcases tf (P x) with d0|d0
  ·rw [if_pos d0];exact .done (pN 230 [] 2 3 (.c (aA d0) (.k 6 (V4 k) (.c c (.c (aA c) .nil)))) (.c i (.v 14 (.ppt e) .nil)) g)
  ·rw [if_neg (by rw [d0];decide)];exact .next (pN 230 [] 2 1 (.c (aF d0) (.k 6 (V4 k) (.c c (.c (aA c) .nil)))) (.v 18 (.eq (xk m)) (.c i (.v 14 (.ppt e) .nil))) g) d
theorem afY (l:List Br) (i:Nat) (c:aN prog ap [] 19 (.block 0 (.loop (af 0 (ai f230)))) ⟨[(0,.sl (oq l) l.length false),(1,.fn 218 [] []),(4,ω 0),(5,.dead),(7,ω (l.length:Int)),(8,ω 0),(9,.dead),(16,.dead)],[],.dead,[]⟩ (.ret) ⟨[(4,ω (i:Int))],[],.dead,[]⟩):CO 230 [.sl (oq l) l.length false,.fn 218 [] []] (.ret (ω (i:Int))):=pK [0] 0 0 .nil (.l c .nil)
theorem afX (l:List Br) (c:aN prog ap [] 19 (.block 0 (.loop (af 0 (ai f230)))) ⟨[(0,.sl (oq l) l.length false),(1,.fn 218 [] []),(4,ω 0),(5,.dead),(7,ω (l.length:Int)),(8,ω 0),(9,.dead),(16,.dead)],[],.dead,[]⟩ (.normal) ⟨[(0,.sl (oq l) l.length false)],[],.dead,[]⟩):CO 230 [.sl (oq l) l.length false,.fn 218 [] []] (.ret (ω (-1))):=pK [0] 0 0 .nil (.l c .nil)
theorem afW (l:List Br) (P:Br→Bool) (c:l.length<2^40) (f:∀ x ∈ l,CO 218 [.agg (Ug x)] (.ret (.bool (P x)))):CO 230 [.sl (oq l) l.length false,.fn 218 [] []] (.ret (ω (ixI (JC P l 0)))):=by
 have h:∀ nt,19≤nt→aC prog ap [] nt (af 0 (ai f230)) ixE (ad1 l) (XU l) 0 (JC P l 0):=fun nt e=>XV e l P c f l [] rfl
 cases d:JC P l 0 with
 |none=>
  rw [d] at h;exact afX l (aC.blk h (by simp [ixE]) rfl (aP.of ⟨rfl,rfl,rfl,rfl,trivial⟩) (aP.of ⟨rfl,trivial⟩))
 |some i=>
  rw [d] at h;exact afY l i (aC.blk h (by simp [ixE]) rfl (aP.of ⟨rfl,rfl,rfl,rfl,trivial⟩) (aP.of ⟨rfl,trivial⟩))
theorem aay (l:List Br) (c:Int) (d:CO 230 [.sl (oq l) l.length false,.fn 218 [] []] (.ret (ω c))):CO 217 [.sl (oq l) l.length false,.fn 218 [] []] (.ret (.bool (decide (((0:Nat):Int)≤c)))):=pK [] 0 0 .nil (.c d .nil)
theorem WP (l:List Br) (P:Br→Bool) (c:l.length<2^40) (e:∀ x ∈ l,CO 218 [.agg (Ug x)] (.ret (.bool (P x)))):CO 217 [.sl (oq l) l.length false,.fn 218 [] []] (.ret (.bool (l.any P))):=by
 have h:=aay l _ (afW l P c e);rw [← L_ P l 0];cases d:JC P l 0 with
 |none=>rw [d] at h;exact h
 |some i=>
  rw [d] at h;rw [show (some i).isSome=decide (((0:Nat):Int)≤ixI (some i)) from (Yq0 (show ((0:Nat):Int)≤(i:Int) by omega)).symm];exact h
def Hl (x:Br):Bool:= !(fF x.fn x.fa x.fd)|| !(fF x.rn x.ra x.rd)
theorem aeI (x:Br) (hs:x.sm):CO 218 [.agg (Ug x)] (.ret (.bool (Hl x))):=by
 rcases tf (fF x.fn x.fa x.fd) with b0|b0
 ·rw [show Hl x= !(fF x.rn x.ra x.rd) by unfold Hl;rw [b0];rfl];exact pK [] 1 0 (.k 3 (aV b0) (.n 3 .nil)) (.c (eQ x.rn x.ra x.rd (Xqz hs.2.1 (by decide)) (Xqz hs.2.2 (by decide))) (.c (eQ x.fn x.fa x.fd (Xqz hs.1.1 (by decide)) (Xqz hs.1.2 (by decide))) .nil))
 ·rw [show Hl x=true by unfold Hl;rw [b0];rfl];exact pK [] 1 1 (.c (di b0) (.n 3 .nil)) (.c (eQ x.fn x.fa x.fd (Xqz hs.1.1 (by decide)) (Xqz hs.1.2 (by decide))) .nil)
def KF (cmp:Br→Br→Int) (l:List Br):Int:=cond (decide (((8:Nat):Int)<(l.length:Int))) 2 (cond ((l.length:Int)==((0:Nat):Int)) 11 (cond (Ie cmp none l) (cond (l.any Hl) 3 0) 11))
theorem anx (d:List UInt8) (u1 u2:Int) (l:List Br) (c:Bool) (g:(decide (((8:Nat):Int)<(l.length:Int)))=false) (e:((l.length:Int)==((0:Nat):Int))=false) (f:CO 217 [.sl (oq l) l.length false,.fn 218 [] []] (.ret (.bool c)))
  (l0:aN prog ap [] 60 (.block 1 (.loop (af 1 (ai f202)))) ⟨[(0,.agg [.str d,ω u1,ω u2,.sl (oq l) l.length false]),(1,.ptr 0 0 0),(2,ω 0),(3,.sl (oq l) l.length false),(4,.dead),(5,.dead),(8,.bool (decide (((8:Nat):Int)<(l.length:Int)))),(12,.bool ((l.length:Int)==((0:Nat):Int))),(16,.sl (oq l) l.length false),(17,ω (l.length:Int)),(18,ω 0),(19,.dead),(32,.dead),(56,.dead),(59,.dead)],[(0,⟨[.str d,ω u1,ω u2,.sl (oq l) l.length false],0,false,0,0,true⟩)],.dead,[]⟩ (.normal) ⟨[(3,.sl (oq l) l.length false)],[],.dead,[]⟩):CO 202 [.agg [.str d,ω u1,ω u2,.sl (oq l) l.length false]] (.ret (ω (cond c 3 0))):=by
 rcases tf c with b2|b2
 ·rw [show (cond c 3 0:Int)=3 by rw [b2];rfl];exact pK [1] 3 4 (.c (aA b2) (.c (aF e) (.c (aF g) (.n 1 .nil)))) (.c f (.l l0 .nil))
 ·rw [show (cond c 3 0:Int)=0 by rw [b2];rfl];exact pK [1] 3 0 (.c (aF b2) (.c (aF e) (.c (aF g) (.n 1 .nil)))) (.c f (.l l0 .nil))
theorem anw (c:List UInt8) (u1 u2:Int) (l:List Br) (e:(decide (((8:Nat):Int)<(l.length:Int)))=false) (d:((l.length:Int)==((0:Nat):Int))=false)
  (l0:aN prog ap [] 60 (.block 1 (.loop (af 1 (ai f202)))) ⟨[(0,.agg [.str c,ω u1,ω u2,.sl (oq l) l.length false]),(1,.ptr 0 0 0),(2,ω 0),(3,.sl (oq l) l.length false),(4,.dead),(5,.dead),(8,.bool (decide (((8:Nat):Int)<(l.length:Int)))),(12,.bool ((l.length:Int)==((0:Nat):Int))),(16,.sl (oq l) l.length false),(17,ω (l.length:Int)),(18,ω 0),(19,.dead),(32,.dead),(56,.dead),(59,.dead)],[(0,⟨[.str c,ω u1,ω u2,.sl (oq l) l.length false],0,false,0,0,true⟩)],.dead,[]⟩ (.ret) ⟨[(2,ω 11)],[],.dead,[]⟩):CO 202 [.agg [.str c,ω u1,ω u2,.sl (oq l) l.length false]] (.ret (ω 11)):=pK [1] 2 0 (.c (aF d) (.c (aF e) (.n 1 .nil))) (.l l0 .nil)
theorem PW (e:List UInt8) (u1 u2:Int) (l:List Br) (cmp:Br→Br→Int) (c:l.length<2^40) (d:∀ x ∈ l,x.sm) (i:H6 127 cmp l):CO 202 [.agg [.str e,ω u1,ω u2,.sl (oq l) l.length false]] (.ret (ω (KF cmp l))):=by
 unfold KF;rcases tf (decide (((8:Nat):Int)<(l.length:Int))) with d0|d0
 ·rw [d0];exact pK [] 1 1 (.c (aA d0) (.n 1 .nil)) (.nil)
 ·rw [d0];rcases tf ((l.length:Int)==((0:Nat):Int)) with d1|d1
  ·rw [d1];exact pK [] 2 2 (.c (aA d1) (.c (aF d0) (.n 1 .nil))) (.nil)
  ·rw [d1];have h:∀ nt,60≤nt→aC prog ap [] nt (af 1 (ai f202)) bkE (ah9 e u1 u2 l) (adN l) 0 (Ie cmp none l):=fun nt j=>aak j e u1 u2 l cmp c d i l [] rfl
   cases f:Ie cmp none l with
   |true=>
    rw [f] at h;exact anx e u1 u2 l _ d0 d1 (WP l Hl c fun x g=>aeI x (d x g)) (aC.blk h (by simp [bkE]) rfl (aP.of ⟨rfl,rfl,rfl,rfl,rfl,trivial⟩) (aP.of ⟨rfl,trivial⟩))
   |false=>
    rw [f] at h;exact anw e u1 u2 l d0 d1 (aC.blk h (by simp [bkE]) rfl (aP.of ⟨rfl,rfl,rfl,rfl,rfl,trivial⟩) (aP.of ⟨rfl,trivial⟩))
def QB (b:RQ × RQ):List AV:= [.bool b.1.neg,.str (ae b.1.n),.str (ae b.1.d),.bool b.2.neg,.str (ae b.2.n),.str (ae b.2.d)]
def yF (l:List (RQ × RQ)):List AV:=l.flatMap QB
def rvC (q:RQ):List AV:= [.bool q.neg,.str (ae q.n),.str (ae q.d)]
def HY (l:List RQ):List AV:=l.flatMap rvC
abbrev KH (nm:List UInt8) (u1 u2:Int) (l:List (RQ × RQ)):AV:= .agg [.str nm,ω u1,ω u2,.sl (yF l) l.length false]
abbrev Tf (nm:List UInt8) (u1 u2:Int) (l:List (RQ × RQ)):AV:= .pp [.str nm,ω u1,ω u2,.sl (yF l) l.length false] 0
abbrev SA (x:RQ):AV:= .pp [.bool x.neg,.str (ae x.n),.str (ae x.d)] 0
theorem ajk (x:RQ) (c:Int) (d:List UInt8) (u1 u2:Int) (l:List (RQ × RQ)) (e:lit false (!(c==((0:Nat):Int)))=true) (f:CO 202 [KH d u1 u2 l] (.ret (ω c))) (h:CO 115 [qA x] (.ret (.bool true))) (g:CO 70 [qA x] (.ret (.bool true))):CO 172 [KH d u1 u2 l,qA x] (.ret (ω 0)):=pK [] 3 0 (.k 8 e (.n 4 .nil)) (.c g (.c h (.c f .nil)))
theorem ajm (x:RQ) (c:Nat) (d:List UInt8) (u1 u2:Int) (l:List (RQ × RQ)) (e:CO 203 [ω (l.length:Int),.fn 204 [] [Tf d u1 u2 l,SA x]] (.ret (ω (c:Int)))):CO 173 [KH d u1 u2 l,qA x] (.ret (ω (c:Int))):=pK [] 0 0 (.n 1 .nil) (.c e .nil)
theorem ajl (x:RQ) (k:Nat) (g:Int) (f:List UInt8) (u1 u2:Int) (l:List (RQ × RQ)) (b:RQ × RQ) (rb:List AV) (e:(ε ((δ (k:Int))*6) (yF l))=QB b++rb) (c:(decide (((0:Nat):Int)≤(k:Int)))=true) (h:(decide ((k:Int)<(l.length:Int)))=true) (d:CO 127 [qA b.1,qA x] (.ret (ω g))):CO 204 [ω (k:Int),Tf f u1 u2 l,SA x] (.ret (.bool (decide (((0:Nat):Int)<g)))):=pK [] 0 0 (.k 6 c (.c h (.n 1 .nil))) (.c d (.v 8 (.ppt e) .nil))
theorem ajq (x:RQ) (d:lit true (!(kJ x))=true) (c:CO 70 [qA x] (.ret (.bool (kJ x)))):CO 174 [qA x] (.ret (.tup [Ω false [] [],ω 3])):=pK [] 1 1 (.k 4 d (.n 3 .nil)) (.c c .nil)
theorem ajr (x:RQ) (d:lit false (!(kJ x))=true) (c:CO 70 [qA x] (.ret (.bool (kJ x)))):CO 174 [qA x] (.ret (.tup [qA x,ω 0])):=pK [] 1 0 (.k 7 d (.n 3 .nil)) (.c c .nil)
theorem ajO (x:RQ) (p:Bool) (i j c:Nat) (d:List UInt8) (u1 u2:Int) (l:List (RQ × RQ)) {nt:Nat} (m:26≤nt) (e:ω (γ .i64 (Xq4 (γ .u64 (γ .i64 ((i:Int)+(j:Int)))) (2^(min 1 64))))=ω (c:Int)) (h:ω (γ .i64 ((c:Int)+((1:Nat):Int)))=ω ((c+1:Nat):Int)) (f:lit true (!p)=true) (k:lit true (decide ((i:Int)<(j:Int)))=true) (g:CO 204 [ω (c:Int),Tf d u1 u2 l,SA x] (.ret (.bool p))):ψ nt f203 ⟨[(1,.fn 204 [] [Tf d u1 u2 l,SA x]),(5,ω (i:Int)),(6,ω (j:Int))],[],.dead,[]⟩ (.normal) ⟨[(1,.fn 204 [] [Tf d u1 u2 l,SA x]),(5,ω ((c+1:Nat):Int)),(6,ω (j:Int))],[],.dead,[]⟩:=pN 203 [] 2 3 (.c f (.k 1 k .nil)) (.v 23 (.eq h) (.c g (.v 17 (.eq e) .nil))) m
theorem ajP (x:RQ) (p:Bool) (i j c:Nat) (d:List UInt8) (u1 u2:Int) (l:List (RQ × RQ)) {nt:Nat} (k:26≤nt) (e:ω (γ .i64 (Xq4 (γ .u64 (γ .i64 ((i:Int)+(j:Int)))) (2^(min 1 64))))=ω (c:Int)) (f:lit false (!p)=true) (h:lit true (decide ((i:Int)<(j:Int)))=true) (g:CO 204 [ω (c:Int),Tf d u1 u2 l,SA x] (.ret (.bool p))):ψ nt f203 ⟨[(1,.fn 204 [] [Tf d u1 u2 l,SA x]),(5,ω (i:Int)),(6,ω (j:Int))],[],.dead,[]⟩ (.normal) ⟨[(1,.fn 204 [] [Tf d u1 u2 l,SA x]),(5,ω (i:Int)),(6,ω (c:Int))],[],.dead,[]⟩:=pN 203 [] 2 1 (.c f (.k 1 h .nil)) (.c g (.v 17 (.eq e) .nil)) k
theorem adV (x:RQ) (i j:Nat) (d:List UInt8) (u1 u2:Int) (l:List (RQ × RQ)) {nt:Nat} (e:26≤nt) (c:lit false (decide ((i:Int)<(j:Int)))=true):ψ nt f203 ⟨[(1,.fn 204 [] [Tf d u1 u2 l,SA x]),(5,ω (i:Int)),(6,ω (j:Int))],[],.dead,[]⟩ (.exit 0) ⟨[(5,ω (i:Int))],[],.dead,[]⟩:=pN 203 [] 1 0 (.c c .nil) (.nil) e
theorem ajL (x:RQ) (c n:Nat) (d:List UInt8) (u1 u2:Int) (l:List (RQ × RQ)) (e:aN prog ap [] 26 (.block 0 (.loop (af 0 (ai f203)))) ⟨[(0,ω (n:Int)),(1,.fn 204 [] [Tf d u1 u2 l,SA x]),(4,ω 0),(5,ω 0),(6,ω (n:Int)),(7,.dead),(11,.dead),(21,.dead)],[],.dead,[]⟩ (.normal) ⟨[(5,ω (c:Int))],[],.dead,[]⟩):CO 203 [ω (n:Int),.fn 204 [] [Tf d u1 u2 l,SA x]] (.ret (ω (c:Int))):=pK [0] 0 0 .nil (.l e .nil)
theorem ajS (d:List UInt8) (u1 u2:Int) (l:List (RQ × RQ)) (c:List RQ) (i:AV.sl (ε 6 (ν ((δ (l.length:Int))*6) (yF l))) ((δ (l.length:Int)) - 1) false=AV.sl (yF l.tail) l.tail.length false) (e:(decide (((1:Nat):Int)≤(l.length:Int)))=true) (h:(decide ((l.length:Int)≤(l.length:Int)))=true) (f:CO 42 [ω 0] (.ret (qA q0))) (g:aN prog ap [] 47 (.block 0 (.loop (af 0 (ai f175)))) ⟨[(0,KH d u1 u2 l),(1,.ptr 0 0 0),(2,.nilS),(3,.ref 1 0 0 1),(4,.dead),(5,.dead),(11,ω (l.tail.length:Int)),(12,ω 0),(13,.dead)],[(0,⟨[.str d,ω u1,ω u2,.sl (yF l) l.length false],0,false,0,0,true⟩),(1,⟨[.bool q0.neg,.str (ae q0.n),.str (ae q0.d)],0,false,0,3,true⟩)],.dead,[]⟩ (.normal) ⟨[(3,.ref 0 0 0 c.length)],[(0,⟨(HY c),0,false,0,3,true⟩)],.dead,[]⟩):CO 175 [KH d u1 u2 l] (.ret (.own (ν (c.length*3) (HY c)) c.length 3)):=pK [0] 0 0 (.k 1 e (.c h (.n 1 .nil))) (.l g (.v 10 (.eq i) (.c f .nil)))
theorem ajM (o r v w:RQ) (k:Nat) (h:List UInt8) (u1 u2:Int) (l:List (RQ × RQ)) (c:List RQ) (b j:RQ × RQ) (rb g q:List AV) {nt:Nat} (C:47≤nt) (p:(ε ((δ (k:Int))*6) (yF l))=QB b++rb) (e:(ε ((δ ((k+1:Nat):Int))*6) (yF l))=QB j++g) (m:(ε ((0+(δ (k:Int)))*3) (HY c))=rvC o++q) (n:ω (γ .i64 ((k:Int)+((1:Nat):Int)))=ω ((k+1:Nat):Int)) (f:((ν (c.length*3) (HY c))++ [.bool r.neg,.str (ae r.n),.str (ae r.d)])=(HY (c++ [r]))) (A:(Xqc (c.length+1) 1099511627776)=true) (B:(Xqc (c.length*3) (θ (HY c)))=true) (d:(decide (((0:Nat):Int)≤(k:Int)))=true) (i:(decide ((k:Int)<(l.length:Int)))=true) (F:(decide ((k:Int)<(c.length:Int)))=true) (y:(decide (((0:Nat):Int)≤((k+1:Nat):Int)))=true) (z:(decide (((k+1:Nat):Int)<(l.length:Int)))=true) (E:lit true (decide ((k:Int)<(l.tail.length:Int)))=true) (t:CO 168 [qA j.1,qA b.1] (.ret (qA v))) (D:CO 169 [qA v,qA b.2] (.ret (qA w))) (u:CO 167 [qA o,qA w] (.ret (qA r))):ψ nt f175 ⟨[(1,.ptr 0 0 0),(3,.ref 1 0 0 c.length),(11,ω (l.tail.length:Int)),(12,ω (k:Int))],[(0,⟨[.str h,ω u1,ω u2,.sl (yF l) l.length false],0,false,0,0,true⟩),(1,⟨(HY c),0,false,0,3,true⟩)],.dead,[]⟩ (.normal) ⟨[(1,.ptr 0 0 0),(3,.ref 1 0 0 (c.length+1)),(11,ω (l.tail.length:Int)),(12,ω ((k+1:Nat):Int))],[(0,⟨[.str h,ω u1,ω u2,.sl (yF l) l.length false],0,false,0,0,true⟩),(1,⟨(HY (c++ [r])),0,false,0,3,true⟩)],.dead,[]⟩:=pN 175 [] 1 1 (.k 1 A (.c B (.k 4 d (.c i (.n 4 (.a (kS [.bool,.str,.str] m rfl) (.c d (.c F (.k 4 d (.c i (.k 4 y (.c z (.k 1 E .nil))))))))))))) (.v 45 (.eq n) (.b 44 f (.c u (.c D (.v 38 (.ppt p) (.v 33 (.rd [.bool,.str,.str] m rfl) (.c t (.v 25 (.ppt p) (.v 19 (.ppt e) (.v 18 (.eq n) .nil)))))))))) C
theorem ajN (k:Nat) (e:List UInt8) (u1 u2:Int) (l:List (RQ × RQ)) (c:List RQ) {nt:Nat} (f:47≤nt) (d:lit false (decide ((k:Int)<(l.tail.length:Int)))=true):ψ nt f175 ⟨[(1,.ptr 0 0 0),(3,.ref 1 0 0 c.length),(11,ω (l.tail.length:Int)),(12,ω (k:Int))],[(0,⟨[.str e,ω u1,ω u2,.sl (yF l) l.length false],0,false,0,0,true⟩),(1,⟨(HY c),0,false,0,3,true⟩)],.dead,[]⟩ (.exit 0) ⟨[(3,.ref 0 0 0 c.length)],[(0,⟨(HY c),0,false,0,3,true⟩)],.dead,[]⟩:=pN 175 [] 1 0 (.c d .nil) (.nil) f
theorem ae4 (x:RQ) (e:Nat) (c:Int) (d:List UInt8) (u1 u2:Int) (l:List (RQ × RQ)) (h:ω (γ .i64 ((e:Int) - ((1:Nat):Int)))=ω (-1)) (f:lit false (!(c==((0:Nat):Int)))=true) (g:CO 172 [KH d u1 u2 l,qA x] (.ret (ω c))) (j:CO 173 [KH d u1 u2 l,qA x] (.ret (ω (e:Int)))) (i:CO 42 [ω 0] (.ret (qA q0))):CO 130 [KH d u1 u2 l,qA x] (.ret (.tup [qA q0,ω 0])):=pK [] 2 2 (.k 12 f (.n 7 .nil)) (.c i (.v 19 (.eq h) (.c j (.c g .nil))))
theorem ae5 (x o r v w:RQ) (y:Oq) (c h:Nat) (d:Int) (e:List UInt8) (u1 u2:Int) (l:List (RQ × RQ)) (f:List RQ) (b:RQ × RQ) (rb j:List AV) (C:(ε ((δ (c:Int))*6) (yF l))=QB b++rb) (i:(ε ((0+(δ (c:Int)))*3) (HY f))=rvC o++j) (B:ω (γ .i64 ((h:Int) - ((1:Nat):Int)))=ω (c:Int)) (g:(decide (((0:Nat):Int)≤(c:Int)))=true) (t:(decide ((c:Int)<(f.length:Int)))=true) (p:(decide ((c:Int)<(l.length:Int)))=true) (n:lit false (decide ((c:Int)<((0:Nat):Int)))=true) (D:lit false (!(d==((0:Nat):Int)))=true) (k:CO 172 [KH e u1 u2 l,qA x] (.ret (ω d))) (u:CO 173 [KH e u1 u2 l,qA x] (.ret (ω (h:Int)))) (m:CO 175 [KH e u1 u2 l] (.ret (.own (HY f) f.length 3))) (z:CO 168 [qA x,qA b.1] (.ret (qA v))) (E:CO 169 [qA b.2,qA v] (.ret (qA w))) (q:CO 167 [qA o,qA w] (.ret (qA r))) (A:CO 174 [qA r] (.ret (.tup [.agg [.bool y.n,.str y.a,.str y.d],ω y.e]))):CO 130 [KH e u1 u2 l,qA x] (.ret (.tup [.agg [.bool y.n,.str y.a,.str y.d],ω y.e])):=pK [] 2 0 (.n 13 (.a (kS [.bool,.str,.str] i rfl) (.c g (.c t (.k 11 g (.c p (.k 1 n (.k 7 D (.n 7 .nil))))))))) (.c A (.c q (.c E (.c z (.v 32 (.rd [.bool,.str,.str] i rfl) (.c m (.v 26 (.ppt C) (.v 19 (.eq B) (.c u (.c k .nil))))))))))
theorem ae2 (x:RQ) (e:Nat) (c:Int) (f:List UInt8) (u1 u2:Int) (d:List AV) (g:lit true (!(c==((0:Nat):Int)))=true) (h:CO 202 [.agg [.str f,ω u1,ω u2,.sl d e false]] (.ret (ω c))):CO 172 [.agg [.str f,ω u1,ω u2,.sl d e false],qA x] (.ret (ω c)):=pK [] 1 1 (.c g (.n 4 .nil)) (.c h .nil)
theorem ae6 (x:RQ) (e:Nat) (c:Int) (f:List UInt8) (u1 u2:Int) (d:List AV) (g:lit true (!(c==((0:Nat):Int)))=true) (h:CO 172 [.agg [.str f,ω u1,ω u2,.sl d e false],qA x] (.ret (ω c))):CO 130 [.agg [.str f,ω u1,ω u2,.sl d e false],qA x] (.ret (.tup [Ω false [] [],ω c])):=pK [] 1 1 (.k 4 g (.n 7 .nil)) (.c h .nil)
theorem wI {α:Type} (f:α→List AV) (m:Nat) (c:∀ a,(f a).length=m):∀ {l:List α} {k:Nat} (h:k<l.length),ε (k*m) (l.flatMap f)=f l[k]++(l.drop (k+1)).flatMap f
 | [],_,h=>by simp at h
 |x::r,0,_=>by simp
 |x::r,k+1,h=>by
  have d:k<r.length:=by simpa using h
  have:=wI f m c d;rw [Xxu,Xke,Xx3,← List.drop_drop];have e:ε m (f x++r.flatMap f)=r.flatMap f:=by rw [← c x];exact Xj2
  rw [e,this];simp
theorem oO {α:Type} (f:α→List AV) (m:Nat) (c:∀ a,(f a).length=m):∀ l:List α,(l.flatMap f).length=l.length*m
 | []=>by simp
 |x::r=>by rw [Xxu,η,c,oO f m c r,ξ,Xke,Xx3]
theorem yN {l:List (RQ × RQ)} {k:Nat} (h:k<l.length):ε (δ (k:Int)*6) (yF l)=QB l[k]++yF (l.drop (k+1)):=by
 rw [aK];exact wI QB 6 (fun _=>rfl) h
theorem Ny {l:List RQ} {k:Nat} (h:k<l.length):ε ((0+δ (k:Int))*3) (HY l)=rvC l[k]++HY (l.drop (k+1)):=by
 rw [aK,Xqd];exact wI rvC 3 (fun _=>rfl) h
theorem Kt (l:List RQ):(HY l).length=l.length*3:=oO rvC 3 (fun _=>rfl) l
theorem Y5 (l:List RQ) (r:RQ):ν (l.length*3) (HY l)++ [.bool r.neg,.str (ae r.n),.str (ae r.d)]=HY (l++ [r]):=by
 rw [υ (by rw [Kt];exact Δ _)];unfold HY;rw [Xxi];rfl
abbrev srS (nm:List UInt8) (u1 u2:Int) (l:List (RQ × RQ)) (x:RQ) (p:Nat × Nat):St:=⟨[(1,.fn 204 [] [Tf nm u1 u2 l,SA x]),(5,ω (p.1:Int)),(6,ω (p.2:Int))],[],.dead,[]⟩
abbrev srO (c:Nat):St:=⟨[(5,ω (c:Int))],[],.dead,[]⟩
theorem akz {i j:Nat} (h:i+j<2^62):ω (γ .i64 (Xq4 (γ .u64 (γ .i64 ((i:Int)+(j:Int)))) (2^(min 1 64))))=ω (((i+j) / 2:Nat):Int):=by
 congr 1;rw [show (i:Int)+(j:Int)=((i+j:Nat):Int) from rfl,bC (by omega),pV,Nat.mod_eq_of_lt (show i+j<18446744073709551616 by omega),show (2:Int)^(min 1 64)=((2:Nat):Int) from rfl];rw [show Xq4 ((i+j:Nat):Int) ((2:Nat):Int)=(((i+j) / 2:Nat):Int) from by rw [Int.fdiv_eq_ediv_of_nonneg _ (by omega)];rfl,bC (by omega)]
theorem adc {nt:Nat} (r:26≤nt) (f:List UInt8) (u1 u2:Int) (l:List (RQ × RQ)) (x:RQ) (P:Nat→Bool) (C:l.length<2^60)
  (hP:∀ k,k<l.length→CO 204 [ω (k:Int),Tf f u1 u2 l,SA x] (.ret (.bool (P k)))) (hM:∀ i j,i≤j→j<l.length→P i=true→P j=true):
  ∀ (d i j:Nat),j - i≤d→i≤j→j≤l.length→(∀ k,k<i→P k=false)→(∀ k,j≤k→k<l.length→P k=true)→∀ c,c≤l.length→(∀ k,k<c→P k=false)→(∀ k,c≤k→k<l.length→P k=true)→
   aC prog ap [] nt (af 0 (ai f203)) (fun _=> .exit 0) (srS f u1 u2 l x) srO (i,j) c:=by
 intro d
 induction d with
 | zero=>
  intro i j hd w A p o c u g n;have:i=j:=by omega
  subst this;have:i=c:=by
   rcases Xzf i c with h|h|h
   ·have a:=g i h;rw [o i (Δ _) (by omega)] at a;cases a
   ·exact h
   ·have a:=p c h;rw [n c (Δ _) (by omega)] at a;cases a
  subst this;exact .done (adV x i i f u1 u2 l r (aF (Yq1 (by omega))))
 | succ d ih=>
  intro i j hd w A p o c u g n;by_cases hlt:i<j
  ·have y:=akz (i:=i) (j:=j) (by omega);have B:(i+j) / 2<j:=by omega
   have v:i≤(i+j) / 2:=by omega
   generalize (i+j) / 2=q at*
   have t:=hP q (by omega);have m:lit true (decide ((i:Int)<(j:Int)))=true:=Yq0 (by omega);cases hp:P q with
   |false=>
    rw [hp] at t;refine .next (ajO x false i j q f u1 u2 l r y (xk (by omega)) rfl m t) (ih (q+1) j (by omega) (by omega) A (fun k z=> ?_) o c u g n)
    cases e:P k with
    |false=>rfl
    |true=>rw [hM k q (by omega) (by omega) e] at hp;cases hp
   |true=>
    rw [hp] at t;exact .next (ajP x true i j q f u1 u2 l r y rfl m t) (ih i q (by omega) v (by omega) p (fun k z e=>hM q k z e hp) c u g n)
  ·have:i=j:=by omega
   subst this;have:i=c:=by
    rcases Xzf i c with h|h|h
    ·have a:=g i h;rw [o i (Δ _) (by omega)] at a;cases a
    ·exact h
    ·have a:=p c h;rw [n c (Δ _) (by omega)] at a;cases a
   subst this;exact .done (adV x i i f u1 u2 l r (aF (Yq1 (by omega))))
structure Z4 (l:List (RQ × RQ)):Prop where
 len:l.length≤8
 pos:0<l.length
 ok:∀ b ∈ l,b.1.ok∧b.2.ok
 fit:∀ b ∈ l,kJ b.1=true∧kJ b.2=true
 srt:ku l
theorem TA:∀ {l:List (RQ × RQ)},ku l→∀ i j (hi:i<j) (hj:j<l.length),(l[i]'(by omega)).1.rt<l[j].1.rt
 | [],_,_,_,_,hj=>by simp at hj
 |b::l,h,0,j+1,_,hj=>h.all _ (Xxv (by simpa using hj))
 |b::l,h,i+1,j+1,hi,hj=>TA h.tail i j (by omega) (by simpa using hj)
def pS (l:List (RQ × RQ)) (x:RQ) (k:Nat):Bool:=match l[k]? with|some b=>decide (0<lS b.1 x)|none=>true
theorem yV (x:RQ):∀ l:List (RQ × RQ),iW l x≤l.length∧(∀ k,k<iW l x→pS l x k=false)∧(iW l x<l.length→pS l x (iW l x)=true)
 | []=> ⟨Δ _,fun k h=>absurd h (Xz5 _),fun h=>absurd h (Xz5 _)⟩
 | b::l=>by
  obtain ⟨g,f,d⟩:=yV x l;by_cases h:0<lS b.1 x
  ·have e:iW (b::l) x=0:=by
    unfold iW;rw [List.takeWhile_cons_of_neg (by simp;omega)];rfl
   rw [e];exact ⟨Xx1 _,fun k c=>absurd c (Xz5 _),fun _=>Yq0 h⟩
  ·rw [aax h];refine ⟨by simp only [ξ];omega,fun k c=> ?_,fun c=>d (by simpa using c)⟩;cases k with
   |zero=>exact Yq1 h
   |succ k=>exact f k (by omega)
section
variable (nm:List UInt8) (u1 u2:Int) {l:List (RQ × RQ)} (hR:Z4 l) {x:RQ} (hx:x.ok) (fx:kJ x=true)
include hR hx fx
omit fx in
theorem acl:∀ i j,i≤j→j<l.length→pS l x i=true→pS l x j=true:=by
 intro i j d c h;rcases Xxc i j with h1|h1
 ·have hs:=TA hR.srt i j h1 c;unfold pS at h ⊢;rw [π (by omega)] at h ⊢;simp only [decide_eq_true_eq] at h ⊢;have f:=(DI (hR.ok _ (Xxv (show i<l.length by omega))).1 hx).2.2;have e:=(DI (hR.ok _ (Xxv c)).1 hx).2.2;have:=f.1 h;exact e.2 (by grind)
 ·rw [show i=j by omega] at h;exact h
theorem aaS (k:Nat) (c:k<l.length):CO 204 [ω (k:Int),Tf nm u1 u2 l,SA x] (.ret (.bool (pS l x k))):=by
 unfold pS;rw [π c];exact ajl x k _ nm u1 u2 l l[k] _ (yN c) (Yq0 (by omega)) (Yq0 (by omega))
  (YX (hR.ok _ (Xxv c)).1 hx (dn (hR.fit _ (Xxv c)).1) (dn fx) (by decide))
theorem LG:CO 173 [KH nm u1 u2 l,qA x] (.ret (ω ((iW l x:Nat):Int))):=by
 obtain ⟨i,h,g⟩:=yV x l;have e:=hR.len;have f:=acl hR hx;refine ajm x _ nm u1 u2 l (ajL x _ _ nm u1 u2 l (aC.blk (id:=0) (e':= .normal) (s:=⟨_,_,_,_⟩) (s':=srO (iW l x)) (fun nt j=>adc j nm u1 u2 l x (pS l x) (by omega) (aaS nm u1 u2 hR hx fx) f l.length 0 l.length (by omega) (Xx1 _) (Δ _) (fun k d=>absurd d (Xz5 _)) (fun k d c=>by omega) (iW l x) i h (fun k d c=>f _ k d c (g (by omega)))) (by simp) rfl (aP.of ⟨rfl,rfl,rfl,trivial⟩) (aP.refl _)))
end
abbrev smS (nm:List UInt8) (u1 u2:Int) (l:List (RQ × RQ)) (p:Nat × List RQ):St:=⟨[(1,.ptr 0 0 0),(3,.ref 1 0 0 p.2.length),(11,ω (l.tail.length:Int)),(12,ω (p.1:Int))],[(0,⟨[.str nm,ω u1,ω u2,.sl (yF l) l.length false],0,false,0,0,true⟩),(1,⟨(HY p.2),0,false,0,3,true⟩)],.dead,[]⟩
abbrev smO (os:List RQ):St:=⟨[(3,.ref 0 0 0 os.length)],[(0,⟨(HY os),0,false,0,3,true⟩)],.dead,[]⟩
theorem aef {k:Nat} {a w:RQ} (d:nM (410*5^k) a) (c:nM 410 w):nM (410*5^(k+1)) (jf a w):=by
 have hp:1≤5^k:=Yq4 _ _ (by decide);refine (Gu d (c.mono (by omega))).mono ?_;rw [Nat.pow_succ];generalize 5^k=M at*
 omega
theorem aj2 {k:Nat} (h:k≤8):410*5^k<2^28:=Xqk (Xq0 410 (Ψ (by decide) h)) (by decide)
theorem ams {l:List (RQ × RQ)} (e:Z4 l) {b c:RQ × RQ} (f:b ∈ l) (d:c ∈ l):nM 205 (jD c.1 b.1)∧nM 410 (nX (jD c.1 b.1) b.2):=by
 have g:nM 205 (jD c.1 b.1):=Qe (L:=51) (dn (e.fit _ d).1) (dn (e.fit _ f).1);exact ⟨g,Qd g (nM.mono (L:=51) (dn (e.fit _ f).2) (by decide))⟩
theorem Zn {nt:Nat} (q:47≤nt) (m:List UInt8) (u1 u2:Int) {l:List (RQ × RQ)} (f:Z4 l):∀ (r p:List (RQ × RQ)) (b:RQ × RQ) (d:List RQ) (c:RQ),l=p++b::r→d.length=p.length→c.ok→nM (410*5^p.length) c→
  aC prog ap [] nt (af 0 (ai f175)) (fun _=> .exit 0) (smS m u1 u2 l) smO (p.length,d++ [c]) (d++jr c (b::r)):=by
 intro r
 induction r with
 |nil=>
  intro p b d c h z n hs;exact .done (ajN p.length m u1 u2 l (d++ [c]) q (aF (Yq1 (by rw [h];simp))))
 |cons b2 r ih=>
  intro p b d c h z n hs;have t:=f.len;have j:p.length+1<l.length:=by rw [h];simp
  have i:b ∈ l:=by rw [h];simp
  have g:b2 ∈ l:=by rw [h];simp
  have J:l[p.length]'(by omega)=b:=by subst h;simp
  have G:l[p.length+1]'j=b2:=by subst h;simp
  have w:=yN (l:=l) (k:=p.length) (by omega);have u:=yN (l:=l) (k:=p.length+1) j;rw [J] at w;rw [G] at u;have o:=Ny (l:=d++ [c]) (k:=p.length) (by simp;omega);rw [show (d++ [c])[p.length]'(by simp;omega)=c by simp [← z]] at o;have v:=qH (f.ok _ g).1 (f.ok _ i).1;have B:=ug v (f.ok _ i).2;obtain ⟨I,y⟩:=ams f i g;have F:=aj2 (k:=p.length) (by omega);have E:1≤5^p.length:=Yq4 _ _ (by decide);have C:=PY (f.ok _ g).1 (f.ok _ i).1 (dn (f.fit _ g).1) (dn (f.fit _ i).1) (by decide);have H:=PX v (f.ok _ i).2 I (nM.mono (L:=51) (dn (f.fit _ i).2) (by decide)) (by decide);have D:=Gj n B hs (y.mono (by omega)) F;have K:(d++ [c]).length=p.length+1:=by simp;omega
  have st:=ajM c (jf c (nX (jD b2.1 b.1) b.2)) _ _ p.length m u1 u2 l (d++ [c]) b b2 _ _ _ q w u o (xk (by omega)) (Y5 _ _) (Xql (by omega)) (Xql (by rw [Kt];exact Δ _)) (Yq0 (by omega)) (Yq0 (by omega)) (Yq0 (by omega)) (Yq0 (by omega)) (Yq0 (by omega)) (aA (Yq0 (by rw [List.length_tail];omega))) C H D;have A:=ih (p++ [b]) b2 (d++ [c]) (jf c (nX (jD b2.1 b.1) b.2)) (by rw [h];simp) (by simp;omega) (jQ n B) (by rw [η];exact aef hs y);rw [η,φ] at A;rw [show d++jr c (b::b2::r)=(d++ [c])++jr (jf c (nX (jD b2.1 b.1) b.2)) (b2::r) by simp [jr]];refine .next ?_ A
  have e:(d++ [c]++ [jf c (nX (jD b2.1 b.1) b.2)]).length=(d++ [c]).length+1:=by simp
  show au _ _ _ _ _ _ _ (smS m u1 u2 l (p.length+1,d++ [c]++ [jf c (nX (jD b2.1 b.1) b.2)]));unfold smS;rw [e];exact st
theorem Gt:∀ (l:List (RQ × RQ)) (c:RQ),0<l.length→(jr c l).length=l.length
 | [_],_,_=>rfl
 |b::b2::l,c,_=>by show (jr _ (b2::l)).length+1=_;rw [Gt (b2::l) _ (by simp)];rfl
theorem ad_:nM 410 q0:=⟨Xxr (eu (x:=0) (k:=1) (by decide)) (by decide),Xxr (eu (x:=1) (k:=1) (by decide)) (by decide)⟩
theorem XF (d:List UInt8) (u1 u2:Int) {l:List (RQ × RQ)} (e:Z4 l):CO 175 [KH d u1 u2 l] (.ret (.own (HY (jr q0 l)) (jr q0 l).length 3)):=by
 have f:=e.len;have c:=e.pos;have g:∀ nt,47≤nt→aC prog ap [] nt (af 0 (ai f175)) (fun _=> .exit 0) (smS d u1 u2 l) smO (0,[q0]) (jr q0 l):=fun nt i=>by
  cases l with
  |nil=>simp at c
  |cons b r=>exact Zn i d u1 u2 e r [] b [] q0 rfl rfl RZ (ad_.mono (by decide))
 have h:=ajS d u1 u2 l (jr q0 l) (by
  cases l with
  |nil=>simp at c
  |cons b r=>
   rw [aK,υ (by show ((b::r).flatMap QB).length≤_;rw [oO QB 6 (fun _=>rfl)];exact Δ _)];rfl) (Yq0 (by omega)) (Yq0 (by omega)) iY (aC.blk (id:=0) (e':= .normal) (s:=⟨_,_,_,_⟩) (s':=smO (jr q0 l)) g (by simp) rfl (aP.of ⟨rfl,rfl,rfl,rfl,trivial⟩) (aP.refl _))
 rw [υ (by rw [Kt];exact Δ _)] at h;exact h
theorem adf {l:List (RQ × RQ)} (e:Z4 l):∀ (r p:List (RQ × RQ)) (b:RQ × RQ) (c:RQ),l=p++b::r→c.ok→nM (410*5^p.length) c→∀ q ∈ jr c (b::r),q.ok∧nM (410*5^8) q:=by
 intro r
 induction r with
 |nil=>
  intro p b c f h hs q d;have d:q ∈ [c]:=d;rw [Xjp] at d;subst d;have:=e.len;exact ⟨h,hs.mono (Xq0 410 (Ψ (by decide) (by rw [f] at this;simp at this;omega)))⟩
 | cons b2 r ih=>
  intro p b c f h hs q d;have i:b ∈ l:=by rw [f];simp
  have g:b2 ∈ l:=by rw [f];simp
  have d:q ∈ c::jr (jf c (nX (jD b2.1 b.1) b.2)) (b2::r):=d;rcases List.mem_cons.1 d with rfl|d
  ·have:=e.len;exact ⟨h,hs.mono (Xq0 410 (Ψ (by decide) (by rw [f] at this;simp at this;omega)))⟩
  ·have j:=ug (qH (e.ok _ g).1 (e.ok _ i).1) (e.ok _ i).2;exact ih (p++ [b]) b2 _ (by rw [f];simp) (jQ h j) (by rw [η];exact aef hs (ams e i g).2) q d
theorem NP {l:List (RQ × RQ)} (c:Z4 l):∀ q ∈ jr q0 l,q.ok∧nM (410*5^8) q:=by
 cases l with
 |nil=>have:=c.pos;simp at this
 |cons b r=>exact adf c r [] b q0 rfl RZ (ad_.mono (by decide))
def ZR (l:List (RQ × RQ)) (x:RQ):Oq:=if iW l x=0 then .val q0 else og (atR l x)
theorem aaT {q:RQ} (h:q.ok) (f:(ae q.n).length<2^36) (e:(ae q.d).length<2^36):CO 174 [qA q] (.ret (.tup [.agg [.bool (og q).n,.str (og q).a,.str (og q).d],ω (og q).e])):=by
 have c:=eQ q.neg (ae q.n) (ae q.d) f e;rw [rW h] at c;unfold og;cases d:kJ q with
 |true=>
  rw [if_pos rfl];exact ajr q (by rw [d];rfl) c
 |false=>
  rw [if_neg (by simp)];exact ajq q (by rw [d];rfl) c
theorem ae3 (d:List UInt8) (u1 u2:Int) {l:List (RQ × RQ)} (c:Z4 l) {x:RQ} (i:x.ok) (k:kJ x=true) (m:CO 202 [KH d u1 u2 l] (.ret (ω 0))):
  CO 130 [KH d u1 u2 l,qA x] (.ret (.tup [.agg [.bool (ZR l x).n,.str (ZR l x).a,.str (ZR l x).d],ω (ZR l x).e])):=by
 obtain ⟨t,v⟩:=dn k;have u:=mY x.neg (ae x.n) (ae x.d) (by omega) (by omega);rw [qP x i] at u;have w:=eQ x.neg (ae x.n) (ae x.d) (by omega) (by omega);rw [rW i,k] at w;have j:CO 172 [KH d u1 u2 l,qA x] (.ret (ω 0)):=ajk x 0 d u1 u2 l rfl m u w;have g:=LG d u1 u2 c i k;have A:=(yV x l).1;have o:=c.len;unfold ZR;by_cases hc:iW l x=0
 ·rw [if_pos hc];rw [hc] at g;exact ae4 x 0 0 d u1 u2 l rfl rfl j g iY
 ·rw [if_neg hc];have n:iW l x - 1<l.length:=by omega
  have f:=Xxv n;have C:(jr q0 l).length=l.length:=Gt l q0 c.pos;have h:iW l x - 1<(jr q0 l).length:=by omega
  obtain ⟨z,y⟩:(jr q0 l)[iW l x - 1].ok∧nM (410*5^8) (jr q0 l)[iW l x - 1]:=by
   exact NP c _ (Xxv h)
  have r:nM 205 (jD x l[iW l x - 1].1):=Qe (L:=51) ⟨t,v⟩ (dn (c.fit _ f).1);have p:nM 410 (nX l[iW l x - 1].2 (jD x l[iW l x - 1].1)):=Qd (L:=205) (nM.mono (L:=51) (dn (c.fit _ f).2) (by decide)) r;have k3:=qH i (c.ok _ f).1;have k4:=ug (c.ok _ f).2 k3;have B:=PY i (c.ok _ f).1 ⟨t,v⟩ (dn (c.fit _ f).1) (by decide);have E:=PX (c.ok _ f).2 k3 (nM.mono (L:=51) (dn (c.fit _ f).2) (by decide)) r (by decide);have D:=Gj z k4 y (p.mono (by decide)) (by decide);have q:=Gu y (p.mono (by decide));have e:atR l x=jf (jr q0 l)[iW l x - 1] (nX l[iW l x - 1].2 (jD x l[iW l x - 1].1)):=by
   unfold atR;rw [κ,κ,π n,π h];rfl
  rw [e];have F:=aaT (jQ z k4) (Xqk q.1 (by decide)) (Xqk q.2 (by decide));refine ae5 x _ _ _ _ _ (iW l x - 1) (iW l x) 0 d u1 u2 l _ l[iW l x - 1] _ _ (yN n) (Ny h) ?_ (Yq0 (by omega)) (Yq0 (by omega)) (Yq0 (by omega)) (aF (Yq1 (by omega))) rfl j g (XF d u1 u2 c) B E D F;congr 1;rw [show ((iW l x:Nat):Int) - ((1:Nat):Int)=((iW l x - 1:Nat):Int) by omega];exact bC (by omega)
def nJ (x:Br):Bool:=je x.fn x.fa x.fd && je x.rn x.ra x.rd
def LX (x:Br):Bool:=fF x.fn x.fa x.fd && fF x.rn x.ra x.rd
def Hf (cmp:Br→Br→Int):Br→List Br→Bool
 |_,[]=>true
 |y,x::r=>cond (decide (((0:Nat):Int)≤cmp y x)) false (Hf cmp x r)
theorem K_ (cmp:Br→Br→Int):∀ (r:List Br) (y:Br),Ie cmp (some y) r=(r.all nJ && Hf cmp y r)
 | [],_=>rfl
 |x::r,y=>by
  simp only [Ie,Xj3,Hf,nJ,K_ cmp r x];cases je x.fn x.fa x.fd<;>cases je x.rn x.ra x.rd<;>cases decide (((0:Nat):Int)≤cmp y x)<;>cases r.all nJ<;>simp
theorem KZ (cmp:Br→Br→Int) (x:Br) (r:List Br):Ie cmp none (x::r)=((x::r).all nJ && ((sN x.fn x.fa x.fd==((0:Nat):Int)) && Hf cmp x r)):=by
 simp only [Ie,Xj3,nJ,K_ cmp r x];cases je x.fn x.fa x.fd<;>cases je x.rn x.ra x.rd<;>cases (sN x.fn x.fa x.fd==((0:Nat):Int))<;>cases r.all nJ<;>simp
theorem Je:∀ l:List Br,l.any Hl= !(l.all LX)
 | []=>rfl
 |x::r=>by
  rw [Xv0,Xj3,Je r];simp only [Hl,LX];cases fF x.fn x.fa x.fd<;>cases fF x.rn x.ra x.rd<;>simp
structure Lk where
 op:Int
 nm:List UInt8
 n:Bool
 a:List UInt8
 d:List UInt8
 e:Int
def lkC (x:Lk):List AV:= [ω x.op,.str x.nm,.bool x.n,.str x.a,.str x.d,ω x.e]
def jX (l:List Lk):List AV:=l.flatMap lkC
abbrev JX (ls:List Lk) (cs:List Sc) (nl ns:Bool) (a b c d:List AV):Hp:= [(0,⟨[.sl (jX ls) ls.length nl,.sl (kL cs) cs.length ns],0,false,0,0,true⟩),(1,⟨[.mp [] [],.mp [] []],0,false,0,0,true⟩),(2,⟨[.mr 3 0,.mr 4 0],0,false,0,0,false⟩),(3,⟨[.agg a,.agg b],0,false,0,4611686018427387904,true⟩),(4,⟨[.agg c,.agg d],0,false,0,4611686018427387904,true⟩)]
theorem aa6 (c:Oq) (f nn h e:Bool) (n g d:List UInt8) (ks vs j k:List AV) (i:lit true (!e)=true) (m:CO 128 [.agg [.bool c.n,.str c.a,.str c.d]] (.ret (.tup [.bool h,.bool e]))) (o:CO 41 [ω 13] (.ret (.agg [.bool false,.str [],.str [],ω 13]))):CO 78 [.agg [.mp ks vs,.mp j k],.agg [ω 20,.bool f,.str n,.str g,.str d],.sl [.bool c.n,.str c.a,.str c.d,ω c.e] 1 nn] (.ret (.agg [.bool false,.str [],.str [],ω 13])):=pK [] 2 3 (.k 5 i (.n 11 .nil)) (.c o (.c m .nil))
theorem aa7 (c o:Oq) (g nn e f:Bool) (n h d:List UInt8) (ks vs j k:List AV) (i:lit false (!f)=true) (m:CO 128 [.agg [.bool c.n,.str c.a,.str c.d]] (.ret (.tup [.bool e,.bool f]))) (p:CO 126 [.bool (!e)] (.ret (gz o))):CO 78 [.agg [.mp ks vs,.mp j k],.agg [ω 20,.bool g,.str n,.str h,.str d],.sl [.bool c.n,.str c.a,.str c.d,ω c.e] 1 nn] (.ret (gz o)):=pK [] 2 1 (.k 5 i (.n 11 .nil)) (.c p (.c m .nil))
theorem aa8 (c o:Oq) (q st:RQ) (nn:Bool) (d:List UInt8) (ks vs e f:List AV) (g:CO 131 [.agg [.bool c.n,.str c.a,.str c.d],qA st] (.ret (.tup [qA q,.bool true]))) (h:CO 124 [qA q] (.ret (gz o))):CO 78 [.agg [.mp ks vs,.mp e f],.agg [ω 21,.bool st.neg,.str (ae st.n),.str (ae st.d),.str d],.sl [.bool c.n,.str c.a,.str c.d,ω c.e] 1 nn] (.ret (gz o)):=pK [] 3 4 (.n 25 .nil) (.c h (.c g .nil))
theorem aa9 (c o:Oq) (q st:RQ) (nn:Bool) (d:List UInt8) (ks vs e f:List AV) (g:CO 132 [.agg [.bool c.n,.str c.a,.str c.d],qA st] (.ret (.tup [qA q,.bool true]))) (h:CO 124 [qA q] (.ret (gz o))):CO 78 [.agg [.mp ks vs,.mp e f],.agg [ω 22,.bool st.neg,.str (ae st.n),.str (ae st.d),.str d],.sl [.bool c.n,.str c.a,.str c.d,ω c.e] 1 nn] (.ret (gz o)):=pK [] 4 8 (.n 26 .nil) (.c h (.c g .nil))
theorem aa_ (c o:Oq) (q st:RQ) (nn:Bool) (d:List UInt8) (ks vs e f:List AV) (g:CO 129 [.agg [.bool c.n,.str c.a,.str c.d],qA st] (.ret (.tup [qA q,.bool true]))) (h:CO 124 [qA q] (.ret (gz o))):CO 78 [.agg [.mp ks vs,.mp e f],.agg [ω 23,.bool st.neg,.str (ae st.n),.str (ae st.d),.str d],.sl [.bool c.n,.str c.a,.str c.d,ω c.e] 1 nn] (.ret (gz o)):=pK [] 4 0 (.n 26 .nil) (.c h (.c g .nil))
theorem aba (e:Oq) (m nn g:Bool) (r h c k:List UInt8) (u1 u2:Int) (ks vs d f i:List AV) (q:Nat) (o:aQ (.tup [(Xz4 (dY d f (.str c)) (.agg [.str [],ω 0,ω 0,.nilS])),.bool (Xza (dY d f (.str c)))]) (.tup [.agg [.str k,ω u1,ω u2,.sl i q false],.bool g])) (n:lit true (!g)=true) (p:(Xzx d (Rk 9))=true) (j:CO 41 [ω 12] (.ret (.agg [.bool false,.str [],.str [],ω 12]))):CO 78 [.agg [.mp ks vs,.mp d f],.agg [ω 24,.bool m,.str r,.str h,.str c],.sl [.bool e.n,.str e.a,.str e.d,ω e.e] 1 nn] (.ret (.agg [.bool false,.str [],.str [],ω 12])):=pK [] 3 6 (.k 5 n (.k 2 p (.n 11 .nil))) (.c j (.v 43 o .nil))
theorem abb (d o:Oq) (n nn i:Bool) (t k c h:List UInt8) (u1 u2:Int) (ks vs e f g:List AV) (j:Nat) (q:aQ (.tup [(Xz4 (dY e f (.str c)) (.agg [.str [],ω 0,ω 0,.nilS])),.bool (Xza (dY e f (.str c)))]) (.tup [.agg [.str h,ω u1,ω u2,.sl g j false],.bool i])) (p:lit false (!i)=true) (r:(Xzx e (Rk 9))=true) (m:CO 130 [.agg [.str h,ω u1,ω u2,.sl g j false],.agg [.bool d.n,.str d.a,.str d.d]] (.ret (.tup [.agg [.bool o.n,.str o.a,.str o.d],ω o.e]))):CO 78 [.agg [.mp ks vs,.mp e f],.agg [ω 24,.bool n,.str t,.str k,.str c],.sl [.bool d.n,.str d.a,.str d.d,ω d.e] 1 nn] (.ret (gz o)):=pK [] 3 2 (.k 16 p (.k 2 r (.n 11 .nil))) (.c m (.v 43 q .nil))
theorem ajA (ks vs:List AV) (k:Nat) (ls:List Lk) (h:List Sc) (x:Lk) (c d f:Bool) (j:List AV) (g r:Oq) {nt:Nat} (q:68≤nt) (t:(ε ((δ (k:Int))*6) (jX ls))=lkC x++j) (o:Yqq [(Xz4 (dY ks vs (.agg [ω x.op,.str x.nm])) (.agg [.bool false,.str [],.str [],ω 0])),.bool (Xza (dY ks vs (.agg [ω x.op,.str x.nm])))]=Yqq [gz r,.bool f]) (u:ω (γ .i64 ((k:Int)+((1:Nat):Int)))=ω ((k+1:Nat):Int)) (e:(Xzx ks (Rk 134))=true) (p:lit true (!f)=true) (n:(decide (((0:Nat):Int)≤(k:Int)))=true) (m:(decide ((k:Int)<(ls.length:Int)))=true) (v:lit true (decide ((k:Int)<(ls.length:Int)))=true) (i:CO 43 [.agg [.bool x.n,.str x.a,.str x.d,ω x.e]] (.ret (gz g))):ψ nt f45 ⟨[(1,.ptr 0 0 0),(2,.ptr 1 0 0),(3,.ptr 2 0 0),(17,.sl (jX ls) ls.length c),(18,ω (ls.length:Int)),(19,ω (k:Int))],(JX ls h c d ks vs [] []),.dead,[]⟩ (.normal) ⟨[(1,.ptr 0 0 0),(2,.ptr 1 0 0),(3,.ptr 2 0 0),(17,.sl (jX ls) ls.length c),(18,ω (ls.length:Int)),(19,ω ((k+1:Nat):Int))],(JX ls h c d (yg ks (.agg [ω x.op,.str x.nm])) (qh ks vs (.agg [ω x.op,.str x.nm]) (gz g)) [] []),.dead,[]⟩:=pN 45 [] 2 3 (.k 1 e (.k 7 p (.k 2 e (.k 13 n (.c m (.c v .nil)))))) (.v 43 (.eq u) (.c i (.v 32 (.eq o) (.v 21 (.ppt t) .nil)))) q
theorem ajB (ks vs:List AV) (k:Nat) (ls:List Lk) (f:List Sc) (x:Lk) (c d e:Bool) (g:List AV) (p:Oq) {nt:Nat} (o:68≤nt) (q:(ε ((δ (k:Int))*6) (jX ls))=lkC x++g) (m:Yqq [(Xz4 (dY ks vs (.agg [ω x.op,.str x.nm])) (.agg [.bool false,.str [],.str [],ω 0])),.bool (Xza (dY ks vs (.agg [ω x.op,.str x.nm])))]=Yqq [gz p,.bool e]) (r:ω (γ .i64 ((k:Int)+((1:Nat):Int)))=ω ((k+1:Nat):Int)) (i:lit false (!e)=true) (n:(Xzx ks (Rk 134))=true) (j:(decide (((0:Nat):Int)≤(k:Int)))=true) (h:(decide ((k:Int)<(ls.length:Int)))=true) (t:lit true (decide ((k:Int)<(ls.length:Int)))=true):ψ nt f45 ⟨[(1,.ptr 0 0 0),(2,.ptr 1 0 0),(3,.ptr 2 0 0),(17,.sl (jX ls) ls.length c),(18,ω (ls.length:Int)),(19,ω (k:Int))],(JX ls f c d ks vs [] []),.dead,[]⟩ (.normal) ⟨[(1,.ptr 0 0 0),(2,.ptr 1 0 0),(3,.ptr 2 0 0),(17,.sl (jX ls) ls.length c),(18,ω (ls.length:Int)),(19,ω ((k+1:Nat):Int))],(JX ls f c d ks vs [] []),.dead,[]⟩:=pN 45 [] 2 1 (.c i (.k 2 n (.k 13 j (.c h (.c t .nil))))) (.v 43 (.eq r) (.v 32 (.eq m) (.v 21 (.ppt q) .nil))) o
theorem ajC (ks vs:List AV) (k:Nat) (ls:List Lk) (d:List Sc) (c e:Bool) {nt:Nat} (g:68≤nt) (f:lit false (decide ((k:Int)<(ls.length:Int)))=true):ψ nt f45 ⟨[(1,.ptr 0 0 0),(2,.ptr 1 0 0),(3,.ptr 2 0 0),(17,.sl (jX ls) ls.length c),(18,ω (ls.length:Int)),(19,ω (k:Int))],(JX ls d c e ks vs [] []),.dead,[]⟩ (.exit 0) ⟨[(1,.ptr 0 0 0),(2,.ptr 1 0 0),(3,.ptr 2 0 0)],(JX ls d c e ks vs [] []),.dead,[]⟩:=pN 45 [] 1 0 (.c f .nil) (.nil) g
theorem ajD (n:List UInt8) (u1 u2:Int) (ks vs e g m:List AV) (z k:Nat) (ls:List Lk) (d:List Sc) (c:Sc) (h f j:Bool) (o:List AV) {nt:Nat} (u:68≤nt) (v:(ε ((δ (k:Int))*4) (kL d))=Tc c++o) (r:aQ (.tup [(Xz4 (dY e g (.str c.name)) (.agg [.str [],ω 0,ω 0,.nilS])),.bool (Xza (dY e g (.str c.name)))]) (.tup [.agg [.str n,ω u1,ω u2,.sl m z false],.bool j])) (w:ω (γ .i64 ((k:Int)+((1:Nat):Int)))=ω ((k+1:Nat):Int)) (i:(Xzx e (Rk 9))=true) (t:lit true (!j)=true) (q:(decide (((0:Nat):Int)≤(k:Int)))=true) (p:(decide ((k:Int)<(d.length:Int)))=true) (y:lit true (decide ((k:Int)<(d.length:Int)))=true):au prog ap [] nt (af 2 (ai f45)) ⟨[(1,.ptr 0 0 0),(2,.ptr 1 0 0),(3,.ptr 2 0 0),(45,.sl (kL d) d.length f),(46,ω (d.length:Int)),(47,ω (k:Int))],(JX ls d h f ks vs e g),.dead,[]⟩ (.normal) ⟨[(1,.ptr 0 0 0),(2,.ptr 1 0 0),(3,.ptr 2 0 0),(45,.sl (kL d) d.length f),(46,ω (d.length:Int)),(47,ω ((k+1:Nat):Int))],(JX ls d h f ks vs (yg e (.str c.name)) (qh e g (.str c.name) (.agg [.str c.name,ω c.u1,ω c.u2,.sl c.bx c.bn false]))),.dead,[]⟩:=pN 45 [] 2 3 (.k 1 i (.k 6 t (.k 2 i (.k 7 q (.c p (.c y .nil)))))) (.v 66 (.eq w) (.v 56 r (.v 49 (.ppt v) .nil))) u
theorem ajE (m:List UInt8) (u1 u2:Int) (ks vs e g j:List AV) (z k:Nat) (ls:List Lk) (d:List Sc) (c:Sc) (h f i:Bool) (n:List AV) {nt:Nat} (u:68≤nt) (v:(ε ((δ (k:Int))*4) (kL d))=Tc c++n) (r:aQ (.tup [(Xz4 (dY e g (.str c.name)) (.agg [.str [],ω 0,ω 0,.nilS])),.bool (Xza (dY e g (.str c.name)))]) (.tup [.agg [.str m,ω u1,ω u2,.sl j z false],.bool i])) (w:ω (γ .i64 ((k:Int)+((1:Nat):Int)))=ω ((k+1:Nat):Int)) (p:lit false (!i)=true) (t:(Xzx e (Rk 9))=true) (q:(decide (((0:Nat):Int)≤(k:Int)))=true) (o:(decide ((k:Int)<(d.length:Int)))=true) (y:lit true (decide ((k:Int)<(d.length:Int)))=true):au prog ap [] nt (af 2 (ai f45)) ⟨[(1,.ptr 0 0 0),(2,.ptr 1 0 0),(3,.ptr 2 0 0),(45,.sl (kL d) d.length f),(46,ω (d.length:Int)),(47,ω (k:Int))],(JX ls d h f ks vs e g),.dead,[]⟩ (.normal) ⟨[(1,.ptr 0 0 0),(2,.ptr 1 0 0),(3,.ptr 2 0 0),(45,.sl (kL d) d.length f),(46,ω (d.length:Int)),(47,ω ((k+1:Nat):Int))],(JX ls d h f ks vs e g),.dead,[]⟩:=pN 45 [] 2 1 (.c p (.k 2 t (.k 7 q (.c o (.c y .nil))))) (.v 66 (.eq w) (.v 56 r (.v 49 (.ppt v) .nil))) u
theorem ajF (ks vs e f:List AV) (k:Nat) (ls:List Lk) (c:List Sc) (g d:Bool) {nt:Nat} (i:68≤nt) (h:lit false (decide ((k:Int)<(c.length:Int)))=true):au prog ap [] nt (af 2 (ai f45)) ⟨[(1,.ptr 0 0 0),(2,.ptr 1 0 0),(3,.ptr 2 0 0),(45,.sl (kL c) c.length d),(46,ω (c.length:Int)),(47,ω (k:Int))],(JX ls c g d ks vs e f),.dead,[]⟩ (.exit 2) ⟨[(1,.ptr 0 0 0),(2,.ptr 1 0 0),(3,.ptr 2 0 0)],(JX ls c g d ks vs e f),.dead,[]⟩:=pN 45 [] 1 0 (.c h .nil) (.nil) i
theorem afp (ks vs f g:List AV) (ls:List Lk) (c:List Sc) (d e:Bool) (i:aN prog ap [] 68 (.block 0 (.loop (af 0 (ai f45)))) ⟨[(0,.agg [.sl (jX ls) ls.length d,.sl (kL c) c.length e]),(1,.ptr 0 0 0),(2,.ptr 1 0 0),(3,.ptr 2 0 0),(5,.dead),(6,.dead),(8,.dead),(10,.dead),(12,.dead),(17,.sl (jX ls) ls.length d),(18,ω (ls.length:Int)),(19,ω 0),(20,.dead),(36,.dead),(45,.dead),(46,.dead),(47,.dead),(48,.dead),(60,.dead)],(JX ls c d e [] [] [] []),.dead,[]⟩ (.normal) ⟨[(1,.ptr 0 0 0),(2,.ptr 1 0 0),(3,.ptr 2 0 0)],(JX ls c d e ks vs [] []),.dead,[]⟩) (h:aN prog ap [] 68 (.block 2 (.loop (af 2 (ai f45)))) ⟨[(0,.dead),(1,.ptr 0 0 0),(2,.ptr 1 0 0),(3,.ptr 2 0 0),(5,.dead),(6,.dead),(8,.dead),(10,.dead),(12,.dead),(17,.dead),(18,.dead),(19,.dead),(20,.dead),(36,.dead),(45,.sl (kL c) c.length e),(46,ω (c.length:Int)),(47,ω 0),(48,.dead),(60,.dead)],(JX ls c d e ks vs [] []),.dead,[]⟩ (.normal) ⟨[(1,.ptr 0 0 0),(2,.ptr 1 0 0),(3,.ptr 2 0 0)],(JX ls c d e ks vs f g),.dead,[]⟩):CO 45 [.agg [.sl (jX ls) ls.length d,.sl (kL c) c.length e]] (.ret (.agg [.mp ks vs,.mp f g])):=pK [0,2] 0 0 (.n 8 .nil) (.l h (.l i .nil))
theorem aff (o:Oq) (d nn:Bool) (h e c:List UInt8) (op:Int) (ks vs f g:List AV) (i:lit true (decide (op≤((4:Nat):Int)))=true) (j:CO 75 [.agg [.mp ks vs,.mp f g],.agg [ω op,.bool d,.str h,.str e,.str c],.sl [] 0 nn] (.ret (gz o))):CO 46 [.agg [.mp ks vs,.mp f g],.agg [ω op,.bool d,.str h,.str e,.str c],.sl [] 0 nn] (.ret (gz o)):=pK [] 2 1 (.k 13 i (.n 3 .nil)) (.c j .nil)
theorem afg (o:Oq) (d nn:Bool) (h e c:List UInt8) (op:Int) (ks vs f g:List AV) (i:lit true (decide (op≤((8:Nat):Int)))=true) (k:lit false (decide (op≤((4:Nat):Int)))=true) (j:CO 76 [.agg [.mp ks vs,.mp f g],.agg [ω op,.bool d,.str h,.str e,.str c],.sl [] 0 nn] (.ret (gz o))):CO 46 [.agg [.mp ks vs,.mp f g],.agg [ω op,.bool d,.str h,.str e,.str c],.sl [] 0 nn] (.ret (gz o)):=pK [] 3 2 (.k 13 i (.k 1 k (.n 3 .nil))) (.c j .nil)
theorem afh (c:Oq) (e nn:Bool) (m f d:List UInt8) (op:Int) (ks vs i j:List AV) (h:lit true (!(c.e==((0:Nat):Int)))=true) (n:lit false (op==((15:Nat):Int))=true) (k:lit false (decide (op≤((8:Nat):Int)))=true) (g:lit false (decide (op≤((4:Nat):Int)))=true):CO 46 [.agg [.mp ks vs,.mp i j],.agg [ω op,.bool e,.str m,.str f,.str d],.sl [.bool c.n,.str c.a,.str c.d,ω c.e] 1 nn] (.ret (gz c)):=pK [] 6 56 (.k 9 h (.k 12 n (.k 1 k (.k 1 g (.n 3 .nil))))) (.nil)
theorem afi (c o:Oq) (e nn:Bool) (i f d:List UInt8) (op:Int) (ks vs g h:List AV) (k:lit false (!(c.e==((0:Nat):Int)))=true) (p:lit false (op==((15:Nat):Int))=true) (m:lit false (decide (op≤((8:Nat):Int)))=true) (j:lit false (decide (op≤((4:Nat):Int)))=true) (n:CO 78 [.agg [.mp ks vs,.mp g h],.agg [ω op,.bool e,.str i,.str f,.str d],.sl [.bool c.n,.str c.a,.str c.d,ω c.e] 1 nn] (.ret (gz o))):CO 46 [.agg [.mp ks vs,.mp g h],.agg [ω op,.bool e,.str i,.str f,.str d],.sl [.bool c.n,.str c.a,.str c.d,ω c.e] 1 nn] (.ret (gz o)):=pK [] 7 24 (.k 11 k (.k 12 p (.k 1 m (.k 1 j (.n 3 .nil))))) (.c n .nil)
theorem afj (c e:Oq) (f nn:Bool) (n g d:List UInt8) (op:Int) (ks vs j k:List AV) (i:lit true (!(c.e==((0:Nat):Int)))=true) (o:lit false (op==((15:Nat):Int))=true) (m:lit false (decide (op≤((8:Nat):Int)))=true) (h:lit false (decide (op≤((4:Nat):Int)))=true):CO 46 [.agg [.mp ks vs,.mp j k],.agg [ω op,.bool f,.str n,.str g,.str d],.sl [.bool c.n,.str c.a,.str c.d,ω c.e,.bool e.n,.str e.a,.str e.d,ω e.e] 2 nn] (.ret (gz c)):=pK [] 6 48 (.k 9 i (.k 10 o (.k 1 m (.k 1 h (.n 3 .nil))))) (.nil)
theorem afk (d c:Oq) (f nn:Bool) (o g e:List UInt8) (op:Int) (ks vs j k:List AV) (i:lit true (!(c.e==((0:Nat):Int)))=true) (p:lit false (!(d.e==((0:Nat):Int)))=true) (m:lit false (op==((15:Nat):Int))=true) (h:lit false (decide (op≤((8:Nat):Int)))=true) (n:lit false (decide (op≤((4:Nat):Int)))=true):CO 46 [.agg [.mp ks vs,.mp j k],.agg [ω op,.bool f,.str o,.str g,.str e],.sl [.bool d.n,.str d.a,.str d.d,ω d.e,.bool c.n,.str c.a,.str c.d,ω c.e] 2 nn] (.ret (gz c)):=pK [] 8 208 (.k 9 i (.k 9 p (.k 10 m (.k 1 h (.k 1 n (.n 3 .nil)))))) (.nil)
theorem afl (c d o:Oq) (h nn:Bool) (j f e:List UInt8) (op:Int) (ks vs g i:List AV) (n:lit false (!(d.e==((0:Nat):Int)))=true) (q:lit false (!(c.e==((0:Nat):Int)))=true) (p:lit false (op==((15:Nat):Int))=true) (m:lit false (decide (op≤((8:Nat):Int)))=true) (r:lit false (decide (op≤((4:Nat):Int)))=true) (k:CO 74 [.agg [.mp ks vs,.mp g i],.agg [ω op,.bool h,.str j,.str f,.str e],.sl [.bool c.n,.str c.a,.str c.d,ω c.e,.bool d.n,.str d.a,.str d.d,ω d.e] 2 nn] (.ret (gz o))):CO 46 [.agg [.mp ks vs,.mp g i],.agg [ω op,.bool h,.str j,.str f,.str e],.sl [.bool c.n,.str c.a,.str c.d,ω c.e,.bool d.n,.str d.a,.str d.d,ω d.e] 2 nn] (.ret (gz o)):=pK [] 9 80 (.k 11 n (.k 9 q (.k 10 p (.k 1 m (.k 1 r (.n 3 .nil)))))) (.c k .nil)
theorem afm (d f c o:Oq) (g nn:Bool) (k h e:List UInt8) (op:Int) (ks vs i j:List AV) (m:lit true (op==((15:Nat):Int))=true) (q:lit false (decide (op≤((8:Nat):Int)))=true) (n:lit false (decide (op≤((4:Nat):Int)))=true) (p:CO 77 [.agg [.mp ks vs,.mp i j],.agg [ω op,.bool g,.str k,.str h,.str e],.sl [.bool d.n,.str d.a,.str d.d,ω d.e,.bool f.n,.str f.a,.str f.d,ω f.e,.bool c.n,.str c.a,.str c.d,ω c.e] 3 nn] (.ret (gz o))):CO 46 [.agg [.mp ks vs,.mp i j],.agg [ω op,.bool g,.str k,.str h,.str e],.sl [.bool d.n,.str d.a,.str d.d,ω d.e,.bool f.n,.str f.a,.str f.d,ω f.e,.bool c.n,.str c.a,.str c.d,ω c.e] 3 nn] (.ret (gz o)):=pK [] 3 4 (.k 12 m (.k 1 q (.k 1 n (.n 3 .nil)))) (.c p .nil)
def He (m:List AV × List AV) (k v:AV):List AV × List AV:=if (dY m.1 m.2 k).isSome then m else (yg m.1 k,qh m.1 m.2 k v)
theorem EO (k v q:AV):∀ (ks vs:List AV),ks.length=vs.length→dY (ks++ [k]) (vs++ [v]) q=(dY ks vs q).or (if xQ q k then some v else none)
 | [],[],_=>by simp [dY];cases xQ q k<;>rfl
 |a::ks,b::vs,h=>by
  simp only [List.cons_append,dY];cases xQ q a with
  |true=>rfl
  |false=>exact EO k v q ks vs (by simpa using h)
 | [],_::_,h=>by simp at h
 |_::_,[],h=>by simp at h
theorem Iq (q v:AV):∀ (ks vs:List AV),ks.length=vs.length→dY ks vs q=none→ks.any (xQ q)=false∧qh ks vs q v=vs++ [v]
 | [],[],_,_=> ⟨rfl,rfl⟩
 | a::ks,b::vs,h,hf=>by
  simp only [dY] at hf;cases c:xQ q a with
  |true=>rw [c] at hf;cases hf
  |false=>
   rw [c] at hf;obtain ⟨e,d⟩:=Iq q v ks vs (by simpa using h) hf;exact ⟨by simp [c,e],by simp [qh,c,d]⟩
 | [],_::_,h,_=>by simp at h
 |_::_,[],h,_=>by simp at h
structure TZ {α:Type} (kf vf:α→AV) (p:List α) (m:List AV × List AV):Prop where
 len:m.1.length=m.2.length
 find:∀ y,dY m.1 m.2 (kf y)=(p.find? fun x=>xQ (kf y) (kf x)).map vf
 keys:∀ k ∈ m.1,∃ x,k=kf x
theorem TZ.step {α:Type} {c vf:α→AV} (j:∀ x y,xQ (c x) (c y)=true→c x=c y) {p:List α} {m:List AV × List AV} (h:TZ c vf p m) (x:α):TZ c vf (p++ [x]) (He m (c x) (vf x)):=by
 unfold He;cases hs:dY m.1 m.2 (c x) with
 | some v=>
  rw [if_pos (by rfl)];refine ⟨h.len,fun y=> ?_,h.keys⟩;rw [h.find y,Xk4];cases hp:p.find? (fun x=>xQ (c y) (c x)) with
  |some z=>rfl
  | none=>
   have g:=h.find x;rw [hs] at g;cases f:xQ (c y) (c x) with
   |false=>simp [f]
   |true=>
    rw [← j y x f,hp] at g;cases g
 | none=>
  obtain ⟨n,i⟩:=Iq (c x) (vf x) m.1 m.2 h.len hs;have e:yg m.1 (c x)=m.1++ [c x]:=by unfold yg;rw [n]
  rw [if_neg (by simp),e,i];refine ⟨by simp [h.len],fun y=> ?_,fun k d=> ?_⟩
  ·rw [EO _ _ _ _ _ h.len,h.find y,Xk4];cases hp:p.find? (fun x=>xQ (c y) (c x)) with
   |some z=>rfl
   |none=>cases f:xQ (c y) (c x)<;>simp [f]
  ·rcases List.mem_append.1 d with d|d
   ·exact h.keys k d
   ·rw [Xjp] at d;exact ⟨x,d⟩
def Ht {α:Type} (kf vf:α→AV) (p:List α):List AV × List AV:=p.foldl (fun m x=>He m (kf x) (vf x)) ([],[])
theorem Bf {α:Type} (c vf:α→AV) (p:List α) (x:α):Ht c vf (p++ [x])=He (Ht c vf p) (c x) (vf x):=by unfold Ht;rw [List.foldl_append];rfl
theorem Fv {α:Type} {c vf:α→AV} (d:∀ x y,xQ (c x) (c y)=true→c x=c y) (l:List α):TZ c vf l (Ht c vf l):=by
 have key:∀ (r p:List α),TZ c vf p (Ht c vf p)→TZ c vf (p++r) (Ht c vf (p++r)):=by
  intro r
  induction r with
  |nil=>intro p h;simpa using h
  |cons x r ih=>
   intro p h;have e:=h.step d x;rw [← Bf] at e;have:=ih (p++ [x]) e;simpa using this
 exact key l [] ⟨rfl,fun y=>rfl,fun k d=>by simp [Ht] at d⟩
def VY (x:Lk):AV:= .agg [ω x.op,.str x.nm]
def VZ (x:Lk):Oq:=vZ x.n x.a x.d x.e
def A8 (ls:List Lk):List AV × List AV:=Ht VY (fun x=>gz (VZ x)) ls
theorem Rt (x y:Lk) (h:xQ (VY x) (VY y)=true):VY x=VY y:=by
 simp only [VY,xQ,Jt,EM,Xw7,ο,beq_iff_eq] at h;unfold VY;rw [h.1,h.2]
def Y6 (c:Sc):AV:= .str c.name
def DZ (cs:List Sc):List AV × List AV:=Ht Y6 (fun c=> .agg (Tc c)) cs
theorem Td (x y:Sc) (h:xQ (Y6 x) (Y6 y)=true):Y6 x=Y6 y:=by
 simp only [Y6,xQ,beq_iff_eq] at h;unfold Y6;rw [h]
def Po (ls:List Lk) (op:Int) (nm:List UInt8):Option Oq:=(ls.find? fun y=>(op==y.op) && (nm==y.nm)).map VZ
def scO (cs:List Sc) (nm:List UInt8):Option Sc:=cs.find? fun c=>nm==c.name
theorem MH (ls:List Lk) (op:Int) (c:List UInt8):dY (A8 ls).1 (A8 ls).2 (.agg [ω op,.str c])=(Po ls op c).map (fun o=>gz o):=by
 have h:=(Fv (vf:=fun x=>gz (VZ x)) Rt ls).find ⟨op,c,false,[],[],0⟩;unfold A8 Po;rw [Option.map_map];refine h.trans ?_;congr 1;congr 1;funext y;simp [VY,xQ,Jt,EM]
theorem Nz (d:List Sc) (e:List UInt8):dY (DZ d).1 (DZ d).2 (.str e)=(scO d e).map (fun c=> .agg (Tc c)):=by
 have h:=(Fv (vf:=fun c=>AV.agg (Tc c)) Td d).find ⟨e,0,0,[],0⟩;exact h
theorem adM {α:Type} {c vf:α→AV} (e:∀ x y,xQ (c x) (c y)=true→c x=c y) (t:Nat) (f:∀ x,Rk t (c x)=true) (l:List α):Xzx (Ht c vf l).1 (Rk t)=true:=by
 rw [Xjz];intro k d;obtain ⟨x,rfl⟩:=(Fv (vf:=vf) e l).keys k d;exact f x
theorem af0 (x:Lk):Rk 134 (VY x)=true:=by kernel_rfl
theorem af1 (c:Sc):Rk 9 (Y6 c)=true:=by kernel_rfl
theorem DT (ls:List Lk):Xzx (A8 ls).1 (Rk 134)=true:=adM Rt 134 af0 ls
theorem D5 (c:List Sc):Xzx (DZ c).1 (Rk 9)=true:=adM Td 9 af1 c
def zO:Oq:= .val ⟨false,0,0⟩
theorem apj:gz zO= .agg [.bool false,.str [],.str [],ω 0]:=by
 show AV.agg [.bool false,.str (ae 0),.str (ae 0),ω 0]=_;rw [eF]
theorem ad4 (ls:List Lk) (op:Int) (c:List UInt8):Yqq [(Xz4 (dY (A8 ls).1 (A8 ls).2 (.agg [ω op,.str c])) (.agg [.bool false,.str [],.str [],ω 0])),.bool (Xza (dY (A8 ls).1 (A8 ls).2 (.agg [ω op,.str c])))]=Yqq [gz ((Po ls op c).getD zO),.bool (Po ls op c).isSome]:=by
 rw [MH];cases Po ls op c with
 |none=>simp only [Option.map_none,Option.getD_none,Option.isSome_none];rw [apj]
 |some x=>rfl
theorem X7 {l:List Lk} {k:Nat} (h:k<l.length):ε (δ (k:Int)*6) (jX l)=lkC l[k]++jX (l.drop (k+1)):=by
 rw [aK];exact wI lkC 6 (fun _=>rfl) h
theorem aQ.tupL {l r:List AV} (h:bD l r):aQ (.tup l) (.tup r):=by
 intro g m S v c;simp only [VR] at c ⊢;obtain ⟨vs,e,c⟩:=c;exact ⟨vs,e,h g m S vs c⟩
theorem aQ.zsc:aQ (.tup [.agg [.str [],ω 0,ω 0,.nilS],.bool false]) (.tup [.agg [.str [],ω 0,ω 0,.sl [] 0 false],.bool false]):=
 aQ.tupL (bD.cons (aQ.agg (bD.cons (aQ.refl _) (bD.cons (aQ.refl _) (bD.cons (aQ.refl _) (bD.cons (aQ.nilS false rfl) (bD.refl _)))))) (bD.refl _))
abbrev aoo (ls:List Lk) (cs:List Sc) (nl ns:Bool) (p:Nat × (List AV × List AV)):St:=⟨[(1,.ptr 0 0 0),(2,.ptr 1 0 0),(3,.ptr 2 0 0),(17,.sl (jX ls) ls.length nl),(18,ω (ls.length:Int)),(19,ω (p.1:Int))],JX ls cs nl ns p.2.1 p.2.2 [] [],.dead,[]⟩
abbrev opO (ls:List Lk) (cs:List Sc) (nl ns:Bool) (a b:List AV × List AV):St:=⟨[(1,.ptr 0 0 0),(2,.ptr 1 0 0),(3,.ptr 2 0 0)],JX ls cs nl ns a.1 a.2 b.1 b.2,.dead,[]⟩
abbrev aop (ls:List Lk) (cs:List Sc) (nl ns:Bool) (a:List AV × List AV) (p:Nat × (List AV × List AV)):St:=⟨[(1,.ptr 0 0 0),(2,.ptr 1 0 0),(3,.ptr 2 0 0),(45,.sl (kL cs) cs.length ns),(46,ω (cs.length:Int)),(47,ω (p.1:Int))],JX ls cs nl ns a.1 a.2 p.2.1 p.2.2,.dead,[]⟩
theorem Wi {m:List AV × List AV} {k v:AV} (h:(dY m.1 m.2 k).isSome=true):He m k v=m:=by unfold He;rw [if_pos h]
theorem Wh {m:List AV × List AV} {k v:AV} (h:(dY m.1 m.2 k).isSome=false):He m k v=(yg m.1 k,qh m.1 m.2 k v):=by unfold He;rw [if_neg (by rw [h];simp)]
theorem acj {nt:Nat} (t:68≤nt) (ls:List Lk) (i:List Sc) (f g:Bool) (w:ls.length<2^60) (hs:∀ x ∈ ls,x.a.length<2^36∧x.d.length<2^36):∀ (r p:List Lk),ls=p++r→
  aC prog ap [] nt (af 0 (ai f45)) (fun _=> .exit 0) (aoo ls i f g) (fun q:List AV × List AV=>opO ls i f g q ([],[])) (p.length,A8 p) (A8 ls):=by
 intro r
 induction r with
 |nil=>
  intro p hp;rw [Γ] at hp;subst hp;exact .done (ajC _ _ _ ls i f g t (aF (Yq1 (by omega))))
 | cons x r ih=>
  intro p hp;have n:p.length<ls.length:=by rw [hp];simp
  have o:=X7 n;rw [show ls[p.length]=x by subst hp;simp] at o;have c:=ih (p++ [x]) (by rw [hp];simp);rw [η,φ] at c;have e:A8 (p++ [x])=He (A8 p) (VY x) (gz (VZ x)):=Bf _ _ p x;rw [e] at c;have m:=ad4 p x.op x.nm;have h:=congrArg Xza (MH p x.op x.nm);rw [Option.isSome_map] at h;have v:decide (((0:Nat):Int)≤(p.length:Int))=true:=Yq0 (by omega);have j:decide ((p.length:Int)<(ls.length:Int))=true:=Yq0 (by omega);have d:=hs x (by rw [hp];simp);cases u:(Po p x.op x.nm).isSome with
  |true=>
   rw [u] at m h;rw [Wi (k:=VY x) h] at c;exact .next (ajB _ _ p.length ls i x f g true _ _ t o m (xk (by omega)) rfl (DT p) v j (aA j)) c
  |false=>
   rw [u] at m h;rw [Wh (k:=VY x) h] at c;exact .next (ajA _ _ p.length ls i x f g false _ (VZ x) _ t o m (xk (by omega)) (DT p) rfl v j (aA j) (wR x.n x.a x.d x.e d.1 d.2)) c
theorem ack {nt:Nat} (o:68≤nt) (ls:List Lk) (d:List Sc) (h i:Bool) (a:List AV × List AV) (v:d.length<2^60):∀ (r p:List Sc),d=p++r→
  aC prog ap [] nt (af 2 (ai f45)) (fun _=> .exit 2) (aop ls d h i a) (fun q:List AV × List AV=>opO ls d h i a q) (p.length,DZ p) (DZ d):=by
 intro r
 induction r with
 |nil=>
  intro p hp;rw [Γ] at hp;subst hp;exact .done (ajF _ _ _ _ _ ls d h i o (aF (Yq1 (by omega))))
 | cons x r ih=>
  intro p hp;have m:p.length<d.length:=by rw [hp];simp
  have n:=Y7 m;rw [show d[p.length]=x by subst hp;simp] at n;have f:=ih (p++ [x]) (by rw [hp];simp);rw [η,φ] at f;have e:DZ (p++ [x])=He (DZ p) (Y6 x) (.agg (Tc x)):=Bf _ _ p x;rw [e] at f;have g:=Nz p x.name;have u:decide (((0:Nat):Int)≤(p.length:Int))=true:=Yq0 (by omega);have j:decide ((p.length:Int)<(d.length:Int))=true:=Yq0 (by omega);cases t:scO p x.name with
  |some c=>
   rw [t] at g;rw [Wi (k:=Y6 x) (show (dY (DZ p).1 (DZ p).2 (.str x.name)).isSome=true by rw [g];rfl)] at f;exact .next (ajE _ _ _ a.1 a.2 _ _ _ _ p.length ls d x h i true _ o n (by rw [g];exact aQ.refl _) (xk (by omega)) rfl (D5 p) u j (aA j)) f
  |none=>
   rw [t] at g;rw [Wh (k:=Y6 x) (show (dY (DZ p).1 (DZ p).2 (.str x.name)).isSome=false by rw [g];rfl)] at f;exact .next (ajD [] 0 0 a.1 a.2 _ _ [] 0 p.length ls d x h i false _ o n (by rw [g];exact aQ.zsc) (xk (by omega)) (D5 p) rfl u j (aA j)) f
theorem LJ (ls:List Lk) (c:List Sc) (d e:Bool) (h:ls.length<2^60) (g:c.length<2^60) (hs:∀ x ∈ ls,x.a.length<2^36∧x.d.length<2^36):CO 45 [.agg [.sl (jX ls) ls.length d,.sl (kL c) c.length e]] (.ret (.agg [.mp (A8 ls).1 (A8 ls).2,.mp (DZ c).1 (DZ c).2])):=
 afp _ _ _ _ ls c d e
  (aC.blk (id:=0) (e':= .normal) (s:=⟨_,_,_,_⟩) (s':=opO ls c d e (A8 ls) ([],[])) (fun nt f=>acj f ls c d e h hs ls [] rfl) (by simp) rfl (aP.of ⟨rfl,rfl,rfl,rfl,rfl,rfl,trivial⟩) (aP.refl _))
  (aC.blk (id:=2) (e':= .normal) (s:=⟨_,_,_,_⟩) (s':=opO ls c d e (A8 ls) (DZ c)) (fun nt f=>ack f ls c d e (A8 ls) g c [] rfl) (by simp) rfl (aP.of ⟨rfl,rfl,rfl,rfl,rfl,rfl,trivial⟩) (aP.refl _))
structure Sq where
 nm:List UInt8
 u1:Int
 u2:Int
 l:List Br
def Sq.c (q:Sq):Sc:=⟨q.nm,q.u1,q.u2,oq q.l,q.l.length⟩
theorem lh {c:List Nd} (h:c.all (fun x=>Xqc (x.num.length+1) 8589934592 && Xqc (x.den.length+1) 8589934592)=true):∀ x ∈ c,x.sm:=by
 intro x d;have:=List.all_eq_true.1 h x d;rw [ο] at this;exact ⟨Xz3 this.1,Xz3 this.2⟩
def Br.s28 (x:Br):Prop:=(x.fa.length<2^28∧x.fd.length<2^28)∧(x.ra.length<2^28∧x.rd.length<2^28)
theorem Br.s28.sm {x:Br} (h:x.s28):x.sm:=⟨⟨Xqz h.1.1 (by decide),Xqz h.1.2 (by decide)⟩,Xqz h.2.1 (by decide),Xqz h.2.2 (by decide)⟩
def nT (y x:Br):Int:=lS (vQ y.fn y.fa y.fd) (vQ x.fn x.fa x.fd)
def bOf (x:Br):RQ × RQ:=(vQ x.fn x.fa x.fd,vQ x.rn x.ra x.rd)
def atS (l:List Br) (x:RQ):Oq:=if KF nT l=0 then ZR (l.map bOf) x else .err (KF nT l)
theorem aau {l:List Br} (h:∀ x ∈ l,x.s28):H6 127 nT l:=fun i y x d c _ _=>
 Gm y.fn x.fn y.fa y.fd x.fa x.fd (h y (Xqt d)).1.1 (h y (Xqt d)).1.2 (h x (Xqt c)).1.1 (h x (Xqt c)).1.2
theorem C_ {n:Bool} {a d:List UInt8} (h:je n a d=true):vQ n a d=⟨n,ah a,ah d⟩:=by unfold vQ;rw [if_pos h]
theorem aeM {x:Br} (h:nJ x=true):QB (bOf x)=Ug x:=by
 simp only [nJ,ο] at h;unfold QB bOf Ug;simp only [C_ h.1,C_ h.2];rw [(lV h.1).1,(lV h.1).2,(lV h.2).1,(lV h.2).2]
theorem Wu:∀ {l:List Br},l.all nJ=true→yF (l.map bOf)=oq l
 | [],_=>rfl
 |x::l,h=>by
  simp only [Xj3,ο] at h;show QB (bOf x)++yF (l.map bOf)=Ug x++oq l;rw [aeM h.1,Wu h.2]
theorem KX:∀ (l:List Br) (y:Br),Hf nT y l=true→ku ((y::l).map bOf)
 | [],_,_=>True.intro
 | x::l,y,h=>by
  unfold Hf at h;cases hd:decide (((0:Nat):Int)≤nT y x) with
  |true=>rw [hd] at h;cases h
  |false=>
   rw [hd] at h;have c:nT y x<0:=by have:=of_decide_eq_false hd;omega
   exact ⟨(DI (ny _ _ _) (ny _ _ _)).1.1 c,KX l x h⟩
theorem adQ {l:List Br} (h:KF nT l=0):Z4 (l.map bOf)∧yF (l.map bOf)=oq l:=by
 unfold KF at h;cases f:decide (((8:Nat):Int)<(l.length:Int)) with
 |true=>rw [f] at h;cases h
 | false=>
  rw [f] at h;have j:l.length≤8:=by have:=of_decide_eq_false f;omega
  cases l with
  |nil=>cases h
  | cons x r=>
   rw [show ((((x::r).length:Nat):Int)==((0:Nat):Int))=false from beq_eq_false_iff_ne.2 (by simp only [ξ];omega),KZ] at h;cases d:(x::r).all nJ with
   |false=>rw [d] at h;cases h
   | true=>
    rw [d] at h;cases hs:(sN x.fn x.fa x.fd==((0:Nat):Int)) && Hf nT x r with
    |false=>rw [hs] at h;cases h
    | true=>
     rw [hs] at h;simp only [ο] at hs;cases e:(x::r).any Hl with
     |true=>rw [e] at h;cases h
     | false=>
      rw [Je] at e;have g:(x::r).all LX=true:=by simpa using e
      refine ⟨⟨by simpa using j,by simp,fun b c=> ?_,fun b c=> ?_,KX r x hs.2⟩,Wu d⟩
      ·obtain ⟨y,_,rfl⟩:=List.mem_map.1 c;exact ⟨ny _ _ _,ny _ _ _⟩
      ·obtain ⟨y,k,rfl⟩:=List.mem_map.1 c;have:=List.all_eq_true.1 g y k;simp only [LX,ο] at this;obtain ⟨m,o⟩:=vJ this.1;obtain ⟨n,i⟩:=vJ this.2;exact ⟨by show kJ (vQ _ _ _)=true;rw [C_ m];exact o,by show kJ (vQ _ _ _)=true;rw [C_ n];exact i⟩
theorem aeH {l:List (RQ × RQ)} {x:RQ} (d:Z4 l) (j:x.ok):(ZR l x).ok:=by
 unfold ZR;split
 ·have:=uC false;exact this
 ·refine qJ ?_;have i:=(yV x l).1;have h:=d.pos;have f:iW l x - 1<l.length:=by omega
  have c:iW l x - 1<(jr q0 l).length:=by rw [Gt l q0 d.pos];exact f
  have g:=Xxv f;have e:atR l x=jf (jr q0 l)[iW l x - 1] (nX l[iW l x - 1].2 (jD x l[iW l x - 1].1)):=by
   unfold atR;rw [κ,κ,π f,π c];rfl
  rw [e];exact jQ (NP d _ (Xxv c)).1 (ug (d.ok _ g).2 (qH j (d.ok _ g).1))
theorem aeG {l:List Br} {x:RQ} (c:x.ok):(atS l x).ok:=by
 unfold atS;split
 ·rename_i h;exact aeH (adQ h).1 c
 ·assumption
theorem aaR (d:List UInt8) (u1 u2:Int) {l:List Br} (hs:∀ x ∈ l,x.s28) (k:l.length<2^40) {x:RQ} (f:x.ok) (j:kJ x=true):
  CO 130 [.agg [.str d,ω u1,ω u2,.sl (oq l) l.length false],qA x] (.ret (.tup [.agg [.bool (atS l x).n,.str (atS l x).a,.str (atS l x).d],ω (atS l x).e])):=by
 have c:=PW d u1 u2 l nT k (fun x f=>(hs x f).sm) (aau hs);unfold atS;by_cases h:KF nT l=0
 ·rw [if_pos h];rw [h] at c;obtain ⟨m,e⟩:=adQ h;have g:=ae3 d u1 u2 m f j;simp only [KH,e,Xjm] at g;exact g c
 ·rw [if_neg h];have i:lit true (!(KF nT l==((0:Nat):Int)))=true:=by rw [show (KF nT l==((0:Nat):Int))=false from beq_eq_false_iff_ne.2 h];rfl
  exact ae6 x _ _ d u1 u2 _ i (ae2 x _ _ d u1 u2 _ i c)
structure fE where
 ls:List Lk
 qs:List Sq
def sqO (qs:List Sq) (nm:List UInt8):Option Sq:=qs.find? fun q=>nm==q.nm
theorem ac5 (qs:List Sq) (c:List UInt8):scO (qs.map Sq.c) c=(sqO qs c).map Sq.c:=by
 unfold scO sqO;rw [List.find?_map];rfl
abbrev ahf (E:fE):AV:= .agg [.mp (A8 E.ls).1 (A8 E.ls).2,.mp (DZ (E.qs.map Sq.c)).1 (DZ (E.qs.map Sq.c)).2]
def NH (qs:List Sq) (op:Int) (nm:List UInt8) (st:RQ) (a:Oq):Oq:=
 if op=20 then (if a.bit then BM (!a.one) else .err 13)
 else if op=24 then (match sqO qs nm with|none=> .err 12|some s=>atS s.l a.q)
 else if op=21 then og (DK a.q st) else if op=22 then og (upR a.q st) else og (nrR a.q st)
def eX (E:fE) (x:Nd) (l:List Oq):Oq:=
 if x.op≤4 then vZ x.neg x.num x.den 0 else if x.op≤8 then (Po E.ls x.op x.name).getD (.err 12)
 else match l with
 | [a]=>if a.e=0 then NH E.qs x.op x.name (vQ x.neg x.num x.den) a else a
 | [a,b]=>if a.e=0 then (if b.e=0 then FZ x.op a b else b) else a
 | [a,b,c]=>Ui a b c
 |_=> .err 11
def Zo (x:Nd):Prop:=21≤x.op→x.op≤23→fF x.neg x.num x.den=true∧0<sN x.neg x.num x.den
theorem PI {a s:RQ} (e:kJ a=true) (d:kJ s=true):nM 10000 (nrR a s)∧nM 10000 (upR a s)∧nM 10000 (DK a s):=by
 have c:=OO e d;have g:nM 51 s:=dn d;have f:=Gu c (g.mono (show 51≤208 by decide));refine ⟨?_, ?_,c.mono (by decide)⟩
 ·unfold nrR;split
  ·exact f.mono (by decide)
  ·exact c.mono (by decide)
 ·unfold upR;split
  ·exact nM.mono (L:=51) (dn e) (by decide)
  ·exact f.mono (by decide)
theorem KA {a s:RQ} (c:a.ok) (hs:s.ok):(upR a s).ok∧(nrR a s).ok:=by
 constructor
 ·unfold upR;split
  ·exact c
  ·exact jQ (xO hs) hs
 ·unfold nrR;split
  ·exact jQ (xO hs) hs
  ·exact xO hs
theorem OW (E:fE) (x:Nd) (nn:Bool) (a:Oq) (m:20≤x.op∧x.op≤24) (g:Zo x) (A:a.ok) (C:a.e=0) (u:∀ s ∈ E.qs,s.l.length<2^40∧∀ b ∈ s.l,b.s28):
  CO 78 [ahf E,.agg (qB x),.sl (Dt a) 1 nn] (.ret (gz (NH E.qs x.op x.name (vQ x.neg x.num x.den) a))):=by
 obtain ⟨q,rfl,f,c⟩:=GI A C;obtain ⟨op,p,v,n,i⟩:=x;unfold NH;simp only at m g ⊢;have step:21≤op→op≤23→∃ st:RQ,vQ p v n=st∧st.ok∧kJ st=true∧0<xh st∧v=ae st.n∧n=ae st.d∧p=st.neg:=by
  intro j k;obtain ⟨B,z⟩:=g j k;obtain ⟨d,w⟩:=vJ B;refine ⟨_,rfl,ny _ _ _,by rw [C_ d];exact w,by rw [← Ze];exact z, ?_, ?_, ?_⟩
  ·rw [C_ d];exact (lV d).1.symm
  ·rw [C_ d];exact (lV d).2.symm
  ·rw [C_ d]
 have lv:∀ {r:RQ},nM 10000 r→r.ok→CO 124 [qA r] (.ret (gz (og r))):=fun j k=>rV k (Xqk j.1 (by decide)) (Xqk j.2 (by decide))
 have y:op=20∨op=21∨op=22∨op=23∨op=24:=by omega
 rcases y with rfl|rfl|rfl|rfl|rfl
 ·rw [if_pos rfl];have t:=ou (.val q);generalize Oq.bit (.val q)=w2 at*
  generalize Oq.one (.val q)=w1 at*
  cases w2 with
  |false=>exact aa6 (.val q) _ _ _ _ _ _ _ _ _ _ _ rfl t (ja 13)
  |true=>exact aa7 (.val q) _ _ _ _ _ _ _ _ _ _ _ _ rfl t (lT _)
 ·obtain ⟨st,e,k1,k2,k3,rfl,rfl,rfl⟩:=step (by decide) (by decide);rw [e,if_neg (by decide),if_neg (by decide),if_pos rfl];exact aa8 (.val q) _ _ st _ _ _ _ _ _ (EJ f c k1 k2 k3) (lv (PI c k2).2.2 (xO k1))
 ·obtain ⟨st,e,k1,k2,k3,rfl,rfl,rfl⟩:=step (by decide) (by decide);rw [e,if_neg (by decide),if_neg (by decide),if_neg (by decide),if_pos rfl];exact aa9 (.val q) _ _ st _ _ _ _ _ _ (afG f c k1 k2 k3) (lv (PI c k2).2.1 (KA f k1).1)
 ·obtain ⟨st,e,k1,k2,k3,rfl,rfl,rfl⟩:=step (by decide) (by decide);rw [e,if_neg (by decide),if_neg (by decide),if_neg (by decide),if_neg (by decide)];exact aa_ (.val q) _ _ st _ _ _ _ _ _ (Xi f c k1 k2 k3) (lv (PI c k2).1 (KA f k1).2)
 ·rw [if_neg (by decide),if_pos rfl];have h:=Nz (E.qs.map Sq.c) i;rw [ac5] at h;cases hs:sqO E.qs i with
  |none=>
   rw [hs] at h;exact aba (.val q) _ _ false _ _ i [] 0 0 _ _ _ _ [] 0 (by rw [h];exact aQ.zsc) rfl (D5 _) (ja 12)
  |some s=>
   rw [hs] at h;have o:=List.mem_of_find?_eq_some hs;exact abb (.val q) _ _ _ true _ _ i s.nm s.u1 s.u2 _ _ _ _ (oq s.l) s.l.length (by rw [h];exact aQ.refl _) rfl (D5 _) (aaR s.nm s.u1 s.u2 (u s o).2 (u s o).1 f c)
def gJ (l:List Oq):List AV:=l.flatMap Dt
theorem LH (E:fE) (x:Nd) (nn:Bool) (l:List Oq) (z:1≤x.op) (n:x.op≤24) (q:Zo x) (k:l.length=dM x.op) (v:∀ o ∈ l,o.ok) (m:x.sm) (A:∀ s ∈ E.qs,s.l.length<2^40∧∀ b ∈ s.l,b.s28):
  CO 46 [ahf E,.agg (qB x),.sl (gJ l) l.length nn] (.ret (gz (eX E x l))):=by
 obtain ⟨op,f,g,e,d⟩:=x;unfold eX;simp only at z n q k ⊢;have i:∀ {p:Prop} [Decidable p],¬ p→lit false (decide p)=true:=fun h=>aF (Yq1 h)
 have zT:∀ o:Oq,o.e=0→lit false (!(o.e==((0:Nat):Int)))=true:=fun o h=>by rw [h];rfl
 have w:∀ o:Oq,¬ o.e=0→lit true (!(o.e==((0:Nat):Int)))=true:=fun o h=>by rw [show (o.e==((0:Nat):Int))=false from beq_eq_false_iff_ne.2 h];rfl
 by_cases h4:op≤4
 ·rw [if_pos h4];have:dM op=0:=by unfold dM;rw [if_neg (by omega),if_neg (by omega),if_neg (by omega)]
  rw [this,Xv1] at k;subst k;exact aff _ f nn g e d op _ _ _ _ (aA (Yq0 h4)) (afc f nn g e d op _ _ _ _ _ [] 0 (LQ f g e (Xqz m.1 (by decide)) (Xqz m.2 (by decide))))
 ·rw [if_neg h4];by_cases h8:op≤8
  ·rw [if_pos h8];have:dM op=0:=by unfold dM;rw [if_neg (by omega),if_neg (by omega),if_neg (by omega)]
   rw [this,Xv1] at k;subst k;refine afg _ f nn g e d op _ _ _ _ (aA (Yq0 h8)) (i h4) ?_;have t:=ad4 E.ls op d;cases r:Po E.ls op d with
   |none=>
    rw [r] at t;exact afd f nn false g e d op _ _ _ _ _ [] 0 t rfl (DT _) (ja 12)
   |some o=>
    rw [r] at t;exact afe f nn true g e d op o _ _ _ _ [] 0 t rfl (DT _)
  ·rw [if_neg h8];by_cases h15:op=15
   ·have:dM op=3:=by unfold dM;rw [if_pos h15]
    rw [this] at k
    match l,k with
    | [a,b,c],_=>
     exact afm a b c _ f nn g e d op _ _ _ _ (aA (by rw [h15];rfl)) (i h8) (i h4) (OT op f nn g e d _ _ _ _ a b c)
   ·have j:lit false (op==((15:Nat):Int))=true:=by rw [show (op==((15:Nat):Int))=false from beq_eq_false_iff_ne.2 h15];rfl
    by_cases h19:op≤19
    ·have:dM op=2:=by unfold dM;rw [if_neg (by omega),if_pos (by omega)]
     rw [this] at k
     match l,k with
     | [a,b],_=>
      have u:=v a (by simp);have y:=v b (by simp);simp only;by_cases za:a.e=0
      ·rw [if_pos za];by_cases zb:b.e=0
       ·rw [if_pos zb];exact afl a b _ f nn g e d op _ _ _ _ (zT b zb) (zT a za) j (i h8) (i h4) (Xl op f nn g e d _ _ _ _ a b (by omega) u za y zb)
       ·rw [if_neg zb];exact afk a b f nn g e d op _ _ _ _ (w b zb) (zT a za) j (i h8) (i h4)
      ·rw [if_neg za];exact afj a b f nn g e d op _ _ _ _ (w a za) j (i h8) (i h4)
    ·have:dM op=1:=by unfold dM;rw [if_neg (by omega),if_neg (by omega),if_pos (by omega)]
     rw [this] at k
     match l,k with
     | [a],_=>
      have u:=v a (by simp);simp only;by_cases za:a.e=0
      ·rw [if_pos za];exact afi a _ f nn g e d op _ _ _ _ (zT a za) j (i h8) (i h4) (OW E ⟨op,f,g,e,d⟩ nn a ⟨by show 20≤op;omega,n⟩ q u za A)
      ·rw [if_neg za];exact afh a f nn g e d op _ _ _ _ (w a za) j (i h8) (i h4)
theorem YI {op:Int} {a b:Oq} (f:a.ok) (e:b.ok) (i:a.e=0) (g:b.e=0):(FZ op a b).ok:=by
 obtain ⟨q,rfl,c,k⟩:=GI f i;obtain ⟨r,rfl,d,j⟩:=GI e g;unfold FZ
 repeat' split
 all_goals first|exact qJ (jQ c d)|exact qJ (qH c d)|exact qJ (ug c d)|exact (by decide:(13:Int) ≠ 0)|exact e|exact f|exact uC _|exact (by decide:(16:Int) ≠ 0)|(rename_i h;exact qJ (J6 c (Nat.pos_of_ne_zero h)))
theorem ac_ {qs:List Sq} {op:Int} {f:List UInt8} {st:RQ} {a:Oq} (ks:st.ok) (d:a.ok) (e:a.e=0):(NH qs op f st a).ok:=by
 obtain ⟨q,rfl,c,g⟩:=GI d e;unfold NH
 repeat' split
 all_goals first|exact uC _|exact (by decide:(13:Int) ≠ 0)|exact (by decide:(12:Int) ≠ 0)|exact aeG c|exact qJ (xO ks)|exact qJ (KA c ks).1|exact qJ (KA c ks).2
theorem aga {ls:List Lk} {op:Int} {c:List UInt8}:((Po ls op c).getD (.err 12)).ok:=by
 unfold Po;cases ls.find? _ with
 |none=>exact (by decide:(12:Int) ≠ 0)
 |some x=>exact D6 _ _ _ _
theorem zN {E:fE} {x:Nd} {l:List Oq} (d:∀ o ∈ l,o.ok):(eX E x l).ok:=by
 unfold eX;split
 ·exact D6 _ _ _ _
 ·split
  ·exact aga
  ·split
   ·rename_i a;split
    ·exact ac_ (ny _ _ _) (d a (by simp)) (by assumption)
    ·exact d a (by simp)
   ·rename_i a b;split
    ·split
     ·exact YI (d a (by simp)) (d b (by simp)) (by assumption) (by assumption)
     ·exact d b (by simp)
    ·exact d a (by simp)
   ·rename_i a b c;unfold Ui
    repeat' split
    all_goals first|exact (by decide:(13:Int) ≠ 0)|exact d _ (by simp)
   ·exact (by decide:(11:Int) ≠ 0)
structure Ty where
 tr:Bool
 m:Int
 d:Int
def fH (t:Ty):List AV:= [.bool t.tr,ω t.m,ω t.d]
def jv (m d:Int):Bool:=decide (-3≤m∧m≤3∧ -3≤d∧d≤3)
def aS (t:Ty):Bool:=cond t.tr ((t.m==0) && (t.d==0)) (jv t.m t.d)
def l_ (t:Ty) (neg:Bool) (n d:List UInt8):Bool:=aS t && (fF neg n d && (!t.tr||(qY neg n d 0||qY neg n d 1)))
theorem Kz (t:Ty):CO 114 [.agg [ω t.m,ω t.d]] (.ret (.bool (jv t.m t.d))):=by
 rcases tf (decide ((if t.d>t.m then t.d else t.m)≤((3:Nat):Int))) with b0|b0
 ·have e:jv t.m t.d=(decide ((-3:Int)≤(if t.d<t.m then t.d else t.m))):=by
   unfold jv;simp only [decide_eq_true_eq,decide_eq_false_iff_not,beq_iff_eq,Yq2] at*
   first|omega|(split at b0<;>omega)|(rw [Xx5];simp only [decide_eq_true_eq];first|omega|(split at b0<;>split<;>omega))
  rw [e];exact pK [] 1 1 (.k 2 (aA b0) (.n 2 .nil)) (.nil)
 ·have e:jv t.m t.d=false:=by
   unfold jv;simp only [decide_eq_true_eq,decide_eq_false_iff_not,beq_iff_eq,Yq2] at*
   first|omega|(split at b0<;>omega)|(rw [Xx5];simp only [decide_eq_true_eq];first|omega|(split at b0<;>split<;>omega))
  rw [e];exact pK [] 1 0 (.c (aF b0) (.n 2 .nil)) (.nil)
theorem Y4 (t:Ty):CO 219 [.agg [ω t.m,ω t.d]] (.ret (.bool (jv t.m t.d))):=by
 rcases tf (decide ((-3:Int)≤t.m)) with b0|b0
 ·rcases tf (decide (t.m≤((3:Nat):Int))) with b1|b1
  ·rcases tf (decide ((-3:Int)≤t.d)) with b2|b2
   ·have e:jv t.m t.d=(decide (t.d≤((3:Nat):Int))):=by
     unfold jv;simp only [decide_eq_true_eq,decide_eq_false_iff_not,beq_iff_eq,Yq2] at*
     first|omega|(split at b0<;>omega)|(rw [Xx5];simp only [decide_eq_true_eq];first|omega|(split at b0<;>split<;>omega))
    rw [e];exact pK [] 3 7 (.k 1 (aA b2) (.k 1 (aA b1) (.k 1 (aA b0) (.n 1 .nil)))) (.nil)
   ·have e:jv t.m t.d=false:=by
     unfold jv;simp only [decide_eq_true_eq,decide_eq_false_iff_not,beq_iff_eq,Yq2] at*
     first|omega|(split at b0<;>omega)|(rw [Xx5];simp only [decide_eq_true_eq];first|omega|(split at b0<;>split<;>omega))
    rw [e];exact pK [] 3 3 (.c (aF b2) (.k 1 (aA b1) (.k 1 (aA b0) (.n 1 .nil)))) (.nil)
  ·have e:jv t.m t.d=false:=by
    unfold jv;simp only [decide_eq_true_eq,decide_eq_false_iff_not,beq_iff_eq,Yq2] at*
    first|omega|(split at b0<;>omega)|(rw [Xx5];simp only [decide_eq_true_eq];first|omega|(split at b0<;>split<;>omega))
   rw [e];exact pK [] 3 1 (.k 1 (aF b1) (.k 1 (aA b0) (.n 1 .nil))) (.nil)
 ·have e:jv t.m t.d=false:=by
   unfold jv;simp only [decide_eq_true_eq,decide_eq_false_iff_not,beq_iff_eq,Yq2] at*
   first|omega|(split at b0<;>omega)|(rw [Xx5];simp only [decide_eq_true_eq];first|omega|(split at b0<;>split<;>omega))
  rw [e];exact pK [] 3 0 (.k 2 (aF b0) (.n 1 .nil)) (.nil)
theorem uy (t:Ty):CO 209 [.agg (fH t)] (.ret (.bool (aS t))):=by
 rcases tf ((t.tr==true) && ((t.m==((0:Nat):Int)) && ((t.d==((0:Nat):Int)) && true))) with b0|b0
 ·have e:aS t=true:=by first|(simp only [aS,b0]<;>rfl)|(unfold aS;cases c:t.tr<;>simp_all)
  rw [e];exact pK [] 1 1 (.c (aA b0) (.n 3 .nil)) (.nil)
 ·rcases tf t.tr with b1|b1
  ·have e:aS t=false:=by first|(simp only [aS,b0,b1]<;>rfl)|(unfold aS;cases c:t.tr<;>simp_all)
   rw [e];exact pK [] 2 0 (.c (aV b1) (.k 1 (aF b0) (.n 3 .nil))) (.nil)
  ·have e:aS t=(jv t.m t.d):=by first|(simp only [aS,b0,b1]<;>rfl)|(unfold aS;cases c:t.tr<;>simp_all)
   rw [e];exact pK [] 2 2 (.k 2 (di b1) (.k 1 (aF b0) (.n 3 .nil))) (.c (Y4 t) .nil)
structure Sg where
 op:Int
 name:List UInt8
 ty:Ty
def Zd (s:Sg):List AV:= [ω s.op,.str s.name,.bool s.ty.tr,ω s.ty.m,ω s.ty.d]
def dU (l:List Sg):List AV:=l.flatMap Zd
theorem NE (x:Sg) (r:List Sg):dU (x::r)=Zd x++dU r:=rfl
theorem ac6 (a b:List Sg):dU (a++b)=dU a++dU b:=by unfold dU;rw [Xxi]
theorem ac7 (l:List Sg):(dU l).length=l.length*5:=by
 induction l with
 |nil=>rfl
 |cons x r ih=>rw [NE,η,ih,ξ];simp [Zd];omega
theorem Tn {p r:List Sg} {x:Sg} {k:Nat} (h:k=p.length):ε (δ (k:Int)*5) (dU (p++x::r))=Zd x++dU r:=by
 subst h;rw [aK,ac6,NE,← ac7,Xj2]
def jL (s:Sg) (op:Int) (nm:List UInt8):Bool:=(s.op==op) && ((s.name==nm) && (dX op && (aS s.ty && (!(op==((24:Nat):Int))|| !s.ty.tr))))
def tZ (s:Sg) (op:Int) (nm:List UInt8):Bool:=(s.op==op) && ((s.name==nm) && (aS s.ty && (!(s.op==((24:Nat):Int))|| !s.ty.tr)))
def fC (l:List Sg) (op:Int) (nm:List UInt8):Option Ty:=(l.find? fun s=>jL s op nm).map (·.ty)
def Ir (l:List Sg) (op:Int) (nm:List UInt8):Option Ty:=(l.find? fun s=>tZ s op nm).map (·.ty)
def zT:Ty:=⟨false,0,0⟩
def IZ (hit:Sg→Bool) (_:Unit) (s:Sg):Unit ⊕ Option Ty:=if hit s then .inr (some s.ty) else .inl ()
theorem Ti (hit:Sg→Bool) (l:List Sg):goL (IZ hit) (fun _=>none) l ()=(l.find? hit).map (·.ty):=by
 induction l with
 |nil=>rfl
 |cons s r ih=>
  simp only [goL,IZ,List.find?_cons];cases h:hit s with
  |true=>simp
  |false=>simpa using ih
def fiE:Option Ty→bM
 |none=> .exit 0
 |some _=> .ret
def iL (l:List Int):List AV:=l.map fun a=> ω a
theorem abq {a:List Int} {i:Nat} (h:i<a.length):ε (δ (i:Int)*1) (iL a)= [ω (a.getD i 0)]++iL (a.drop (i+1)):=by
 unfold iL;rw [aK,Ξ,← Xju,Xxf h,κ,π h];rfl
abbrev dB (xs:List Int) (nn:Bool) (k:Nat):bg:=⟨[.sl (iL xs) xs.length nn,ω (k:Int)],0,false,0,0,true⟩
theorem TV {i:Nat} (h:i<2^62):ω (γ .i64 (((i+1:Nat):Int) - ((1:Nat):Int)))= ω (i:Int):=by rw [bH]<;>first|(congr 1;omega)|omega
theorem aok (xs:List Int) (nn:Bool) (k n:Nat) (c:lit true (decide ((xs.length:Int)≤(k:Int)))=true):aG prog ap 97 [.ptr 0 0 0,ω (n:Int)] [⟨[.sl (iL xs) xs.length nn,ω (k:Int)],0,false,0,0,true⟩] (.ret (ω 0)) [⟨[.sl (iL xs) xs.length nn,ω (k:Int)],0,false,0,0,true⟩]:=pK [] 1 1 (.c c (.n 2 .nil)) (.nil)
theorem aph {i:Nat} (h:i+1<2^63):ω (γ .i64 ((i:Int)+((1:Nat):Int)))= ω ((i+1:Nat):Int):=by rw [bH]<;>first|rfl|omega
theorem api {i:Nat} (h:i+1<2^63):ω (γ .i64 (((i+1:Nat):Int) - ((1:Nat):Int)))= ω (i:Int):=by rw [bH]<;>first|(congr 1;omega)|omega
theorem aol (xs:List Int) (nn:Bool) (k n r:Nat) (c:k+1<2^63) (d:ε ((δ (k:Int))*1) (iL xs)= [ω (xs.getD k 0)]++iL (xs.drop (k+1))) (e:(decide (((0:Nat):Int)≤(k:Int)))=true) (h:(decide ((k:Int)<(xs.length:Int)))=true) (f:lit false (decide ((xs.length:Int)≤(k:Int)))=true) (g:CO 65 [ω (xs.getD k 0),ω (n:Int)] (.ret (ω (r:Int)))):aG prog ap 97 [.ptr 0 0 0,ω (n:Int)] [⟨[.sl (iL xs) xs.length nn,ω (k:Int)],0,false,0,0,true⟩] (.ret (ω (r:Int))) [⟨[.sl (iL xs) xs.length nn,ω (((k+1):Nat):Int)],0,false,0,0,true⟩]:=pK [] 1 0 (.k 1 e (.c h (.k 4 f (.n 2 .nil)))) (.c g (.v 31 (.ppt d) (.v 30 (.eq (api c)) (.v 19 (.eq (aph c)) .nil))))
theorem dG (xs:List Int) (nn:Bool) (k n:Nat) (i:xs.length<2^63) (g:k≤xs.length) (d:0<n) (c:n<1000):∃ r k':Nat,r<n∧k'≤xs.length∧aG prog ap 97 [.ptr 0 0 0,ω (n:Int)] [dB xs nn k] (.ret (ω (r:Int))) [dB xs nn k']:=by
 by_cases h:k<xs.length
 ·obtain ⟨r,f,e⟩:=Yg (xs.getD k 0) n d c;exact ⟨r,k+1,f,h,aol xs nn k n r (by omega) (abq h) (Yq0 (by omega)) (Yq0 (by omega)) (by simp [lit];omega) e⟩
 ·exact ⟨0,k,d,g,aok xs nn k n (Yq0 (by omega))⟩
theorem akC (x y:Nat) (c:CO 134 [.str (ae x),ω 3] (.ret (.tup [ω (x:Int),.bool true]))) (e:CO 134 [.str (ae y),ω 4] (.ret (.tup [ω (y:Int),.bool true]))) (d:CO 79 [ω (γ .i64 ((x:Int)*(y:Int)))] (.ret (.str (ae (x*y))))):CO 100 [.str (ae x),.str (ae y)] (.ret (.str (ae (x*y)))):=pK [] 2 3 (.n 2 .nil) (.c d (.c e (.c c .nil)))
theorem iO {x:Nat} (h:x<16777216):(ae x).length≤7:=eu (by omega)
theorem akB (x y:Nat) (e:x<65536) (g:y<65536):CO 100 [.str (ae x),.str (ae y)] (.ret (.str (ae (x*y)))):=by
 have h:=iO (x:=x) (by omega);have j:=iO (x:=y) (by omega);have c:=iq (ae x) 3 (by omega) (by omega) (by rw [aH];omega);have d:=iq (ae y) 4 (by omega) (by omega) (by rw [aH];omega);rw [aH] at c d;have i:x*y<65536*65536:=Nat.mul_lt_mul'' e g;have f:=lX (x*y) (by omega);refine akC x y c d ?_;rw [← Int.natCast_mul,bH (by omega) (by omega)];exact f
theorem alk (c:Bool) (n k:Nat) (q:RQ) (d:lit false ((ae k)== [])=true) (e:CO 98 [Ω c (ae n) (ae 1)] (.ret (Ω c (ae n) (ae 1)))) (h:CO 98 [Ω false (ae k) (ae 1)] (.ret (Ω false (ae k) (ae 1)))) (g:CO 100 [.str (ae n),.str (ae 1)] (.ret (.str (ae (n*1))))) (i:CO 100 [.str (ae 1),.str (ae k)] (.ret (.str (ae (1*k))))) (f:CO 99 [.bool (!(c==false)),.str (ae (n*1)),.str (ae (1*k))] (.ret (.agg [.bool q.neg,.str (ae q.n),.str (ae q.d)]))):CO 60 [Ω c (ae n) (ae 1),Ω false (ae k) (ae 1)] (.ret (.tup [.agg [.bool q.neg,.str (ae q.n),.str (ae q.d)],.bool true])):=pK [] 1 0 (.k 10 d (.n 9 .nil)) (.c f (.c i (.c g (.c h (.c e .nil)))))
theorem DR {c:Bool} {n:Nat} (h:c=true→0<n):(⟨c,n,1⟩:RQ).ok:=⟨by simp,by simp,h⟩
theorem TS {c:Bool} {n d:Nat} (h:(⟨c,n,d⟩:RQ).ok):vQ c (ae n) (ae d)=⟨c,n,d⟩:=by
 unfold vQ;rw [if_pos (qP ⟨c,n,d⟩ h),aH,aH]
theorem ab4 {k:Nat} (h:0<k):ae k ≠ []:=by
 intro c;have:=aH k;rw [c] at this;simp [ah] at this;omega
theorem Nc (c:Bool) (n k:Nat) (d:c=true→0<n) (o:n<65536) (p:0<k) (f:k<65536):CO 60 [qA ⟨c,n,1⟩,qA ⟨false,k,1⟩] (.ret (.tup [qA (iK c n k),.bool true])):=by
 have q:=iO (x:=n) (by omega);have t:=iO (x:=k) (by omega);have r:=iO (x:=1) (by omega);have v1:=zW c (ae n) (ae 1) (by omega) (by omega);have g:=zW false (ae k) (ae 1) (by omega) (by omega);rw [TS (DR d)] at v1;rw [TS (DR (by simp))] at g;have j:=akB n 1 o (by omega);have m:=akB 1 k (by omega) f;have v:(ae (n*1)).length≤7:=iO (by omega);have u:(ae (1*k)).length≤7:=iO (by omega);have i:=zV c (n*1) (1*k) (by omega) (by omega) (by omega);rw [Ξ,Xzt] at i;have e:(!(c==false))=c:=by cases c<;>rfl
 have h:=alk c n k (iK c n k) (by rw [show (ae k== [])=false by simpa using ab4 p];rfl) v1 g j m;rw [e,Ξ,Xzt] at h;exact h i
theorem acT (x:Nat) (n:x<1000000):CO 48 [ω (-((x:Int)+1))] (.ret (Vk true (x+1) 1)):=by
 have c:x<9223372036854775808:=by omega
 have k:=lX x c;have f:=lX 1 (by omega);have o:(ae x).length≤7:=eu (by omega);have p:(ae 1).length≤7:=eu (by omega);have e:=iq (ae x) 7 (by omega) (by omega) (by rw [aH];omega);have g:=iq (ae 1) 7 (by omega) (by omega) (by rw [aH];omega);rw [aH] at e g;have i:=aha (ae x) (ae 1) x 1 (x+1);rw [adD (by omega)] at i;have d:=i e g (lX (x+1) (by omega));have h:=ak9 (-((x:Int)+1)) (x+1) x;have m:γ .i64 (-((x:Int)+1)+((1:Nat):Int))= -(x:Int):=by rw [bH]<;>omega
 have j:γ .i64 (0 - -(x:Int))=(x:Int):=by rw [bH]<;>omega
 rw [m,j] at h;exact h (by simp only [lit,Xqw];exact Yq1 (by omega)) k f d f
def nD (v:Int):RQ:=⟨decide (v<0),v.natAbs,1⟩
theorem kZ (v:Int) (h: -1000000≤v) (c:v≤1000000):CO 48 [ω v] (.ret (qA (nD v))):=by
 by_cases h0:0≤v
 ·obtain ⟨x,rfl⟩:∃ x:Nat,v=(x:Int):=⟨v.toNat,by omega⟩
  have:=Nb x (by omega);unfold nD;rw [Yq1 (by omega),Xzy];exact this
 ·obtain ⟨x,rfl⟩:∃ x:Nat,v= -((x:Int)+1):=⟨(-v - 1).toNat,by omega⟩
  have:=acT x (by omega);unfold nD;rw [Yq0 (by omega),show (-((x:Int)+1)).natAbs=x+1 by omega];exact this
theorem agy (xs:List Int) (nn:Bool) (k k1 k2 r:Nat) (ls:Int) (q w:RQ) (c:aG prog ap 97 [.ptr 0 0 0,ω 40] [⟨[.sl (iL xs) xs.length nn,ω (k:Int)],0,false,0,0,true⟩] (.ret (ω (r:Int))) [⟨[.sl (iL xs) xs.length nn,ω (k1:Int)],0,false,0,0,true⟩]) (d:CO 48 [ω (γ .i64 (ls+(r:Int)))] (.ret (.agg [.bool q.neg,.str (ae q.n),.str (ae q.d)]))) (f:aG prog ap 97 [.ptr 0 0 0,ω 4] [⟨[.sl (iL xs) xs.length nn,ω (k1:Int)],0,false,0,0,true⟩] (.ret (ω 0)) [⟨[.sl (iL xs) xs.length nn,ω (k2:Int)],0,false,0,0,true⟩]) (g:CO 48 [ω 1] (.ret (Ω false (ae 1) (ae 1)))) (e:CO 60 [.agg [.bool q.neg,.str (ae q.n),.str (ae q.d)],Ω false (ae 1) (ae 1)] (.ret (.tup [.agg [.bool w.neg,.str (ae w.n),.str (ae w.d)],.bool true]))):aG prog ap 147 [.ptr 0 0 0,ω ls] [⟨[.sl (iL xs) xs.length nn,ω (k:Int)],0,false,0,0,true⟩] (.ret (.agg [.bool w.neg,.str (ae w.n),.str (ae w.d)])) [⟨[.sl (iL xs) xs.length nn,ω (k2:Int)],0,false,0,0,true⟩]:=pK [] 0 0 (.n 11 .nil) (.c e (.c g (.c f (.c d (.c c .nil)))))
theorem agz (xs:List Int) (nn:Bool) (k k1 k2 r:Nat) (ls:Int) (q w:RQ) (c:aG prog ap 97 [.ptr 0 0 0,ω 40] [⟨[.sl (iL xs) xs.length nn,ω (k:Int)],0,false,0,0,true⟩] (.ret (ω (r:Int))) [⟨[.sl (iL xs) xs.length nn,ω (k1:Int)],0,false,0,0,true⟩]) (d:CO 48 [ω (γ .i64 (ls+(r:Int)))] (.ret (.agg [.bool q.neg,.str (ae q.n),.str (ae q.d)]))) (f:aG prog ap 97 [.ptr 0 0 0,ω 4] [⟨[.sl (iL xs) xs.length nn,ω (k1:Int)],0,false,0,0,true⟩] (.ret (ω 1)) [⟨[.sl (iL xs) xs.length nn,ω (k2:Int)],0,false,0,0,true⟩]) (g:CO 48 [ω 1] (.ret (Ω false (ae 1) (ae 1)))) (e:CO 60 [.agg [.bool q.neg,.str (ae q.n),.str (ae q.d)],Ω false (ae 1) (ae 1)] (.ret (.tup [.agg [.bool w.neg,.str (ae w.n),.str (ae w.d)],.bool true]))):aG prog ap 147 [.ptr 0 0 0,ω ls] [⟨[.sl (iL xs) xs.length nn,ω (k:Int)],0,false,0,0,true⟩] (.ret (.agg [.bool w.neg,.str (ae w.n),.str (ae w.d)])) [⟨[.sl (iL xs) xs.length nn,ω (k2:Int)],0,false,0,0,true⟩]:=pK [] 0 0 (.n 11 .nil) (.c e (.c g (.c f (.c d (.c c .nil)))))
theorem agA (xs:List Int) (nn:Bool) (k k1 k2 r:Nat) (ls:Int) (q w:RQ) (c:aG prog ap 97 [.ptr 0 0 0,ω 40] [⟨[.sl (iL xs) xs.length nn,ω (k:Int)],0,false,0,0,true⟩] (.ret (ω (r:Int))) [⟨[.sl (iL xs) xs.length nn,ω (k1:Int)],0,false,0,0,true⟩]) (d:CO 48 [ω (γ .i64 (ls+(r:Int)))] (.ret (.agg [.bool q.neg,.str (ae q.n),.str (ae q.d)]))) (f:aG prog ap 97 [.ptr 0 0 0,ω 4] [⟨[.sl (iL xs) xs.length nn,ω (k1:Int)],0,false,0,0,true⟩] (.ret (ω 2)) [⟨[.sl (iL xs) xs.length nn,ω (k2:Int)],0,false,0,0,true⟩]) (g:CO 48 [ω 2] (.ret (Ω false (ae 2) (ae 1)))) (e:CO 60 [.agg [.bool q.neg,.str (ae q.n),.str (ae q.d)],Ω false (ae 2) (ae 1)] (.ret (.tup [.agg [.bool w.neg,.str (ae w.n),.str (ae w.d)],.bool true]))):aG prog ap 147 [.ptr 0 0 0,ω ls] [⟨[.sl (iL xs) xs.length nn,ω (k:Int)],0,false,0,0,true⟩] (.ret (.agg [.bool w.neg,.str (ae w.n),.str (ae w.d)])) [⟨[.sl (iL xs) xs.length nn,ω (k2:Int)],0,false,0,0,true⟩]:=pK [] 0 0 (.n 11 .nil) (.c e (.c g (.c f (.c d (.c c .nil)))))
theorem agB (xs:List Int) (nn:Bool) (k k1 k2 r:Nat) (ls:Int) (q w:RQ) (c:aG prog ap 97 [.ptr 0 0 0,ω 40] [⟨[.sl (iL xs) xs.length nn,ω (k:Int)],0,false,0,0,true⟩] (.ret (ω (r:Int))) [⟨[.sl (iL xs) xs.length nn,ω (k1:Int)],0,false,0,0,true⟩]) (d:CO 48 [ω (γ .i64 (ls+(r:Int)))] (.ret (.agg [.bool q.neg,.str (ae q.n),.str (ae q.d)]))) (f:aG prog ap 97 [.ptr 0 0 0,ω 4] [⟨[.sl (iL xs) xs.length nn,ω (k1:Int)],0,false,0,0,true⟩] (.ret (ω 3)) [⟨[.sl (iL xs) xs.length nn,ω (k2:Int)],0,false,0,0,true⟩]) (g:CO 48 [ω 10] (.ret (Ω false (ae 10) (ae 1)))) (e:CO 60 [.agg [.bool q.neg,.str (ae q.n),.str (ae q.d)],Ω false (ae 10) (ae 1)] (.ret (.tup [.agg [.bool w.neg,.str (ae w.n),.str (ae w.d)],.bool true]))):aG prog ap 147 [.ptr 0 0 0,ω ls] [⟨[.sl (iL xs) xs.length nn,ω (k:Int)],0,false,0,0,true⟩] (.ret (.agg [.bool w.neg,.str (ae w.n),.str (ae w.d)])) [⟨[.sl (iL xs) xs.length nn,ω (k2:Int)],0,false,0,0,true⟩]:=pK [] 0 0 (.n 11 .nil) (.c e (.c g (.c f (.c d (.c c .nil)))))
theorem xY (c:Bool) (n d:Nat):(iK c n d).n≤n∧(iK c n d).d≤d:=⟨Xjw _ _,Xjw _ _⟩
theorem vU (xs:List Int) (nn:Bool) (k:Nat) (A:xs.length<2^63) (C:k≤xs.length) (ls:Int) (G: -8≤ls) (F:ls≤1):∃ (w:RQ) (k':Nat),k'≤xs.length∧w.ok∧w.n<64∧w.d<64∧(ls=1→w.neg=false∧0<w.n)∧aG prog ap 147 [.ptr 0 0 0,ω ls] [dB xs nn k] (.ret (qA w)) [dB xs nn k']:=by
 obtain ⟨r,k1,I,y,o⟩:=dG xs nn k 40 A C (by omega) (by omega);obtain ⟨s,k2,hs,e,p⟩:=dG xs nn k1 4 A y (by omega) (by omega);have n:γ .i64 (ls+(r:Int))=ls+(r:Int):=bH (by omega) (by omega);have m:=kZ (ls+(r:Int)) (by omega) (by omega);rw [← n] at m;have c:(nD (ls+(r:Int))).neg=true→0<(nD (ls+(r:Int))).n:=by
  intro h;simp only [nD,decide_eq_true_eq] at h ⊢;omega
 have v:(nD (ls+(r:Int))).d=1:=rfl;have H:(nD (ls+(r:Int))).n<64:=by simp only [nD];omega
 have hp:ls=1→(nD (ls+(r:Int))).neg=false∧0<(nD (ls+(r:Int))).n:=by
  intro h;simp only [nD,decide_eq_false_iff_not];omega
 rw [n] at m;generalize nD (ls+(r:Int))=q at*
 have t:∀ d,0<d→d<64→(iK q.neg q.n d).ok∧(iK q.neg q.n d).n<64∧(iK q.neg q.n d).d<64∧(ls=1→(iK q.neg q.n d).neg=false∧0<(iK q.neg q.n d).n):=by
  intro d hd B;have E:=xY q.neg q.n d;refine ⟨nV hd,by omega,by omega,fun h=> ?_⟩;obtain ⟨D,z⟩:=hp h;refine ⟨by simp [iK,D], ?_⟩;exact Nat.div_pos (Nat.gcd_le_left _ z) (Nat.gcd_pos_of_pos_left _ z)
 have u:qA q=qA ⟨q.neg,q.n,1⟩:=by unfold qA;rw [v]
 have this:s=0∨s=1∨s=2∨s=3:=by omega
 rcases this with rfl|rfl|rfl|rfl
 ·obtain ⟨i,f,j,g⟩:=t 1 (by omega) (by omega);exact ⟨_,k2,e,i,f,j,g,agy xs nn k k1 k2 r ls q _ o (by rw [n];exact m) p (kZ 1 (by decide) (by decide)) (by have h:=Nc q.neg q.n 1 c (by omega) (by omega) (by omega);rw [← u] at h;exact h)⟩
 ·obtain ⟨i,f,j,g⟩:=t 1 (by omega) (by omega);exact ⟨_,k2,e,i,f,j,g,agz xs nn k k1 k2 r ls q _ o (by rw [n];exact m) p (kZ 1 (by decide) (by decide)) (by have h:=Nc q.neg q.n 1 c (by omega) (by omega) (by omega);rw [← u] at h;exact h)⟩
 ·obtain ⟨i,f,j,g⟩:=t 2 (by omega) (by omega);exact ⟨_,k2,e,i,f,j,g,agA xs nn k k1 k2 r ls q _ o (by rw [n];exact m) p (kZ 2 (by decide) (by decide)) (by have h:=Nc q.neg q.n 2 c (by omega) (by omega) (by omega);rw [← u] at h;exact h)⟩
 ·obtain ⟨i,f,j,g⟩:=t 10 (by omega) (by omega);exact ⟨_,k2,e,i,f,j,g,agB xs nn k k1 k2 r ls q _ o (by rw [n];exact m) p (kZ 10 (by decide) (by decide)) (by have h:=Nc q.neg q.n 10 c (by omega) (by omega) (by omega);rw [← u] at h;exact h)⟩
def tL (l:List (Int × Int × Int)):List AV:=l.flatMap fun q=> [ω q.1,ω q.2.1,ω q.2.2]
theorem amu {l:List (Int × Int × Int)} {k:Nat} (h:k<l.length):ε (δ (k:Int)*3) (tL l)= [ω l[k].1,ω l[k].2.1,ω l[k].2.2]++tL (l.drop (k+1)):=by
 rw [aK];exact wI (fun q:Int × Int × Int=> [ω q.1,ω q.2.1,ω q.2.2]) 3 (fun _=>rfl) h
def MM (a:Int) (n:Nat):Nat:=(a % (n:Int)).toNat
theorem DV {a:Int} {n:Nat} (h:0<n):MM a n<n:=by
 unfold MM;have d:=Yqr a (b:=(n:Int)) (by omega);have c:=Xkw a (b:=(n:Int)) (by omega);omega
theorem akr (a n:Int) (d:lit true (decide ((Xxj a n)<((0:Nat):Int)))=true) (c:(!(n==((0:Nat):Int)))=true):CO 61 [ω a,ω n] (.ret (ω (γ .i64 ((Xxj a n)+n)))):=pK [] 1 1 (.c d (.c c .nil)) (.nil)
theorem aks (a n:Int) (d:lit false (decide ((Xxj a n)<((0:Nat):Int)))=true) (c:(!(n==((0:Nat):Int)))=true):CO 61 [ω a,ω n] (.ret (ω (Xxj a n))):=pK [] 1 0 (.c d (.c c .nil)) (.nil)
theorem DU (a:Int) (n:Nat) (o:0<n) (f:n≤4611686018427387904):CO 61 [ω a,ω (n:Int)] (.ret (ω ((MM a n:Nat):Int))):=by
 have c:(!((n:Int)==((0:Nat):Int)))=true:=by
  rw [beq_eq_false_iff_ne.2 (by omega)];rfl
 have m:=Xwk a (b:=(n:Int)) (by omega);have j: -(n:Int)<Xxj a n:=by
  have:=Xwk (-a) (b:=(n:Int)) (by omega);rw [Int.neg_tmod] at this;omega
 have g:=Yqr a (b:=(n:Int)) (by omega);have k:=Xkw a (b:=(n:Int)) (by omega);have d:Xxj a n % (n:Int)=a % (n:Int):=by
  have e:=Int.mul_tdiv_add_tmod a (n:Int);have:a=Xxj a n+(n:Int)*(Int.tdiv a n):=by omega
  conv=>rhs;rw [this,Int.add_mul_emod_self_left]
 have i:((MM a n:Nat):Int)=a % (n:Int):=Int.toNat_of_nonneg g;rw [i];by_cases h:Xxj a n<0
 ·have hp:=akr a n (by simpa [lit] using h) c;have e:γ .i64 (Xxj a n+(n:Int))=a % (n:Int):=by
   rw [bH (by omega) (by omega)];rw [← d,← Int.add_emod_right,Xk5 (by omega) (by omega)]
  rw [e] at hp;exact hp
 ·have hp:=aks a n (by simp only [lit,Xqw,decide_eq_false_iff_not];exact h) c;have e:Xxj a n=a % (n:Int):=by rw [← d,Xk5 (by omega) (by omega)]
  rw [e] at hp;exact hp
def FI (b:RQ × RQ):Br:=⟨b.1.neg,ae b.1.n,ae b.1.d,b.2.neg,ae b.2.n,ae b.2.d⟩
theorem RD:∀ l:List (RQ × RQ),oq (l.map FI)=yF l
 | []=>rfl
 |b::l=>by
  show Ug (FI b)++oq (l.map FI)=QB b++yF l;rw [RD l];rfl
theorem Jh (l:List (RQ × RQ)):(yF l).length=l.length*6:=oO QB 6 (fun _=>rfl) l
def H5 (B:Nat) (q:RQ):Prop:=q.ok∧q.n<2^B∧q.d<2^B
theorem aex (a b:RQ):(jf a b).n≤a.n*b.d+b.n*a.d∧(jf a b).d≤a.d*b.d:=by
 unfold jf;split
 ·have:=xY a.neg (a.n*b.d+b.n*a.d) (a.d*b.d);exact this
 ·split
  ·have:=xY a.neg (a.n*b.d - b.n*a.d) (a.d*b.d);exact ⟨by omega,this.2⟩
  ·have:=xY b.neg (b.n*a.d - a.n*b.d) (a.d*b.d);exact ⟨by omega,this.2⟩
theorem fZ {x B:Nat} (h:x<2^B) (c:B≤200):(ae x).length<2^28:=Xqk (eu (k:=25) (Φ h (Ψ (by decide) (by omega)))) (by decide)
theorem tV {q:RQ} {B:Nat} (h:H5 B q) (c:B≤200):kJ q=true:=by
 unfold kJ;rw [Yq0 (Xxr (jA h.2.1) (by omega)),Yq0 (Xxr (jA h.2.2) (by omega))];rfl
theorem I7:∀ (l:List (RQ × RQ)) (a b:RQ × RQ),ku (l++ [a])→a.1.rt<b.1.rt→ku (l++ [a]++ [b])
 | [],a,b,_,h=> ⟨h,True.intro⟩
 | [x],a,b,hs,h=> ⟨hs.1,h,True.intro⟩
 |x::y::l,a,b,hs,h=> ⟨hs.1,I7 (y::l) a b hs.2 h⟩
theorem I4:∀ (l:List (RQ × RQ)) (a:RQ × RQ),ku (l++ [a])→ku l
 | [],a,_=>True.intro
 | [x],a,_=>True.intro
 |x::y::l,a,hs=> ⟨hs.1,I4 (y::l) a hs.2⟩
theorem I5:∀ (l:List (RQ × RQ)) (f r s:RQ),ku (l++ [(f,r)])→ku (l++ [(f,s)])
 | [],_,_,_,_=>True.intro
 | [x],_,_,_,hs=> ⟨hs.1,True.intro⟩
 |x::y::l,f,r,s,hs=> ⟨hs.1,I5 (y::l) f r s hs.2⟩
theorem Wj:∀ (l:List (RQ × RQ)) (b:RQ × RQ),(∀ x ∈ b::l,x.1.ok)→ku (b::l)→Hf nT (FI b) (l.map FI)=true
 | [],_,_,_=>rfl
 | c::l,b,ho,hs=>by
  have e:=ho b (by simp);have d:=ho c (by simp);show Hf nT (FI b) (FI c::l.map FI)=true;unfold Hf;have:nT (FI b) (FI c)<0:=by
   show lS (vQ b.1.neg (ae b.1.n) (ae b.1.d)) (vQ c.1.neg (ae c.1.n) (ae c.1.d))<0;rw [lC e,lC d];exact (DI e d).1.2 hs.1
  rw [Yq1 (by omega)];exact Wj l c (fun x f=>ho x (by simp [f])) hs.2
theorem Vw:sN false (ae 0) (ae 1)=0:=by
 rw [eF];rfl
theorem abR {c:RQ} {l:List (RQ × RQ)} (m:l.length≤7) (i:∀ x ∈ (q0,c)::l,H5 200 x.1∧H5 200 x.2) (hs:ku ((q0,c)::l)):KF nT (((q0,c)::l).map FI)=0:=by
 have h:(((q0,c)::l).map FI).all nJ=true:=by
  rw [Xk7,Xjz];intro x e;obtain ⟨g,f⟩:=i x e;show (je x.1.neg (ae x.1.n) (ae x.1.d) && je x.2.neg (ae x.2.n) (ae x.2.d))=true;rw [qP _ g.1,qP _ f.1];rfl
 have k:(((q0,c)::l).map FI).all LX=true:=by
  rw [Xk7,Xjz];intro x e;obtain ⟨g,f⟩:=i x e;show (fF x.1.neg (ae x.1.n) (ae x.1.d) && fF x.2.neg (ae x.2.n) (ae x.2.d))=true;rw [rW g.1,rW f.1,tV g (by omega),tV f (by omega)];rfl
 unfold KF;have d:(((q0,c)::l).map FI).length=l.length+1:=by simp
 rw [d,Yq1 (by omega),show (((l.length+1:Nat):Int)==((0:Nat):Int))=false from beq_eq_false_iff_ne.2 (by omega)];have j:=Wj l (q0,c) (fun x e=>(i x e).1.1) hs;rw [Je,k];show cond (Ie nT none (FI (q0,c)::l.map FI)) _ _=_;rw [KZ,j];have h:(FI (q0,c)::l.map FI).all nJ=true:=h;rw [h];have:sN (FI (q0,c)).fn (FI (q0,c)).fa (FI (q0,c)).fd=0:=by simp only [FI,q0];exact Vw
 rw [this];rfl
theorem Yc (q:Int × Int × Int) {f:RQ} {B:Nat} (d:H5 B f) (R:B≤180):∃ (u v s t:Nat) (w1 w2 w3 w4 r1 r2 f2:RQ),CO 61 [ω q.1,ω 61] (.ret (ω (u:Int)))∧CO 48 [ω (γ .i64 ((u:Int) - ((10:Nat):Int)))] (.ret (.agg [.bool w1.neg,.str (ae w1.n),.str (ae w1.d)]))∧CO 61 [ω q.2.2,ω 3] (.ret (ω (v:Int)))∧CO 48 [ω (γ .i64 ((γ .i64 ((v:Int)*((30:Nat):Int)))+((20:Nat):Int)))] (.ret (.agg [.bool w2.neg,.str (ae w2.n),.str (ae w2.d)]))∧CO 60 [.agg [.bool w1.neg,.str (ae w1.n),.str (ae w1.d)],.agg [.bool w2.neg,.str (ae w2.n),.str (ae w2.d)]] (.ret (.tup [.agg [.bool r1.neg,.str (ae r1.n),.str (ae r1.d)],.bool true]))∧CO 61 [ω q.2.1,ω 40] (.ret (ω (s:Int)))∧CO 48 [ω (γ .i64 ((s:Int)+((1:Nat):Int)))] (.ret (.agg [.bool w3.neg,.str (ae w3.n),.str (ae w3.d)]))∧CO 61 [ω q.2.2,ω 4] (.ret (ω (t:Int)))∧CO 48 [ω (γ .i64 ((t:Int)+((1:Nat):Int)))] (.ret (.agg [.bool w4.neg,.str (ae w4.n),.str (ae w4.d)]))∧CO 60 [.agg [.bool w3.neg,.str (ae w3.n),.str (ae w3.d)],.agg [.bool w4.neg,.str (ae w4.n),.str (ae w4.d)]] (.ret (.tup [.agg [.bool r2.neg,.str (ae r2.n),.str (ae r2.d)],.bool true]))∧CO 62 [.agg [.bool f.neg,.str (ae f.n),.str (ae f.d)],.agg [.bool r2.neg,.str (ae r2.n),.str (ae r2.d)]] (.ret (.agg [.bool f2.neg,.str (ae f2.n),.str (ae f2.d)]))∧H5 16 r1∧H5 (B+16) f2∧f.rt<f2.rt:=by
 have T:=DV (a:=q.1) (n:=61) (by omega);have P:=DV (a:=q.2.2) (n:=3) (by omega);have hs:=DV (a:=q.2.1) (n:=40) (by omega);have Q:=DV (a:=q.2.2) (n:=4) (by omega);have F:=DU q.1 61 (by omega) (by omega);have G:=DU q.2.2 3 (by omega) (by omega);have y:=DU q.2.1 40 (by omega) (by omega);have A:=DU q.2.2 4 (by omega) (by omega);generalize MM q.1 61=u at*
 generalize MM q.2.2 3=v at*
 generalize MM q.2.1 40=s at*
 generalize MM q.2.2 4=t at*
 have M:γ .i64 ((u:Int) - ((10:Nat):Int))=(u:Int) - 10:=bH (by omega) (by omega);have C:γ .i64 ((v:Int)*((30:Nat):Int))=((v*30:Nat):Int):=(bH (by omega) (by omega)).trans (by omega);have H:γ .i64 (((v*30:Nat):Int)+((20:Nat):Int))=((v*30+20:Nat):Int):=(bH (by omega) (by omega)).trans (by omega);have E:γ .i64 ((s:Int)+((1:Nat):Int))=((s+1:Nat):Int):=(bH (by omega) (by omega)).trans (by omega);have I:γ .i64 ((t:Int)+((1:Nat):Int))=((t+1:Nat):Int):=(bH (by omega) (by omega)).trans (by omega);have J:=kZ ((u:Int) - 10) (by omega) (by omega);have e:(nD ((u:Int) - 10)).neg=true→0<(nD ((u:Int) - 10)).n:=by
  intro h;simp only [nD,decide_eq_true_eq] at h ⊢;omega
 have D:(nD ((u:Int) - 10)).n<64:=by simp only [nD];omega
 have hd:(nD ((u:Int) - 10)).d=1:=rfl;generalize nD ((u:Int) - 10)=w at*
 obtain ⟨j,k,S⟩:=w;simp only at e D hd;subst hd;have k1:=Nc j k (v*30+20) e (by omega) (by omega) (by omega);have k2:=Nc false (s+1) (t+1) (by simp) (by omega) (by omega) (by omega);have N:=xY j k (v*30+20);have O:=xY false (s+1) (t+1);have o:(iK j k (v*30+20)).ok:=nV (by omega);have g:(iK false (s+1) (t+1)).ok:=nV (by omega);have a:=aex f (iK false (s+1) (t+1));have hp:0<(iK false (s+1) (t+1)).rt:=by
  rw [Kr _ _ _ (by omega)];have m:(0:Rat)<((s+1:Nat):Rat):=by exact_mod_cast Xk9 s
  have r:(0:Rat)<((t+1:Nat):Rat):=by exact_mod_cast Xk9 t
  have z:(0:Rat)<((s+1:Nat):Rat) / ((t+1:Nat):Rat):=by rw [Rat.div_def];exact Rat.mul_pos m (Rat.inv_pos.2 r)
  simp only [Xx4,if_false];grind
 have i:=YW d.1 g;have c:=acp f.neg (iK false (s+1) (t+1)).neg (ae f.n) (ae f.d) (ae (iK false (s+1) (t+1)).n) (ae (iK false (s+1) (t+1)).d)
  (Xqz (fZ d.2.1 (by omega)) (by decide)) (Xqz (fZ d.2.2 (by omega)) (by decide)) (Xqz (fZ (B:=16) (by omega) (by omega)) (by decide)) (Xqz (fZ (B:=16) (by omega) (by omega)) (by decide))
 rw [lC d.1,lC g] at c;have p:=jQ d.1 g;generalize iK j k (v*30+20)=r1 at*
 generalize iK false (s+1) (t+1)=r2 at*
 generalize jf f r2=f2 at*
 refine ⟨u,v,s,t,⟨j,k,1⟩,⟨false,v*30+20,1⟩,⟨false,s+1,1⟩,⟨false,t+1,1⟩,r1,r2,f2,F, ?_,G, ?_,k1,y, ?_,A, ?_,k2,c,⟨o,by omega,by omega⟩,⟨p, ?_, ?_⟩,by rw [i];grind⟩
 ·rw [M];exact J
 ·rw [C,H];exact Nb _ (by omega)
 ·rw [E];exact Nb _ (by omega)
 ·rw [I];exact Nb _ (by omega)
 ·have m:f.n*r2.d≤f.n*64:=Xq0 _ (by omega);have r:r2.n*f.d≤64*f.d:=Nat.mul_le_mul_right _ (by omega);have z:=d.2.1;have K:=d.2.2;rw [Xxp];omega
 ·have m:f.d*r2.d≤f.d*64:=Xq0 _ (by omega);have K:=d.2.2;rw [Xxp];omega
def m6E (bs:List (RQ × RQ)):AV:=match bs with| []=> .nilS|_::_=> .ref 3 0 0 bs.length
def m6H (bs:List (RQ × RQ)):Hp:=match bs with| []=> []|_::_=> [(3,⟨yF bs,0,false,0,6,true⟩)]
def m6P (bs:List (RQ × RQ)):Bool:=match bs with| []=>true|_::_=>false
def m6S (ts:List (Int × Int × Int)) (nn:Bool) (p:List (RQ × RQ) × RQ):St:=⟨[(0,.sl (tL ts) ts.length nn),(2,.ptr 0 0 0),(3,.ptr 1 0 0),(4,.ptr 2 0 0),(5,ω (p.1.length:Int))],[(0,⟨[.str [],ω 0,ω 0,.nilS],0,false,0,0,true⟩),(1,⟨[.str zcc3_3,ω 1,ω 0,m6E p.1],0,false,0,0,m6P p.1⟩),(2,⟨[.bool p.2.neg,.str (ae p.2.n),.str (ae p.2.d)],0,false,0,0,true⟩)]++m6H p.1,.dead,[]⟩
abbrev m6O (bs:List (RQ × RQ)):St:=⟨[(2,.ptr 0 0 0),(3,.ptr 1 0 0)],[(0,⟨[.str [],ω 0,ω 0,.nilS],0,false,0,0,true⟩),(1,⟨[.str zcc3_3,ω 1,ω 0,.ref 2 0 0 bs.length],0,false,0,0,false⟩),(2,⟨yF bs,0,false,0,6,true⟩)],.dead,[]⟩
theorem Fp (ts:List (Int × Int × Int)) (nn:Bool) (bs:List (RQ × RQ)) (f:RQ) (h:bs ≠ []):m6S ts nn (bs,f)=⟨[(0,.sl (tL ts) ts.length nn),(2,.ptr 0 0 0),(3,.ptr 1 0 0),(4,.ptr 2 0 0),(5,ω (bs.length:Int))],[(0,⟨[.str [],ω 0,ω 0,.nilS],0,false,0,0,true⟩),(1,⟨[.str zcc3_3,ω 1,ω 0,.ref 3 0 0 bs.length],0,false,0,0,false⟩),(2,⟨[.bool f.neg,.str (ae f.n),.str (ae f.d)],0,false,0,0,true⟩),(3,⟨yF bs,0,false,0,6,true⟩)],.dead,[]⟩:=by
 cases bs with
 |nil=>exact absurd rfl h
 |cons a r=>rfl
theorem aal (bs:List (RQ × RQ)) (f r:RQ):ν (bs.length*6) (yF bs)++ [.bool f.neg,.str (ae f.n),.str (ae f.d),.bool r.neg,.str (ae r.n),.str (ae r.d)]=yF (bs++ [(f,r)]):=by
 rw [υ (by rw [Jh];exact Δ _)];unfold yF;rw [Xxi];rfl
theorem Yd (ts:List (Int × Int × Int)) (nn:Bool) (bs:List (RQ × RQ)) {f:RQ} {B:Nat} (J:H5 B f) (O:B≤180) (K:bs.length<ts.length) (V:bs.length<8):
  ∃ g c,H5 16 g∧H5 (B+16) c∧f.rt<c.rt∧∀ nt,78≤nt→ψ nt f30 (m6S ts nn (bs,f)) .normal (m6S ts nn (bs++ [(f,g)],c)):=by
 have h:=amu K;generalize ts[bs.length]=q at h;obtain ⟨u,v,s,t,U,S,T,Q,g,R,c,p,C,y,E,G,A,F,w,z,o,e,M,H,N⟩:=Yc q J O;refine ⟨g,c,M,H,N,fun nt D=> ?_⟩;have d:decide ((bs.length:Int)<(ts.length:Int))=true:=Yq0 (by omega);have n:decide ((bs.length:Int)<((8:Nat):Int))=true:=Yq0 (by omega);have i:ω (γ .i64 ((bs.length:Int)+((1:Nat):Int)))=ω ((bs.length+1:Nat):Int):=xk (by omega);have m:=d;rw [Fp ts nn (bs++ [(f,g)]) c (by simp),η,φ];have P:Xqc (bs.length+1) 1099511627776=true:=Xql (by omega);have I:Xqc (bs.length*6) (θ (yF bs))=true:=Xql (by rw [Jh];exact Δ _);rw [← aal];cases j:bs with
 |nil=>
  rw [j] at d n i m h;exact pN 30 [] 5 15 (.k 36 (mV 0) (.c m (.c (aA d) (.k 2 (aA n) (.c (aA d) .nil))))) (.v 27 (.eq i) (.c e (.c o (.c z (.c w (.c F (.c A (.c G (.c E (.c y (.c C (.c p (.v 35 (.ppt h) .nil))))))))))))) D
 |cons a r=>
  rw [← j,Fp ts nn bs f (by rw [j];simp)];generalize bs.length=k at*
  exact pN 30 [] 4 15 (.k 16 P (.c I (.k 19 (mV k) (.c m (.c (aA d) (.k 2 (aA n) (.c (aA d) .nil))))))) (.v 27 (.eq i) (.c e (.c o (.c z (.c w (.c F (.c A (.c G (.c E (.c y (.c C (.c p (.v 35 (.ppt h) .nil))))))))))))) D
theorem abQ (ts:List (Int × Int × Int)) (nn:Bool) (J:ts.length≤8):∀ (d:Nat) (bs:List (RQ × RQ)) (f g:RQ),bs.length+d=ts.length→0<ts.length→H5 (16*(bs.length+1)) f→(∀ x ∈ bs,H5 200 x.1∧H5 200 x.2)→ku (bs++ [(f,g)])→(bs.map (·.1)++ [f]).head? =some q0→
  ∃ c:List (RQ × RQ),c.length=ts.length∧(∀ x ∈ c,H5 200 x.1∧H5 200 x.2)∧ku c∧(c.map (·.1)).head? =some q0∧∀ nt,78≤nt→aC prog ap [] nt (af 0 (ai f30)) (fun _=> .exit 0) (m6S ts nn) m6O (bs,f) c:=by
 intro d
 induction d with
 | zero=>
  intro bs f g hd t m n hs i;refine ⟨bs,by omega,n,I4 _ _ hs, ?_,fun nt j=> ?_⟩
  ·cases bs with
   |nil=>simp at hd;omega
   |cons a r=>simpa using i
  ·refine .done ?_;have k:bs ≠ []:=by intro h;rw [h] at hd;simp at hd;omega
   have F:decide ((bs.length:Int)<(ts.length:Int))=false:=Yq1 (by omega);have w:((bs.length:Int)==((0:Nat):Int))=false:=beq_eq_false_iff_ne.2 (by omega);rw [Fp ts nn bs f k];exact pN 30 [] 3 0 (.c (aF w) (.k 1 (aF F) .nil)) (.nil) j
 | succ d ih=>
  intro bs f g hd t m n hs i;obtain ⟨y,C,z,v,u,G⟩:=Yd ts nn bs m (by omega) (by omega) (by omega);have o:∀ {A:Nat} {q:RQ},H5 A q→A≤200→H5 200 q:=fun h p=> ⟨h.1,Φ h.2.1 (Ψ (by decide) p),Φ h.2.2 (Ψ (by decide) p)⟩
  obtain ⟨c,I,E,D,H,B⟩:=ih (bs++ [(f,y)]) C g (by simp;omega) t (by
   rw [η,φ,show 16*(bs.length+1+1)=16*(bs.length+1)+16 by omega];exact v) (by
   intro x e;rcases List.mem_append.1 e with e|e
   ·exact n x e
   ·rw [Xjp] at e;subst e;exact ⟨o m (by omega),o z (by omega)⟩) (I7 _ _ _ (I5 _ _ _ _ hs) u) (by
   rw [List.map_append];cases bs with
   |nil=>exact i
   |cons a r=>exact i)
  exact ⟨c,I,E,D,H,fun nt j=> .next (G nt j) (B nt j)⟩
theorem akt (ts:List (Int × Int × Int)) (nn:Bool) (f:RQ) (bs:List (RQ × RQ)) (c:CO 48 [ω 0] (.ret (.agg [.bool f.neg,.str (ae f.n),.str (ae f.d)]))) (d:aN prog ap [] 78 (.block 0 (.loop (af 0 (ai f30)))) ⟨[(0,.sl (tL ts) ts.length nn),(2,.ptr 0 0 0),(3,.ptr 1 0 0),(4,.ptr 2 0 0),(5,ω 0),(6,.dead),(7,.dead),(9,.dead),(25,.dead),(32,.dead)],[(0,⟨[.str [],ω 0,ω 0,.nilS],0,false,0,0,true⟩),(1,⟨[.str zcc3_3,ω 1,ω 0,.nilS],0,false,0,0,true⟩),(2,⟨[.bool f.neg,.str (ae f.n),.str (ae f.d)],0,false,0,0,true⟩)],.dead,[]⟩ (.normal) ⟨[(2,.ptr 0 0 0),(3,.ptr 1 0 0)],[(0,⟨[.str [],ω 0,ω 0,.nilS],0,false,0,0,true⟩),(1,⟨[.str zcc3_3,ω 1,ω 0,.ref 2 0 0 bs.length],0,false,0,0,false⟩),(2,⟨(yF bs),0,false,0,6,true⟩)],.dead,[]⟩):CO 30 [.sl (tL ts) ts.length nn] (.ret (.agg [.str zcc3_3,ω 1,ω 0,.sl (ν (bs.length*6) (yF bs)) bs.length true])):=pK [0] 0 0 (.n 11 .nil) (.l d (.c c .nil))
theorem UW (ts:List (Int × Int × Int)) (nn:Bool) (q:0<ts.length) (n:ts.length≤8):∃ bs:List Br,bs.length=ts.length∧(∀ b ∈ bs,b.s28)∧KF nT bs=0∧CO 30 [.sl (tL ts) ts.length nn] (.ret (.agg [.str zcc3_3,ω 1,ω 0,.sl (oq bs) bs.length true])):=by
 have z:H5 (16*(([]:List (RQ × RQ)).length+1)) q0:=⟨RZ,by decide,by decide⟩
 obtain ⟨bs,c,d,g,f,m⟩:=abQ ts nn n ts.length [] q0 q0 (by simp) q z (by simp) True.intro rfl;refine ⟨bs.map FI,by simpa using c, ?_, ?_, ?_⟩
 ·intro b o;obtain ⟨x,k,rfl⟩:=List.mem_map.1 o;obtain ⟨⟨_,e,j⟩,⟨_,p,i⟩⟩:=d x k;exact ⟨⟨fZ e (by omega),fZ j (by omega)⟩,fZ p (by omega),fZ i (by omega)⟩
 ·cases bs with
  |nil=>simp at c;omega
  |cons a r=>
   obtain ⟨t,e⟩:=a;simp only [List.map_cons,List.head?_cons,Option.some.injEq] at f;subst f;simp only [ξ] at c;exact abR (by omega) d g
 ·rw [RD,Xjm];have h:=akt ts nn q0 bs (Nb 0 (by omega)) (aC.blk m (by simp) rfl (aP.of ⟨rfl,rfl,rfl,rfl,rfl,trivial⟩) (aP.refl _));rw [υ (by rw [Jh];exact Δ _)] at h;exact h
def aoW (qs:List (Int × Int × Int)):AV:=match qs with| []=> .nilS|_::_=> .ref 3 0 0 qs.length
def aoX (qs:List (Int × Int × Int)):Hp:=match qs with| []=> []|_::_=> [(3,⟨tL qs,0,false,0,3,true⟩)]
abbrev amg (s:Sg) (xs:List Int) (nn:Bool) (n:Nat) (p:Nat × List (Int × Int × Int)):St:=⟨[(1,.ptr 0 0 0),(2,.ptr 1 0 0),(4,.ptr 2 0 0),(5,aoW p.2),(6,ω (n:Int)),(7,ω (p.2.length:Int))],[(0,dB xs nn p.1),(1,⟨[ω s.op,.str s.name,.bool s.ty.tr,ω s.ty.m,ω s.ty.d],0,false,0,0,true⟩),(2,⟨[.str [],ω 0,ω 0,.nilS],0,false,0,0,true⟩)]++aoX p.2,.dead,[]⟩
abbrev ahe (s:Sg) (xs:List Int) (nn:Bool) (p:Nat × List (Int × Int × Int)):St:=⟨[(2,.ptr 1 0 0),(4,.ptr 2 0 0),(5,.ref 3 0 0 p.2.length)],[(0,dB xs nn p.1),(1,⟨[ω s.op,.str s.name,.bool s.ty.tr,ω s.ty.m,ω s.ty.d],0,false,0,0,true⟩),(2,⟨[.str [],ω 0,ω 0,.nilS],0,false,0,0,true⟩),(3,⟨tL p.2,0,false,0,3,true⟩)],.dead,[]⟩
theorem BI (s:Sg) (xs:List Int) (nn:Bool) (n k:Nat) (qs:List (Int × Int × Int)) (h:qs ≠ []):amg s xs nn n (k,qs)=⟨[(1,.ptr 0 0 0),(2,.ptr 1 0 0),(4,.ptr 2 0 0),(5,.ref 3 0 0 qs.length),(6,ω (n:Int)),(7,ω (qs.length:Int))],[(0,dB xs nn k),(1,⟨[ω s.op,.str s.name,.bool s.ty.tr,ω s.ty.m,ω s.ty.d],0,false,0,0,true⟩),(2,⟨[.str [],ω 0,ω 0,.nilS],0,false,0,0,true⟩),(3,⟨tL qs,0,false,0,3,true⟩)],.dead,[]⟩:=by
 cases qs with
 |nil=>exact absurd rfl h
 |cons a r=>rfl
theorem Qg (l:List (Int × Int × Int)):(tL l).length=l.length*3:=oO (fun q:Int × Int × Int=> [ω q.1,ω q.2.1,ω q.2.2]) 3 (fun _=>rfl) l
theorem adg (qs:List (Int × Int × Int)) (a b c:Int):ν (qs.length*3) (tL qs)++ [ω a,ω b,ω c]=tL (qs++ [(a,b,c)]):=by
 rw [υ (by rw [Qg];exact Δ _)];unfold tL;rw [Xxi];rfl
theorem Y9 (s:Sg) (xs:List Int) (nn:Bool) (k0 n:Nat) (i:xs.length<2^63) (J:n≤8) (K:0<n):∀ (d k:Nat) (qs:List (Int × Int × Int)),qs.length+d=n→k≤xs.length→
  ∃ (f:Nat) (c:List (Int × Int × Int)),f≤xs.length∧c.length=n∧∀ nt,37≤nt→aC prog ap [dB xs nn k0] nt (af 0 (ai f96)) (fun _=> .exit 0) (amg s xs nn n) (ahe s xs nn) (k,qs) (f,c):=by
 intro d
 induction d with
 |zero=>
  intro k qs hd m;refine ⟨k,qs,m,by omega,fun nt e=> .done ?_⟩;have z:decide ((qs.length:Int)<(n:Int))=false:=Yq1 (by omega);rw [BI s xs nn n k qs (by intro h;rw [h] at hd;simp at hd;omega)];generalize E:qs.length=j at z;show au _ _ _ _ _ _ _ (ahe s xs nn (k,qs));unfold ahe;rw [E];exact pN 96 [] 1 0 (.c (aF z) .nil) (.nil) e
 | succ d ih=>
  intro k qs hd m;obtain ⟨G,k1,_,p,v⟩:=dG xs nn k 61 i m (by omega) (by omega);obtain ⟨H,k2,_,o,y⟩:=dG xs nn k1 40 i p (by omega) (by omega);obtain ⟨F,k3,_,g,w⟩:=dG xs nn k2 12 i o (by omega) (by omega);obtain ⟨f,c,D,C,B⟩:=ih k3 (qs++ [((G:Int),(H:Int),(F:Int))]) (by simp;omega) g;refine ⟨f,c,D,C,fun nt e=> .next ?_ (B nt e)⟩;have t:decide ((qs.length:Int)<(n:Int))=true:=Yq0 (by omega);have q:ω (γ .i64 ((qs.length:Int)+((1:Nat):Int)))=ω ((qs.length+1:Nat):Int):=xk (by omega);have I:Xqc (qs.length+1) 1099511627776=true:=Xql (by omega);have A:Xqc (qs.length*3) (θ (tL qs))=true:=Xql (by rw [Qg];exact Δ _);rw [BI s xs nn n k3 _ (by simp),η,φ,← adg];cases u:qs with
  |nil=>
   rw [u] at t q;exact pN 96 [] 2 1 (.k 3 (aA t) .nil) (.v 16 (.eq q) (.c w (.c y (.c v .nil)))) e
  |cons a r=>
   rw [← u,BI s xs nn n k qs (by rw [u];simp)];exact pN 96 [] 1 1 (.k 1 I (.c A (.k 1 (aA t) .nil))) (.v 16 (.eq q) (.c w (.c y (.c v .nil)))) e
theorem ahd (s:Sg) (xs:List Int) (nn:Bool) (k k1 k2 c:Nat) (qs:List (Int × Int × Int)) (bs:List Br) (d:ω (γ .i64 (((1:Nat):Int)+(c:Int)))= ω (((1+c):Nat):Int)) (e:aG prog ap 97 [.ptr 0 0 0,ω 4] [⟨[.sl (iL xs) xs.length nn,ω (k:Int)],0,false,0,0,true⟩] (.ret (ω (c:Int))) [⟨[.sl (iL xs) xs.length nn,ω (k1:Int)],0,false,0,0,true⟩]) (f:aN prog ap [⟨[.sl (iL xs) xs.length nn,ω (k:Int)],0,false,0,0,true⟩] 37 (.block 0 (.loop (af 0 (ai f96)))) ⟨[(0,.agg [ω s.op,.str s.name,.bool s.ty.tr,ω s.ty.m,ω s.ty.d]),(1,.ptr 0 0 0),(2,.ptr 1 0 0),(4,.ptr 2 0 0),(5,.nilS),(6,ω (((1+c):Nat):Int)),(7,ω 0),(8,.dead),(14,.dead)],[(0,⟨[.sl (iL xs) xs.length nn,ω (k1:Int)],0,false,0,0,true⟩),(1,⟨[ω s.op,.str s.name,.bool s.ty.tr,ω s.ty.m,ω s.ty.d],0,false,0,0,true⟩),(2,⟨[.str [],ω 0,ω 0,.nilS],0,false,0,0,true⟩)],.dead,[]⟩ (.normal) ⟨[(2,.ptr 1 0 0),(4,.ptr 2 0 0),(5,.ref 3 0 0 qs.length)],[(0,⟨[.sl (iL xs) xs.length nn,ω (k2:Int)],0,false,0,0,true⟩),(1,⟨[ω s.op,.str s.name,.bool s.ty.tr,ω s.ty.m,ω s.ty.d],0,false,0,0,true⟩),(2,⟨[.str [],ω 0,ω 0,.nilS],0,false,0,0,true⟩),(3,⟨(tL qs),0,false,0,3,true⟩)],.dead,[]⟩) (g:CO 30 [.sl (ν (qs.length*3) (tL qs)) qs.length true] (.ret (.agg [.str zcc3_3,ω 1,ω 0,.sl (oq bs) bs.length true]))):aG prog ap 96 [.agg [ω s.op,.str s.name,.bool s.ty.tr,ω s.ty.m,ω s.ty.d],.ptr 0 0 0] [⟨[.sl (iL xs) xs.length nn,ω (k:Int)],0,false,0,0,true⟩] (.ret (.agg [.str s.name,ω s.ty.m,ω s.ty.d,.sl (oq bs) bs.length true])) [⟨[.sl (iL xs) xs.length nn,ω (k2:Int)],0,false,0,0,true⟩]:=pK [0] 0 0 (.n 15 .nil) (.c g (.l f (.v 11 (.eq d) (.c e .nil))))
theorem Y_ (s:Sg) (xs:List Int) (nn:Bool) (k:Nat) (f:xs.length<2^63) (o:k≤xs.length):∃ (bs:List Br) (k':Nat),k'≤xs.length∧bs.length≤8∧(∀ b ∈ bs,b.s28)∧KF nT bs=0∧
  aG prog ap 96 [.agg (Zd s),.ptr 0 0 0] [dB xs nn k] (.ret (.agg [.str s.name,ω s.ty.m,ω s.ty.d,.sl (oq bs) bs.length false])) [dB xs nn k']:=by
 obtain ⟨c,k1,q,d,i⟩:=dG xs nn k 4 f o (by omega) (by omega);obtain ⟨k2,qs,p,r,j⟩:=Y9 s xs nn k (1+c) f (by omega) (by omega) (1+c) k1 [] (by simp) d;obtain ⟨bs,t,h,g,n⟩:=UW qs true (by omega) (by omega);refine ⟨bs,k2,p,by omega,h,g, ?_⟩;have m:ω (γ .i64 (((1:Nat):Int)+(c:Int)))= ω (((1+c):Nat):Int):=by
  congr 1;exact (bH (by omega) (by omega)).trans (by omega)
 have e:ν (qs.length*3) (tL qs)=tL qs:=υ (by rw [Qg];exact Δ _);exact aG.out (jG.ret rfl rfl (aQ.agg (.cons (aQ.refl _) (.cons (aQ.refl _) (.cons (aQ.refl _) (.cons (aQ.sl _ _ _) .nil)))))) (ahd s xs nn k k1 k2 c qs bs m i (aC.blk j (by simp) rfl (aP.of ⟨rfl,rfl,rfl,rfl,rfl,rfl,trivial⟩) (aP.refl _)) (by rw [e];exact n))
theorem sJ (op:Int):CO 208 [ω op] (.ret (.bool (dX op))):=by
 rcases tf (decide (((5:Nat):Int)≤op)) with b0|b0
 ·rcases tf (decide (op≤((8:Nat):Int))) with b1|b1
  ·have e:dX op=true:=by
    simp only [decide_eq_true_eq,decide_eq_false_iff_not,beq_iff_eq,Yq2] at*
    unfold dX;first|(rw [decide_eq_true_eq];omega)|(rw [Xx5];simp only [decide_eq_true_eq,beq_iff_eq];omega)
   rw [e];exact pK [] 2 3 (.c (aA b1) (.c (aA b0) .nil)) (.nil)
  ·have e:dX op=(op==((24:Nat):Int)):=by
    simp only [decide_eq_true_eq,decide_eq_false_iff_not,beq_iff_eq,Yq2] at*
    unfold dX;first|(rw [decide_eq_true_eq];omega)|(rw [Xx5];simp only [decide_eq_true_eq,beq_iff_eq];omega)
   rw [e];exact pK [] 2 1 (.c (aF b1) (.c (aA b0) .nil)) (.nil)
 ·have e:dX op=(op==((24:Nat):Int)):=by
   simp only [decide_eq_true_eq,decide_eq_false_iff_not,beq_iff_eq,Yq2] at*
   unfold dX;first|(rw [decide_eq_true_eq];omega)|(rw [Xx5];simp only [decide_eq_true_eq,beq_iff_eq];omega)
  rw [e];exact pK [] 2 0 (.k 1 (aF b0) .nil) (.nil)
def UJ (l:List Sg) (nn:Bool) (op:Int) (nm:List UInt8) (p:Nat × Unit):St:=⟨[(0,.sl (dU l) l.length nn),(1,ω op),(2,.str nm),(6,.ptr 0 0 0),(8,ω (p.1:Int))],[(0,⟨[.bool false,ω 0,ω 0],0,false,0,0,true⟩)],.dead,[]⟩
def Q3:Option Ty→St
 |none=> ⟨[(6,.ptr 0 0 0)],[(0,⟨[.bool false,.int .i64 0,.int .i64 0],0,false,0,0,true⟩)],.dead,[]⟩
 |some t=> ⟨[(6,.ptr 0 0 0),(7,.bool true)],[(0,⟨[.bool t.tr,.int .i64 t.m,.int .i64 t.d],0,false,0,0,true⟩)],.dead,[]⟩
theorem abh {nt:Nat} (g:52≤nt) (l:List Sg) (nn:Bool) (op:Int) (d:List UInt8) (q:l.length<2^40):aC prog ap [] nt (af 0 (ai f183)) fiE (UJ l nn op d) (Q3) (0,()) ((l.find? fun s=>jL s op d).map (·.ty)):=by
 rw [← Ti];refine aC.goL (IZ fun s=>jL s op d) (fun _=>none) l (fun _ _=>True) ?_ ?_ l [] () rfl trivial
 ·intro p s r _ o _;have key:match jL s op d with
   |true=>ψ nt f183 (UJ l nn op d (p.length,())) .ret (Q3 (some s.ty))
   |false=>ψ nt f183 (UJ l nn op d (p.length,())) .normal (UJ l nn op d (p.length+1,())):=by
   have e:ε (δ (p.length:Int)*5) (dU l)=Zd s++dU r:=by rw [o];exact Tn rfl
   have n:p.length+(r.length+1)=l.length:=by rw [o];simp
   generalize p.length=k at*
   have j:k<2^62:=by omega
   have h:decide (((0:Nat):Int)≤(k:Int))=true:=Yq0 (by omega);have f:decide ((k:Int)<(l.length:Int))=true:=Yq0 (by omega);have i:=f;rcases tf (s.op==op) with c|c
   ·rcases tf (s.name==d) with b1|b1
    ·rcases tf (dX op) with b2|b2
     ·rcases tf (aS s.ty) with b3|b3
      ·rcases tf (op==((24:Nat):Int)) with b4|b4
       ·rcases tf s.ty.tr with b5|b5
        ·rw [show jL s op d=false by simp only [jL,c,b1,b2,b3,b4,b5]<;>rfl];exact pN 183 [] 7 31 (.c (aV b5) (.k 1 (aV b4) (.c (aA b3) (.k 3 (aA b2) (.c (aA b1) (.k 1 (aA c) (.k 7 h (.c f (.c (aA i) .nil))))))))) (.v 15 (.eq (xk j)) (.c (uy s.ty) (.c (sJ op) (.v 18 (.ppt e) .nil)))) g
        ·rw [show jL s op d=true by simp only [jL,c,b1,b2,b3,b4,b5]<;>rfl];exact pN 183 [] 7 95 (.k 4 (di b5) (.k 1 (aV b4) (.c (aA b3) (.k 3 (aA b2) (.c (aA b1) (.k 1 (aA c) (.k 7 h (.c f (.c (aA i) .nil))))))))) (.c (uy s.ty) (.c (sJ op) (.v 18 (.ppt e) .nil))) g
       ·rw [show jL s op d=true by simp only [jL,c,b1,b2,b3,b4]<;>rfl];exact pN 183 [] 7 127 (.k 5 (di b4) (.c (aA b3) (.k 3 (aA b2) (.c (aA b1) (.k 1 (aA c) (.k 7 h (.c f (.c (aA i) .nil)))))))) (.c (uy s.ty) (.c (sJ op) (.v 18 (.ppt e) .nil))) g
      ·rw [show jL s op d=false by simp only [jL,c,b1,b2,b3]<;>rfl];exact pN 183 [] 6 15 (.k 1 (aF b3) (.k 3 (aA b2) (.c (aA b1) (.k 1 (aA c) (.k 7 h (.c f (.c (aA i) .nil))))))) (.v 15 (.eq (xk j)) (.c (uy s.ty) (.c (sJ op) (.v 18 (.ppt e) .nil)))) g
     ·rw [show jL s op d=false by simp only [jL,c,b1,b2]<;>rfl];exact pN 183 [] 6 7 (.k 2 (aF b2) (.c (aA b1) (.k 1 (aA c) (.k 7 h (.c f (.c (aA i) .nil)))))) (.v 15 (.eq (xk j)) (.c (sJ op) (.v 18 (.ppt e) .nil))) g
    ·rw [show jL s op d=false by simp only [jL,c,b1]<;>rfl];exact pN 183 [] 6 3 (.k 3 (aF b1) (.k 1 (aA c) (.k 7 h (.c f (.c (aA i) .nil))))) (.v 15 (.eq (xk j)) (.v 18 (.ppt e) .nil)) g
   ·rw [show jL s op d=false by simp only [jL,c]<;>rfl];exact pN 183 [] 6 1 (.k 4 (aF c) (.k 7 h (.c f (.c (aA i) .nil)))) (.v 15 (.eq (xk j)) (.v 18 (.ppt e) .nil)) g
  unfold IZ;cases m:jL s op d with
  |true=>rw [m] at key;simp only [m,if_true];exact key
  |false=>rw [m] at key;simp only [m,Xx4,if_false];exact ⟨key,trivial⟩
 ·intro _ _;have c:decide ((l.length:Int)<(l.length:Int))=false:=Yq1 (by omega);exact pN 183 [] 1 0 (.c (aF c) .nil) (.nil) g
theorem aj0 (l:List Sg) (nn:Bool) (op:Int) (c:List UInt8) (d:aN prog ap [] 52 (.block 0 (.loop (af 0 (ai f183)))) ⟨[(0,.sl (dU l) l.length nn),(1,ω op),(2,.str c),(6,.ptr 0 0 0),(7,.bool false),(8,ω 0),(9,.dead),(13,.dead),(48,.dead)],[(0,⟨[.bool false,ω 0,ω 0],0,false,0,0,true⟩)],.dead,[]⟩ (.normal) ⟨[(6,.ptr 0 0 0)],[(0,⟨[.bool false,ω 0,ω 0],0,false,0,0,true⟩)],.dead,[]⟩):CO 183 [.sl (dU l) l.length nn,ω op,.str c] (.ret (.tup [.agg [.bool false,ω 0,ω 0],.bool false])):=pK [0] 0 0 (.n 4 .nil) (.l d .nil)
theorem aj1 (l:List Sg) (nn:Bool) (op:Int) (c:List UInt8) (t:Ty) (d:aN prog ap [] 52 (.block 0 (.loop (af 0 (ai f183)))) ⟨[(0,.sl (dU l) l.length nn),(1,ω op),(2,.str c),(6,.ptr 0 0 0),(7,.bool false),(8,ω 0),(9,.dead),(13,.dead),(48,.dead)],[(0,⟨[.bool false,ω 0,ω 0],0,false,0,0,true⟩)],.dead,[]⟩ (.ret) ⟨[(6,.ptr 0 0 0),(7,.bool true)],[(0,⟨[.bool t.tr,ω t.m,ω t.d],0,false,0,0,true⟩)],.dead,[]⟩):CO 183 [.sl (dU l) l.length nn,ω op,.str c] (.ret (.tup [.agg [.bool t.tr,ω t.m,ω t.d],.bool true])):=pK [0] 0 0 (.n 3 .nil) (.l d .nil)
theorem fJ (l:List Sg) (nn:Bool) (op:Int) (c:List UInt8) (e:l.length<2^40):CO 183 [.sl (dU l) l.length nn,ω op,.str c] (.ret (.tup [.agg (fH ((fC l op c).getD zT)),.bool (fC l op c).isSome])):=by
 have hloop:=fun nt (hn:52≤nt)=>abh hn l nn op c e
 unfold fC;cases g:(l.find? fun s=>jL s op c).map (·.ty) with
 |none=>
  rw [g] at hloop;have f:=aC.blk (id:=0) (e':= .normal) (s:=UJ l nn op c (0,())) (s':=Q3 none) hloop (by simp [fiE]) rfl (aP.refl _) (aP.refl _);exact aj0 l nn op c (fun nt d=>(f nt d).weak (aP.of ⟨rfl,rfl,rfl,rfl,rfl,trivial⟩) (aP.refl _))
 |some t=>
  rw [g] at hloop;have f:=aC.blk (id:=0) (e':= .ret) (s:=UJ l nn op c (0,())) (s':=Q3 (some t)) hloop (by simp [fiE]) rfl (aP.refl _) (aP.refl _);exact aj1 l nn op c t (fun nt d=>(f nt d).weak (aP.of ⟨rfl,rfl,rfl,rfl,rfl,trivial⟩) (aP.refl _))
theorem jC (t:Ty):CO 69 [.agg (fH t)] (.ret (.bool (aS t))):=by
 rcases tf t.tr with b0|b0
 ·have e:aS t=((t.tr==true) && ((t.m==((0:Nat):Int)) && ((t.d==((0:Nat):Int)) && true))):=by first|(simp only [aS,b0]<;>rfl)|(unfold aS;rw [b0];simp [b0])
  rw [e];exact pK [] 1 1 (.k 6 (aA b0) (.n 1 .nil)) (.nil)
 ·have e:aS t=(jv t.m t.d):=by first|(simp only [aS,b0]<;>rfl)|(unfold aS;rw [b0];simp [b0])
  rw [e];exact pK [] 1 0 (.k 2 (aF b0) (.n 1 .nil)) (.c (Kz t) .nil)
theorem ZM (t:Ty) (c:Bool) (n d:List UInt8) (f:n.length<2^33) (hd:d.length<2^33):CO 36 [.agg (fH t),Ω c n d] (.ret (.bool (l_ t c n d))):=by
 rcases tf (aS t) with b0|b0
 ·rcases tf (fF c n d) with b1|b1
  ·rcases tf t.tr with b2|b2
   ·rcases tf ((c==false) && ((n==(ae 0)) && ((d==(ae 1)) && true))) with b3|b3
    ·have e:l_ t c n d=true:=by first|(simp only [l_,qY,b0,b1,b2,b3]<;>rfl)
     rw [e];exact pK [] 4 11 (.c (aA b3) (.k 3 (aV b2) (.k 1 (aA b1) (.k 3 (aA b0) (.n 3 .nil))))) (.c (iY) (.c (eQ c n d (Xqz f (by decide)) (Xqz hd (by decide))) (.c (jC t) .nil)))
    ·have e:l_ t c n d=((c==false) && ((n==(ae 1)) && ((d==(ae 1)) && true))):=by first|(simp only [l_,qY,b0,b1,b2,b3]<;>rfl)
     rw [e];exact pK [] 4 3 (.k 3 (aF b3) (.k 3 (aV b2) (.k 1 (aA b1) (.k 3 (aA b0) (.n 3 .nil))))) (.c (uo) (.c (iY) (.c (eQ c n d (Xqz f (by decide)) (Xqz hd (by decide))) (.c (jC t) .nil))))
   ·have e:l_ t c n d=true:=by first|(simp only [l_,qY,b0,b1,b2]<;>rfl)
    rw [e];exact pK [] 4 15 (.k 1 (di b2) (.k 1 (aA b1) (.k 3 (aA b0) (.n 3 .nil)))) (.c (eQ c n d (Xqz f (by decide)) (Xqz hd (by decide))) (.c (jC t) .nil))
  ·have e:l_ t c n d=false:=by first|(simp only [l_,qY,b0,b1]<;>rfl)
   rw [e];exact pK [] 2 1 (.c (aF b1) (.k 3 (aA b0) (.n 3 .nil))) (.c (eQ c n d (Xqz f (by decide)) (Xqz hd (by decide))) (.c (jC t) .nil))
 ·have e:l_ t c n d=false:=by first|(simp only [l_,qY,b0]<;>rfl)
  rw [e];exact pK [] 2 0 (.k 1 (aF b0) (.n 3 .nil)) (.c (jC t) .nil)
def VA (l:List Sg) (nn:Bool) (x:Nd) (p:Nat × Unit):St:=⟨[(7,.sl (dU l) l.length nn),(8,ω (l.length:Int)),(9,ω (p.1:Int)),(3,.ptr 0 0 0),(4,.ptr 1 0 0)],[(0,⟨[ω x.op,.bool x.neg,.str x.num,.str x.den,.str x.name],0,false,0,0,true⟩),(1,⟨[.bool false,ω 0,ω 0],0,false,0,0,true⟩)],.dead,[]⟩
def Tv:Option Ty→St
 |none=> ⟨[(4,.ptr 0 0 0)],[(0,⟨[.bool false,.int .i64 0,.int .i64 0],0,false,0,0,true⟩)],.dead,[]⟩
 |some t=> ⟨[(4,.ptr 0 0 0)],[(0,⟨[.bool t.tr,.int .i64 t.m,.int .i64 t.d],0,false,0,0,true⟩)],.dead,[]⟩
theorem Tz {nt:Nat} (f:45≤nt) (l:List Sg) (nn:Bool) (x:Nd) (o:l.length<2^40):aC prog ap [] nt (af 0 (ai f68)) fiE (VA l nn x) (Tv) (0,()) ((l.find? fun s=>tZ s x.op x.name).map (·.ty)):=by
 rw [← Ti];refine aC.goL (IZ fun s=>tZ s x.op x.name) (fun _=>none) l (fun _ _=>True) ?_ ?_ l [] () rfl trivial
 ·intro p s r _ n _;have key:match tZ s x.op x.name with
   |true=>ψ nt f68 (VA l nn x (p.length,())) .ret (Tv (some s.ty))
   |false=>ψ nt f68 (VA l nn x (p.length,())) .normal (VA l nn x (p.length+1,())):=by
   have d:ε (δ (p.length:Int)*5) (dU l)=Zd s++dU r:=by rw [n];exact Tn rfl
   have m:p.length+(r.length+1)=l.length:=by rw [n];simp
   generalize p.length=k at*
   have j:k<2^62:=by omega
   have g:decide (((0:Nat):Int)≤(k:Int))=true:=Yq0 (by omega);have e:decide ((k:Int)<(l.length:Int))=true:=Yq0 (by omega);have h:=e;rcases tf (s.op==x.op) with c|c
   ·rcases tf (s.name==x.name) with b1|b1
    ·rcases tf (aS s.ty) with b2|b2
     ·rcases tf (s.op==((24:Nat):Int)) with b3|b3
      ·rcases tf s.ty.tr with b4|b4
       ·rw [show tZ s x.op x.name=false by simp only [tZ,c,b1,b2,b3,b4]<;>rfl];exact pN 68 [] 6 15 (.c (aV b4) (.k 1 (aV b3) (.k 1 (aA b2) (.k 3 (aA b1) (.k 2 (aA c) (.k 8 g (.c e (.c (aA h) .nil)))))))) (.v 43 (.eq (xk j)) (.c (jC s.ty) (.v 11 (.ppt d) .nil))) f
       ·rw [show tZ s x.op x.name=true by simp only [tZ,c,b1,b2,b3,b4]<;>rfl];exact pN 68 [] 6 47 (.k 4 (di b4) (.k 1 (aV b3) (.k 1 (aA b2) (.k 3 (aA b1) (.k 2 (aA c) (.k 8 g (.c e (.c (aA h) .nil)))))))) (.c (jC s.ty) (.v 11 (.ppt d) .nil)) f
      ·rw [show tZ s x.op x.name=true by simp only [tZ,c,b1,b2,b3]<;>rfl];exact pN 68 [] 6 63 (.k 5 (di b3) (.k 1 (aA b2) (.k 3 (aA b1) (.k 2 (aA c) (.k 8 g (.c e (.c (aA h) .nil))))))) (.c (jC s.ty) (.v 11 (.ppt d) .nil)) f
     ·rw [show tZ s x.op x.name=false by simp only [tZ,c,b1,b2]<;>rfl];exact pN 68 [] 5 7 (.k 1 (aF b2) (.k 3 (aA b1) (.k 2 (aA c) (.k 8 g (.c e (.c (aA h) .nil)))))) (.v 43 (.eq (xk j)) (.c (jC s.ty) (.v 11 (.ppt d) .nil))) f
    ·rw [show tZ s x.op x.name=false by simp only [tZ,c,b1]<;>rfl];exact pN 68 [] 5 3 (.k 2 (aF b1) (.k 2 (aA c) (.k 8 g (.c e (.c (aA h) .nil))))) (.v 43 (.eq (xk j)) (.v 11 (.ppt d) .nil)) f
   ·rw [show tZ s x.op x.name=false by simp only [tZ,c]<;>rfl];exact pN 68 [] 5 1 (.k 3 (aF c) (.k 8 g (.c e (.c (aA h) .nil)))) (.v 43 (.eq (xk j)) (.v 11 (.ppt d) .nil)) f
  unfold IZ;cases i:tZ s x.op x.name with
  |true=>rw [i] at key;simp only [i,if_true];exact key
  |false=>rw [i] at key;simp only [i,Xx4,if_false];exact ⟨key,trivial⟩
 ·intro _ _;have c:decide ((l.length:Int)<(l.length:Int))=false:=Yq1 (by omega);exact pN 68 [] 1 0 (.c (aF c) .nil) (.nil) f
theorem ami (l:List Sg) (nn:Bool) (x:Nd) (c:aN prog ap [] 45 (.block 0 (.loop (af 0 (ai f68)))) ⟨[(0,.sl (dU l) l.length nn),(1,.agg [ω x.op,.bool x.neg,.str x.num,.str x.den,.str x.name]),(3,.ptr 0 0 0),(4,.ptr 1 0 0),(6,.dead),(7,.sl (dU l) l.length nn),(8,ω (l.length:Int)),(9,ω 0),(10,.dead),(40,.dead)],[(0,⟨[ω x.op,.bool x.neg,.str x.num,.str x.den,.str x.name],0,false,0,0,true⟩),(1,⟨[.bool false,ω 0,ω 0],0,false,0,0,true⟩)],.dead,[]⟩ (.normal) ⟨[(4,.ptr 0 0 0)],[(0,⟨[.bool false,ω 0,ω 0],0,false,0,0,true⟩)],.dead,[]⟩):CO 68 [.sl (dU l) l.length nn,.agg [ω x.op,.bool x.neg,.str x.num,.str x.den,.str x.name]] (.pan (.ifc 34 (ω 12))):=pK [0] 0 0 .nil (.l c .nil)
theorem amj (l:List Sg) (nn:Bool) (x:Nd) (t:Ty) (c:aN prog ap [] 45 (.block 0 (.loop (af 0 (ai f68)))) ⟨[(0,.sl (dU l) l.length nn),(1,.agg [ω x.op,.bool x.neg,.str x.num,.str x.den,.str x.name]),(3,.ptr 0 0 0),(4,.ptr 1 0 0),(6,.dead),(7,.sl (dU l) l.length nn),(8,ω (l.length:Int)),(9,ω 0),(10,.dead),(40,.dead)],[(0,⟨[ω x.op,.bool x.neg,.str x.num,.str x.den,.str x.name],0,false,0,0,true⟩),(1,⟨[.bool false,ω 0,ω 0],0,false,0,0,true⟩)],.dead,[]⟩ (.ret) ⟨[(4,.ptr 0 0 0)],[(0,⟨[.bool t.tr,ω t.m,ω t.d],0,false,0,0,true⟩)],.dead,[]⟩):CO 68 [.sl (dU l) l.length nn,.agg [ω x.op,.bool x.neg,.str x.num,.str x.den,.str x.name]] (.ret (.agg [.bool t.tr,ω t.m,ω t.d])):=pK [0] 0 0 (.n 3 .nil) (.l c .nil)
theorem Zk (l:List Sg) (nn:Bool) (x:Nd) (t:Ty) (c:l.length<2^40) (e:Ir l x.op x.name=some t):CO 68 [.sl (dU l) l.length nn,.agg (qB x)] (.ret (.agg (fH t))):=by
 have hloop:=fun nt (hn:45≤nt)=>Tz hn l nn x c
 unfold Ir at e;rw [e] at hloop;have f:=aC.blk (id:=0) (e':= .ret) (s:=VA l nn x (0,())) (s':=Tv (some t)) hloop (by simp [fiE]) rfl (aP.refl _) (aP.refl _);exact amj l nn x t (fun nt d=>(f nt d).weak (aP.of ⟨rfl,rfl,rfl,rfl,rfl,trivial⟩) (aP.refl _))
theorem Zj (l:List Sg) (nn:Bool) (x:Nd) (c:l.length<2^40) (e:Ir l x.op x.name=none):CO 68 [.sl (dU l) l.length nn,.agg (qB x)] (.pan (.ifc 34 (ω 12))):=by
 have hloop:=fun nt (hn:45≤nt)=>Tz hn l nn x c
 unfold Ir at e;rw [e] at hloop;have f:=aC.blk (id:=0) (e':= .normal) (s:=VA l nn x (0,())) (s':=Tv none) hloop (by simp [fiE]) rfl (aP.refl _) (aP.refl _);exact ami l nn x (fun nt d=>(f nt d).weak (aP.of ⟨rfl,rfl,rfl,rfl,rfl,trivial⟩) (aP.refl _))
theorem afV (s:Sg) {op:Int} (c:List UInt8) (h:dX op=true):jL s op c=tZ s op c:=by
 unfold jL tZ;rw [h,Xqp];cases d:s.op==op with
 |false=>rfl
 |true=>
  have:s.op=op:=by simpa using d
  rw [this]
theorem Q4 (l:List Sg) {op:Int} (c:List UInt8) (h:dX op=true):fC l op c=Ir l op c:=by
 unfold fC Ir;congr 1;congr 1;funext s;exact afV s c h
theorem XG (l:List Sg) {op:Int} (c:List UInt8) (h:dX op=false):fC l op c=none:=by
 unfold fC;have:(l.find? fun s=>jL s op c)=none:=by
  rw [List.find?_eq_none];intro s _;unfold jL;rw [h];cases s.op==op<;>cases s.name==c<;>simp
 rw [this];rfl
def kH (a b:Ty):Bool:=((a.tr==b.tr) && ((a.m==b.m) && ((a.d==b.d) && true)))
def pG (ts:List Ty):Bool:=ts.all fun t=> !t.tr
def dP:Nat→Ty→List Ty→Bool × Ty
 |1,_,[]=>(true,⟨false,1,0⟩)
 |2,_,[]=>(true,⟨false,0,1⟩)
 |3,_,[]=>(true,⟨false,0,0⟩)
 |4,_,[]=>(true,⟨true,0,0⟩)
 |5,sg,[]=>(true,sg)
 |6,sg,[]=>(true,sg)
 |7,sg,[]=>(true,sg)
 |8,sg,[]=>(true,sg)
 |9,_,[a,b]=>(kH a b && pG [a,b],a)
 |10,_,[a,b]=>(kH a b && pG [a,b],a)
 |11,_,[a,b]=>(pG [a,b] && aS ⟨false,γ .i64 (a.m+b.m),γ .i64 (a.d+b.d)⟩,⟨false,γ .i64 (a.m+b.m),γ .i64 (a.d+b.d)⟩)
 |12,_,[a,b]=>(pG [a,b] && aS ⟨false,γ .i64 (a.m - b.m),γ .i64 (a.d - b.d)⟩,⟨false,γ .i64 (a.m - b.m),γ .i64 (a.d - b.d)⟩)
 |13,_,[a,b]=>(kH a b && pG [a,b],a)
 |14,_,[a,b]=>(kH a b && pG [a,b],a)
 |15,_,[a,b,c]=>(a.tr && kH b c,b)
 |16,_,[a,b]=>(kH a b && pG [a,b],⟨true,0,0⟩)
 |17,_,[a,b]=>(kH a b,⟨true,0,0⟩)
 |18,_,[a,b]=>(a.tr && b.tr,⟨true,0,0⟩)
 |19,_,[a,b]=>(a.tr && b.tr,⟨true,0,0⟩)
 |20,_,[a]=>(a.tr,⟨true,0,0⟩)
 |21,_,[a]=>(pG [a],a)
 |22,_,[a]=>(pG [a],a)
 |23,_,[a]=>(pG [a],a)
 |24,sg,[a]=>(kH a sg,sg)
 |_,_,_=>(false,⟨false,0,0⟩)
def ofR (named fo:Bool) (sg:Ty) (op:Nat) (ts:List Ty):Ty × Int:=cond (named && !fo) (⟨false,0,0⟩,12) (cond (dP op sg ts).1 ((dP op sg ts).2,0) (⟨false,0,0⟩,13))
theorem qF {t:Ty} (h:aS t=true): -3≤t.m∧t.m≤3∧ -3≤t.d∧t.d≤3:=by
 unfold aS at h;cases c:t.tr with
 |true=>rw [c] at h;simp at h;omega
 |false=>rw [c] at h;simpa [jv] using h
def iZ (l:List Ty):List AV:=l.flatMap fH
def gU (l:List Sg) (x:Nd) (ts:List Ty):Ty × Int:=ofR (dX x.op) (fC l x.op x.name).isSome ((fC l x.op x.name).getD zT) x.op.toNat ts
theorem Md {ts:List Ty} {n:Nat} (h:ts.length=n) (c:n=0):ts= []:=List.eq_nil_of_length_eq_zero (h.trans c)
theorem Ho {ts:List Ty} {n:Nat} (h:ts.length=n) (c:n=1):∃ a,ts= [a]:=List.length_eq_one_iff.mp (h.trans c)
theorem r_ {ts:List Ty} {n:Nat} (h:ts.length=n) (c:n=2):∃ a b,ts= [a,b]:=by
 subst c
 match ts,h with
 | [a,b],_=>exact ⟨a,b,rfl⟩
theorem akk {ts:List Ty} {n:Nat} (h:ts.length=n) (d:n=3):∃ a b c,ts= [a,b,c]:=by
 subst d
 match ts,h with
 | [a,b,c],_=>exact ⟨a,b,c,rfl⟩
def aT:List Sg:= [⟨5,zcc3_1,⟨false,1,0⟩⟩,⟨5,[107,105,100,115],⟨false,0,0⟩⟩,⟨5,zcc3_0,⟨true,0,0⟩⟩,⟨5,[115,116,97,121],⟨false,0,1⟩⟩,⟨6,[112,111,111,114],⟨true,0,0⟩⟩,⟨6,[116,97,120],⟨false,1,0⟩⟩,⟨7,[112,111,111,114],⟨true,0,0⟩⟩,⟨7,[116,97,120],⟨false,1,0⟩⟩,⟨8,[112,111,111,114],⟨true,0,0⟩⟩,⟨8,[116,97,120],⟨false,1,0⟩⟩,⟨24,zcc3_2,⟨false,1,0⟩⟩,⟨24,[116,101,114,109],⟨false,0,1⟩⟩]
def tT:Ty:=⟨true,0,0⟩
inductive Tm (l:List Sg):List Nd→Ty→Prop where
 |n0 {x:Nd} {t:Ty}:aO x=0→dM x.op=0→gU l x []=(t,0)→Tm l [x] t
 |n1 {x:Nd} {t ta:Ty} {a:List Nd}:Tm l a ta→aO x=0→dM x.op=1→gU l x [ta]=(t,0)→Tm l (a++ [x]) t
 |n2 {x:Nd} {t ta tb:Ty} {a b:List Nd}:Tm l a ta→Tm l b tb→aO x=0→dM x.op=2→gU l x [ta,tb]=(t,0)→Tm l (a++b++ [x]) t
 |n3 {x:Nd} {t ta tb tc:Ty} {a b c:List Nd}:Tm l a ta→Tm l b tb→Tm l c tc→aO x=0→dM x.op=3→gU l x [ta,tb,tc]=(t,0)→Tm l (a++b++c++ [x]) t
theorem Tm.ne {l:List Sg} {e:List Nd} {t:Ty} (h:Tm l e t):e ≠ []:=by cases h<;>simp
def qN (op:Int) (q:RQ):Nd:=⟨op,q.neg,ae q.n,ae q.d,[]⟩
theorem YL {q:RQ} (h:q.ok) (e:q.n<64) (hd:q.d<64):fF q.neg (ae q.n) (ae q.d)=true:=by
 unfold fF;rw [qP q h,aH,aH];have d:g_ q.n≤6:=jA (by omega);have c:g_ q.d≤6:=jA (by omega);simp;omega
theorem F9 {op:Int} {q:RQ} (e:q.n<64) (hd:q.d<64):(qN op q).sm:=by
 have d:=iO (x:=q.n) (by omega);have c:=iO (x:=q.d) (by omega);exact ⟨by show (ae q.n).length<_;omega,by show (ae q.d).length<_;omega⟩
theorem oC {q:RQ} (h:q.ok) (f:q.n<64) (hd:q.d<64):∀ op:Int,op=1∨op=2∨op=3→aO (qN op q)=0:=by
 intro op c;have d:=YL h f hd;have e:jo (qN op q)=true:=by rcases c with rfl|rfl|rfl<;>exact d
 unfold aO;rw [e];rcases c with rfl|rfl|rfl<;>rfl
theorem GN:CO 183 [.sl (dU aT) 12 true,ω 5,.str zcc3_1] (.ret (.tup [.agg [.bool false,ω 1,ω 0],.bool true])):=lu (fJ aT true 5 zcc3_1 (by decide)) (by kernel_rfl)
theorem GR:CO 183 [.sl (dU aT) 12 true,ω 5,.str [107,105,100,115]] (.ret (.tup [.agg [.bool false,ω 0,ω 0],.bool true])):=lu (fJ aT true 5 [107,105,100,115] (by decide)) (by kernel_rfl)
theorem GU:CO 183 [.sl (dU aT) 12 true,ω 5,.str zcc3_0] (.ret (.tup [.agg [.bool true,ω 0,ω 0],.bool true])):=lu (fJ aT true 5 zcc3_0 (by decide)) (by kernel_rfl)
theorem GV:CO 183 [.sl (dU aT) 12 true,ω 5,.str [115,116,97,121]] (.ret (.tup [.agg [.bool false,ω 0,ω 1],.bool true])):=lu (fJ aT true 5 [115,116,97,121] (by decide)) (by kernel_rfl)
theorem GX:CO 183 [.sl (dU aT) 12 true,ω 6,.str [112,111,111,114]] (.ret (.tup [.agg [.bool true,ω 0,ω 0],.bool true])):=lu (fJ aT true 6 [112,111,111,114] (by decide)) (by kernel_rfl)
theorem GY:CO 183 [.sl (dU aT) 12 true,ω 6,.str [116,97,120]] (.ret (.tup [.agg [.bool false,ω 1,ω 0],.bool true])):=lu (fJ aT true 6 [116,97,120] (by decide)) (by kernel_rfl)
theorem GZ:CO 183 [.sl (dU aT) 12 true,ω 7,.str [112,111,111,114]] (.ret (.tup [.agg [.bool true,ω 0,ω 0],.bool true])):=lu (fJ aT true 7 [112,111,111,114] (by decide)) (by kernel_rfl)
theorem G5:CO 183 [.sl (dU aT) 12 true,ω 7,.str [116,97,120]] (.ret (.tup [.agg [.bool false,ω 1,ω 0],.bool true])):=lu (fJ aT true 7 [116,97,120] (by decide)) (by kernel_rfl)
theorem G6:CO 183 [.sl (dU aT) 12 true,ω 8,.str [112,111,111,114]] (.ret (.tup [.agg [.bool true,ω 0,ω 0],.bool true])):=lu (fJ aT true 8 [112,111,111,114] (by decide)) (by kernel_rfl)
theorem G7:CO 183 [.sl (dU aT) 12 true,ω 8,.str [116,97,120]] (.ret (.tup [.agg [.bool false,ω 1,ω 0],.bool true])):=lu (fJ aT true 8 [116,97,120] (by decide)) (by kernel_rfl)
theorem qc:CO 183 [.sl (dU aT) 12 true,ω 24,.str zcc3_2] (.ret (.tup [.agg [.bool false,ω 1,ω 0],.bool true])):=lu (fJ aT true 24 zcc3_2 (by decide)) (by kernel_rfl)
theorem qf:CO 183 [.sl (dU aT) 12 true,ω 24,.str [116,101,114,109]] (.ret (.tup [.agg [.bool false,ω 0,ω 1],.bool true])):=lu (fJ aT true 24 [116,101,114,109] (by decide)) (by kernel_rfl)
def pW (op:Int):Nd:=⟨op,false,[],[],[]⟩
theorem qR (op:Int):(pW op).sm:=⟨by show 0<_;omega,by show 0<_;omega⟩
theorem MV {v:Int} (h:0≤v) (d:v<64):(nD v).ok∧(nD v).n<64∧(nD v).d<64:=by
 refine ⟨DR (fun c=> ?_),by simp only [nD];omega,by simp [nD]⟩;simp only [decide_eq_true_eq] at c;omega
theorem NJ {x:Nd} (h:x.sm):∀ y ∈ [x],y.sm:=by intro y c;simp at c;subst c;exact h
theorem QJ (xs:List Int) (nn:Bool) (k:Nat) (h:xs.length<2^63) (i:k≤xs.length):∃ (e:List Nd) (k2:Nat),k2≤xs.length∧Tm aT e ⟨false,1,0⟩∧(∀ x ∈ e,x.sm)∧e.length≤1∧aG prog ap 184 [.ptr 0 0 0,.agg (fH ⟨false,1,0⟩)] [dB xs nn k] (.ret (.own (a_ e) e.length 5)) [dB xs nn k2]:=by
 obtain ⟨w,k1,c,j,f,d,_,g⟩:=vU xs nn k h i (-8) (by omega) (by omega);exact ⟨[qN 1 w],k1,c,.n0 (oC j f d 1 (by simp)) rfl (by kernel_rfl),NJ (F9 f d),by simp,pK [] 1 1 (.n 7 .nil) (.c g .nil)⟩
theorem QI (xs:List Int) (nn:Bool) (k:Nat) (h:xs.length<2^63) (i:k≤xs.length):∃ (e:List Nd) (k2:Nat),k2≤xs.length∧Tm aT e ⟨false,0,1⟩∧(∀ x ∈ e,x.sm)∧e.length≤1∧aG prog ap 184 [.ptr 0 0 0,.agg (fH ⟨false,0,1⟩)] [dB xs nn k] (.ret (.own (a_ e) e.length 5)) [dB xs nn k2]:=by
 obtain ⟨w,k1,c,j,f,d,_,g⟩:=vU xs nn k h i (-8) (by omega) (by omega);exact ⟨[qN 2 w],k1,c,.n0 (oC j f d 2 (by simp)) rfl (by kernel_rfl),NJ (F9 f d),by simp,pK [] 2 2 (.n 8 .nil) (.c g .nil)⟩
theorem QK (xs:List Int) (nn:Bool) (k:Nat) (h:xs.length<2^63) (i:k≤xs.length):∃ (e:List Nd) (k2:Nat),k2≤xs.length∧Tm aT e ⟨false,0,0⟩∧(∀ x ∈ e,x.sm)∧e.length≤1∧aG prog ap 184 [.ptr 0 0 0,.agg (fH ⟨false,0,0⟩)] [dB xs nn k] (.ret (.own (a_ e) e.length 5)) [dB xs nn k2]:=by
 obtain ⟨w,k1,c,j,f,d,_,g⟩:=vU xs nn k h i (-8) (by omega) (by omega);exact ⟨[qN 3 w],k1,c,.n0 (oC j f d 3 (by simp)) rfl (by kernel_rfl),NJ (F9 f d),by simp,pK [] 4 0 (.n 12 .nil) (.c g .nil)⟩
theorem QL (xs:List Int) (nn:Bool) (k:Nat) (g:xs.length<2^63) (B:k≤xs.length):∃ (e:List Nd) (k2:Nat),k2≤xs.length∧Tm aT e ⟨false,1, -1⟩∧(∀ x ∈ e,x.sm)∧e.length≤5∧aG prog ap 184 [.ptr 0 0 0,.agg (fH ⟨false,1, -1⟩)] [dB xs nn k] (.ret (.own (a_ e) e.length 5)) [dB xs nn k2]:=by
 obtain ⟨w,k1,i,D,m,j,_,y⟩:=vU xs nn k g B (-8) (by omega) (by omega);obtain ⟨c,k2,u,h,E⟩:=dG xs nn k1 3 g i (by omega) (by omega);obtain ⟨d,k3,A,f,F⟩:=dG xs nn k2 3 g h (by omega) (by omega);have K:γ .i64 (((1:Nat):Int)+(c:Int))=1+(c:Int):=bH (by omega) (by omega);have C:γ .i64 (((1:Nat):Int)+(d:Int))=1+(d:Int):=bH (by omega) (by omega);have z:=kZ (1+(c:Int)) (by omega) (by omega);have M:=kZ (1+(d:Int)) (by omega) (by omega);obtain ⟨I,r,q⟩:=MV (v:=1+(c:Int)) (by omega) (by omega);obtain ⟨N,o,n⟩:=MV (v:=1+(d:Int)) (by omega) (by omega);have G:Tm aT ([qN 3 w]++ [qN 1 (nD (1+(c:Int)))]++ [pW 11]) ⟨false,1,0⟩:= .n2 (.n0 (t:=⟨false,0,0⟩) (oC D m j 3 (by simp)) rfl (by kernel_rfl)) (.n0 (t:=⟨false,1,0⟩) (oC I r q 1 (by simp)) rfl (by kernel_rfl)) (by kernel_rfl) rfl (by kernel_rfl);have H:Tm aT ([qN 3 w]++ [qN 1 (nD (1+(c:Int)))]++ [pW 11]++ [qN 2 (nD (1+(d:Int)))]++ [pW 12]) ⟨false,1, -1⟩:= .n2 G (.n0 (t:=⟨false,0,1⟩) (oC N o n 2 (by simp)) rfl (by kernel_rfl)) (by kernel_rfl) rfl (by kernel_rfl);have J:∀ x ∈ [qN 3 w]++ [qN 1 (nD (1+(c:Int)))]++ [pW 11]++ [qN 2 (nD (1+(d:Int)))]++ [pW 12],x.sm:=by
  intro x p;simp only [Xz6,Xjp] at p;rcases p with (((rfl|rfl)|rfl)|rfl)|rfl
  ·exact F9 m j
  ·exact F9 r q
  ·exact qR _
  ·exact F9 o n
  ·exact qR _
 generalize nD (1+(c:Int))=q1 at*
 generalize nD (1+(d:Int))=q2 at*
 exact ⟨_,k3,f,H,J,by simp,pK [] 12 92 (.n 28 .nil) (.c (show CO 48 [ω (γ .i64 (((1:Nat):Int)+(d:Int)))] (.ret (qA q2)) by rw [C];exact M) (.c F (.c (show CO 48 [ω (γ .i64 (((1:Nat):Int)+(c:Int)))] (.ret (qA q1)) by rw [K];exact z) (.c E (.c y .nil)))))⟩
theorem af7 (xs:List Int) (nn:Bool) (k:Nat) (m:xs.length<2^63) (o:k≤xs.length):∃ (e:List Nd) (k2:Nat),k2≤xs.length∧Tm aT e ⟨false,1,0⟩∧(∀ x ∈ e,x.sm)∧e.length≤1∧aG prog ap 145 [.sl (dU aT) 12 true,.ptr 0 0 0,.agg (fH ⟨false,1,0⟩)] [dB xs nn k] (.ret (.own (a_ e) e.length 5)) [dB xs nn k2]:=by
 obtain ⟨r,k1,p,c,f⟩:=dG xs nn k 6 m o (by omega) (by omega);have this:r=0∨r=1∨r=2∨r=3∨r=4∨r=5:=by omega
 rcases this with rfl|rfl|rfl|rfl|rfl|rfl
 ·exact ⟨[⟨5,false,[],[],zcc3_1⟩],k1,c,.n0 (by kernel_rfl) rfl (by kernel_rfl),NJ ⟨by simp,by simp⟩,by simp,pK [] 51 1240180127100655 (.n 276 .nil) (.c f (.c qf (.c qc (.c G7 (.c G6 (.c G5 (.c GZ (.c GY (.c GX (.c GV (.c GU (.c GR (.c GN .nil)))))))))))))⟩
 ·exact ⟨[⟨6,false,[],[],[116,97,120]⟩],k1,c,.n0 (by kernel_rfl) rfl (by kernel_rfl),NJ ⟨by simp,by simp⟩,by simp,pK [] 51 1240180127100655 (.n 276 .nil) (.c f (.c qf (.c qc (.c G7 (.c G6 (.c G5 (.c GZ (.c GY (.c GX (.c GV (.c GU (.c GR (.c GN .nil)))))))))))))⟩
 ·exact ⟨[⟨7,false,[],[],[116,97,120]⟩],k1,c,.n0 (by kernel_rfl) rfl (by kernel_rfl),NJ ⟨by simp,by simp⟩,by simp,pK [] 51 1240180127100655 (.n 276 .nil) (.c f (.c qf (.c qc (.c G7 (.c G6 (.c G5 (.c GZ (.c GY (.c GX (.c GV (.c GU (.c GR (.c GN .nil)))))))))))))⟩
 ·exact ⟨[⟨8,false,[],[],[116,97,120]⟩],k1,c,.n0 (by kernel_rfl) rfl (by kernel_rfl),NJ ⟨by simp,by simp⟩,by simp,pK [] 51 1240180127100655 (.n 276 .nil) (.c f (.c qf (.c qc (.c G7 (.c G6 (.c G5 (.c GZ (.c GY (.c GX (.c GV (.c GU (.c GR (.c GN .nil)))))))))))))⟩
 ·obtain ⟨e,k2,d,n,j,i,g⟩:=QJ xs nn k1 m c;have h:aG prog ap 145 [.sl (dU aT) 12 true,.ptr 0 0 0,.agg (fH ⟨false,1,0⟩)] [dB xs nn k] (.ret (.own (ν (e.length*5) (a_ e)) e.length 5)) [dB xs nn k2]:=pK [] 52 114280220258031 (.n 274 .nil) (.c g (.c f (.c qf (.c qc (.c G7 (.c G6 (.c G5 (.c GZ (.c GY (.c GX (.c GV (.c GU (.c GR (.c GN .nil))))))))))))));rw [υ (by rw [aW];omega)] at h;exact ⟨e,k2,d,n,j,i,h⟩
 ·obtain ⟨e,k2,d,n,j,i,g⟩:=QJ xs nn k1 m c;have h:aG prog ap 145 [.sl (dU aT) 12 true,.ptr 0 0 0,.agg (fH ⟨false,1,0⟩)] [dB xs nn k] (.ret (.own (ν (e.length*5) (a_ e)) e.length 5)) [dB xs nn k2]:=pK [] 52 114280220258031 (.n 274 .nil) (.c g (.c f (.c qf (.c qc (.c G7 (.c G6 (.c G5 (.c GZ (.c GY (.c GX (.c GV (.c GU (.c GR (.c GN .nil))))))))))))));rw [υ (by rw [aW];omega)] at h;exact ⟨e,k2,d,n,j,i,h⟩
theorem af6 (xs:List Int) (nn:Bool) (k:Nat) (m:xs.length<2^63) (o:k≤xs.length):∃ (e:List Nd) (k2:Nat),k2≤xs.length∧Tm aT e ⟨false,0,1⟩∧(∀ x ∈ e,x.sm)∧e.length≤1∧aG prog ap 145 [.sl (dU aT) 12 true,.ptr 0 0 0,.agg (fH ⟨false,0,1⟩)] [dB xs nn k] (.ret (.own (a_ e) e.length 5)) [dB xs nn k2]:=by
 obtain ⟨r,k1,p,c,f⟩:=dG xs nn k 3 m o (by omega) (by omega);have this:r=0∨r=1∨r=2:=by omega
 rcases this with rfl|rfl|rfl
 ·exact ⟨[⟨5,false,[],[],[115,116,97,121]⟩],k1,c,.n0 (by kernel_rfl) rfl (by kernel_rfl),NJ ⟨by simp,by simp⟩,by simp,pK [] 51 1239076303730551 (.n 246 .nil) (.c f (.c qf (.c qc (.c G7 (.c G6 (.c G5 (.c GZ (.c GY (.c GX (.c GV (.c GU (.c GR (.c GN .nil)))))))))))))⟩
 ·obtain ⟨e,k2,d,n,j,i,g⟩:=QI xs nn k1 m c;have h:aG prog ap 145 [.sl (dU aT) 12 true,.ptr 0 0 0,.agg (fH ⟨false,0,1⟩)] [dB xs nn k] (.ret (.own (ν (e.length*5) (a_ e)) e.length 5)) [dB xs nn k2]:=pK [] 52 113176396887927 (.n 244 .nil) (.c g (.c f (.c qf (.c qc (.c G7 (.c G6 (.c G5 (.c GZ (.c GY (.c GX (.c GV (.c GU (.c GR (.c GN .nil))))))))))))));rw [υ (by rw [aW];omega)] at h;exact ⟨e,k2,d,n,j,i,h⟩
 ·obtain ⟨e,k2,d,n,j,i,g⟩:=QI xs nn k1 m c;have h:aG prog ap 145 [.sl (dU aT) 12 true,.ptr 0 0 0,.agg (fH ⟨false,0,1⟩)] [dB xs nn k] (.ret (.own (ν (e.length*5) (a_ e)) e.length 5)) [dB xs nn k2]:=pK [] 52 113176396887927 (.n 244 .nil) (.c g (.c f (.c qf (.c qc (.c G7 (.c G6 (.c G5 (.c GZ (.c GY (.c GX (.c GV (.c GU (.c GR (.c GN .nil))))))))))))));rw [υ (by rw [aW];omega)] at h;exact ⟨e,k2,d,n,j,i,h⟩
theorem X4 (xs:List Int) (nn:Bool) (k:Nat) (m:xs.length<2^63) (o:k≤xs.length):∃ (e:List Nd) (k2:Nat),k2≤xs.length∧Tm aT e ⟨false,0,0⟩∧(∀ x ∈ e,x.sm)∧e.length≤1∧aG prog ap 145 [.sl (dU aT) 12 true,.ptr 0 0 0,.agg (fH ⟨false,0,0⟩)] [dB xs nn k] (.ret (.own (a_ e) e.length 5)) [dB xs nn k2]:=by
 obtain ⟨r,k1,p,c,f⟩:=dG xs nn k 3 m o (by omega) (by omega);have this:r=0∨r=1∨r=2:=by omega
 rcases this with rfl|rfl|rfl
 ·exact ⟨[⟨5,false,[],[],[107,105,100,115]⟩],k1,c,.n0 (by kernel_rfl) rfl (by kernel_rfl),NJ ⟨by simp,by simp⟩,by simp,pK [] 51 1239076303728375 (.n 246 .nil) (.c f (.c qf (.c qc (.c G7 (.c G6 (.c G5 (.c GZ (.c GY (.c GX (.c GV (.c GU (.c GR (.c GN .nil)))))))))))))⟩
 ·obtain ⟨e,k2,d,n,j,i,g⟩:=QK xs nn k1 m c;have h:aG prog ap 145 [.sl (dU aT) 12 true,.ptr 0 0 0,.agg (fH ⟨false,0,0⟩)] [dB xs nn k] (.ret (.own (ν (e.length*5) (a_ e)) e.length 5)) [dB xs nn k2]:=pK [] 52 113176396885751 (.n 244 .nil) (.c g (.c f (.c qf (.c qc (.c G7 (.c G6 (.c G5 (.c GZ (.c GY (.c GX (.c GV (.c GU (.c GR (.c GN .nil))))))))))))));rw [υ (by rw [aW];omega)] at h;exact ⟨e,k2,d,n,j,i,h⟩
 ·obtain ⟨e,k2,d,n,j,i,g⟩:=QK xs nn k1 m c;have h:aG prog ap 145 [.sl (dU aT) 12 true,.ptr 0 0 0,.agg (fH ⟨false,0,0⟩)] [dB xs nn k] (.ret (.own (ν (e.length*5) (a_ e)) e.length 5)) [dB xs nn k2]:=pK [] 52 113176396885751 (.n 244 .nil) (.c g (.c f (.c qf (.c qc (.c G7 (.c G6 (.c G5 (.c GZ (.c GY (.c GX (.c GV (.c GU (.c GR (.c GN .nil))))))))))))));rw [υ (by rw [aW];omega)] at h;exact ⟨e,k2,d,n,j,i,h⟩
theorem af9 (xs:List Int) (nn:Bool) (k:Nat) (i:xs.length<2^63) (j:k≤xs.length):∃ (e:List Nd) (k2:Nat),k2≤xs.length∧Tm aT e ⟨true,0,0⟩∧(∀ x ∈ e,x.sm)∧e.length≤1∧aG prog ap 145 [.sl (dU aT) 12 true,.ptr 0 0 0,.agg (fH ⟨true,0,0⟩)] [dB xs nn k] (.ret (.own (a_ e) e.length 5)) [dB xs nn k2]:=by
 obtain ⟨r,k1,m,c,f⟩:=dG xs nn k 6 i j (by omega) (by omega);have this:r=0∨r=1∨r=2∨r=3∨r=4∨r=5:=by omega
 rcases this with rfl|rfl|rfl|rfl|rfl|rfl
 ·exact ⟨[⟨5,false,[],[],zcc3_0⟩],k1,c,.n0 (by kernel_rfl) rfl (by kernel_rfl),NJ ⟨by simp,by simp⟩,by simp,pK [] 51 1239145292689271 (.n 276 .nil) (.c f (.c qf (.c qc (.c G7 (.c G6 (.c G5 (.c GZ (.c GY (.c GX (.c GV (.c GU (.c GR (.c GN .nil)))))))))))))⟩
 ·exact ⟨[⟨6,false,[],[],[112,111,111,114]⟩],k1,c,.n0 (by kernel_rfl) rfl (by kernel_rfl),NJ ⟨by simp,by simp⟩,by simp,pK [] 51 1239145292689271 (.n 276 .nil) (.c f (.c qf (.c qc (.c G7 (.c G6 (.c G5 (.c GZ (.c GY (.c GX (.c GV (.c GU (.c GR (.c GN .nil)))))))))))))⟩
 ·exact ⟨[⟨7,false,[],[],[112,111,111,114]⟩],k1,c,.n0 (by kernel_rfl) rfl (by kernel_rfl),NJ ⟨by simp,by simp⟩,by simp,pK [] 51 1239145292689271 (.n 276 .nil) (.c f (.c qf (.c qc (.c G7 (.c G6 (.c G5 (.c GZ (.c GY (.c GX (.c GV (.c GU (.c GR (.c GN .nil)))))))))))))⟩
 ·exact ⟨[⟨8,false,[],[],[112,111,111,114]⟩],k1,c,.n0 (by kernel_rfl) rfl (by kernel_rfl),NJ ⟨by simp,by simp⟩,by simp,pK [] 51 1239145292689271 (.n 276 .nil) (.c f (.c qf (.c qc (.c G7 (.c G6 (.c G5 (.c GZ (.c GY (.c GX (.c GV (.c GU (.c GR (.c GN .nil)))))))))))))⟩
 ·obtain ⟨s,k2,hs,d,h⟩:=dG xs nn k1 2 i c (by omega) (by omega);have this:s=0∨s=1:=by omega
  rcases this with rfl|rfl
  ·have g:=kZ ((0:Nat):Int) (by decide) (by decide);exact ⟨[qN 4 (nD ((0:Nat):Int))],k2,d,.n0 (by kernel_rfl) rfl (by kernel_rfl),NJ (F9 (by decide) (by decide)),by simp,pK [] 52 2365045199531895 (.n 271 .nil) (.c g (.c h (.c f (.c qf (.c qc (.c G7 (.c G6 (.c G5 (.c GZ (.c GY (.c GX (.c GV (.c GU (.c GR (.c GN .nil)))))))))))))))⟩
  ·have g:=kZ ((1:Nat):Int) (by decide) (by decide);exact ⟨[qN 4 (nD ((1:Nat):Int))],k2,d,.n0 (by kernel_rfl) rfl (by kernel_rfl),NJ (F9 (by decide) (by decide)),by simp,pK [] 52 2365045199531895 (.n 271 .nil) (.c g (.c h (.c f (.c qf (.c qc (.c G7 (.c G6 (.c G5 (.c GZ (.c GY (.c GX (.c GV (.c GU (.c GR (.c GN .nil)))))))))))))))⟩
 ·obtain ⟨s,k2,hs,d,h⟩:=dG xs nn k1 2 i c (by omega) (by omega);have this:s=0∨s=1:=by omega
  rcases this with rfl|rfl
  ·have g:=kZ ((0:Nat):Int) (by decide) (by decide);exact ⟨[qN 4 (nD ((0:Nat):Int))],k2,d,.n0 (by kernel_rfl) rfl (by kernel_rfl),NJ (F9 (by decide) (by decide)),by simp,pK [] 52 2365045199531895 (.n 271 .nil) (.c g (.c h (.c f (.c qf (.c qc (.c G7 (.c G6 (.c G5 (.c GZ (.c GY (.c GX (.c GV (.c GU (.c GR (.c GN .nil)))))))))))))))⟩
  ·have g:=kZ ((1:Nat):Int) (by decide) (by decide);exact ⟨[qN 4 (nD ((1:Nat):Int))],k2,d,.n0 (by kernel_rfl) rfl (by kernel_rfl),NJ (F9 (by decide) (by decide)),by simp,pK [] 52 2365045199531895 (.n 271 .nil) (.c g (.c h (.c f (.c qf (.c qc (.c G7 (.c G6 (.c G5 (.c GZ (.c GY (.c GX (.c GV (.c GU (.c GR (.c GN .nil)))))))))))))))⟩
theorem af8 (xs:List Int) (nn:Bool) (k:Nat) (j:xs.length<2^63) (o:k≤xs.length):∃ (e:List Nd) (k2:Nat),k2≤xs.length∧Tm aT e ⟨false,1, -1⟩∧(∀ x ∈ e,x.sm)∧e.length≤5∧aG prog ap 145 [.sl (dU aT) 12 true,.ptr 0 0 0,.agg (fH ⟨false,1, -1⟩)] [dB xs nn k] (.ret (.own (a_ e) e.length 5)) [dB xs nn k2]:=by
 obtain ⟨r,k1,p,d,n⟩:=dG xs nn k 2 j o (by omega) (by omega);have this:r=0∨r=1:=by omega
 rcases this with rfl|rfl
 ·obtain ⟨e,k2,c,m,i,g,f⟩:=QL xs nn k1 j d;have h:aG prog ap 145 [.sl (dU aT) 12 true,.ptr 0 0 0,.agg (fH ⟨false,1, -1⟩)] [dB xs nn k] (.ret (.own (ν (e.length*5) (a_ e)) e.length 5)) [dB xs nn k2]:=pK [] 51 56588198442871 (.n 235 .nil) (.c f (.c n (.c qf (.c qc (.c G7 (.c G6 (.c G5 (.c GZ (.c GY (.c GX (.c GV (.c GU (.c GR (.c GN .nil))))))))))))));rw [υ (by rw [aW];omega)] at h;exact ⟨e,k2,c,m,i,g,h⟩
 ·obtain ⟨e,k2,c,m,i,g,f⟩:=QL xs nn k1 j d;have h:aG prog ap 145 [.sl (dU aT) 12 true,.ptr 0 0 0,.agg (fH ⟨false,1, -1⟩)] [dB xs nn k] (.ret (.own (ν (e.length*5) (a_ e)) e.length 5)) [dB xs nn k2]:=pK [] 51 56588198442871 (.n 235 .nil) (.c f (.c n (.c qf (.c qc (.c G7 (.c G6 (.c G5 (.c GZ (.c GY (.c GX (.c GV (.c GU (.c GR (.c GN .nil))))))))))))));rw [υ (by rw [aW];omega)] at h;exact ⟨e,k2,c,m,i,g,h⟩
theorem PD {n:Nat} (a b:List Nd) (h:n=a.length):ν (n*5) (a_ a)++a_ b=a_ (a++b):=by
 rw [υ (by rw [aW];omega),JQ]
theorem PE {n:Nat} (a:List Nd) (x:Nd) (h:n=a.length):ν (n*5) (a_ a)++ [ω x.op,.bool x.neg,.str x.num,.str x.den,.str x.name]=a_ (a++ [x]):=by
 rw [υ (by rw [aW];omega),JQ];rfl
theorem ahT (x:Nd) (a:List Nd) (d:(Xqc (a.length+1) 1099511627776)=true) (g:(Xqc (a.length*5) (θ (a_ a)))=true) (e:(Xqn (θ (a_ a)) (a.length*5))=true) (c:(Xqc a.length 1099511627776)=true) (f:lit false (Xqn a.length 0)=true):CO 146 [.agg [ω x.op,.bool x.neg,.str x.num,.str x.den,.str x.name],.sl [.sl (a_ a) a.length true] 1 true] (.ret (.own (ν ((a.length+1)*5) (a_ (a++ [x]))) (a.length+1) 5)):=pK [] 3 1 (.k 1 d (.c g (.k 7 e (.c c (.c f (.n 4 .nil)))))) (.b 22 (PE a x rfl) (.b 18 (Eq.refl (a_ a)) .nil))
theorem aey (x:Nd) (a:List Nd) (ne:a ≠ []) (d:a.length<1000):CO 146 [.agg (qB x),.sl [.sl (a_ a) a.length true] 1 true] (.ret (.own (a_ (a++ [x])) (a++ [x]).length 5)):=by
 have hp:0<a.length:=by cases a with|nil=>exact absurd rfl ne|cons _ _=>simp
 have c:Xqn a.length 0=false:=by cases d:a.length with|zero=>omega|succ n=>rfl
 have h:=ahT x a (by first|(simp [aW];done)|(simp [aW];omega)|omega) (by first|(simp [aW];done)|(simp [aW];omega)|omega) (by first|(simp [aW];done)|(simp [aW];omega)|omega) (by first|(simp [aW];done)|(simp [aW];omega)|omega) (aF c);rw [υ (by rw [aW];first|(simp;done)|(simp;omega))] at h;rw [show (a++ [x]).length=a.length+1 by simp [Xxy]];exact h
theorem ahU (x:Nd) (a b:List Nd) (f:(Xqc ((a.length+b.length)+1) 1099511627776)=true) (j:(Xqc ((a.length+b.length)*5) (θ (a_ (a++b))))=true) (g:(Xqn (θ (a_ b)) (b.length*5))=true) (d:(Xqc (a.length+b.length) 1099511627776)=true) (h:(Xqc (a.length*5) (θ (a_ a)))=true) (i:(Xqn (θ (a_ a)) (a.length*5))=true) (c:(Xqc a.length 1099511627776)=true) (e:lit false (Xqn a.length 0)=true):CO 146 [.agg [ω x.op,.bool x.neg,.str x.num,.str x.den,.str x.name],.sl [.sl (a_ a) a.length true,.sl (a_ b) b.length true] 2 true] (.ret (.own (ν (((a.length+b.length)+1)*5) (a_ (a++b++ [x]))) ((a.length+b.length)+1) 5)):=pK [] 4 5 (.k 1 f (.c j (.k 7 g (.c d (.c h (.k 5 i (.c c (.c e (.n 4 .nil))))))))) (.b 22 (PE (a++b) x List.length_append.symm) (.b 18 (PD a b rfl) (.b 18 (Eq.refl (a_ a)) .nil)))
theorem aez (x:Nd) (a b:List Nd) (ne:a ≠ []) (d:a.length<1000) (c:b.length<1000):CO 146 [.agg (qB x),.sl [.sl (a_ a) a.length true,.sl (a_ b) b.length true] 2 true] (.ret (.own (a_ (a++b++ [x])) (a++b++ [x]).length 5)):=by
 have hp:0<a.length:=by cases a with|nil=>exact absurd rfl ne|cons _ _=>simp
 have c:Xqn a.length 0=false:=by cases d:a.length with|zero=>omega|succ n=>rfl
 have h:=ahU x a b (by first|(simp [aW];done)|(simp [aW];omega)|omega) (by first|(simp [aW];done)|(simp [aW];omega)|omega) (by first|(simp [aW];done)|(simp [aW];omega)|omega) (by first|(simp [aW];done)|(simp [aW];omega)|omega) (by first|(simp [aW];done)|(simp [aW];omega)|omega) (by first|(simp [aW];done)|(simp [aW];omega)|omega) (by first|(simp [aW];done)|(simp [aW];omega)|omega) (aF c);rw [υ (by rw [aW];first|(simp;done)|(simp;omega))] at h;rw [show (a++b++ [x]).length=a.length+b.length+1 by simp [Xxy]];exact h
theorem ahV (x:Nd) (a b c:List Nd) (h:(Xqc (((a.length+b.length)+c.length)+1) 1099511627776)=true) (o:(Xqc (((a.length+b.length)+c.length)*5) (θ (a_ (a++b++c))))=true) (j:(Xqn (θ (a_ c)) (c.length*5))=true) (f:(Xqc ((a.length+b.length)+c.length) 1099511627776)=true) (m:(Xqc ((a.length+b.length)*5) (θ (a_ (a++b))))=true) (n:(Xqn (θ (a_ b)) (b.length*5))=true) (e:(Xqc (a.length+b.length) 1099511627776)=true) (g:(Xqc (a.length*5) (θ (a_ a)))=true) (k:(Xqn (θ (a_ a)) (a.length*5))=true) (i:(Xqc a.length 1099511627776)=true) (d:lit false (Xqn a.length 0)=true):CO 146 [.agg [ω x.op,.bool x.neg,.str x.num,.str x.den,.str x.name],.sl [.sl (a_ a) a.length true,.sl (a_ b) b.length true,.sl (a_ c) c.length true] 3 true] (.ret (.own (ν ((((a.length+b.length)+c.length)+1)*5) (a_ (a++b++c++ [x]))) (((a.length+b.length)+c.length)+1) 5)):=pK [] 5 13 (.k 1 h (.c o (.k 7 j (.c f (.c m (.k 5 n (.c e (.c g (.k 5 k (.c i (.c d (.n 4 .nil)))))))))))) (.b 22 (PE (a++b++c) x (by rw [η,η])) (.b 18 (PD (a++b) c List.length_append.symm) (.b 18 (PD a b rfl) (.b 18 (Eq.refl (a_ a)) .nil))))
theorem aeA (x:Nd) (a b c:List Nd) (ne:a ≠ []) (e:a.length<1000) (d:b.length<1000) (f:c.length<1000):CO 146 [.agg (qB x),.sl [.sl (a_ a) a.length true,.sl (a_ b) b.length true,.sl (a_ c) c.length true] 3 true] (.ret (.own (a_ (a++b++c++ [x])) (a++b++c++ [x]).length 5)):=by
 have hp:0<a.length:=by cases a with|nil=>exact absurd rfl ne|cons _ _=>simp
 have d:Xqn a.length 0=false:=by cases e:a.length with|zero=>omega|succ n=>rfl
 have h:=ahV x a b c (by first|(simp [aW];done)|(simp [aW];omega)|omega) (by first|(simp [aW];done)|(simp [aW];omega)|omega) (by first|(simp [aW];done)|(simp [aW];omega)|omega) (by first|(simp [aW];done)|(simp [aW];omega)|omega) (by first|(simp [aW];done)|(simp [aW];omega)|omega) (by first|(simp [aW];done)|(simp [aW];omega)|omega) (by first|(simp [aW];done)|(simp [aW];omega)|omega) (by first|(simp [aW];done)|(simp [aW];omega)|omega) (by first|(simp [aW];done)|(simp [aW];omega)|omega) (by first|(simp [aW];done)|(simp [aW];omega)|omega) (aF d);rw [υ (by rw [aW];first|(simp;done)|(simp;omega))] at h;rw [show (a++b++c++ [x]).length=a.length+b.length+c.length+1 by simp [Xxy]];exact h
def tM:Ty:=⟨false,1,0⟩
def tD:Ty:=⟨false,0,1⟩
def tP:Ty:=⟨false,0,0⟩
def dw (t:Ty):Prop:=t=tM∨t=tD∨t=tP∨t=tT
def bL:Nat→Nat
 |0=>1
 |n+1=>3*bL n+1
def Mk (f:Nat) (pre post:List AV) (t:Ty) (bnd:Nat) (xs:List Int) (nn:Bool) (k:Nat):Prop:=∃ (e:List Nd) (k2:Nat),k2≤xs.length∧Tm aT e t∧(∀ x ∈ e,x.sm)∧e.length≤bnd∧aG prog ap f (pre++ .agg (fH t)::post) [dB xs nn k] (.ret (.own (a_ e) e.length 5)) [dB xs nn k2]
abbrev jW (t:Ty) (lv:Int) (bnd:Nat) (xs:List Int) (nn:Bool) (k:Nat):Prop:=Mk 95 [.sl (dU aT) 12 true,.ptr 0 0 0] [ω lv] t bnd xs nn k
theorem Pz {f:Nat} {pre post:List AV} {t:Ty} {c k k2:Nat} {xs:List Int} {nn:Bool} {e:List Nd} (i:k2≤xs.length) (j:Tm aT e t) (g:∀ x ∈ e,x.sm) (d:e.length≤c) (h:aG prog ap f (pre++ .agg (fH t)::post) [dB xs nn k] (.ret (.own (ν (e.length*5) (a_ e)) e.length 5)) [dB xs nn k2]):Mk f pre post t c xs nn k:=by
 rw [υ (by rw [aW];omega)] at h;exact ⟨e,k2,i,j,g,d,h⟩
theorem Hu (a:List Nd):ν (a.length*5) (a_ a)=a_ a:=υ (by rw [aW];omega)
theorem Z7 (x:Nd) (a:List Nd) (ne:a ≠ []) (c:a.length<1000):CO 146 [.agg (qB x),.sl [.sl (ν (a.length*5) (a_ a)) a.length true] 1 true] (.ret (.own (a_ (a++ [x])) (a++ [x]).length 5)):=by
 simp only [Hu];exact aey x a ne c
theorem ada {a:List Nd} {x:Nd} (e:∀ y ∈ a,y.sm) (d:x.sm):∀ y ∈ a++ [x],y.sm:=by
 intro y c;simp only [Xz6,Xjp] at c;rcases c with c|rfl
 ·exact e y c
 ·exact d
theorem Wl (x:Nd) (a b:List Nd) (ne:a ≠ []) (d:a.length<1000) (c:b.length<1000):CO 146 [.agg (qB x),.sl [.sl (ν (a.length*5) (a_ a)) a.length true,.sl (ν (b.length*5) (a_ b)) b.length true] 2 true] (.ret (.own (a_ (a++b++ [x])) (a++b++ [x]).length 5)):=by
 simp only [Hu];exact aez x a b ne d c
theorem Zl {a b:List Nd} {x:Nd} (f:∀ y ∈ a,y.sm) (e:∀ y ∈ b,y.sm) (d:x.sm):∀ y ∈ a++b++ [x],y.sm:=by
 intro y c;simp only [Xz6,Xjp] at c;rcases c with (c|c)|rfl
 ·exact f y c
 ·exact e y c
 ·exact d
theorem ahW (x:Nd) (a b c:List Nd) (ne:a ≠ []) (f:a.length<1000) (e:b.length<1000) (d:c.length<1000):CO 146 [.agg (qB x),.sl [.sl (ν (a.length*5) (a_ a)) a.length true,.sl (ν (b.length*5) (a_ b)) b.length true,.sl (ν (c.length*5) (a_ c)) c.length true] 3 true] (.ret (.own (a_ (a++b++c++ [x])) (a++b++c++ [x]).length 5)):=by
 simp only [Hu];exact aeA x a b c ne f e d
theorem aml {a b c:List Nd} {x:Nd} (h:∀ y ∈ a,y.sm) (g:∀ y ∈ b,y.sm) (f:∀ y ∈ c,y.sm) (e:x.sm):∀ y ∈ a++b++c++ [x],y.sm:=by
 intro y d;simp only [Xz6,Xjp] at d;rcases d with ((d|d)|d)|rfl
 ·exact h y d
 ·exact g y d
 ·exact f y d
 ·exact e
theorem Rl {t:Ty} (e:dw t) (xs:List Int) (nn:Bool) (k:Nat) (c:xs.length<2^63) (d:k≤xs.length):Mk 145 [.sl (dU aT) 12 true,.ptr 0 0 0] [] t 1 xs nn k:=by
 rcases e with rfl|rfl|rfl|rfl
 ·exact af7 xs nn k c d
 ·exact af6 xs nn k c d
 ·exact X4 xs nn k c d
 ·exact af9 xs nn k c d
theorem aku {t:Ty} (f:dw t) (xs:List Int) (nn:Bool) (k:Nat) (i:xs.length<2^63) (j:k≤xs.length):jW t 0 1 xs nn k:=by
 obtain ⟨e,k2,d,m,h,g,c⟩:=Rl f xs nn k i j;refine Pz d m h g ?_;rcases f with rfl|rfl|rfl|rfl
 ·exact pK [] 2 3 (.n 5 .nil) (.c c .nil)
 ·exact pK [] 2 3 (.n 5 .nil) (.c c .nil)
 ·exact pK [] 2 3 (.n 5 .nil) (.c c .nil)
 ·exact pK [] 2 3 (.n 5 .nil) (.c c .nil)
theorem akw (xs:List Int) (nn:Bool) (k:Nat) (h:xs.length<2^63) (i:k≤xs.length):jW ⟨false,1, -1⟩ 0 5 xs nn k:=by
 obtain ⟨e,k2,c,j,f,d,g⟩:=af8 xs nn k h i;exact Pz c j f d (pK [] 2 3 (.n 5 .nil) (.c g .nil))
def kT:Nat→Ty
 |0=>tM
 |1=>tD
 |_=>tP
theorem kd0:CO 63 [ω 1,ω 0] (.ret (.agg [.bool false,ω 1,ω 0])):=cK (.nil)
theorem kd1:CO 63 [ω 0,ω 1] (.ret (.agg [.bool false,ω 0,ω 1])):=cK (.nil)
theorem kd2:CO 63 [ω 0,ω 0] (.ret (.agg [.bool false,ω 0,ω 0])):=cK (.nil)
theorem kd3:CO 64 [] (.ret (.agg [.bool true,ω 0,ω 0])):=cK (.nil)
theorem kd4:CO 63 [ω 1,ω (-1)] (.ret (.agg [.bool false,ω 1,ω (-1)])):=cK (.nil)
theorem kd5:CO 65 [ω 0,ω 5] (.ret (ω 0)):=cK (.nil)
theorem kd6:CO 32 [ω 0] (.ret (.agg [.bool false,ω 1,ω 0])):=cK (.c kd5 (.c kd4 (.c kd3 (.c kd2 (.c kd1 (.c kd0 .nil))))))
theorem kd7:CO 65 [ω 1,ω 5] (.ret (ω 1)):=cK (.nil)
theorem kd8:CO 32 [ω 1] (.ret (.agg [.bool false,ω 0,ω 1])):=cK (.c kd7 (.c kd4 (.c kd3 (.c kd2 (.c kd1 (.c kd0 .nil))))))
theorem kd9:CO 65 [ω 2,ω 5] (.ret (ω 2)):=cK (.nil)
theorem af2:CO 32 [ω 2] (.ret (.agg [.bool false,ω 0,ω 0])):=cK (.c kd9 (.c kd4 (.c kd3 (.c kd2 (.c kd1 (.c kd0 .nil))))))
theorem XY {u:Nat} (c:u<3):CO 32 [ω (u:Int)] (.ret (.agg (fH (kT u))))∧dw (kT u):=by
 rcases (show u=0∨u=1∨u=2 by omega) with rfl|rfl|rfl
 ·exact ⟨kd6,by simp [dw,kT]⟩
 ·exact ⟨kd8,by simp [dw,kT]⟩
 ·exact ⟨af2,by simp [dw,kT]⟩
theorem pT:dw tT:=by simp [dw]
theorem pP:dw tP:=by simp [dw]
def MS (t:Ty):Prop:=t=tM∨t=tD∨t=tP
theorem MS.pl {t:Ty} (h:MS t):dw t:=by rcases h with rfl|rfl|rfl<;>simp [dw]
theorem aof {xs:List Int} {nn:Bool} {k lv A k1 s k2:Nat} (y:xs.length<2^63) (d:lv<2^62) (P:bL lv<300) (F:∀ t,dw t→∀ k,k≤xs.length→jW t (lv:Int) (bL lv) xs nn k) (p:((A:Int)==((0:Nat):Int))=false) (B:(decide ((((lv+1):Nat):Int)≤((0:Nat):Int)))=false) (j:k2≤xs.length) (q:aG prog ap 97 [.ptr 0 0 0,ω 5] [dB xs nn k] (.ret (ω (A:Int))) [dB xs nn k1]) (z:aG prog ap 97 [.ptr 0 0 0,ω 5] [dB xs nn k1] (.ret (ω (s:Int))) [dB xs nn k2]) (hs:s=0∨s=1):jW tT ((lv+1:Nat):Int) (bL (lv+1)) xs nn k:=by
 obtain ⟨u,k3,n,i,D⟩:=dG xs nn k2 3 y j (by omega) (by omega);obtain ⟨r,k4,O,m,o⟩:=dG xs nn k3 2 y i (by omega) (by omega);have c:=(XY n).1;obtain ⟨E,k5,h,w,m0,N,v⟩:=F (kT u) (XY n).2 k4 m;obtain ⟨G,k6,g,K,M,Q,C⟩:=F (kT u) (XY n).2 k5 h;have f:=Wl (pW (16+(r:Int))) E G w.ne (by omega) (by omega);have J:aO (pW (16+(r:Int)))=0:=by rcases (show u=0∨u=1∨u=2 by omega) with rfl|rfl|rfl<;>rcases (show r=0∨r=1 by omega) with rfl|rfl<;>kernel_rfl
 have H:dM (pW (16+(r:Int))).op=2:=by rcases (show u=0∨u=1∨u=2 by omega) with rfl|rfl|rfl<;>rcases (show r=0∨r=1 by omega) with rfl|rfl<;>rfl
 have I:gU aT (pW (16+(r:Int))) [(kT u),(kT u)]=(tT,0):=by rcases (show u=0∨u=1∨u=2 by omega) with rfl|rfl|rfl<;>rcases (show r=0∨r=1 by omega) with rfl|rfl<;>kernel_rfl
 refine Pz (e:=E++G++ [pW (16+(r:Int))]) g (.n2 w K J H I) (Zl m0 M (qR _)) (by simp [bL];omega) ?_;rcases hs with rfl|rfl
 ·rcases (show u=0∨u=1∨u=2 by omega) with rfl|rfl|rfl<;>rcases (show r=0∨r=1 by omega) with rfl|rfl<;>exact pK [] 5 28 (.k 11 (aF p) (.c (aF B) .nil)) (.c f (.c C (.c v (.c o (.c c (.c D (.c z (.v 27 (.eq (TV d)) (.c q .nil)))))))))
 ·rcases (show u=0∨u=1∨u=2 by omega) with rfl|rfl|rfl<;>rcases (show r=0∨r=1 by omega) with rfl|rfl<;>exact pK [] 5 20 (.k 11 (aF p) (.c (aF B) .nil)) (.c f (.c C (.c v (.c o (.c c (.c D (.c z (.v 27 (.eq (TV d)) (.c q .nil)))))))))
theorem aog {xs:List Int} {nn:Bool} {k lv h k1 s k2:Nat} (A:xs.length<2^63) (d:lv<2^62) (z:bL lv<300) (v:∀ t,dw t→∀ k,k≤xs.length→jW t (lv:Int) (bL lv) xs nn k) (m:((h:Int)==((0:Nat):Int))=false) (n:(decide ((((lv+1):Nat):Int)≤((0:Nat):Int)))=false) (g:k2≤xs.length) (o:aG prog ap 97 [.ptr 0 0 0,ω 5] [dB xs nn k] (.ret (ω (h:Int))) [dB xs nn k1]) (w:aG prog ap 97 [.ptr 0 0 0,ω 5] [dB xs nn k1] (.ret (ω (s:Int))) [dB xs nn k2]) (hs:s=2):jW tT ((lv+1:Nat):Int) (bL (lv+1)) xs nn k:=by
 obtain ⟨j,k3,f,i,m0,y,q⟩:=v tT pT k2 g;have c:=Z7 (pW 20) j i.ne (by omega);have u:aO (pW 20)=0:=by kernel_rfl
 have p:dM (pW 20).op=1:=by rfl
 have r:gU aT (pW 20) [tT]=(tT,0):=by kernel_rfl
 refine Pz (e:=j++ [pW 20]) f (.n1 i u p r) (ada m0 (qR _)) (by simp [bL];omega) ?_;subst hs;exact pK [] 6 36 (.k 8 (aF m) (.c (aF n) .nil)) (.c c (.c q (.c w (.v 27 (.eq (TV d)) (.c o .nil)))))
theorem aoh {xs:List Int} {nn:Bool} {k lv o k1 s k2:Nat} (I:xs.length<2^63) (d:lv<2^62) (M:bL lv<300) (j:∀ t,dw t→∀ k,k≤xs.length→jW t (lv:Int) (bL lv) xs nn k) (r:((o:Int)==((0:Nat):Int))=false) (E:(decide ((((lv+1):Nat):Int)≤((0:Nat):Int)))=false) (g:k2≤xs.length) (u:aG prog ap 97 [.ptr 0 0 0,ω 5] [dB xs nn k] (.ret (ω (o:Int))) [dB xs nn k1]) (B:aG prog ap 97 [.ptr 0 0 0,ω 5] [dB xs nn k1] (.ret (ω (s:Int))) [dB xs nn k2]) (hs:s=3):jW tT ((lv+1:Nat):Int) (bL (lv+1)) xs nn k:=by
 obtain ⟨p,k3,f,m,m0,J,w⟩:=j tT pT k2 g;obtain ⟨q,k4,i,A,C,N,G⟩:=j tT pT k3 f;obtain ⟨n,k5,c,H,F,K,D⟩:=j tT pT k4 i;have h:=ahW (pW 15) p q n m.ne (by omega) (by omega) (by omega);have z:aO (pW 15)=0:=by kernel_rfl
 have v:dM (pW 15).op=3:=by rfl
 have y:gU aT (pW 15) [tT,tT,tT]=(tT,0):=by kernel_rfl
 refine Pz (e:=p++q++n++ [pW 15]) c (.n3 m A H z v y) (aml m0 C F (qR _)) (by simp [bL];omega) ?_;subst hs;exact pK [] 7 68 (.k 15 (aF r) (.c (aF E) .nil)) (.c h (.c D (.c G (.c w (.c B (.v 27 (.eq (TV d)) (.c u .nil)))))))
theorem aoi {xs:List Int} {nn:Bool} {k lv m k1 s k2:Nat} (B:xs.length<2^63) (d:lv<2^62) (J:bL lv<300) (o:∀ t,dw t→∀ k,k≤xs.length→jW t (lv:Int) (bL lv) xs nn k) (u:((m:Int)==((0:Nat):Int))=false) (F:(decide ((((lv+1):Nat):Int)≤((0:Nat):Int)))=false) (g:k2≤xs.length) (v:aG prog ap 97 [.ptr 0 0 0,ω 5] [dB xs nn k] (.ret (ω (m:Int))) [dB xs nn k1]) (D:aG prog ap 97 [.ptr 0 0 0,ω 5] [dB xs nn k1] (.ret (ω (s:Int))) [dB xs nn k2]) (hs:s=4):jW tT ((lv+1:Nat):Int) (bL (lv+1)) xs nn k:=by
 obtain ⟨r,k3,I,f,q⟩:=dG xs nn k2 2 B g (by omega) (by omega);obtain ⟨n,k4,i,j,m0,H,y⟩:=o tT pT k3 f;obtain ⟨p,k5,c,C,E,K,G⟩:=o tT pT k4 i;have h:=Wl (pW (18+(r:Int))) n p j.ne (by omega) (by omega);have A:aO (pW (18+(r:Int)))=0:=by rcases (show r=0∨r=1 by omega) with rfl|rfl<;>kernel_rfl
 have w:dM (pW (18+(r:Int))).op=2:=by rcases (show r=0∨r=1 by omega) with rfl|rfl<;>rfl
 have z:gU aT (pW (18+(r:Int))) [tT,tT]=(tT,0):=by rcases (show r=0∨r=1 by omega) with rfl|rfl<;>kernel_rfl
 refine Pz (e:=n++p++ [pW (18+(r:Int))]) c (.n2 j C A w z) (Zl m0 E (qR _)) (by simp [bL];omega) ?_;subst hs;rcases (show r=0∨r=1 by omega) with rfl|rfl<;>exact pK [] 7 4 (.k 12 (aF u) (.c (aF F) .nil)) (.c h (.c G (.c y (.c q (.c D (.v 27 (.eq (TV d)) (.c v .nil)))))))
def opF (r:Nat):Int:=([9,10,13,14]:List Int).getD r 0
theorem n26:CO 63 [ω 0,ω 0] (.ret (.agg (fH tP))):=cK .nil
theorem n25:CO 64 [] (.ret (.agg (fH tT))):=cK .nil
theorem an_ {xs:List Int} {nn:Bool} {k lv v k1 s k2:Nat} (F:xs.length<2^63) (d:lv<2^62) (K:bL lv<300) (A:∀ t,dw t→∀ k,k≤xs.length→jW t (lv:Int) (bL lv) xs nn k) (n:((v:Int)==((0:Nat):Int))=false) (w:(decide ((((lv+1):Nat):Int)≤((0:Nat):Int)))=false) (i:k2≤xs.length) (o:aG prog ap 97 [.ptr 0 0 0,ω 5] [dB xs nn k] (.ret (ω (v:Int))) [dB xs nn k1]) (u:aG prog ap 97 [.ptr 0 0 0,ω 7] [dB xs nn k1] (.ret (ω (s:Int))) [dB xs nn k2]) (hs:s=0∨s=1) {t:Ty} (c:MS t):jW t ((lv+1:Nat):Int) (bL (lv+1)) xs nn k:=by
 obtain ⟨r,k3,J,h,m⟩:=dG xs nn k2 4 F i (by omega) (by omega);obtain ⟨z,k4,j,q,m0,I,p⟩:=A t c.pl k3 h;obtain ⟨B,k5,g,G,H,M,y⟩:=A t c.pl k4 j;have f:=Wl (pW (opF r)) z B q.ne (by omega) (by omega);have E:aO (pW (opF r))=0:=by rcases c with rfl|rfl|rfl<;>rcases (show r=0∨r=1∨r=2∨r=3 by omega) with rfl|rfl|rfl|rfl<;>kernel_rfl
 have C:dM (pW (opF r)).op=2:=by rcases c with rfl|rfl|rfl<;>rcases (show r=0∨r=1∨r=2∨r=3 by omega) with rfl|rfl|rfl|rfl<;>rfl
 have D:gU aT (pW (opF r)) [t,t]=(t,0):=by rcases c with rfl|rfl|rfl<;>rcases (show r=0∨r=1∨r=2∨r=3 by omega) with rfl|rfl|rfl|rfl<;>kernel_rfl
 refine Pz (e:=z++B++ [pW (opF r)]) g (.n2 q G E C D) (Zl m0 H (qR _)) (by simp [bL];omega) ?_;rcases hs with rfl|rfl
 ·rcases c with rfl|rfl|rfl<;>rcases (show r=0∨r=1∨r=2∨r=3 by omega) with rfl|rfl|rfl|rfl<;>exact pK [] 5 24 (.k 13 (aF n) (.c (aF w) .nil)) (.c f (.c y (.c p (.c m (.c u (.v 27 (.eq (TV d)) (.c o .nil)))))))
 ·rcases c with rfl|rfl|rfl<;>rcases (show r=0∨r=1∨r=2∨r=3 by omega) with rfl|rfl|rfl|rfl<;>exact pK [] 5 16 (.k 13 (aF n) (.c (aF w) .nil)) (.c f (.c y (.c p (.c m (.c u (.v 27 (.eq (TV d)) (.c o .nil)))))))
theorem aoa {xs:List Int} {nn:Bool} {k lv m k1 s k2:Nat} (E:xs.length<2^63) (d:lv<2^62) (G:bL lv<300) (o:∀ t,dw t→∀ k,k≤xs.length→jW t (lv:Int) (bL lv) xs nn k) (q:((m:Int)==((0:Nat):Int))=false) (C:(decide ((((lv+1):Nat):Int)≤((0:Nat):Int)))=false) (g:k2≤xs.length) (r:aG prog ap 97 [.ptr 0 0 0,ω 5] [dB xs nn k] (.ret (ω (m:Int))) [dB xs nn k1]) (A:aG prog ap 97 [.ptr 0 0 0,ω 7] [dB xs nn k1] (.ret (ω (s:Int))) [dB xs nn k2]) (hs:s=2) {t:Ty} (c:MS t):jW t ((lv+1:Nat):Int) (bL (lv+1)) xs nn k:=by
 obtain ⟨n,k3,f,j,m0,F,v⟩:=o t c.pl k2 g;obtain ⟨p,k4,i,z,B,H,D⟩:=o tP pP k3 f;have h:=Wl (pW 11) n p j.ne (by omega) (by omega);have y:aO (pW 11)=0:=by rcases c with rfl|rfl|rfl<;>kernel_rfl
 have u:dM (pW 11).op=2:=by rcases c with rfl|rfl|rfl<;>rfl
 have w:gU aT (pW 11) [t,tP]=(t,0):=by rcases c with rfl|rfl|rfl<;>kernel_rfl
 refine Pz (e:=n++p++ [pW 11]) i (.n2 j z y u w) (Zl m0 B (qR _)) (by simp [bL];omega) ?_;subst hs;rcases c with rfl|rfl|rfl<;>exact pK [] 6 32 (.k 8 (aF q) (.c (aF C) .nil)) (.c h (.c D (.c n26 (.c v (.c A (.v 27 (.eq (TV d)) (.c r .nil)))))))
theorem aob {xs:List Int} {nn:Bool} {k lv m k1 s k2:Nat} (E:xs.length<2^63) (d:lv<2^62) (G:bL lv<300) (o:∀ t,dw t→∀ k,k≤xs.length→jW t (lv:Int) (bL lv) xs nn k) (q:((m:Int)==((0:Nat):Int))=false) (C:(decide ((((lv+1):Nat):Int)≤((0:Nat):Int)))=false) (g:k2≤xs.length) (r:aG prog ap 97 [.ptr 0 0 0,ω 5] [dB xs nn k] (.ret (ω (m:Int))) [dB xs nn k1]) (A:aG prog ap 97 [.ptr 0 0 0,ω 7] [dB xs nn k1] (.ret (ω (s:Int))) [dB xs nn k2]) (hs:s=3) {t:Ty} (c:MS t):jW t ((lv+1:Nat):Int) (bL (lv+1)) xs nn k:=by
 obtain ⟨n,k3,f,j,m0,F,v⟩:=o t c.pl k2 g;obtain ⟨p,k4,i,z,B,H,D⟩:=o tP pP k3 f;have h:=Wl (pW 12) n p j.ne (by omega) (by omega);have y:aO (pW 12)=0:=by rcases c with rfl|rfl|rfl<;>kernel_rfl
 have u:dM (pW 12).op=2:=by rcases c with rfl|rfl|rfl<;>rfl
 have w:gU aT (pW 12) [t,tP]=(t,0):=by rcases c with rfl|rfl|rfl<;>kernel_rfl
 refine Pz (e:=n++p++ [pW 12]) i (.n2 j z y u w) (Zl m0 B (qR _)) (by simp [bL];omega) ?_;subst hs;rcases c with rfl|rfl|rfl<;>exact pK [] 7 64 (.k 9 (aF q) (.c (aF C) .nil)) (.c h (.c D (.c n26 (.c v (.c A (.v 27 (.eq (TV d)) (.c r .nil)))))))
theorem aoc {xs:List Int} {nn:Bool} {k lv p k1 s k2:Nat} (J:xs.length<2^63) (f:lv<2^62) (N:bL lv<300) (m:∀ t,dw t→∀ k,k≤xs.length→jW t (lv:Int) (bL lv) xs nn k) (u:((p:Int)==((0:Nat):Int))=false) (F:(decide ((((lv+1):Nat):Int)≤((0:Nat):Int)))=false) (h:k2≤xs.length) (v:aG prog ap 97 [.ptr 0 0 0,ω 5] [dB xs nn k] (.ret (ω (p:Int))) [dB xs nn k1]) (C:aG prog ap 97 [.ptr 0 0 0,ω 7] [dB xs nn k1] (.ret (ω (s:Int))) [dB xs nn k2]) (hs:s=4) {t:Ty} (c:MS t):jW t ((lv+1:Nat):Int) (bL (lv+1)) xs nn k:=by
 obtain ⟨q,k3,g,n,m0,K,y⟩:=m tT pT k2 h;obtain ⟨r,k4,j,B,D,O,H⟩:=m t c.pl k3 g;obtain ⟨o,k5,d,I,G,M,E⟩:=m t c.pl k4 j;have i:=ahW (pW 15) q r o n.ne (by omega) (by omega) (by omega);have A:aO (pW 15)=0:=by rcases c with rfl|rfl|rfl<;>kernel_rfl
 have w:dM (pW 15).op=3:=by rcases c with rfl|rfl|rfl<;>rfl
 have z:gU aT (pW 15) [tT,t,t]=(t,0):=by rcases c with rfl|rfl|rfl<;>kernel_rfl
 refine Pz (e:=q++r++o++ [pW 15]) d (.n3 n B I A w z) (aml m0 D G (qR _)) (by simp [bL];omega) ?_;subst hs;rcases c with rfl|rfl|rfl<;>exact pK [] 8 128 (.k 13 (aF u) (.c (aF F) .nil)) (.c i (.c E (.c H (.c y (.c n25 (.c C (.v 27 (.eq (TV f)) (.c v .nil))))))))
theorem Wx {q:RQ} (h:q.ok) (g:q.n<64) (hd:q.d<64) (hp:q.neg=false∧0<q.n) {op:Int} (d:op=21∨op=22∨op=23):aO (qN op q)=0:=by
 have f:=YL h g hd;have hs:sN q.neg (ae q.n) (ae q.d)=1:=by
  unfold sN;rw [if_pos ⟨qP q h,by rw [aH];exact hp.2⟩,hp.1];rfl
 have c:decide (((0:Nat):Int)<sN q.neg (ae q.n) (ae q.d))=true:=by rw [hs];rfl
 have e:jo (qN op q)=true:=by
  have:(fF q.neg (ae q.n) (ae q.d) && decide (((0:Nat):Int)<sN q.neg (ae q.n) (ae q.d)))=true:=by rw [f,c];rfl
  rcases d with rfl|rfl|rfl<;>exact this
 unfold aO;rw [e];rcases d with rfl|rfl|rfl<;>rfl
theorem aod {xs:List Int} {nn:Bool} {k lv o k1 s k2:Nat} (n:xs.length<2^63) (f:lv<2^62) (N:bL lv<300) (J:∀ t,dw t→∀ k,k≤xs.length→jW t (lv:Int) (bL lv) xs nn k) (z:((o:Int)==((0:Nat):Int))=false) (H:(decide ((((lv+1):Nat):Int)≤((0:Nat):Int)))=false) (h:k2≤xs.length) (A:aG prog ap 97 [.ptr 0 0 0,ω 5] [dB xs nn k] (.ret (ω (o:Int))) [dB xs nn k1]) (G:aG prog ap 97 [.ptr 0 0 0,ω 7] [dB xs nn k1] (.ret (ω (s:Int))) [dB xs nn k2]) (hs:s=5) {t:Ty} (c:MS t):jW t ((lv+1:Nat):Int) (bL (lv+1)) xs nn k:=by
 obtain ⟨r,k3,M,g,v⟩:=dG xs nn k2 3 n h (by omega) (by omega);obtain ⟨w,k4,j,I,p,q,y,F⟩:=vU xs nn k3 n g 1 (by omega) (by omega);obtain ⟨u,k5,d,m,m0,K,C⟩:=J t c.pl k4 j;have i:=Z7 (qN (21+(r:Int)) w) u m.ne (by omega);have E:aO (qN (21+(r:Int)) w)=0:=by exact Wx I p q (y rfl) (by omega)
 have B:dM (qN (21+(r:Int)) w).op=1:=by rcases c with rfl|rfl|rfl<;>rcases (show r=0∨r=1∨r=2 by omega) with rfl|rfl|rfl<;>rfl
 have D:gU aT (qN (21+(r:Int)) w) [t]=(t,0):=by rcases c with rfl|rfl|rfl<;>rcases (show r=0∨r=1∨r=2 by omega) with rfl|rfl|rfl<;>kernel_rfl
 refine Pz (e:=u++ [qN (21+(r:Int)) w]) d (.n1 m E B D) (ada m0 (F9 p q)) (by simp [bL];omega) ?_;subst hs;rcases c with rfl|rfl|rfl<;>rcases (show r=0∨r=1∨r=2 by omega) with rfl|rfl|rfl<;>exact pK [] 9 256 (.k 11 (aF z) (.c (aF H) .nil)) (.c i (.c C (.c F (.c v (.c G (.v 27 (.eq (TV f)) (.c A .nil)))))))
theorem fr0:CO 183 [.sl (dU aT) 12 true,ω 24,.str zcc3_1] (.ret (.tup [.agg [.bool false,ω 0,ω 0],.bool false])):=lu (fJ aT true 24 zcc3_1 (by decide)) (by kernel_rfl)
theorem fr1:CO 183 [.sl (dU aT) 12 true,ω 24,.str [107,105,100,115]] (.ret (.tup [.agg [.bool false,ω 0,ω 0],.bool false])):=lu (fJ aT true 24 [107,105,100,115] (by decide)) (by kernel_rfl)
theorem fr2:CO 183 [.sl (dU aT) 12 true,ω 24,.str zcc3_0] (.ret (.tup [.agg [.bool false,ω 0,ω 0],.bool false])):=lu (fJ aT true 24 zcc3_0 (by decide)) (by kernel_rfl)
theorem fr3:CO 183 [.sl (dU aT) 12 true,ω 24,.str [115,116,97,121]] (.ret (.tup [.agg [.bool false,ω 0,ω 0],.bool false])):=lu (fJ aT true 24 [115,116,97,121] (by decide)) (by kernel_rfl)
theorem fr4:CO 183 [.sl (dU aT) 12 true,ω 24,.str [112,111,111,114]] (.ret (.tup [.agg [.bool false,ω 0,ω 0],.bool false])):=lu (fJ aT true 24 [112,111,111,114] (by decide)) (by kernel_rfl)
theorem fr5:CO 183 [.sl (dU aT) 12 true,ω 24,.str [116,97,120]] (.ret (.tup [.agg [.bool false,ω 0,ω 0],.bool false])):=lu (fJ aT true 24 [116,97,120] (by decide)) (by kernel_rfl)
theorem fr6:CO 183 [.sl (dU aT) 12 true,ω 24,.str zcc3_2] (.ret (.tup [.agg [.bool false,ω 1,ω 0],.bool true])):=lu (fJ aT true 24 zcc3_2 (by decide)) (by kernel_rfl)
theorem fr7:CO 183 [.sl (dU aT) 12 true,ω 24,.str [116,101,114,109]] (.ret (.tup [.agg [.bool false,ω 0,ω 1],.bool true])):=lu (fJ aT true 24 [116,101,114,109] (by decide)) (by kernel_rfl)
theorem acG {xs:List Int} {nn:Bool} {k:Nat} (e:xs.length<2^63) (f:k≤xs.length):∃ k2,k2≤xs.length∧aG prog ap 148 [.sl (dU aT) 12 true,.ptr 0 0 0,.agg (fH tM)] [dB xs nn k] (.ret (.tup [.str zcc3_2,.bool true])) [dB xs nn k2]:=by
 obtain ⟨r,k1,g,c,d⟩:=dG xs nn k 1 e f (by omega) (by omega);obtain rfl:r=0:=by omega
 exact ⟨k1,c,pK [] 51 262856579813649 (.n 125 .nil) (.c d (.c fr7 (.c fr6 (.c fr5 (.c fr4 (.c fr5 (.c fr4 (.c fr5 (.c fr4 (.c fr3 (.c fr2 (.c fr1 (.c fr0 .nil)))))))))))))⟩
theorem acF {xs:List Int} {nn:Bool} {k:Nat} (e:xs.length<2^63) (f:k≤xs.length):∃ k2,k2≤xs.length∧aG prog ap 148 [.sl (dU aT) 12 true,.ptr 0 0 0,.agg (fH tD)] [dB xs nn k] (.ret (.tup [.str [116,101,114,109],.bool true])) [dB xs nn k2]:=by
 obtain ⟨r,k1,g,c,d⟩:=dG xs nn k 1 e f (by omega) (by omega);obtain rfl:r=0:=by omega
 exact ⟨k1,c,pK [] 51 271652672835857 (.n 125 .nil) (.c d (.c fr7 (.c fr6 (.c fr5 (.c fr4 (.c fr5 (.c fr4 (.c fr5 (.c fr4 (.c fr3 (.c fr2 (.c fr1 (.c fr0 .nil)))))))))))))⟩
theorem acH {xs:List Int} {nn:Bool} {k:Nat}:aG prog ap 148 [.sl (dU aT) 12 true,.ptr 0 0 0,.agg (fH tP)] [dB xs nn k] (.ret (.tup [.str [],.bool false])) [dB xs nn k]:=pK [] 50 693865137901841 (.n 116 .nil) (.c fr7 (.c fr6 (.c fr5 (.c fr4 (.c fr5 (.c fr4 (.c fr5 (.c fr4 (.c fr3 (.c fr2 (.c fr1 (.c fr0 .nil))))))))))))
theorem aky {xs:List Int} {nn:Bool} {k lv i k1 s k2:Nat} (y:xs.length<2^63) (d:lv<2^62) (C:bL lv<300) (z:∀ t,dw t→∀ k,k≤xs.length→jW t (lv:Int) (bL lv) xs nn k) (o:((i:Int)==((0:Nat):Int))=false) (p:(decide ((((lv+1):Nat):Int)≤((0:Nat):Int)))=false) (h:k2≤xs.length) (q:aG prog ap 97 [.ptr 0 0 0,ω 5] [dB xs nn k] (.ret (ω (i:Int))) [dB xs nn k1]) (A:aG prog ap 97 [.ptr 0 0 0,ω 7] [dB xs nn k1] (.ret (ω (s:Int))) [dB xs nn k2]) (hs:s=6):jW tM ((lv+1:Nat):Int) (bL (lv+1)) xs nn k:=by
 obtain ⟨k3,f,n⟩:=acG (nn:=nn) y h;obtain ⟨m,k4,g,j,m0,B,u⟩:=z tM (by simp [dw]) k3 f;have c:=Z7 ((⟨24,false,[],[],zcc3_2⟩:Nd)) m j.ne (by omega);have w:aO ((⟨24,false,[],[],zcc3_2⟩:Nd))=0:=by kernel_rfl
 have r:dM ((⟨24,false,[],[],zcc3_2⟩:Nd)).op=1:=by rfl
 have v:gU aT ((⟨24,false,[],[],zcc3_2⟩:Nd)) [tM]=(tM,0):=by kernel_rfl
 refine Pz (e:=m++ [(⟨24,false,[],[],zcc3_2⟩:Nd)]) g (.n1 j w r v) (ada m0 (⟨by simp,by simp⟩)) (by simp [bL];omega) ?_;subst hs;exact pK [] 10 0 (.k 15 (aF o) (.c (aF p) .nil)) (.c c (.c u (.c n (.c A (.v 27 (.eq (TV d)) (.c q .nil))))))
theorem akx {xs:List Int} {nn:Bool} {k lv i k1 s k2:Nat} (y:xs.length<2^63) (d:lv<2^62) (C:bL lv<300) (z:∀ t,dw t→∀ k,k≤xs.length→jW t (lv:Int) (bL lv) xs nn k) (o:((i:Int)==((0:Nat):Int))=false) (p:(decide ((((lv+1):Nat):Int)≤((0:Nat):Int)))=false) (h:k2≤xs.length) (q:aG prog ap 97 [.ptr 0 0 0,ω 5] [dB xs nn k] (.ret (ω (i:Int))) [dB xs nn k1]) (A:aG prog ap 97 [.ptr 0 0 0,ω 7] [dB xs nn k1] (.ret (ω (s:Int))) [dB xs nn k2]) (hs:s=6):jW tD ((lv+1:Nat):Int) (bL (lv+1)) xs nn k:=by
 obtain ⟨k3,f,n⟩:=acF (nn:=nn) y h;obtain ⟨m,k4,g,j,m0,B,u⟩:=z tD (by simp [dw]) k3 f;have c:=Z7 ((⟨24,false,[],[],[116,101,114,109]⟩:Nd)) m j.ne (by omega);have w:aO ((⟨24,false,[],[],[116,101,114,109]⟩:Nd))=0:=by kernel_rfl
 have r:dM ((⟨24,false,[],[],[116,101,114,109]⟩:Nd)).op=1:=by rfl
 have v:gU aT ((⟨24,false,[],[],[116,101,114,109]⟩:Nd)) [tD]=(tD,0):=by kernel_rfl
 refine Pz (e:=m++ [(⟨24,false,[],[],[116,101,114,109]⟩:Nd)]) g (.n1 j w r v) (ada m0 (⟨by simp,by simp⟩)) (by simp [bL];omega) ?_;subst hs;exact pK [] 10 0 (.k 15 (aF o) (.c (aF p) .nil)) (.c c (.c u (.c n (.c A (.v 27 (.eq (TV d)) (.c q .nil))))))
theorem aoe {xs:List Int} {nn:Bool} {k lv g k1 s k2:Nat} (q:xs.length<2^63) (c:lv<2^62) (v:bL lv<300) (w:∀ t,dw t→∀ k,k≤xs.length→jW t (lv:Int) (bL lv) xs nn k) (j:((g:Int)==((0:Nat):Int))=false) (m:(decide ((((lv+1):Nat):Int)≤((0:Nat):Int)))=false) (f:k2≤xs.length) (n:aG prog ap 97 [.ptr 0 0 0,ω 5] [dB xs nn k] (.ret (ω (g:Int))) [dB xs nn k1]) (r:aG prog ap 97 [.ptr 0 0 0,ω 7] [dB xs nn k1] (.ret (ω (s:Int))) [dB xs nn k2]) (hs:s=6):jW tP ((lv+1:Nat):Int) (bL (lv+1)) xs nn k:=by
 obtain ⟨e,k3,d,i,p,u,o⟩:=X4 xs nn k2 q f;have h:=acH (xs:=xs) (nn:=nn) (k:=k2);refine Pz d i p (by simp [bL];omega) ?_;subst hs;exact pK [] 10 512 (.k 15 (aF j) (.c (aF m) .nil)) (.c o (.c h (.c r (.v 27 (.eq (TV c)) (.c n .nil)))))
theorem IL {t:Ty} (p:dw t) {xs:List Int} {nn:Bool} {k lv:Nat} (i:xs.length<2^63) (z:k≤xs.length) (d:lv<2^62) (n:bL lv<300) (o:∀ t,dw t→∀ k,k≤xs.length→jW t (lv:Int) (bL lv) xs nn k):jW t ((lv+1:Nat):Int) (bL (lv+1)) xs nn k:=by
 have f:(decide ((((lv+1):Nat):Int)≤((0:Nat):Int)))=false:=Yq1 (by omega);obtain ⟨v,k1,y,q,g⟩:=dG xs nn k 5 i z (by omega) (by omega);by_cases hz:v=0
 ·subst hz;obtain ⟨e,k2,c,A,w,B,r⟩:=Rl p xs nn k1 i q;refine Pz c A w (by simp [bL];omega) ?_;rcases p with rfl|rfl|rfl|rfl
  ·exact pK [] 2 2 (.k 4 (aF f) .nil) (.c r (.c g .nil))
  ·exact pK [] 2 2 (.k 4 (aF f) .nil) (.c r (.c g .nil))
  ·exact pK [] 2 2 (.k 4 (aF f) .nil) (.c r (.c g .nil))
  ·exact pK [] 2 2 (.k 4 (aF f) .nil) (.c r (.c g .nil))
 ·have m:((v:Int)==((0:Nat):Int))=false:=by simp;omega
  have u:∀ t,MS t→jW t ((lv+1:Nat):Int) (bL (lv+1)) xs nn k:=by
   intro t p;obtain ⟨s,k2,hs,c,j⟩:=dG xs nn k1 7 i q (by omega) (by omega);rcases (show (s=0∨s=1)∨s=2∨s=3∨s=4∨s=5∨s=6 by omega) with h|h|h|h|h|h
   ·exact an_ i d n o m f c g j h p
   ·exact aoa i d n o m f c g j h p
   ·exact aob i d n o m f c g j h p
   ·exact aoc i d n o m f c g j h p
   ·exact aod i d n o m f c g j h p
   ·rcases p with rfl|rfl|rfl
    ·exact aky i d n o m f c g j h
    ·exact akx i d n o m f c g j h
    ·exact aoe i d n o m f c g j h
  rcases p with rfl|rfl|rfl|rfl
  ·exact u _ (.inl rfl)
  ·exact u _ (.inr (.inl rfl))
  ·exact u _ (.inr (.inr rfl))
  ·obtain ⟨s,k2,hs,c,j⟩:=dG xs nn k1 5 i q (by omega) (by omega);rcases (show (s=0∨s=1)∨s=2∨s=3∨s=4 by omega) with h|h|h|h
   ·exact aof i d n o m f c g j h
   ·exact aog i d n o m f c g j h
   ·exact aoh i d n o m f c g j h
   ·exact aoi i d n o m f c g j h
theorem akv {xs:List Int} {nn:Bool} (e:xs.length<2^63) (t:Ty) (d:dw t) (k:Nat) (c:k≤xs.length):jW t ((1:Nat):Int) (bL 1) xs nn k:=
 IL (lv:=0) d e c (by omega) (by decide) fun _ d k c=>aku d xs nn k e c
theorem Rw {xs:List Int} {nn:Bool} (e:xs.length<2^63) (t:Ty) (d:dw t) (k:Nat) (c:k≤xs.length):jW t ((2:Nat):Int) (bL 2) xs nn k:=
 IL (lv:=1) d e c (by omega) (by decide) fun t d k c=>akv e t d k c
def X0 (t:Ty):Prop:=dw t∨t=⟨false,1, -1⟩
theorem ZY {t:Ty} (k:X0 t) (xs:List Int) (nn:Bool) (i:xs.length<2^63):∃ e:List Nd,Tm aT e t∧(∀ x ∈ e,x.sm)∧e.length≤13∧CO 57 [.sl (dU aT) 12 true,.agg (fH t),.sl (iL xs) xs.length nn] (.ret (.own (a_ e) e.length 5)):=by
 rcases k with (rfl|rfl|rfl|rfl)|rfl
 ·obtain ⟨e,k2,g,f,d,j,c⟩:=Rw (nn:=nn) i tM (by simp [dw]) 0 (by omega);have h:CO 57 [.sl (dU aT) 12 true,.agg (fH tM),.sl (iL xs) xs.length nn] (.ret (.own (ν (e.length*5) (a_ e)) e.length 5)):=pK [] 4 1 (.n 11 .nil) (.c c (.c kd6 .nil));rw [Hu] at h;exact ⟨e,f,d,by have:bL 2=13:=rfl;omega,h⟩
 ·obtain ⟨e,k2,g,f,d,j,c⟩:=Rw (nn:=nn) i tD (by simp [dw]) 0 (by omega);have h:CO 57 [.sl (dU aT) 12 true,.agg (fH tD),.sl (iL xs) xs.length nn] (.ret (.own (ν (e.length*5) (a_ e)) e.length 5)):=pK [] 4 3 (.n 14 .nil) (.c c (.c kd8 (.c kd6 .nil)));rw [Hu] at h;exact ⟨e,f,d,by have:bL 2=13:=rfl;omega,h⟩
 ·obtain ⟨e,k2,g,f,d,j,c⟩:=Rw (nn:=nn) i tP (by simp [dw]) 0 (by omega);have h:CO 57 [.sl (dU aT) 12 true,.agg (fH tP),.sl (iL xs) xs.length nn] (.ret (.own (ν (e.length*5) (a_ e)) e.length 5)):=pK [] 4 7 (.n 17 .nil) (.c c (.c af2 (.c kd8 (.c kd6 .nil))));rw [Hu] at h;exact ⟨e,f,d,by have:bL 2=13:=rfl;omega,h⟩
 ·obtain ⟨e,k2,g,f,d,j,c⟩:=Rw (nn:=nn) i tT (by simp [dw]) 0 (by omega);have h:CO 57 [.sl (dU aT) 12 true,.agg (fH tT),.sl (iL xs) xs.length nn] (.ret (.own (ν (e.length*5) (a_ e)) e.length 5)):=pK [] 4 0 (.n 8 .nil) (.c c .nil);rw [Hu] at h;exact ⟨e,f,d,by have:bL 2=13:=rfl;omega,h⟩
 ·obtain ⟨e,k2,g,f,d,j,c⟩:=akw xs nn 0 i (by omega);have h:CO 57 [.sl (dU aT) 12 true,.agg (fH ⟨false,1, -1⟩),.sl (iL xs) xs.length nn] (.ret (.own (ν (e.length*5) (a_ e)) e.length 5)):=pK [] 4 15 (.n 17 .nil) (.c c (.c af2 (.c kd8 (.c kd6 .nil))));rw [Hu] at h;exact ⟨e,f,d,by have:bL 2=13:=rfl;omega,h⟩
abbrev NR (ls:List Lk) (cs:List Sc) (nl ns:Bool) (k1 v1 k2 v2:List AV):Hp:= [(0,⟨[.sl (jX ls) ls.length nl,.sl (kL cs) cs.length ns],0,false,0,0,true⟩),(1,⟨[.mp k1 v1,.mp k2 v2],0,false,0,0,true⟩)]
theorem abe (x:Nd) (o:Oq) (ne d f h:Bool) (k:Nat) (k1 v1 k2 c w p:List AV) (e:List Nd) (A:List (List Nat)) (ls:List Lk) (i:List Sc) {nt:Nat} (t:56≤nt) (u:(ε ((δ (k:Int))*5) (a_ e))=qB x++w) (q:(ε ((δ (k:Int))*1) (dH A))= [.sl [] 0 false]++p) (v:ω (γ .i64 ((k:Int)+((1:Nat):Int)))=ω ((k+1:Nat):Int)) (g:(decide (((0:Nat):Int)≤(k:Int)))=true) (r:(decide ((k:Int)<(A.length:Int)))=true) (n:(decide ((k:Int)<(e.length:Int)))=true) (m:lit true (decide ((k:Int)<(e.length:Int)))=true) (j:CO 46 [.agg [.mp k1 v1,.mp k2 c],.agg [ω x.op,.bool x.neg,.str x.num,.str x.den,.str x.name],.nilS] (.ret (gz o))):ψ nt f19 ⟨[(3,.ptr 0 0 0),(5,.sl (dH A) A.length h),(7,.ptr 1 0 0),(8,.nilS),(23,.sl (a_ e) e.length ne),(24,ω (e.length:Int)),(25,ω (k:Int))],(NR ls i d f k1 v1 k2 c),.dead,[]⟩ (.normal) ⟨[(3,.ptr 0 0 0),(5,.sl (dH A) A.length h),(7,.ptr 1 0 0),(8,.ref 2 0 0 1),(23,.sl (a_ e) e.length ne),(24,ω (e.length:Int)),(25,ω ((k+1:Nat):Int))],(NR ls i d f k1 v1 k2 c++ [(2,⟨[.bool o.n,.str o.a,.str o.d,ω o.e],0,false,0,4,true⟩)]),.dead,[]⟩:=pN 19 [] 3 1 (.k 12 g (.c r (.k 6 g (.c n (.c m .nil))))) (.v 54 (.eq v) (.c j (.v 32 (.ppt q) (.v 28 (.ppt u) .nil)))) t
theorem abf (ne g j h:Bool) (k:Nat) (k1 v1 k2 c:List AV) (e:List Nd) (A:List (List Nat)) (ls:List Lk) (d:List Sc) {nt:Nat} (i:56≤nt) (f:lit false (decide ((k:Int)<(e.length:Int)))=true):ψ nt f19 ⟨[(3,.ptr 0 0 0),(5,.sl (dH A) A.length h),(7,.ptr 1 0 0),(8,.nilS),(23,.sl (a_ e) e.length ne),(24,ω (e.length:Int)),(25,ω (k:Int))],(NR ls d g j k1 v1 k2 c),.dead,[]⟩ (.exit 0) ⟨[(8,.nilS)],[],.dead,[]⟩:=pN 19 [] 1 0 (.c f .nil) (.nil) i
theorem afz (x:Nd) (o:Oq) (ne g h j:Bool) (k:Nat) (k1 v1 k2 d B t:List AV) (e:List Nd) (A:List (List Nat)) (c:List Oq) (ls:List Lk) (m:List Sc) {nt:Nat} (w:56≤nt) (y:(ε ((δ (k:Int))*5) (a_ e))=qB x++B) (u:(ε ((δ (k:Int))*1) (dH A))= [.sl [] 0 false]++t) (f:((ν (c.length*4) (gJ c))++ [.bool o.n,.str o.a,.str o.d,ω o.e])=(gJ (c++ [o]))) (z:ω (γ .i64 ((k:Int)+((1:Nat):Int)))=ω ((k+1:Nat):Int)) (r:(Xqc (c.length+1) 1099511627776)=true) (v:(Xqc (c.length*4) (θ (gJ c)))=true) (i:(decide (((0:Nat):Int)≤(k:Int)))=true) (q:(decide ((k:Int)<(A.length:Int)))=true) (C:(decide ((k:Int)<(e.length:Int)))=true) (p:lit true (decide ((k:Int)<(e.length:Int)))=true) (n:CO 46 [.agg [.mp k1 v1,.mp k2 d],.agg [ω x.op,.bool x.neg,.str x.num,.str x.den,.str x.name],.nilS] (.ret (gz o))):ψ nt f19 ⟨[(3,.ptr 0 0 0),(5,.sl (dH A) A.length j),(7,.ptr 1 0 0),(8,.ref 2 0 0 c.length),(23,.sl (a_ e) e.length ne),(24,ω (e.length:Int)),(25,ω (k:Int))],(NR ls m g h k1 v1 k2 d++ [(2,⟨(gJ c),0,false,0,4,true⟩)]),.dead,[]⟩ (.normal) ⟨[(3,.ptr 0 0 0),(5,.sl (dH A) A.length j),(7,.ptr 1 0 0),(8,.ref 2 0 0 (c.length+1)),(23,.sl (a_ e) e.length ne),(24,ω (e.length:Int)),(25,ω ((k+1:Nat):Int))],(NR ls m g h k1 v1 k2 d++ [(2,⟨(gJ (c++ [o])),0,false,0,4,true⟩)]),.dead,[]⟩:=pN 19 [] 2 1 (.k 1 r (.c v (.k 10 i (.c q (.k 6 i (.c C (.c p .nil))))))) (.v 54 (.eq z) (.b 53 f (.c n (.v 32 (.ppt u) (.v 28 (.ppt y) .nil))))) w
theorem afA (ne h m i:Bool) (k:Nat) (k1 v1 k2 d:List AV) (e:List Nd) (A:List (List Nat)) (c:List Oq) (ls:List Lk) (f:List Sc) {nt:Nat} (j:56≤nt) (g:lit false (decide ((k:Int)<(e.length:Int)))=true):ψ nt f19 ⟨[(3,.ptr 0 0 0),(5,.sl (dH A) A.length i),(7,.ptr 1 0 0),(8,.ref 2 0 0 c.length),(23,.sl (a_ e) e.length ne),(24,ω (e.length:Int)),(25,ω (k:Int))],(NR ls f h m k1 v1 k2 d++ [(2,⟨(gJ c),0,false,0,4,true⟩)]),.dead,[]⟩ (.exit 0) ⟨[(8,.ref 0 0 0 c.length)],[(0,⟨(gJ c),0,false,0,4,true⟩)],.dead,[]⟩:=pN 19 [] 1 0 (.c g .nil) (.nil) j
theorem afB (x:Nd) (o d:Oq) (ne j m n:Bool) (k g:Nat) (k1 v1 k2 h I z E:List AV) (e:List Nd) (A:List (List Nat)) (c:List Oq) (ls:List Lk) (p:List Sc) {nt:Nat} (D:56≤nt) (G:(ε ((δ (k:Int))*5) (a_ e))=qB x++I) (B:(ε ((δ (k:Int))*1) (dH A))= [.sl [ω (g:Int)] 1 false]++z) (f:(ε ((0+(δ (g:Int)))*4) (gJ c))=Dt d++E) (i:((ν (c.length*4) (gJ c))++ [.bool o.n,.str o.a,.str o.d,ω o.e])=(gJ (c++ [o]))) (H:ω (γ .i64 ((k:Int)+((1:Nat):Int)))=ω ((k+1:Nat):Int)) (w:(Xqc (c.length+1) 1099511627776)=true) (C:(Xqc (c.length*4) (θ (gJ c)))=true) (y:(decide (((0:Nat):Int)≤(g:Int)))=true) (v:(decide ((g:Int)<(c.length:Int)))=true) (q:(decide (((0:Nat):Int)≤(k:Int)))=true) (t:(decide ((k:Int)<(A.length:Int)))=true) (u:(decide ((k:Int)<(e.length:Int)))=true) (F:lit true (decide ((k:Int)<(e.length:Int)))=true) (r:CO 46 [.agg [.mp k1 v1,.mp k2 h],.agg [ω x.op,.bool x.neg,.str x.num,.str x.den,.str x.name],.sl [.bool d.n,.str d.a,.str d.d,ω d.e] 1 true] (.ret (gz o))):ψ nt f19 ⟨[(3,.ptr 0 0 0),(5,.sl (dH A) A.length n),(7,.ptr 1 0 0),(8,.ref 2 0 0 c.length),(23,.sl (a_ e) e.length ne),(24,ω (e.length:Int)),(25,ω (k:Int))],(NR ls p j m k1 v1 k2 h++ [(2,⟨(gJ c),0,false,0,4,true⟩)]),.dead,[]⟩ (.normal) ⟨[(3,.ptr 0 0 0),(5,.sl (dH A) A.length n),(7,.ptr 1 0 0),(8,.ref 2 0 0 (c.length+1)),(23,.sl (a_ e) e.length ne),(24,ω (e.length:Int)),(25,ω ((k+1:Nat):Int))],(NR ls p j m k1 v1 k2 h++ [(2,⟨(gJ (c++ [o])),0,false,0,4,true⟩)]),.dead,[]⟩:=pN 19 [] 4 3 (.k 1 w (.c C (.n 12 (.a (kS [.bool,.str,.str,.int .i64] f rfl) (.c y (.c v (.k 5 q (.c t (.k 6 q (.c u (.c F .nil))))))))))) (.v 54 (.eq H) (.b 53 i (.c r (.v 43 (.rd [.bool,.str,.str,.int .i64] f rfl) (.v 32 (.ppt B) (.v 28 (.ppt G) .nil)))))) D
theorem afC (x:Nd) (o d h:Oq) (ne p q t:Bool) (k j i:Nat) (k1 v1 k2 m O D H J:List AV) (e:List Nd) (A:List (List Nat)) (c:List Oq) (ls:List Lk) (u:List Sc) {nt:Nat} (G:56≤nt) (K:(ε ((δ (k:Int))*5) (a_ e))=qB x++O) (E:(ε ((δ (k:Int))*1) (dH A))= [.sl [ω (j:Int),ω (i:Int)] 2 false]++D) (f:(ε ((0+(δ (j:Int)))*4) (gJ c))=Dt d++H) (g:(ε ((0+(δ (i:Int)))*4) (gJ c))=Dt h++J) (n:((ν (c.length*4) (gJ c))++ [.bool o.n,.str o.a,.str o.d,ω o.e])=(gJ (c++ [o]))) (M:ω (γ .i64 ((k:Int)+((1:Nat):Int)))=ω ((k+1:Nat):Int)) (B:(Xqc (c.length+1) 1099511627776)=true) (F:(Xqc (c.length*4) (θ (gJ c)))=true) (C:(decide (((0:Nat):Int)≤(i:Int)))=true) (z:(decide ((i:Int)<(c.length:Int)))=true) (P:(decide (((0:Nat):Int)≤(j:Int)))=true) (y:(decide ((j:Int)<(c.length:Int)))=true) (r:(decide (((0:Nat):Int)≤(k:Int)))=true) (I:(decide ((k:Int)<(A.length:Int)))=true) (N:(decide ((k:Int)<(e.length:Int)))=true) (v:lit true (decide ((k:Int)<(e.length:Int)))=true) (w:CO 46 [.agg [.mp k1 v1,.mp k2 m],.agg [ω x.op,.bool x.neg,.str x.num,.str x.den,.str x.name],.sl [.bool d.n,.str d.a,.str d.d,ω d.e,.bool h.n,.str h.a,.str h.d,ω h.e] 2 true] (.ret (gz o))):ψ nt f19 ⟨[(3,.ptr 0 0 0),(5,.sl (dH A) A.length t),(7,.ptr 1 0 0),(8,.ref 2 0 0 c.length),(23,.sl (a_ e) e.length ne),(24,ω (e.length:Int)),(25,ω (k:Int))],(NR ls u p q k1 v1 k2 m++ [(2,⟨(gJ c),0,false,0,4,true⟩)]),.dead,[]⟩ (.normal) ⟨[(3,.ptr 0 0 0),(5,.sl (dH A) A.length t),(7,.ptr 1 0 0),(8,.ref 2 0 0 (c.length+1)),(23,.sl (a_ e) e.length ne),(24,ω (e.length:Int)),(25,ω ((k+1:Nat):Int))],(NR ls u p q k1 v1 k2 m++ [(2,⟨(gJ (c++ [o])),0,false,0,4,true⟩)]),.dead,[]⟩:=pN 19 [] 5 11 (.k 1 B (.c F (.n 13 (.a (kS [.bool,.str,.str,.int .i64] g rfl) (.c C (.c z (.n 7 (.a (kS [.bool,.str,.str,.int .i64] f rfl) (.c P (.c y (.k 5 r (.c I (.k 6 r (.c N (.c v .nil))))))))))))))) (.v 54 (.eq M) (.b 53 n (.c w (.v 43 (.rd [.bool,.str,.str,.int .i64] g rfl) (.v 43 (.rd [.bool,.str,.str,.int .i64] f rfl) (.v 32 (.ppt E) (.v 28 (.ppt K) .nil))))))) G
theorem afD (x:Nd) (o g j f:Oq) (ne v w y:Bool) (k p m n:Nat) (k1 v1 k2 r U J P R O:List AV) (e:List Nd) (A:List (List Nat)) (c:List Oq) (ls:List Lk) (z:List Sc) {nt:Nat} (N:56≤nt) (S:(ε ((δ (k:Int))*5) (a_ e))=qB x++U) (K:(ε ((δ (k:Int))*1) (dH A))= [.sl [ω (p:Int),ω (m:Int),ω (n:Int)] 3 false]++J) (h:(ε ((0+(δ (p:Int)))*4) (gJ c))=Dt g++P) (i:(ε ((0+(δ (m:Int)))*4) (gJ c))=Dt j++R) (d:(ε ((0+(δ (n:Int)))*4) (gJ c))=Dt f++O) (t:((ν (c.length*4) (gJ c))++ [.bool o.n,.str o.a,.str o.d,ω o.e])=(gJ (c++ [o]))) (T:ω (γ .i64 ((k:Int)+((1:Nat):Int)))=ω ((k+1:Nat):Int)) (H:(Xqc (c.length+1) 1099511627776)=true) (M:(Xqc (c.length*4) (θ (gJ c)))=true) (I:(decide (((0:Nat):Int)≤(n:Int)))=true) (G:(decide ((n:Int)<(c.length:Int)))=true) (V:(decide (((0:Nat):Int)≤(m:Int)))=true) (E:(decide ((m:Int)<(c.length:Int)))=true) (F:(decide (((0:Nat):Int)≤(p:Int)))=true) (Q:(decide ((p:Int)<(c.length:Int)))=true) (B:(decide (((0:Nat):Int)≤(k:Int)))=true) (C:(decide ((k:Int)<(A.length:Int)))=true) (u:(decide ((k:Int)<(e.length:Int)))=true) (q:lit true (decide ((k:Int)<(e.length:Int)))=true) (D:CO 46 [.agg [.mp k1 v1,.mp k2 r],.agg [ω x.op,.bool x.neg,.str x.num,.str x.den,.str x.name],.sl [.bool g.n,.str g.a,.str g.d,ω g.e,.bool j.n,.str j.a,.str j.d,ω j.e,.bool f.n,.str f.a,.str f.d,ω f.e] 3 true] (.ret (gz o))):ψ nt f19 ⟨[(3,.ptr 0 0 0),(5,.sl (dH A) A.length y),(7,.ptr 1 0 0),(8,.ref 2 0 0 c.length),(23,.sl (a_ e) e.length ne),(24,ω (e.length:Int)),(25,ω (k:Int))],(NR ls z v w k1 v1 k2 r++ [(2,⟨(gJ c),0,false,0,4,true⟩)]),.dead,[]⟩ (.normal) ⟨[(3,.ptr 0 0 0),(5,.sl (dH A) A.length y),(7,.ptr 1 0 0),(8,.ref 2 0 0 (c.length+1)),(23,.sl (a_ e) e.length ne),(24,ω (e.length:Int)),(25,ω ((k+1:Nat):Int))],(NR ls z v w k1 v1 k2 r++ [(2,⟨(gJ (c++ [o])),0,false,0,4,true⟩)]),.dead,[]⟩:=pN 19 [] 6 27 (.k 1 H (.c M (.n 13 (.a (kS [.bool,.str,.str,.int .i64] d rfl) (.c I (.c G (.n 8 (.a (kS [.bool,.str,.str,.int .i64] i rfl) (.c V (.c E (.n 7 (.a (kS [.bool,.str,.str,.int .i64] h rfl) (.c F (.c Q (.k 5 B (.c C (.k 6 B (.c u (.c q .nil))))))))))))))))))) (.v 54 (.eq T) (.b 53 t (.c D (.v 43 (.rd [.bool,.str,.str,.int .i64] d rfl) (.v 43 (.rd [.bool,.str,.str,.int .i64] i rfl) (.v 43 (.rd [.bool,.str,.str,.int .i64] h rfl) (.v 32 (.ppt K) (.v 28 (.ppt S) .nil)))))))) N
theorem ajT (ne f g i:Bool) (k1 v1 k2 h:List AV) (e:List Nd) (A:List (List Nat)) (d:List Oq) (ls:List Lk) (c:List Sc) (j:CO 24 [.sl (a_ e) e.length ne] (.ret (.tup [.sl (dH A) A.length i,.bool true]))) (k:CO 45 [.agg [.sl (jX ls) ls.length f,.sl (kL c) c.length g]] (.ret (.agg [.mp k1 v1,.mp k2 h]))) (m:aN prog ap [] 56 (.block 0 (.loop (af 0 (ai f19)))) ⟨[(0,.sl (a_ e) e.length ne),(1,.agg [.sl (jX ls) ls.length f,.sl (kL c) c.length g]),(3,.ptr 0 0 0),(4,.nilS),(5,.sl (dH A) A.length i),(6,.bool true),(7,.ptr 1 0 0),(8,.nilS),(9,.dead),(10,.dead),(11,.dead),(13,.dead),(20,.bool false),(23,.sl (a_ e) e.length ne),(24,ω (e.length:Int)),(25,ω 0),(26,.dead),(33,.dead),(34,.dead),(35,.dead),(36,.dead)],(NR ls c f g k1 v1 k2 h),.dead,[]⟩ (.normal) ⟨[(8,.ref 0 0 0 d.length)],[(0,⟨(gJ d),0,false,0,4,true⟩)],.dead,[]⟩):CO 19 [.sl (a_ e) e.length ne,.agg [.sl (jX ls) ls.length f,.sl (kL c) c.length g]] (.ret (.own (ν (d.length*4) (gJ d)) d.length 4)):=pK [0] 1 0 (.n 4 .nil) (.l m (.c k (.c j .nil)))
theorem ajU (ne f g:Bool) (e:List Nd) (ls:List Lk) (c:List Sc) (d:CO 24 [.sl (a_ e) e.length ne] (.ret (.tup [.nilS,.bool false]))):CO 19 [.sl (a_ e) e.length ne,.agg [.sl (jX ls) ls.length f,.sl (kL c) c.length g]] (.ret (.nilS)):=pK [] 1 1 (.n 1 .nil) (.c d .nil)
theorem ajp (o:Oq) (ne f g:Bool) (k:Nat) (r:List AV) (e:List Nd) (c:List Oq) (ls:List Lk) (d:List Sc) (h:(ε ((0+(δ (k:Int)))*4) (gJ c))=Dt o++r) (m:ω (γ .i64 ((c.length:Int) - ((1:Nat):Int)))=ω (k:Int)) (j:(decide (((0:Nat):Int)≤(k:Int)))=true) (i:(decide ((k:Int)<(c.length:Int)))=true) (n:lit false ((c.length:Int)==((0:Nat):Int))=true) (p:CO 19 [.sl (a_ e) e.length ne,.agg [.sl (jX ls) ls.length f,.sl (kL d) d.length g]] (.ret (.own (gJ c) c.length 4))):CO 21 [.sl (a_ e) e.length ne,.agg [.sl (jX ls) ls.length f,.sl (kL d) d.length g]] (.ret (gz o)):=pK [] 1 0 (.n 5 (.a (kS [.bool,.str,.str,.int .i64] h rfl) (.c j (.c i (.c n (.n 2 .nil)))))) (.v 18 (.rd [.bool,.str,.str,.int .i64] h rfl) (.v 16 (.eq m) (.c p .nil)))
theorem ajo (ne d f:Bool) (e:List Nd) (ls:List Lk) (c:List Sc) (g:CO 19 [.sl (a_ e) e.length ne,.agg [.sl (jX ls) ls.length d,.sl (kL c) c.length f]] (.ret (.nilS))) (h:CO 41 [ω 11] (.ret (.agg [.bool false,.str [],.str [],ω 11]))):CO 21 [.sl (a_ e) e.length ne,.agg [.sl (jX ls) ls.length d,.sl (kL c) c.length f]] (.ret (.agg [.bool false,.str [],.str [],ω 11])):=pK [] 1 1 (.n 8 .nil) (.c h (.c g .nil))
def Zy (E:fE) (A:List (List Nat)):List Nd→List Oq→List Oq
 | [],os=>os
 |x::r,os=>Zy E A r (os++ [eX E x ((A.getD os.length []).map fun j=>os.getD j zO)])
def dR (E:fE) (e:List Nd):List Oq:=Zy E (dh e) e []
def xw (E:fE) (e:List Nd):Oq:=if cO e=0 then (dR E e).getLastD (.err 11) else .err 11
theorem zQ (l:List Oq):(gJ l).length=l.length*4:=oO Dt 4 (fun _=>rfl) l
theorem mW {l:List Oq} {k:Nat} (h:k<l.length):ε ((0+δ (k:Int))*4) (gJ l)=Dt (l.getD k zO)++gJ (l.drop (k+1)):=by
 rw [aK,Xqd,κ,π h];exact wI Dt 4 (fun _=>rfl) h
theorem vP (l:List Oq) (o:Oq):ν (l.length*4) (gJ l)++ [.bool o.n,.str o.a,.str o.d,ω o.e]=gJ (l++ [o]):=by
 rw [υ (by rw [zQ];exact Δ _)];unfold gJ;rw [Xxi];rfl
def teO (os:List Oq):AV:=match os with| []=> .nilS|_::_=> .ref 2 0 0 os.length
def teB (os:List Oq):Hp:=match os with| []=> []|_::_=> [(2,⟨gJ os,0,false,0,4,true⟩)]
abbrev teS (E:fE) (nl ns ne na:Bool) (e:List Nd) (A:List (List Nat)) (os:List Oq):St:=⟨[(3,.ptr 0 0 0),(5,.sl (dH A) A.length na),(7,.ptr 1 0 0),(8,teO os),(23,.sl (a_ e) e.length ne),(24,ω (e.length:Int)),(25,ω (os.length:Int))],NR E.ls (E.qs.map Sq.c) nl ns (A8 E.ls).1 (A8 E.ls).2 (DZ (E.qs.map Sq.c)).1 (DZ (E.qs.map Sq.c)).2++teB os,.dead,[]⟩
def aeg (os:List Oq):St:=match os with| []=> ⟨[(8,.nilS)],[],.dead,[]⟩|_::_=> ⟨[(8,.ref 0 0 0 os.length)],[(0,⟨gJ os,0,false,0,4,true⟩)],.dead,[]⟩
theorem Zw (E:fE) (d g ne f:Bool) (e:List Nd) (A:List (List Nat)) (c:List Oq) (o:Oq):teS E d g ne f e A (c++ [o])=⟨[(3,.ptr 0 0 0),(5,.sl (dH A) A.length f),(7,.ptr 1 0 0),(8,.ref 2 0 0 (c.length+1)),(23,.sl (a_ e) e.length ne),(24,ω (e.length:Int)),(25,ω ((c.length+1:Nat):Int))],NR E.ls (E.qs.map Sq.c) d g (A8 E.ls).1 (A8 E.ls).2 (DZ (E.qs.map Sq.c)).1 (DZ (E.qs.map Sq.c)).2++ [(2,⟨gJ (c++ [o]),0,false,0,4,true⟩)],.dead,[]⟩:=by
 cases c with
 |nil=>rfl
 |cons a r=>
  show (⟨[(3,_),(5,_),(7,_),(8,.ref 2 0 0 (a::r++ [o]).length),(23,_),(24,_),(25,ω (((a::r++ [o]).length:Nat):Int))],_,_,_⟩:St)=_;rw [show (a::r++ [o]).length=(a::r).length+1 from η];rfl
theorem Gx (E:fE) (d g ne f:Bool) (e:List Nd) (A:List (List Nat)) {c:List Oq} (h:0<c.length):teS E d g ne f e A c=⟨[(3,.ptr 0 0 0),(5,.sl (dH A) A.length f),(7,.ptr 1 0 0),(8,.ref 2 0 0 c.length),(23,.sl (a_ e) e.length ne),(24,ω (e.length:Int)),(25,ω (c.length:Int))],NR E.ls (E.qs.map Sq.c) d g (A8 E.ls).1 (A8 E.ls).2 (DZ (E.qs.map Sq.c)).1 (DZ (E.qs.map Sq.c)).2++ [(2,⟨gJ c,0,false,0,4,true⟩)],.dead,[]⟩:=by
 cases c with
 |nil=>simp at h
 |cons a r=>rfl
theorem TC {x:Nd} (h:aO x=0):Zo x:=by
 intro g f;have c:jo x=true:=by
  cases e:jo x with
  |true=>rfl
  |false=>
   exfalso;unfold aO at h;rw [e] at h;cases d:(!inI x.op||(!dX x.op && !(x.name== [])))<;>rw [d] at h<;>cases h
 unfold jo at c;rw [show (x.op==((4:Nat):Int))=false from beq_eq_false_iff_ne.2 (by omega),show Pm x.op=false from Yq1 (by omega),show Qb x.op=true from Yq0 ⟨g,f⟩] at c;simp only [cond,ο] at c;exact ⟨c.1,by have:=of_decide_eq_true c.2;omega⟩
theorem QF:∀ (r:List Nd) (d k:Nat),iE r d= .inl k→∀ x ∈ r,aO x=0
 | [],_,_,_,x,hx=>by cases hx
 | y::r,d,k,h,x,hx=>by
  simp only [iE] at h;split at h
  ·rename_i c;split at h
   ·cases h
   ·rcases List.mem_cons.1 hx with rfl|hx
    ·exact c
    ·exact QF r _ k h x hx
  ·cases h
theorem kz {e:List Nd} (h:cO e=0):(∀ x ∈ e,aO x=0)∧e.length≤60∧0<e.length:=by
 unfold cO at h;split at h
 ·cases h
 ·rename_i f;cases c:iE e 0 with
  |inl d=>
   refine ⟨QF e 0 d c,by omega, ?_⟩;cases e with
   |nil=>simp only [iE] at c;cases c;simp [iE] at h
   |cons _ _=>simp
  |inr w=>
   rw [c] at h;exact absurd h (DF _ _ _ c)
structure fE.sm (E:fE):Prop where
 ls:E.ls.length<2^40
 qs:E.qs.length<2^40
 lk:∀ x ∈ E.ls,x.a.length<2^36∧x.d.length<2^36
 sq:∀ s ∈ E.qs,s.l.length<2^40∧∀ b ∈ s.l,b.s28
theorem adn {nt:Nat} (I:56≤nt) (E:fE) (y z ne D:Bool) {e:List Nd} (hE:E.sm) (Y:cO e=0) (V:∀ x ∈ e,x.sm):∀ (r p:List Nd) (c:List Oq),e=p++r→c.length=p.length→(∀ o ∈ c,o.ok)→
  aC prog ap [] nt (af 0 (ai f19)) (fun _=> .exit 0) (teS E y z ne D e (dh e)) aeg c (Zy E (dh e) r c):=by
 obtain ⟨hw,h60,hpos⟩:=kz Y;obtain ⟨hal,has⟩:=Ep Y;intro r
 induction r with
 |nil=>
  intro p c hp n F;rw [Γ] at hp;subst hp;cases c with
  |nil=>exact .done (abf ne y z D 0 _ _ _ _ e (dh e) E.ls (E.qs.map Sq.c) I (aF (Yq1 (by simp at n;omega))))
  |cons a r=>exact .done (afA ne y z D (a::r).length _ _ _ _ e (dh e) (a::r) E.ls (E.qs.map Sq.c) I (aF (Yq1 (by omega))))
 | cons x r ih=>
  intro p c hp n F;have P:c.length<e.length:=by rw [hp,n];simp
  have O:e[c.length]=x:=by subst hp;simp [n]
  have G:x ∈ e:=by rw [← O];exact Xxv P
  have Q:ε (δ (c.length:Int)*5) (a_ e)=qB x++a_ r:=by subst hp;exact DW n
  obtain ⟨d,g⟩:=has c.length x (by rw [π P,O]);have J:=Oy (A:=dh e) (k:=c.length) (by omega);have C:=sU (hw x G);have w:=fun (nn:Bool) (l:List Oq) (W:l.length=dM x.op) (hk:∀ o ∈ l,o.ok)=>LH E x nn l C.1 C.2 (TC (hw x G)) W hk (V x G) hE.sq
  have K:∀ j,(c.getD j zO).ok∨c.length≤j:=fun j=>by
   rcases Xxc j c.length with h|h
   ·left;rw [κ,π h];exact F _ (Xxv h)
   ·exact .inr h
  have f:∀ j ∈ (dh e).getD c.length [],(c.getD j zO).ok:=fun j T=>(K j).resolve_right (by have:=g j T;omega)
  have M:∀ l:List Nat,(∀ j ∈ l,(c.getD j zO).ok)→∀ o ∈ c++ [eX E x (l.map fun j=>c.getD j zO)],o.ok:=fun l W o B=>by
   rcases List.mem_append.1 B with B|B
   ·exact F o B
   ·rw [Xjp] at B;subst B;exact zN fun o B=>by
     obtain ⟨j,T,rfl⟩:=List.mem_map.1 B;exact W j T
  have nx:=ih (p++ [x]) (c++ [eX E x (((dh e).getD c.length []).map fun j=>c.getD j zO)]) (by rw [hp];simp) (by simp [n]) (M _ f);refine .next ?_ nx
  rw [Zw];have R:decide (((0:Nat):Int)≤(c.length:Int))=true:=Yq0 (by omega);have N:decide ((c.length:Int)<(((dh e).length:Nat):Int))=true:=Yq0 (by omega);have v:decide ((c.length:Int)<(e.length:Int))=true:=Yq0 (by omega);have t:=xk (i:=c.length) (by omega);have U:Xqc (c.length+1) 1099511627776=true:=Xql (by omega);have S:Xqc (c.length*4) (θ (gJ c))=true:=Xql (by rw [zQ];exact Δ _);have m:∀ j,j<c.length→decide (((0:Nat):Int)≤(j:Int))=true∧decide ((j:Int)<(c.length:Int))=true:=fun j T=> ⟨Yq0 (by omega),Yq0 (by omega)⟩
  generalize (dh e).getD c.length []=al at*
  have h3:=Ox x.op
  match al,d with
  | [],d=>
   have Z:=(w false [] d (by simp)).args (bD.cons (aQ.refl _) (bD.cons (aQ.refl _) (bD.cons (aQ.nilS false rfl) (bD.refl _))));cases c with
   |nil=>exact abe x _ ne y z D 0 _ _ _ _ _ _ e (dh e) E.ls (E.qs.map Sq.c) I Q J t R N v (aA v) Z
   |cons a q=>
    exact afz x _ ne y z D _ _ _ _ _ _ _ e (dh e) (a::q) E.ls (E.qs.map Sq.c) I Q J (vP _ _) t U S R N v (aA v) Z
  | [i],d=>
   have u:=g i (by simp);rw [Gx _ _ _ _ _ _ _ (by omega)];exact afB x _ (c.getD i zO) ne y z D _ i _ _ _ _ _ _ _ e (dh e) c E.ls (E.qs.map Sq.c) I Q J (mW u) (vP _ _) t U S (m i u).1 (m i u).2 R N v (aA v) (w true [c.getD i zO] d (by simpa using f i (by simp)))
  | [i,j],d=>
   have u:=g i (by simp);have H:=g j (by simp);rw [Gx _ _ _ _ _ _ _ (by omega)];exact afC x _ (c.getD i zO) (c.getD j zO) ne y z D _ i j _ _ _ _ _ _ _ _ e (dh e) c E.ls (E.qs.map Sq.c) I Q J (mW u) (mW H) (vP _ _) t U S (m j H).1 (m j H).2 (m i u).1 (m i u).2 R N v (aA v) (w true [c.getD i zO,c.getD j zO] d (by
    intro o n;simp at n;rcases n with rfl|rfl
    ·exact f i (by simp)
    ·exact f j (by simp)))
  | [i,j,h],d=>
   have u:=g i (by simp);have H:=g j (by simp);have X:=g h (by simp);rw [Gx _ _ _ _ _ _ _ (by omega)];exact afD x _ (c.getD i zO) (c.getD j zO) (c.getD h zO) ne y z D _ i j h _ _ _ _ _ _ _ _ _ e (dh e) c E.ls (E.qs.map Sq.c) I Q J (mW u) (mW H) (mW X) (vP _ _) t U S (m h X).1 (m h X).2 (m j H).1 (m j H).2 (m i u).1 (m i u).2 R N v (aA v) (w true [c.getD i zO,c.getD j zO,c.getD h zO] d (by
    intro o n;simp at n;rcases n with rfl|rfl|rfl
    ·exact f i (by simp)
    ·exact f j (by simp)
    ·exact f h (by simp)))
  |_::_::_::_::_,d=>simp only [ξ] at d;omega
theorem D9 (E:fE) (A:List (List Nat)):∀ (r:List Nd) (os:List Oq),(Zy E A r os).length=os.length+r.length
 | [],os=>by simp [Zy]
 |x::r,os=>by rw [Zy,D9 E A r];simp;omega
theorem UG (E:fE) (d f ne:Bool) {e:List Nd} (g:cO e ≠ 0) (c:∀ x ∈ e,x.sm):CO 19 [.sl (a_ e) e.length ne,.agg [.sl (jX E.ls) E.ls.length d,.sl (kL (E.qs.map Sq.c)) (E.qs.map Sq.c).length f]] (.ret .nilS):=
 ajU ne d f e E.ls (E.qs.map Sq.c) (ahY e ne (cO e) [] (by rw [show (cO e==((0:Nat):Int))=false from beq_eq_false_iff_ne.2 g];rfl) (yS e ne c))
theorem AU (E:fE) (c d ne:Bool) {e:List Nd} (g:E.sm) (i:cO e=0) (f:∀ x ∈ e,x.sm):CO 19 [.sl (a_ e) e.length ne,.agg [.sl (jX E.ls) E.ls.length c,.sl (kL (E.qs.map Sq.c)) (E.qs.map Sq.c).length d]] (.ret (.own (gJ (dR E e)) (dR E e).length 4)):=by
 have j:(dR E e).length=e.length:=by unfold dR;rw [D9];simp
 have k:=(kz i).2.2;have p:=LJ E.ls (E.qs.map Sq.c) c d (Xqz g.ls (by decide)) (by rw [Xjm];exact Xqz g.qs (by decide)) g.lk;have m:∀ nt,56≤nt→aC prog ap [] nt (af 0 (ai f19)) (fun _=> .exit 0) (teS E c d ne true e (dh e)) aeg [] (dR E e):=fun nt o=>adn o E c d ne true g i f e [] [] rfl rfl (by simp)
 have n:=aC.blk (id:=0) (e':= .normal) (s:=⟨[(0,.sl (a_ e) e.length ne),(1,.agg [.sl (jX E.ls) E.ls.length c,.sl (kL (E.qs.map Sq.c)) (E.qs.map Sq.c).length d]),(3,.ptr 0 0 0),(4,.nilS),(5,.sl (dH (dh e)) (dh e).length true),(6,.bool true),(7,.ptr 1 0 0),(8,.nilS),(9,.dead),(10,.dead),(11,.dead),(13,.dead),(20,.bool false),(23,.sl (a_ e) e.length ne),(24,ω (e.length:Int)),(25,ω 0),(26,.dead),(33,.dead),(34,.dead),(35,.dead),(36,.dead)],NR E.ls (E.qs.map Sq.c) c d (A8 E.ls).1 (A8 E.ls).2 (DZ (E.qs.map Sq.c)).1 (DZ (E.qs.map Sq.c)).2,.dead,[]⟩) (s':=⟨[(8,.ref 0 0 0 (dR E e).length)],[(0,⟨gJ (dR E e),0,false,0,4,true⟩)],.dead,[]⟩) m (by simp) rfl (aP.of ⟨rfl,rfl,rfl,rfl,rfl,rfl,rfl,trivial⟩) (by
  generalize dR E e=t at j;cases t with
  |nil=>simp at j;omega
  |cons a r=>exact aP.refl _)
 have h:=ajT ne c d true _ _ _ _ e (dh e) (dR E e) E.ls (E.qs.map Sq.c) (Wp e ne f i) p n;rw [υ (by rw [zQ];exact Δ _)] at h;exact h
theorem iI (E:fE) (c f ne:Bool) {e:List Nd} (i:E.sm) (d:∀ x ∈ e,x.sm):CO 21 [.sl (a_ e) e.length ne,.agg [.sl (jX E.ls) E.ls.length c,.sl (kL (E.qs.map Sq.c)) (E.qs.map Sq.c).length f]] (.ret (gz (xw E e))):=by
 unfold xw;by_cases hc:cO e=0
 ·rw [if_pos hc];have k:=AU E c f ne i hc d;have m:(dR E e).length=e.length:=by unfold dR;rw [D9];simp
  obtain ⟨_,j,g⟩:=kz hc;have h:(dR E e).length - 1<(dR E e).length:=by omega
  have hlast:(dR E e).getLastD (.err 11)=(dR E e).getD ((dR E e).length - 1) zO:=by
   rw [List.getLastD_eq_getLast?,List.getLast?_eq_getElem?,κ,π h];rfl
  rw [hlast];refine ajp _ ne c f ((dR E e).length - 1) _ e (dR E e) E.ls (E.qs.map Sq.c) (mW h) ?_ (Yq0 (by omega)) (Yq0 (by omega)) ?_ k
  ·congr 1;rw [show (((dR E e).length:Nat):Int) - ((1:Nat):Int)=(((dR E e).length - 1:Nat):Int) by omega];exact bC (by omega)
  ·rw [show ((((dR E e).length:Nat):Int)==((0:Nat):Int))=false from beq_eq_false_iff_ne.2 (by omega)];rfl
 ·rw [if_neg hc];exact ajo ne c f e E.ls (E.qs.map Sq.c) (UG E c f ne hc d) (ja 11)
def fQ (ts:List Ty) (a:List Nat):List Ty:=a.map fun j=>ts.getD j zT
def m_ (l:List Sg):List Nd→Nat→List Nat→List Ty→List Ty ⊕ Int
 | [],_,_,ts=> .inl ts
 |x::r,k,st,ts=>if (gU l x (fQ ts (st.drop (st.length - dM x.op)))).2=0 then m_ l r (k+1) (st.take (st.length - dM x.op)++ [k]) (ts++ [(gU l x (fQ ts (st.drop (st.length - dM x.op)))).1]) else .inr (gU l x (fQ ts (st.drop (st.length - dM x.op)))).2
def yD (l:List Sg) (ns:List Nd):List Ty ⊕ Int:=if cO ns=0 then m_ l ns 0 [] [] else .inr (cO ns)
theorem VP (l:List Sg):∀ (r:List Nd) (k:Nat) (st:List Nat) (ts c:List Ty),m_ l r k st ts= .inl c→c.length=ts.length+r.length:=by
 intro r
 induction r with
 |nil=>intro k st ts c h;simp only [m_,Sum.inl.injEq] at h;rw [h];simp
 |cons x r ih=>
  intro k st ts c h;simp only [m_] at h;split at h
  ·have d:=ih _ _ _ _ h;rw [d];simp;omega
  ·cases h
end Go.Proofs.Tryz
