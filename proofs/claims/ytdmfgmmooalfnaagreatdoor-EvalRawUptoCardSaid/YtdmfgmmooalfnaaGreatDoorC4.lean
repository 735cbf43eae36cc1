/- Contracts of functions that the law reaches, each by its own hypotheses; joined by a program of mine. -/
import Derived.Test.YtdmfgmmooalfnaaGreatDoorC3
import Derived.Test.YtdmfgmmooalfnaaGreatDoorM5
import Derived.Test.YtdmfgmmooalfnaaGreatDoorC1
import Derived.Test.YtdmfgmmooalfnaaGreatDoorM4
import Derived.Test.YtdmfgmmooalfnaaGreatDoorCards
import Derived.Test.YtdmfgmmooalfnaaGreatDoorTie
import Derived.Deep.DeepHandedRow
import Derived.Test.YtdmfgmmooalfnaaGreatDoorC2
import Derived.Laws.IdiomArrays
set_option linter.unusedSimpArgs false
set_option linter.unusedVariables false
set_option maxRecDepth 100000
set_option linter.unusedVariables false
open Go AM
open List renaming drop→ε,length→η,take→ν,take_of_length_le→Ξ,flatMap_append→Xjf,length_append→θ,flatMap_cons→Xjg,flatMap→Yxj,drop_left→Xvh,append_nil→Γ,length_map→Xxt,mem_singleton→Xzg,mem_of_getElem?→Xqj,getElem_mem→Xxb,drop_eq_getElem_cons→Xxp,length_singleton→σ,find?_cons_of_pos→Xv6,find?_cons_of_neg→Xwm,length_cons→μ,getD_eq_getElem?_getD→ο,getElem?_eq_getElem→ξ,length_take→Xqz,mem_of_mem_take→Xxl
open Int renaming toNat→δ,natAbs_neg→Xvi,natAbs_natCast→Xjh
open IntKind renaming wrap→γ
open Nat renaming ble→Xqg,ble_eq_true_of_le→Xqt,le_refl→Δ,lt_trans→Xxa,div_one→Xz0,div_le_self→Xjq,le_trans→Xq1,lt_of_le_of_lt→χ,lt_or_ge→Xq5,min_eq_left→Xx1,min_le_right→Xv1
open Bool renaming and_eq_true→π
open AV renaming sl→Yqi
namespace Go.Proofs.Tryz
abbrev zcc4_0 : List AV := [ω 4,.bool false,.str [1],.str [1],.str [],ω 3,.bool false,.str [1],.str [1],.str [],ω 3,.bool false,.str [1],.str [1],.str [],ω 3,.bool false,.str [],.str [1],.str [],ω 12,.bool false,.str [],.str [],.str [],ω 15,.bool false,.str [],.str [],.str []]
abbrev zcc4_1 : List AV := [ω 4,.bool false,.str [],.str [1],.str [],ω 3,.bool false,.str [1],.str [1],.str [],ω 3,.bool false,.str [1],.str [1],.str [],ω 3,.bool false,.str [],.str [1],.str [],ω 12,.bool false,.str [],.str [],.str [],ω 15,.bool false,.str [],.str [],.str []]
abbrev zcc4_2 : List AV := [ω 3,.bool false,.str [2],.str [1],.str [],ω 3,.bool false,.str [1],.str [1],.str [],ω 3,.bool false,.str [],.str [1],.str [],ω 12,.bool false,.str [],.str [],.str [],ω 19,.bool false,.str [],.str [],.str []]
abbrev zcc4_3 : List AV := [ω 6,.bool false,.str [],.str [],.str [120],ω 3,.bool false,.str [1],.str [1],.str [],ω 3,.bool false,.str [],.str [1],.str [],ω 12,.bool false,.str [],.str [],.str [],ω 9,.bool false,.str [],.str [],.str []]
abbrev zcc4_4 : List AV := [.bool false,.str [],.str [1],.bool false,.str [],.str [1],.bool false,.str [100],.str [1],.bool false,.str [1],.str [10],.bool false,.str [1,44],.str [1],.bool false,.str [1],.str [4]]
abbrev zcc4_5 : List AV := [ω 4,.bool false,.str [1],.str [1],.str [],ω 3,.bool false,.str [2],.str [1],.str [],ω 18,.bool false,.str [],.str [],.str []]
abbrev zcc4_6 : List AV := [ω 1,.bool false,.str [1],.str [2],.str [],ω 1,.bool false,.str [1],.str [3],.str [],ω 9,.bool false,.str [],.str [],.str []]
abbrev zcc4_7 : List AV := [.bool false,.str [1],.str [1],ω 0,.bool false,.str [3],.str [1],ω 0,.bool true,.str [2],.str [1],ω 0]
abbrev zcc4_8 : List AV := [ω 1,.bool false,.str [200],.str [1],.str [],ω 24,.bool false,.str [],.str [],.str [115]]
abbrev zcc4_9 : List AV := [ω 3,.bool false,.str [5],.str [4],.str [],ω 23,.bool false,.str [1],.str [2],.str []]
abbrev zcc4_10 : List AV := [ω 3,.bool true,.str [1],.str [4],.str [],ω 21,.bool false,.str [1],.str [2],.str []]
abbrev zcc4_11 : List AV := [ω 6,.str [120],.bool false,.str [5],.str [1],ω 0]
abbrev zcc4_12 : List AV := [ω 6,.str [120],.bool false,.str [],.str [],ω 17]
abbrev zcc4_13 : List AV := [ω 6,.bool false,.str [],.str [],.str [120]]
abbrev zcc4_14 : List AV := [ω 3,.bool false,.str [1],.str [1],.str []]
abbrev zcc4_15 : List AV := [ω 3,.bool false,.str [],.str [1],.str []]
structure Ro where
 n:Bool
 a:List UInt8
 d:List UInt8
 e:Int
def roC (x:Ro):List AV:= [.bool x.n,.str x.a,.str x.d,ω x.e]
def xy (l:List Ro):List AV:=l.flatMap roC
def Aq (x:Ro):Oq:=yR x.n x.a x.d x.e
def nmN:Nd:=⟨3,false,[],[1],[]⟩
def fK (k:Nat):List Nd:=List.replicate k nmN
abbrev GY (y:Nd) (ls:List Lk) (cs:List Sc) (nl ns:Bool):Hp:= [(0,⟨[ω y.op,.bool y.neg,.str y.num,.str y.den,.str y.name],0,false,0,0,true⟩),(1,⟨[.sl (dJ ls) ls.length nl,.sl (dF cs) cs.length ns],0,false,0,0,true⟩),(2,⟨[.bool false,.str [],.str [],ω 0],0,false,0,0,true⟩)]
theorem ahB (y:Nd) (x:Ro) (o:Oq) (d c e:Bool) (k:Nat) (g:List AV) (ar:List Ro) (ls:List Lk) (cs:List Sc) {nt:Nat} (p:44≤nt) (i:(ε ((δ (k:Int))*4) (xy ar))=roC x++g) (m:ω (γ .i64 ((k:Int)+((1:Nat):Int)))=ω ((k+1:Nat):Int)) (h:(decide (((0:Nat):Int)≤(k:Int)))=true) (n:(decide ((k:Int)<(ar.length:Int)))=true) (f:lit true (decide ((k:Int)<(ar.length:Int)))=true) (q:CO 42 [ω 0] (.ret (Ω false [] [1]))) (j:CO 43 [.agg [.bool x.n,.str x.a,.str x.d,ω x.e]] (.ret (.agg [.bool o.n,.str o.a,.str o.d,ω o.e]))):ψ nt f15 ⟨[(3,.ptr 0 0 0),(5,.ptr 1 0 0),(6,.ptr 2 0 0),(7,.nilS),(8,.nilS),(15,.sl (xy ar) ar.length e),(16,ω (ar.length:Int)),(17,ω (k:Int))],(GY y ls cs d c),.dead,[]⟩ (.normal) ⟨[(3,.ptr 0 0 0),(5,.ptr 1 0 0),(6,.ptr 2 0 0),(7,.ref 3 0 0 1),(8,.ref 4 0 0 1),(15,.sl (xy ar) ar.length e),(16,ω (ar.length:Int)),(17,ω ((k+1:Nat):Int))],(GY y ls cs d c++ [(3,⟨zcc4_15,0,false,0,5,true⟩),(4,⟨[.bool o.n,.str o.a,.str o.d,ω o.e],0,false,0,4,true⟩)]),.dead,[]⟩:=pN 15 [] 3 1 (.k 15 h (.c n (.c f .nil))) (.v 17 (.eq m) (.c j (.c q (.v 19 (.ppt i) .nil)))) p
theorem ahC (y:Nd) (c d e:Bool) (k:Nat) (ar:List Ro) (ls:List Lk) (cs:List Sc) {nt:Nat} (f:44≤nt) (g:lit false (decide ((k:Int)<(ar.length:Int)))=true):ψ nt f15 ⟨[(3,.ptr 0 0 0),(5,.ptr 1 0 0),(6,.ptr 2 0 0),(7,.nilS),(8,.nilS),(15,.sl (xy ar) ar.length e),(16,ω (ar.length:Int)),(17,ω (k:Int))],(GY y ls cs c d),.dead,[]⟩ (.exit 0) ⟨[(3,.ptr 0 0 0),(5,.ptr 1 0 0),(6,.ptr 2 0 0),(7,.nilS),(8,.nilS)],(GY y ls cs c d),.dead,[]⟩:=pN 15 [] 1 0 (.c g .nil) (.nil) f
theorem amk (y:Nd) (x:Ro) (o:Oq) (f d g:Bool) (k:Nat) (n:List AV) (ar:List Ro) (c:List Oq) (ls:List Lk) (cs:List Sc) {nt:Nat} (u:44≤nt) (p:(ε ((δ (k:Int))*4) (xy ar))=roC x++n) (r:ω (γ .i64 ((k:Int)+((1:Nat):Int)))=ω ((k+1:Nat):Int)) (e:(Xqg (c.length+1) 1099511627776)=true) (t:(Xqg (c.length*4) (η (dI c)))=true) (m:(Xqg (c.length*5) (η (aV (fK c.length))))=true) (h:(decide (((0:Nat):Int)≤(k:Int)))=true) (i:(decide ((k:Int)<(ar.length:Int)))=true) (j:lit true (decide ((k:Int)<(ar.length:Int)))=true) (v:CO 42 [ω 0] (.ret (Ω false [] [1]))) (q:CO 43 [.agg [.bool x.n,.str x.a,.str x.d,ω x.e]] (.ret (.agg [.bool o.n,.str o.a,.str o.d,ω o.e]))):ψ nt f15 ⟨[(3,.ptr 0 0 0),(5,.ptr 1 0 0),(6,.ptr 2 0 0),(7,.ref 3 0 0 c.length),(8,.ref 4 0 0 c.length),(15,.sl (xy ar) ar.length g),(16,ω (ar.length:Int)),(17,ω (k:Int))],(GY y ls cs f d++ [(3,⟨(aV (fK c.length)),0,false,0,5,true⟩),(4,⟨(dI c),0,false,0,4,true⟩)]),.dead,[]⟩ (.normal) ⟨[(3,.ptr 0 0 0),(5,.ptr 1 0 0),(6,.ptr 2 0 0),(7,.ref 3 0 0 (c.length+1)),(8,.ref 4 0 0 (c.length+1)),(15,.sl (xy ar) ar.length g),(16,ω (ar.length:Int)),(17,ω ((k+1:Nat):Int))],(GY y ls cs f d++ [(3,⟨((ν (c.length*5) (aV (fK c.length)))++ zcc4_15),0,false,0,5,true⟩),(4,⟨((ν (c.length*4) (dI c))++ [.bool o.n,.str o.a,.str o.d,ω o.e]),0,false,0,4,true⟩)]),.dead,[]⟩:=pN 15 [] 1 1 (.k 1 e (.c t (.k 6 e (.c m (.k 6 h (.c i (.c j .nil))))))) (.v 17 (.eq r) (.c q (.c v (.v 19 (.ppt p) .nil)))) u
theorem aml (y:Nd) (d e f:Bool) (k:Nat) (ar:List Ro) (c:List Oq) (ls:List Lk) (cs:List Sc) {nt:Nat} (g:44≤nt) (h:lit false (decide ((k:Int)<(ar.length:Int)))=true):ψ nt f15 ⟨[(3,.ptr 0 0 0),(5,.ptr 1 0 0),(6,.ptr 2 0 0),(7,.ref 3 0 0 c.length),(8,.ref 4 0 0 c.length),(15,.sl (xy ar) ar.length f),(16,ω (ar.length:Int)),(17,ω (k:Int))],(GY y ls cs d e++ [(3,⟨(aV (fK c.length)),0,false,0,5,true⟩),(4,⟨(dI c),0,false,0,4,true⟩)]),.dead,[]⟩ (.exit 0) ⟨[(3,.ptr 0 0 0),(5,.ptr 1 0 0),(6,.ptr 2 0 0),(7,.ref 3 0 0 c.length),(8,.ref 4 0 0 c.length)],(GY y ls cs d e++ [(3,⟨(aV (fK c.length)),0,false,0,5,true⟩),(4,⟨(dI c),0,false,0,4,true⟩)]),.dead,[]⟩:=pN 15 [] 1 0 (.c h .nil) (.nil) g
theorem aec (y:Nd) (d e f:Bool) (c:Int) (ar:List Ro) (ls:List Lk) (cs:List Sc) (k:lit true (!(c==((0:Nat):Int)))=true) (g:lit false (decide (((60:Nat):Int)<(ar.length:Int)))=true) (h:aG prog ap [] 44 (.block 0 (.loop (af 0 (ah f15)))) ⟨[(0,.agg [ω y.op,.bool y.neg,.str y.num,.str y.den,.str y.name]),(1,.sl (xy ar) ar.length f),(2,.agg [.sl (dJ ls) ls.length d,.sl (dF cs) cs.length e]),(3,.ptr 0 0 0),(5,.ptr 1 0 0),(6,.ptr 2 0 0),(7,.nilS),(8,.nilS),(10,.dead),(13,.bool (decide (((60:Nat):Int)<(ar.length:Int)))),(15,.sl (xy ar) ar.length f),(16,ω (ar.length:Int)),(17,ω 0),(18,.dead),(37,.dead)],(GY y ls cs d e),.dead,[]⟩ (.normal) ⟨[(3,.ptr 0 0 0),(5,.ptr 1 0 0),(6,.ptr 2 0 0),(7,.nilS),(8,.nilS)],(GY y ls cs d e),.dead,[]⟩) (i:CO 44 [.sl [ω y.op,.bool y.neg,.str y.num,.str y.den,.str y.name] 1 true] (.ret (ω c))) (j:CO 41 [ω 11] (.ret (.agg [.bool false,.str [],.str [],ω 11]))):CO 15 [.agg [ω y.op,.bool y.neg,.str y.num,.str y.den,.str y.name],.sl (xy ar) ar.length f,.agg [.sl (dJ ls) ls.length d,.sl (dF cs) cs.length e]] (.ret (.agg [.bool false,.str [],.str [],ω 11])):=pK [0] 3 4 (.k 5 k (.k 8 g .nil)) (.c j (.c i (.l h .nil)))
theorem aed (y:Nd) (q:Oq) (e d f:Bool) (c:Int) (k1 v1 k2 g:List AV) (ar:List Ro) (ls:List Lk) (cs:List Sc) (h:lit false (!(c==((0:Nat):Int)))=true) (m:lit false (decide (((60:Nat):Int)<(ar.length:Int)))=true) (j:aG prog ap [] 44 (.block 0 (.loop (af 0 (ah f15)))) ⟨[(0,.agg [ω y.op,.bool y.neg,.str y.num,.str y.den,.str y.name]),(1,.sl (xy ar) ar.length f),(2,.agg [.sl (dJ ls) ls.length e,.sl (dF cs) cs.length d]),(3,.ptr 0 0 0),(5,.ptr 1 0 0),(6,.ptr 2 0 0),(7,.nilS),(8,.nilS),(10,.dead),(13,.bool (decide (((60:Nat):Int)<(ar.length:Int)))),(15,.sl (xy ar) ar.length f),(16,ω (ar.length:Int)),(17,ω 0),(18,.dead),(37,.dead)],(GY y ls cs e d),.dead,[]⟩ (.normal) ⟨[(3,.ptr 0 0 0),(5,.ptr 1 0 0),(6,.ptr 2 0 0),(7,.nilS),(8,.nilS)],(GY y ls cs e d),.dead,[]⟩) (n:CO 44 [.sl [ω y.op,.bool y.neg,.str y.num,.str y.den,.str y.name] 1 true] (.ret (ω c))) (k:CO 45 [.agg [.sl (dJ ls) ls.length e,.sl (dF cs) cs.length d]] (.ret (.agg [.mp k1 v1,.mp k2 g]))) (i:CO 46 [.agg [.mp k1 v1,.mp k2 g],.agg [ω y.op,.bool y.neg,.str y.num,.str y.den,.str y.name],.nilS] (.ret (.agg [.bool q.n,.str q.a,.str q.d,ω q.e]))):CO 15 [.agg [ω y.op,.bool y.neg,.str y.num,.str y.den,.str y.name],.sl (xy ar) ar.length f,.agg [.sl (dJ ls) ls.length e,.sl (dF cs) cs.length d]] (.ret (.agg [.bool q.n,.str q.a,.str q.d,ω q.e])):=pK [0] 3 0 (.k 12 h (.k 8 m .nil)) (.c i (.c k (.c n (.l j .nil))))
theorem ah3 (y:Nd) (e f g:Bool) (c:Int) (ar:List Ro) (d:List Oq) (ls:List Lk) (cs:List Sc) (o:lit true (!(c==((0:Nat):Int)))=true) (h:(Xqg (d.length+1) 1099511627776)=true) (k:(Xqg (d.length*5) (η (aV (fK d.length))))=true) (i:lit false (decide (((60:Nat):Int)<(ar.length:Int)))=true) (j:aG prog ap [] 44 (.block 0 (.loop (af 0 (ah f15)))) ⟨[(0,.agg [ω y.op,.bool y.neg,.str y.num,.str y.den,.str y.name]),(1,.sl (xy ar) ar.length g),(2,.agg [.sl (dJ ls) ls.length e,.sl (dF cs) cs.length f]),(3,.ptr 0 0 0),(5,.ptr 1 0 0),(6,.ptr 2 0 0),(7,.nilS),(8,.nilS),(10,.dead),(13,.bool (decide (((60:Nat):Int)<(ar.length:Int)))),(15,.sl (xy ar) ar.length g),(16,ω (ar.length:Int)),(17,ω 0),(18,.dead),(37,.dead)],(GY y ls cs e f),.dead,[]⟩ (.normal) ⟨[(3,.ptr 0 0 0),(5,.ptr 1 0 0),(6,.ptr 2 0 0),(7,.ref 3 0 0 d.length),(8,.ref 4 0 0 d.length)],(GY y ls cs e f++ [(3,⟨(aV (fK d.length)),0,false,0,5,true⟩),(4,⟨(dI d),0,false,0,4,true⟩)]),.dead,[]⟩) (m:CO 44 [.sl (ν ((d.length+1)*5) ((ν (d.length*5) (aV (fK d.length)))++ [ω y.op,.bool y.neg,.str y.num,.str y.den,.str y.name])) (d.length+1) true] (.ret (ω c))) (n:CO 41 [ω 11] (.ret (.agg [.bool false,.str [],.str [],ω 11]))):CO 15 [.agg [ω y.op,.bool y.neg,.str y.num,.str y.den,.str y.name],.sl (xy ar) ar.length g,.agg [.sl (dJ ls) ls.length e,.sl (dF cs) cs.length f]] (.ret (.agg [.bool false,.str [],.str [],ω 11])):=pK [0] 2 2 (.k 5 o (.k 1 h (.c k (.k 6 i .nil)))) (.c n (.c m (.l j .nil)))
theorem ah4 (y:Nd) (q:Oq) (f e g:Bool) (c:Int) (k1 v1 k2 h:List AV) (ar:List Ro) (d:List Oq) (ls:List Lk) (cs:List Sc) (k:lit false (!(c==((0:Nat):Int)))=true) (p:(Xqg (d.length+1) 1099511627776)=true) (j:(Xqg (d.length*5) (η (aV (fK d.length))))=true) (i:lit false (decide (((60:Nat):Int)<(ar.length:Int)))=true) (n:aG prog ap [] 44 (.block 0 (.loop (af 0 (ah f15)))) ⟨[(0,.agg [ω y.op,.bool y.neg,.str y.num,.str y.den,.str y.name]),(1,.sl (xy ar) ar.length g),(2,.agg [.sl (dJ ls) ls.length f,.sl (dF cs) cs.length e]),(3,.ptr 0 0 0),(5,.ptr 1 0 0),(6,.ptr 2 0 0),(7,.nilS),(8,.nilS),(10,.dead),(13,.bool (decide (((60:Nat):Int)<(ar.length:Int)))),(15,.sl (xy ar) ar.length g),(16,ω (ar.length:Int)),(17,ω 0),(18,.dead),(37,.dead)],(GY y ls cs f e),.dead,[]⟩ (.normal) ⟨[(3,.ptr 0 0 0),(5,.ptr 1 0 0),(6,.ptr 2 0 0),(7,.ref 3 0 0 d.length),(8,.ref 4 0 0 d.length)],(GY y ls cs f e++ [(3,⟨(aV (fK d.length)),0,false,0,5,true⟩),(4,⟨(dI d),0,false,0,4,true⟩)]),.dead,[]⟩) (r:CO 44 [.sl (ν ((d.length+1)*5) ((ν (d.length*5) (aV (fK d.length)))++ [ω y.op,.bool y.neg,.str y.num,.str y.den,.str y.name])) (d.length+1) true] (.ret (ω c))) (o:CO 45 [.agg [.sl (dJ ls) ls.length f,.sl (dF cs) cs.length e]] (.ret (.agg [.mp k1 v1,.mp k2 h]))) (m:CO 46 [.agg [.mp k1 v1,.mp k2 h],.agg [ω y.op,.bool y.neg,.str y.num,.str y.den,.str y.name],.sl (ν (d.length*4) (dI d)) d.length true] (.ret (.agg [.bool q.n,.str q.a,.str q.d,ω q.e]))):CO 15 [.agg [ω y.op,.bool y.neg,.str y.num,.str y.den,.str y.name],.sl (xy ar) ar.length g,.agg [.sl (dJ ls) ls.length f,.sl (dF cs) cs.length e]] (.ret (.agg [.bool q.n,.str q.a,.str q.d,ω q.e])):=pK [0] 2 0 (.k 12 k (.k 1 p (.c j (.k 6 i .nil)))) (.c m (.c o (.c r (.l n .nil))))
def eoN (os:List Oq):AV:=match os with| []=> .nilS|_::_=> .ref 3 0 0 os.length
def eoM (os:List Oq):AV:=match os with| []=> .nilS|_::_=> .ref 4 0 0 os.length
def eoB (os:List Oq):Hp:=match os with| []=> []|_::_=> [(3,⟨aV (fK os.length),0,false,0,5,true⟩),(4,⟨dI os,0,false,0,4,true⟩)]
abbrev eoS (y:Nd) (ls:List Lk) (cs:List Sc) (nl ns na:Bool) (ar:List Ro) (os:List Oq):St:=⟨[(3,.ptr 0 0 0),(5,.ptr 1 0 0),(6,.ptr 2 0 0),(7,eoN os),(8,eoM os),(15,.sl (xy ar) ar.length na),(16,ω (ar.length:Int)),(17,ω (os.length:Int))],GY y ls cs nl ns++eoB os,.dead,[]⟩
abbrev eoO (y:Nd) (ls:List Lk) (cs:List Sc) (nl ns:Bool) (os:List Oq):St:=⟨[(3,.ptr 0 0 0),(5,.ptr 1 0 0),(6,.ptr 2 0 0),(7,eoN os),(8,eoM os)],GY y ls cs nl ns++eoB os,.dead,[]⟩
theorem of0:CO 42 [ω 0] (.ret (Ω false [] [1])):=sJ (Fa 0 (by decide)) (by kernel_rfl)
theorem SN (k:Nat):ν (k*5) (aV (fK k))++ zcc4_15=aV (fK (k+1)):=by
 rw [Ξ (by rw [vz];simp [fK])];unfold fK;rw [List.replicate_succ'];unfold aV;rw [Xjf];rfl
theorem Vj (y:Nd) (ls:List Lk) (cs:List Sc) (e f d:Bool) (ar:List Ro) (c:List Oq) (o:Oq):eoS y ls cs e f d ar (c++ [o])=⟨[(3,.ptr 0 0 0),(5,.ptr 1 0 0),(6,.ptr 2 0 0),(7,.ref 3 0 0 (c.length+1)),(8,.ref 4 0 0 (c.length+1)),(15,.sl (xy ar) ar.length d),(16,ω (ar.length:Int)),(17,ω ((c.length+1:Nat):Int))],GY y ls cs e f++ [(3,⟨aV (fK (c.length+1)),0,false,0,5,true⟩),(4,⟨dI (c++ [o]),0,false,0,4,true⟩)],.dead,[]⟩:=by
 cases c with
 |nil=>rfl
 |cons a r=>
  show (⟨[(3,_),(5,_),(6,_),(7,.ref 3 0 0 (a::r++ [o]).length),(8,.ref 4 0 0 (a::r++ [o]).length),(15,_),(16,_),(17,ω (((a::r++ [o]).length:Nat):Int))],_++ [(3,⟨aV (fK (a::r++ [o]).length),_,_,_,_,_⟩),_],_,_⟩:St)=_;rw [show (a::r++ [o]).length=(a::r).length+1 from θ]
theorem aaT {l:List Ro} {k:Nat} {x:Ro} {p r:List Ro} (h:l=p++x::r) (c:k=p.length):ε (δ (k:Int)*4) (xy l)=roC x++xy r:=by
 subst h c;rw [aB];unfold xy;rw [Xjf,Xjg];have d:(Yxj roC p).length=p.length*4:=ul roC 4 (fun _=>rfl) p;rw [← d,Xvh]
theorem Y2 {nt:Nat} (m:44≤nt) (y:Nd) (ls:List Lk) (cs:List Sc) (e f g:Bool) {ar:List Ro} (C:ar.length≤60) (o:∀ x ∈ ar,x.a.length<2^36∧x.d.length<2^36):∀ (r p:List Ro) (c:List Oq),ar=p++r→c=p.map Aq→
  az prog ap [] nt (af 0 (ah f15)) (fun _=> .exit 0) (eoS y ls cs e f g ar) (eoO y ls cs e f) c (ar.map Aq):=by
 intro r
 induction r with
 |nil=>
  intro p c hp k;rw [Γ] at hp;subst hp;subst k;have hd:lit false (decide ((((ar.map Aq).length:Nat):Int)<(ar.length:Int)))=true:=aN (Yq1 (by simp));generalize ar.map Aq=c at*
  cases c with
  |nil=>exact .done (ahC y e f g 0 ar ls cs m hd)
  |cons a q=>exact .done (aml y e f g (a::q).length ar (a::q) ls cs m hd)
 | cons x r ih=>
  intro p c hp k;have d:c.length=p.length:=by rw [k,Xxt]
  have B:c.length<ar.length:=by rw [hp,d];simp
  have t:=aaT hp d;have hs:=o x (by rw [hp];simp);have z:=ih (p++ [x]) (c++ [Aq x]) (by rw [hp];simp) (by rw [k];simp);refine .next ?_ z
  rw [Vj];have u:decide (((0:Nat):Int)≤(c.length:Int))=true:=Yq0 (by omega);have n:decide ((c.length:Int)<(ar.length:Int))=true:=Yq0 (by omega);have j:=Ci (i:=c.length) (by omega);have w:Xqg (c.length+1) 1099511627776=true:=Xqt (by omega);have v:Xqg (c.length*4) (η (dI c))=true:=Xqt (by rw [pU];exact Δ _);have A:Xqg (c.length*5) (η (aV (fK c.length)))=true:=Xqt (by rw [vz];simp [fK]);cases c with
  |nil=>exact ahB y x (Aq x) e f g 0 _ ar ls cs m t j u n (aK n) of0 (vN x.n x.a x.d x.e hs.1 hs.2)
  |cons a q=>
   have h:=amk y x (Aq x) e f g (a::q).length _ ar (a::q) ls cs m t j w v A u n (aK n) of0 (vN x.n x.a x.d x.e hs.1 hs.2);rw [SN,kY] at h;exact h
def ah2 (E:eU) (y:Nd) (l:List Oq):Oq:=if b_ (fK l.length++ [y])=0 then mG E y l else .err 11
theorem DJ:∀ (k d:Nat) (r:List Nd),je (fK k++r) d=je r (d+k)
 |0,_,_=>rfl
 |k+1,d,r=>by
  show je (nmN::(fK k++r)) d=_;simp only [je];rw [if_pos (show aI nmN=0 by kernel_rfl),if_neg (show ¬ d<dD nmN.op from Nat.not_lt_zero _),DJ k _ r];congr 1;show d - 0+1+k=_;omega
theorem acx {k:Nat} {y:Nd} (h:b_ (fK k++ [y])=0):k=dD y.op:=by
 unfold b_ at h;split at h
 ·cases h
 ·rw [DJ] at h;simp only [je] at h;by_cases hw:aI y=0
  ·rw [if_pos hw] at h;by_cases hd:0+k<dD y.op
   ·rw [if_pos hd] at h;cases h
   ·rw [if_neg hd] at h;dsimp only at h;split at h
    ·omega
    ·cases h
  ·rw [if_neg hw] at h;exact absurd h hw
theorem Qo (k:Nat):∀ x ∈ fK k,x.sm:=by
 intro x c;rw [List.eq_of_mem_replicate c];exact ⟨by decide,by decide⟩
theorem Zj (E:eU) (f e j:Bool) (n:E.sm) (y:Nd) (D:y.sm) {ar:List Ro} (G:ar.length≤60) (w:∀ x ∈ ar,x.a.length<2^36∧x.d.length<2^36):
  CO 15 [.agg (nI y),.sl (xy ar) ar.length j,.agg [.sl (dJ E.ls) E.ls.length f,.sl (dF (E.qs.map Sq.c)) (E.qs.map Sq.c).length e]] (.ret (eF (ah2 E y (ar.map Aq)))):=by
 have C:=KC E.ls (E.qs.map Sq.c) f e (Xxa n.ls (by decide)) (by rw [Xxt];exact Xxa n.qs (by decide)) n.lk;have O:∀ nt,44≤nt→az prog ap [] nt (af 0 (ah f15)) (fun _=> .exit 0) (eoS y E.ls (E.qs.map Sq.c) f e j ar) (eoO y E.ls (E.qs.map Sq.c) f e) [] (ar.map Aq):=fun nt N=>Y2 N y E.ls (E.qs.map Sq.c) f e j G w ar [] [] rfl rfl
 have v:∀ x ∈ fK ar.length++ [y],x.sm:=fun x K=>(List.mem_append.1 K).elim (Qo _ x) (fun h=>by rw [Xzg] at h;exact h ▸ D)
 have i:=DI (fK ar.length++ [y]) true v;have d:lit false (decide (((60:Nat):Int)<(ar.length:Int)))=true:=aN (Yq1 (by omega));have c:(ar.map Aq).length=ar.length:=Xxt ..;have m:=az.blk (id:=0) (e':= .normal) (s:=⟨[(0,.agg [ω y.op,.bool y.neg,.str y.num,.str y.den,.str y.name]),(1,.sl (xy ar) ar.length j),(2,.agg [.sl (dJ E.ls) E.ls.length f,.sl (dF (E.qs.map Sq.c)) (E.qs.map Sq.c).length e]),(3,.ptr 0 0 0),(5,.ptr 1 0 0),(6,.ptr 2 0 0),(7,.nilS),(8,.nilS),(10,.dead),(13,.bool (decide (((60:Nat):Int)<(ar.length:Int)))),(15,.sl (xy ar) ar.length j),(16,ω (ar.length:Int)),(17,ω 0),(18,.dead),(37,.dead)],(GY y E.ls (E.qs.map Sq.c) f e),.dead,[]⟩) (s':=eoO y E.ls (E.qs.map Sq.c) f e (ar.map Aq)) O (by simp) rfl (aH.of ⟨rfl,rfl,rfl,rfl,rfl,rfl,rfl,rfl,trivial⟩) (aH.refl _);have hnode:∀ z:Bool,b_ (fK ar.length++ [y])=0→CO 46 [afY E,.agg (nI y),.sl (dI (ar.map Aq)) (ar.map Aq).length z] (.ret (eF (mG E y (ar.map Aq)))):=fun z h=>by
  have F:=(kw h).1 y (by simp);have k:=ry F;exact KA E y z (ar.map Aq) k.1 k.2 (JF F) (by rw [c];exact acx h) (fun o J=>by obtain ⟨x,_,rfl⟩:=List.mem_map.1 J;exact yS _ _ _ _) D n.sq
 unfold ah2;rw [c];have P:Xqg (ar.length+1) 1099511627776=true:=Xqt (by omega);cases r:ar.map Aq with
 | nil=>
  have p:ar.length=0:=by rw [← c,r];rfl
  rw [r] at m hnode;have I:b_ (fK ar.length++ [y])=b_ (fK 0++ [y]):=by rw [p]
  rw [I];rw [p] at i hnode;by_cases hc:b_ (fK 0++ [y])=0
  ·rw [if_pos hc];rw [hc] at i;exact aed y _ f e j 0 _ _ _ _ ar E.ls (E.qs.map Sq.c) (aN rfl) d m i C ((hnode false hc).args (fC.cons (aS.refl _) (fC.cons (aS.refl _) (fC.cons (aS.nilS false rfl) (fC.refl _)))))
  ·rw [if_neg hc];exact aec y f e j _ ar E.ls (E.qs.map Sq.c) (aK (by simpa using hc)) d m i (jb 11)
 | cons a q=>
  have p:(a::q).length=ar.length:=by rw [← c,r]
  rw [r] at m hnode;have u:ν (((a::q).length+1)*5) (ν ((a::q).length*5) (aV (fK (a::q).length))++ [ω y.op,.bool y.neg,.str y.num,.str y.den,.str y.name])=aV (fK (a::q).length++ [y]):=by
   have M:ν ((a::q).length*5) (aV (fK (a::q).length))=aV (fK (a::q).length):=Ξ (by rw [vz];simp [fK]);rw [M,Ξ (by rw [θ,vz];simp [fK];omega)];unfold aV;rw [Xjf];rfl
  have B:Xqg ((a::q).length+1) 1099511627776=true:=Xqt (by omega);have A:Xqg ((a::q).length*5) (η (aV (fK (a::q).length)))=true:=Xqt (by rw [vz];simp [fK]);have g:CO 44 [.sl (ν (((a::q).length+1)*5) (ν ((a::q).length*5) (aV (fK (a::q).length))++ [ω y.op,.bool y.neg,.str y.num,.str y.den,.str y.name])) ((a::q).length+1) true] (.ret (ω (b_ (fK ar.length++ [y])))):=by
   rw [u,p];have:=i;rw [show (fK ar.length++ [y]).length=ar.length+1 by simp [fK]] at this;exact this
  have t:ν ((a::q).length*4) (dI (a::q))=dI (a::q):=Ξ (by rw [pU];exact Δ _);by_cases hc:b_ (fK ar.length++ [y])=0
  ·rw [if_pos hc];rw [hc] at g;exact ah4 y _ f e j 0 _ _ _ _ ar (a::q) E.ls (E.qs.map Sq.c) (aN rfl) B A d m g C (by rw [t];exact hnode true hc)
  ·rw [if_neg hc];exact ah3 y f e j _ ar (a::q) E.ls (E.qs.map Sq.c) (aK (by simpa using hc)) B A d m g (jb 11)
theorem ahK (a b:List Oq) (o q:Oq) (d p:Bool) (k:Nat) (e rb:List AV) {nt:Nat} (j:26≤nt) (n:(ε ((δ (k:Int))*4) (dI a))=uB o++e) (m:(ε ((δ (k:Int))*4) (dI b))=uB q++rb) (h:lit true (!((o.n==q.n) && ((o.a==q.a) && ((o.d==q.d) && ((o.e==q.e) && true)))))=true) (c:(decide (((0:Nat):Int)≤(k:Int)))=true) (i:(decide ((k:Int)<(b.length:Int)))=true) (f:(decide ((k:Int)<(a.length:Int)))=true) (g:lit true (decide ((k:Int)<(a.length:Int)))=true):ψ nt f18 ⟨[(0,.sl (dI a) a.length d),(1,.sl (dI b) b.length p),(5,ω (k:Int))],[],.dead,[]⟩ (.ret) ⟨[(4,.bool false)],[],.dead,[]⟩:=pN 18 [] 2 3 (.c h (.k 4 c (.c i (.k 4 c (.c f (.c g .nil)))))) (.v 23 (.ppt m) (.v 19 (.ppt n) .nil)) j
theorem ahL (a b:List Oq) (o q:Oq) (d c:Bool) (k:Nat) (h rb:List AV) {nt:Nat} (r:26≤nt) (n:(ε ((δ (k:Int))*4) (dI a))=uB o++h) (m:(ε ((δ (k:Int))*4) (dI b))=uB q++rb) (p:ω (γ .i64 ((k:Int)+((1:Nat):Int)))=ω ((k+1:Nat):Int)) (j:lit false (!((o.n==q.n) && ((o.a==q.a) && ((o.d==q.d) && ((o.e==q.e) && true)))))=true) (e:(decide (((0:Nat):Int)≤(k:Int)))=true) (i:(decide ((k:Int)<(b.length:Int)))=true) (f:(decide ((k:Int)<(a.length:Int)))=true) (g:lit true (decide ((k:Int)<(a.length:Int)))=true):ψ nt f18 ⟨[(0,.sl (dI a) a.length d),(1,.sl (dI b) b.length c),(5,ω (k:Int))],[],.dead,[]⟩ (.normal) ⟨[(0,.sl (dI a) a.length d),(1,.sl (dI b) b.length c),(5,ω ((k+1:Nat):Int))],[],.dead,[]⟩:=pN 18 [] 2 1 (.c j (.k 4 e (.c i (.k 4 e (.c f (.c g .nil)))))) (.v 5 (.eq p) (.v 23 (.ppt m) (.v 19 (.ppt n) .nil))) r
theorem ahM (a b:List Oq) (c f:Bool) (k:Nat) {nt:Nat} (e:26≤nt) (d:lit false (decide ((k:Int)<(a.length:Int)))=true):ψ nt f18 ⟨[(0,.sl (dI a) a.length c),(1,.sl (dI b) b.length f),(5,ω (k:Int))],[],.dead,[]⟩ (.exit 0) ⟨[(4,.dead)],[],.dead,[]⟩:=pN 18 [] 1 0 (.c d .nil) (.nil) e
theorem PV (o q:Oq):CO 17 [.agg [.bool o.n,.str o.a,.str o.d,ω o.e],.agg [.bool q.n,.str q.a,.str q.d,ω q.e]] (.ret (.bool ((o.n==q.n) && ((o.a==q.a) && ((o.d==q.d) && ((o.e==q.e) && true)))))):=pK [] 0 0 (.n 8 .nil) (.nil)
theorem adW (a b:List Oq) (c d:Bool) (e:lit true (!((a.length:Int)==(b.length:Int)))=true):CO 18 [.sl (dI a) a.length c,.sl (dI b) b.length d] (.ret (.bool false)):=pK [0] 1 1 (.c e .nil) (.nil)
theorem adX (a b:List Oq) (c d:Bool) (f:lit false (!((a.length:Int)==(b.length:Int)))=true) (e:aG prog ap [] 26 (.block 0 (.loop (af 0 (ah f18)))) ⟨[(0,.sl (dI a) a.length c),(1,.sl (dI b) b.length d),(4,.bool false),(5,ω 0),(10,.bool (!((a.length:Int)==(b.length:Int)))),(14,.dead),(25,.dead)],[],.dead,[]⟩ (.normal) ⟨[(4,.dead)],[],.dead,[]⟩):CO 18 [.sl (dI a) a.length c,.sl (dI b) b.length d] (.ret (.bool true)):=pK [0] 1 0 (.c f .nil) (.l e .nil)
theorem adV (a b:List Oq) (c d:Bool) (f:lit false (!((a.length:Int)==(b.length:Int)))=true) (e:aG prog ap [] 26 (.block 0 (.loop (af 0 (ah f18)))) ⟨[(0,.sl (dI a) a.length c),(1,.sl (dI b) b.length d),(4,.bool false),(5,ω 0),(10,.bool (!((a.length:Int)==(b.length:Int)))),(14,.dead),(25,.dead)],[],.dead,[]⟩ (.ret) ⟨[(4,.bool false)],[],.dead,[]⟩):CO 18 [.sl (dI a) a.length c,.sl (dI b) b.length d] (.ret (.bool false)):=pK [0] 1 0 (.c f .nil) (.l e .nil)
def eqo (o q:Oq):Bool:=(o.n==q.n) && ((o.a==q.a) && ((o.d==q.d) && ((o.e==q.e) && true)))
def KF:List Oq→List Oq→Bool
 |x::r,y::s=>eqo x y && KF r s
 |_,_=>true
def Y9:Bool→bG
 |true=> .exit 0
 |false=> .ret
def ahP:Bool→St
 |true=> ⟨[(4,.dead)],[],.dead,[]⟩
 |false=> ⟨[(4,.bool false)],[],.dead,[]⟩
abbrev ahO (a b:List Oq) (na nb:Bool) (k:Nat):St:=⟨[(0,.sl (dI a) a.length na),(1,.sl (dI b) b.length nb),(5,ω (k:Int))],[],.dead,[]⟩
theorem Qp {l:List Oq} {k:Nat} {x:Oq} {p r:List Oq} (h:l=p++x::r) (c:k=p.length):ε (δ (k:Int)*4) (dI l)=uB x++dI r:=by
 subst h c;rw [aB];unfold dI;rw [Xjf,Xjg];have d:(Yxj uB p).length=p.length*4:=ul uB 4 (fun _=>rfl) p;rw [← d,Xvh]
theorem VB {nt:Nat} (i:26≤nt) (a b:List Oq) (e d:Bool) (t:a.length=b.length) (w:a.length<2^40):∀ (r s p q:List Oq),a=p++r→b=q++s→p.length=q.length→
  az prog ap [] nt (af 0 (ah f18)) Y9 (ahO a b e d) ahP p.length (KF r s):=by
 intro r
 induction r with
 |nil=>
  intro s p q hp f h;rw [Γ] at hp;subst hp;exact .done (ahM a b e d a.length i (aN (Yq1 (by omega))))
 | cons x r ih=>
  intro s p q hp f h;cases s with
  |nil=>exfalso;rw [hp,f] at t;simp at t;omega
  | cons y s=>
   have o:=Qp hp rfl;have n:=Qp (k:=p.length) f h;have z:p.length<a.length:=by rw [hp];simp
   have v:decide (((0:Nat):Int)≤(p.length:Int))=true:=Yq0 (by omega);have u:decide ((p.length:Int)<(b.length:Int))=true:=Yq0 (by omega);have g:decide ((p.length:Int)<(a.length:Int))=true:=Yq0 (by omega);unfold KF;cases j:eqo x y with
   |false=>
    have c:lit true (!eqo x y)=true:=by rw [j];rfl
    exact .done (ahK a b x y e d p.length _ _ i o n c v u g (aK g))
   |true=>
    have c:lit false (!eqo x y)=true:=by rw [j];rfl
    have m:=ih s (p++ [x]) (q++ [y]) (by rw [hp];simp) (by rw [f];simp) (by simp [h]);rw [θ] at m;exact .next (ahL a b x y e d p.length _ _ i o n (Ci (by omega)) c v u g (aK g)) m
theorem Ap (a b:List Oq) (c d:Bool) (h:a.length<2^40):CO 18 [.sl (dI a) a.length c,.sl (dI b) b.length d] (.ret (.bool (decide (a.length=b.length) && KF a b))):=by
 by_cases hl:a.length=b.length
 ·rw [Yq0 hl,Bool.true_and];have g:lit false (!((a.length:Int)==(b.length:Int)))=true:=by simp [lit,hl]
  have e:∀ nt,26≤nt→az prog ap [] nt (af 0 (ah f18)) Y9 (ahO a b c d) ahP 0 (KF a b):=fun nt i=>VB i a b c d hl h a b [] [] rfl rfl rfl
  cases f:KF a b with
  |true=>
   rw [f] at e;exact adX a b c d g (az.blk e (by simp [Y9]) rfl (aH.of ⟨rfl,rfl,rfl,trivial⟩) (aH.refl _))
  |false=>
   rw [f] at e;exact adV a b c d g (az.blk e (by simp [Y9]) rfl (aH.of ⟨rfl,rfl,rfl,trivial⟩) (aH.refl _))
 ·rw [Yq1 hl,Bool.false_and];exact adW a b c d (by simp [lit];omega)
theorem G5:∀ a:List Oq,KF a a=true
 | []=>rfl
 |x::r=>by unfold KF;rw [G5 r];simp [eqo]
theorem aaE (n d:Int) (a b q:RQ) (c:CO 48 [ω n] (.ret (.agg [.bool a.neg,.str (ae a.n),.str (ae a.d)]))) (e:CO 48 [ω d] (.ret (.agg [.bool b.neg,.str (ae b.n),.str (ae b.d)]))) (f:CO 60 [.agg [.bool a.neg,.str (ae a.n),.str (ae a.d)],.agg [.bool b.neg,.str (ae b.n),.str (ae b.d)]] (.ret (.tup [.agg [.bool q.neg,.str (ae q.n),.str (ae q.d)],.bool true]))):CO 27 [ω n,ω d] (.ret (.agg [.bool q.neg,.str (ae q.n),.str (ae q.d)])):=pK [] 0 0 (.n 8 .nil) (.c f (.c e (.c c .nil)))
theorem rZ (n:Int) (d:Nat) (k: -60000<n) (o:n<60000) (f:0<d) (m:d<60000):CO 27 [ω n,ω (d:Int)] (.ret (qA (jV (Lp n).neg (Lp n).n d))):=by
 have i:=Oy n (by omega) (by omega);have c:(Lp n).neg=true→0<(Lp n).n:=by intro h;simp only [Lp,decide_eq_true_eq] at h ⊢;omega
 have j:(Lp n).n<65536:=by simp only [Lp];omega
 have hd:(Lp n).d=1:=rfl;generalize Lp n=w at*
 have g:qA w=qA ⟨w.neg,w.n,1⟩:=by unfold qA;rw [hd]
 have e:=amX w.neg w.n d c j f (by omega);rw [← g] at e;exact aaE n d w ⟨false,d,1⟩ _ i (aam d (by omega)) e
def Aw:eU:=⟨[],[]⟩
theorem jR:Aw.sm:=⟨by decide,by decide,by decide,fun s hs=>by cases hs⟩
def ak1:eU:=⟨[⟨6,[120],false,[5],[1],0⟩],[]⟩
theorem abv:ak1.sm:=⟨by decide,by decide,by decide,fun s hs=>by cases hs⟩
def ak2:eU:=⟨[⟨6,[120],false,[],[],17⟩],[]⟩
theorem abw:ak2.sm:=⟨by decide,by decide,by decide,fun s hs=>by cases hs⟩
def ak3:eU:=⟨[],[⟨[115],0,0,[⟨false,[],[1],false,[],[1]⟩,⟨false,[100],[1],false,[1],[10]⟩,⟨false,[1,44],[1],false,[1],[4]⟩]⟩]⟩
theorem abx:ak3.sm:=⟨by decide,by decide,by decide,fun s hs=>by
 rw [show s=_ from List.mem_singleton.1 hs];refine ⟨by decide,fun b c=> ?_⟩;have:b ∈ ([⟨false,[],[1],false,[],[1]⟩,⟨false,[100],[1],false,[1],[10]⟩,⟨false,[1,44],[1],false,[1],[4]⟩]:List Br):=c;simp only [List.mem_cons,List.not_mem_nil,or_false] at this;rcases this with rfl|rfl|rfl<;>exact ⟨⟨by decide,by decide⟩,by decide,by decide⟩⟩
theorem k0:CO 27 [ω 1,ω 1] (.ret (Ω false [1] [1])):=sJ (rZ 1 1 (by decide) (by decide) (by decide) (by decide)) (by kernel_rfl)
theorem k1:CO 37 [ω 1,ω 1] (.ret (.agg zcc4_14)):=cK (.c k0 .nil)
theorem k2:CO 27 [ω 0,ω 1] (.ret (Ω false [] [1])):=sJ (rZ 0 1 (by decide) (by decide) (by decide) (by decide)) (by kernel_rfl)
theorem k3:CO 37 [ω 0,ω 1] (.ret (.agg zcc4_15)):=cK (.c k2 .nil)
theorem k4:CO 27 [ω 5,ω 6] (.ret (Ω false [5] [6])):=sJ (rZ 5 6 (by decide) (by decide) (by decide) (by decide)) (by kernel_rfl)
theorem k5:CO 29 [Ω false [5] [6]] (.ret (.agg [.bool false,.str [5],.str [6],ω 0])):=cK (.nil)
theorem k6:CO 27 [ω 1,ω 2] (.ret (Ω false [1] [2])):=sJ (rZ 1 2 (by decide) (by decide) (by decide) (by decide)) (by kernel_rfl)
theorem k7:CO 40 [ω 1,ω 2] (.ret (.agg [ω 1,.bool false,.str [1],.str [2],.str []])):=cK (.c k6 .nil)
theorem k8:CO 27 [ω 1,ω 3] (.ret (Ω false [1] [3])):=sJ (rZ 1 3 (by decide) (by decide) (by decide) (by decide)) (by kernel_rfl)
theorem k9:CO 40 [ω 1,ω 3] (.ret (.agg [ω 1,.bool false,.str [1],.str [3],.str []])):=cK (.c k8 .nil)
theorem k10:CO 21 [.sl zcc4_6 3 true,.agg [.nilS,.nilS]] (.ret (.agg [.bool false,.str [5],.str [6],ω 0])):=bD.args (.cons (aS.refl _) (.cons (aS.agg (.cons (aS.nilS false rfl) (.cons (aS.nilS false rfl) .nil))) .nil)) (sJ (q:=CO 21 [.sl zcc4_6 3 true,.agg [.sl [] 0 false,.sl [] 0 false]] (.ret (.agg [.bool false,.str [5],.str [6],ω 0]))) (gU Aw false false true (e:= [⟨1,false,[1],[2],[]⟩,⟨1,false,[1],[3],[]⟩,⟨9,false,[],[],[]⟩]) jR (lh (by kernel_rfl))) (by kernel_rfl))
theorem k11:CO 39 [.agg [.nilS,.nilS],.agg [.bool false,.str [5],.str [6],ω 0],.sl zcc4_6 3 true] (.ret (.bool true)):=cK (.c k10 .nil)
theorem k12:CO 29 [Ω false [1] [1]] (.ret (.agg [.bool false,.str [1],.str [1],ω 0])):=cK (.nil)
theorem k13:CO 28 [ω 1] (.ret (.agg [ω 4,.bool false,.str [1],.str [1],.str []])):=cK (.c k0 .nil)
theorem k14:CO 38 [ω 1,.pp zcc4_14 0,.pp [.sl [ω 3,.bool false,.str [1],.str [1],.str [],ω 3,.bool false,.str [],.str [1],.str [],ω 12,.bool false,.str [],.str [],.str []] 3 true] 0] (.ret (.own zcc4_0 6 5)):=cK (.c k13 .nil)
theorem k15:CO 21 [.sl zcc4_0 6 true,.agg [.nilS,.nilS]] (.ret (.agg [.bool false,.str [1],.str [1],ω 0])):=bD.args (.cons (aS.refl _) (.cons (aS.agg (.cons (aS.nilS false rfl) (.cons (aS.nilS false rfl) .nil))) .nil)) (sJ (q:=CO 21 [.sl zcc4_0 6 true,.agg [.sl [] 0 false,.sl [] 0 false]] (.ret (.agg [.bool false,.str [1],.str [1],ω 0]))) (gU Aw false false true (e:= [⟨4,false,[1],[1],[]⟩,⟨3,false,[1],[1],[]⟩,⟨3,false,[1],[1],[]⟩,⟨3,false,[],[1],[]⟩,⟨12,false,[],[],[]⟩,⟨15,false,[],[],[]⟩]) jR (lh (by kernel_rfl))) (by kernel_rfl))
theorem k16:CO 39 [.agg [.nilS,.nilS],.agg [.bool false,.str [1],.str [1],ω 0],.sl zcc4_0 6 true] (.ret (.bool true)):=cK (.c k15 .nil)
theorem k17:CO 26 [ω 16] (.ret (.agg [.bool false,.str [],.str [],ω 16])):=cK (.nil)
theorem k18:CO 28 [ω 0] (.ret (.agg [ω 4,.bool false,.str [],.str [1],.str []])):=cK (.c k2 .nil)
theorem k19:CO 38 [ω 0,.pp zcc4_14 0,.pp [.sl [ω 3,.bool false,.str [1],.str [1],.str [],ω 3,.bool false,.str [],.str [1],.str [],ω 12,.bool false,.str [],.str [],.str []] 3 true] 0] (.ret (.own zcc4_1 6 5)):=cK (.c k18 .nil)
theorem k20:CO 21 [.sl zcc4_1 6 true,.agg [.nilS,.nilS]] (.ret (.agg [.bool false,.str [],.str [],ω 16])):=bD.args (.cons (aS.refl _) (.cons (aS.agg (.cons (aS.nilS false rfl) (.cons (aS.nilS false rfl) .nil))) .nil)) (sJ (q:=CO 21 [.sl zcc4_1 6 true,.agg [.sl [] 0 false,.sl [] 0 false]] (.ret (.agg [.bool false,.str [],.str [],ω 16]))) (gU Aw false false true (e:= [⟨4,false,[],[1],[]⟩,⟨3,false,[1],[1],[]⟩,⟨3,false,[1],[1],[]⟩,⟨3,false,[],[1],[]⟩,⟨12,false,[],[],[]⟩,⟨15,false,[],[],[]⟩]) jR (lh (by kernel_rfl))) (by kernel_rfl))
theorem k21:CO 39 [.agg [.nilS,.nilS],.agg [.bool false,.str [],.str [],ω 16],.sl zcc4_1 6 true] (.ret (.bool true)):=cK (.c k20 .nil)
theorem k22:CO 26 [ω 13] (.ret (.agg [.bool false,.str [],.str [],ω 13])):=cK (.nil)
theorem k23:CO 27 [ω 2,ω 1] (.ret (Ω false [2] [1])):=sJ (rZ 2 1 (by decide) (by decide) (by decide) (by decide)) (by kernel_rfl)
theorem k24:CO 37 [ω 2,ω 1] (.ret (.agg [ω 3,.bool false,.str [2],.str [1],.str []])):=cK (.c k23 .nil)
theorem k25:CO 21 [.sl zcc4_5 3 true,.agg [.nilS,.nilS]] (.ret (.agg [.bool false,.str [],.str [],ω 13])):=bD.args (.cons (aS.refl _) (.cons (aS.agg (.cons (aS.nilS false rfl) (.cons (aS.nilS false rfl) .nil))) .nil)) (sJ (q:=CO 21 [.sl zcc4_5 3 true,.agg [.sl [] 0 false,.sl [] 0 false]] (.ret (.agg [.bool false,.str [],.str [],ω 13]))) (gU Aw false false true (e:= [⟨4,false,[1],[1],[]⟩,⟨3,false,[2],[1],[]⟩,⟨18,false,[],[],[]⟩]) jR (lh (by kernel_rfl))) (by kernel_rfl))
theorem k26:CO 39 [.agg [.nilS,.nilS],.agg [.bool false,.str [],.str [],ω 13],.sl zcc4_5 3 true] (.ret (.bool true)):=cK (.c k25 .nil)
theorem k27:CO 21 [.sl zcc4_2 5 true,.agg [.nilS,.nilS]] (.ret (.agg [.bool false,.str [],.str [],ω 16])):=bD.args (.cons (aS.refl _) (.cons (aS.agg (.cons (aS.nilS false rfl) (.cons (aS.nilS false rfl) .nil))) .nil)) (sJ (q:=CO 21 [.sl zcc4_2 5 true,.agg [.sl [] 0 false,.sl [] 0 false]] (.ret (.agg [.bool false,.str [],.str [],ω 16]))) (gU Aw false false true (e:= [⟨3,false,[2],[1],[]⟩,⟨3,false,[1],[1],[]⟩,⟨3,false,[],[1],[]⟩,⟨12,false,[],[],[]⟩,⟨19,false,[],[],[]⟩]) jR (lh (by kernel_rfl))) (by kernel_rfl))
theorem k28:CO 39 [.agg [.nilS,.nilS],.agg [.bool false,.str [],.str [],ω 16],.sl zcc4_2 5 true] (.ret (.bool true)):=cK (.c k27 .nil)
theorem k29:CO 27 [ω 5,ω 1] (.ret (Ω false [5] [1])):=sJ (rZ 5 1 (by decide) (by decide) (by decide) (by decide)) (by kernel_rfl)
theorem k30:CO 29 [Ω false [5] [1]] (.ret (.agg [.bool false,.str [5],.str [1],ω 0])):=cK (.nil)
theorem k31:CO 26 [ω 17] (.ret (.agg [.bool false,.str [],.str [],ω 17])):=cK (.nil)
theorem k32:CO 26 [ω 12] (.ret (.agg [.bool false,.str [],.str [],ω 12])):=cK (.nil)
theorem k33:CO 21 [.sl zcc4_13 1 true,.agg [.nilS,.nilS]] (.ret (.agg [.bool false,.str [],.str [],ω 12])):=bD.args (.cons (aS.refl _) (.cons (aS.agg (.cons (aS.nilS false rfl) (.cons (aS.nilS false rfl) .nil))) .nil)) (sJ (q:=CO 21 [.sl zcc4_13 1 true,.agg [.sl [] 0 false,.sl [] 0 false]] (.ret (.agg [.bool false,.str [],.str [],ω 12]))) (gU Aw false false true (e:= [⟨6,false,[],[],[120]⟩]) jR (lh (by kernel_rfl))) (by kernel_rfl))
theorem k34:CO 39 [.agg [.nilS,.nilS],.agg [.bool false,.str [],.str [],ω 12],.sl zcc4_13 1 true] (.ret (.bool true)):=cK (.c k33 .nil)
theorem k35:CO 21 [.sl zcc4_13 1 true,.agg [.sl zcc4_11 1 true,.nilS]] (.ret (.agg [.bool false,.str [5],.str [1],ω 0])):=bD.args (.cons (aS.refl _) (.cons (aS.agg (.cons (aS.refl _) (.cons (aS.nilS false rfl) .nil))) .nil)) (sJ (q:=CO 21 [.sl zcc4_13 1 true,.agg [.sl zcc4_11 1 true,.sl [] 0 false]] (.ret (.agg [.bool false,.str [5],.str [1],ω 0]))) (gU ak1 true false true (e:= [⟨6,false,[],[],[120]⟩]) abv (lh (by kernel_rfl))) (by kernel_rfl))
theorem k36:CO 39 [.agg [.sl zcc4_11 1 true,.nilS],.agg [.bool false,.str [5],.str [1],ω 0],.sl zcc4_13 1 true] (.ret (.bool true)):=cK (.c k35 .nil)
theorem k37:CO 21 [.sl zcc4_3 5 true,.agg [.sl zcc4_12 1 true,.nilS]] (.ret (.agg [.bool false,.str [],.str [],ω 17])):=bD.args (.cons (aS.refl _) (.cons (aS.agg (.cons (aS.refl _) (.cons (aS.nilS false rfl) .nil))) .nil)) (sJ (q:=CO 21 [.sl zcc4_3 5 true,.agg [.sl zcc4_12 1 true,.sl [] 0 false]] (.ret (.agg [.bool false,.str [],.str [],ω 17]))) (gU ak2 true false true (e:= [⟨6,false,[],[],[120]⟩,⟨3,false,[1],[1],[]⟩,⟨3,false,[],[1],[]⟩,⟨12,false,[],[],[]⟩,⟨9,false,[],[],[]⟩]) abw (lh (by kernel_rfl))) (by kernel_rfl))
theorem k38:CO 39 [.agg [.sl zcc4_12 1 true,.nilS],.agg [.bool false,.str [],.str [],ω 17],.sl zcc4_3 5 true] (.ret (.bool true)):=cK (.c k37 .nil)
theorem k39:CO 27 [ω 3,ω 2] (.ret (Ω false [3] [2])):=sJ (rZ 3 2 (by decide) (by decide) (by decide) (by decide)) (by kernel_rfl)
theorem k40:CO 29 [Ω false [3] [2]] (.ret (.agg [.bool false,.str [3],.str [2],ω 0])):=cK (.nil)
theorem k41:CO 27 [ω 5,ω 4] (.ret (Ω false [5] [4])):=sJ (rZ 5 4 (by decide) (by decide) (by decide) (by decide)) (by kernel_rfl)
theorem k42:CO 37 [ω 5,ω 4] (.ret (.agg [ω 3,.bool false,.str [5],.str [4],.str []])):=cK (.c k41 .nil)
theorem k43:CO 21 [.sl zcc4_9 2 true,.agg [.nilS,.nilS]] (.ret (.agg [.bool false,.str [3],.str [2],ω 0])):=bD.args (.cons (aS.refl _) (.cons (aS.agg (.cons (aS.nilS false rfl) (.cons (aS.nilS false rfl) .nil))) .nil)) (sJ (q:=CO 21 [.sl zcc4_9 2 true,.agg [.sl [] 0 false,.sl [] 0 false]] (.ret (.agg [.bool false,.str [3],.str [2],ω 0]))) (gU Aw false false true (e:= [⟨3,false,[5],[4],[]⟩,⟨23,false,[1],[2],[]⟩]) jR (lh (by kernel_rfl))) (by kernel_rfl))
theorem k44:CO 39 [.agg [.nilS,.nilS],.agg [.bool false,.str [3],.str [2],ω 0],.sl zcc4_9 2 true] (.ret (.bool true)):=cK (.c k43 .nil)
theorem k45:CO 27 [ω (-1),ω 2] (.ret (Ω true [1] [2])):=sJ (rZ (-1) 2 (by decide) (by decide) (by decide) (by decide)) (by kernel_rfl)
theorem k46:CO 29 [Ω true [1] [2]] (.ret (.agg [.bool true,.str [1],.str [2],ω 0])):=cK (.nil)
theorem k47:CO 27 [ω (-1),ω 4] (.ret (Ω true [1] [4])):=sJ (rZ (-1) 4 (by decide) (by decide) (by decide) (by decide)) (by kernel_rfl)
theorem k48:CO 37 [ω (-1),ω 4] (.ret (.agg [ω 3,.bool true,.str [1],.str [4],.str []])):=cK (.c k47 .nil)
theorem k49:CO 21 [.sl zcc4_10 2 true,.agg [.nilS,.nilS]] (.ret (.agg [.bool true,.str [1],.str [2],ω 0])):=bD.args (.cons (aS.refl _) (.cons (aS.agg (.cons (aS.nilS false rfl) (.cons (aS.nilS false rfl) .nil))) .nil)) (sJ (q:=CO 21 [.sl zcc4_10 2 true,.agg [.sl [] 0 false,.sl [] 0 false]] (.ret (.agg [.bool true,.str [1],.str [2],ω 0]))) (gU Aw false false true (e:= [⟨3,true,[1],[4],[]⟩,⟨21,false,[1],[2],[]⟩]) jR (lh (by kernel_rfl))) (by kernel_rfl))
theorem k50:CO 39 [.agg [.nilS,.nilS],.agg [.bool true,.str [1],.str [2],ω 0],.sl zcc4_10 2 true] (.ret (.bool true)):=cK (.c k49 .nil)
theorem k51:CO 27 [ω 100,ω 1] (.ret (Ω false [100] [1])):=sJ (rZ 100 1 (by decide) (by decide) (by decide) (by decide)) (by kernel_rfl)
theorem k52:CO 27 [ω 1,ω 10] (.ret (Ω false [1] [10])):=sJ (rZ 1 10 (by decide) (by decide) (by decide) (by decide)) (by kernel_rfl)
theorem k53:CO 27 [ω 300,ω 1] (.ret (Ω false [1,44] [1])):=sJ (rZ 300 1 (by decide) (by decide) (by decide) (by decide)) (by kernel_rfl)
theorem k54:CO 27 [ω 1,ω 4] (.ret (Ω false [1] [4])):=sJ (rZ 1 4 (by decide) (by decide) (by decide) (by decide)) (by kernel_rfl)
theorem k55:CO 27 [ω 200,ω 1] (.ret (Ω false [200] [1])):=sJ (rZ 200 1 (by decide) (by decide) (by decide) (by decide)) (by kernel_rfl)
theorem k56:CO 40 [ω 200,ω 1] (.ret (.agg [ω 1,.bool false,.str [200],.str [1],.str []])):=cK (.c k55 .nil)
theorem k57:CO 27 [ω 10,ω 1] (.ret (Ω false [10] [1])):=sJ (rZ 10 1 (by decide) (by decide) (by decide) (by decide)) (by kernel_rfl)
theorem k58:CO 29 [Ω false [10] [1]] (.ret (.agg [.bool false,.str [10],.str [1],ω 0])):=cK (.nil)
theorem k59:CO 21 [.sl zcc4_8 2 true,.agg [.nilS,.sl [.str [115],ω 0,ω 0,.sl zcc4_4 3 true] 1 true]] (.ret (.agg [.bool false,.str [10],.str [1],ω 0])):=bD.args (.cons (aS.refl _) (.cons (aS.agg (.cons (aS.nilS false rfl) (.cons (aS.slP (.same (.same (.same (.sl .nil))))) .nil))) .nil)) (sJ (q:=CO 21 [.sl zcc4_8 2 true,.agg [.sl [] 0 false,.sl [.str [115],ω 0,ω 0,.sl zcc4_4 3 false] 1 true]] (.ret (.agg [.bool false,.str [10],.str [1],ω 0]))) (gU ak3 false true true (e:= [⟨1,false,[200],[1],[]⟩,⟨24,false,[],[],[115]⟩]) abx (lh (by kernel_rfl))) (by kernel_rfl))
theorem k60:CO 39 [.agg [.nilS,.sl [.str [115],ω 0,ω 0,.sl zcc4_4 3 true] 1 true],.agg [.bool false,.str [10],.str [1],ω 0],.sl zcc4_8 2 true] (.ret (.bool true)):=cK (.c k59 .nil)
theorem k61:CO 21 [.sl zcc4_8 2 true,.agg [.nilS,.nilS]] (.ret (.agg [.bool false,.str [],.str [],ω 12])):=bD.args (.cons (aS.refl _) (.cons (aS.agg (.cons (aS.nilS false rfl) (.cons (aS.nilS false rfl) .nil))) .nil)) (sJ (q:=CO 21 [.sl zcc4_8 2 true,.agg [.sl [] 0 false,.sl [] 0 false]] (.ret (.agg [.bool false,.str [],.str [],ω 12]))) (gU Aw false false true (e:= [⟨1,false,[200],[1],[]⟩,⟨24,false,[],[],[115]⟩]) jR (lh (by kernel_rfl))) (by kernel_rfl))
theorem k62:CO 39 [.agg [.nilS,.nilS],.agg [.bool false,.str [],.str [],ω 12],.sl zcc4_8 2 true] (.ret (.bool true)):=cK (.c k61 .nil)
theorem k63:CO 27 [ω 3,ω 1] (.ret (Ω false [3] [1])):=sJ (rZ 3 1 (by decide) (by decide) (by decide) (by decide)) (by kernel_rfl)
theorem k64:CO 37 [ω 3,ω 1] (.ret (.agg [ω 3,.bool false,.str [3],.str [1],.str []])):=cK (.c k63 .nil)
theorem k65:CO 19 [.sl [ω 3,.bool false,.str [1],.str [1],.str [],ω 3,.bool false,.str [3],.str [1],.str [],ω 10,.bool false,.str [],.str [],.str []] 3 true,.agg [.nilS,.nilS]] (.ret (.own zcc4_7 3 4)):=bD.args (.cons (aS.refl _) (.cons (aS.agg (.cons (aS.nilS false rfl) (.cons (aS.nilS false rfl) .nil))) .nil)) (sJ (q:=CO 19 [.sl [ω 3,.bool false,.str [1],.str [1],.str [],ω 3,.bool false,.str [3],.str [1],.str [],ω 10,.bool false,.str [],.str [],.str []] 3 true,.agg [.sl [] 0 false,.sl [] 0 false]] (.ret (.own zcc4_7 3 4))) (zJ Aw false false true (e:= [⟨3,false,[1],[1],[]⟩,⟨3,false,[3],[1],[]⟩,⟨10,false,[],[],[]⟩]) jR (by kernel_rfl) (lh (by kernel_rfl))) (by kernel_rfl))
theorem k66:CO 29 [Ω false [3] [1]] (.ret (.agg [.bool false,.str [3],.str [1],ω 0])):=cK (.nil)
theorem k67:CO 27 [ω (-2),ω 1] (.ret (Ω true [2] [1])):=sJ (rZ (-2) 1 (by decide) (by decide) (by decide) (by decide)) (by kernel_rfl)
theorem k68:CO 29 [Ω true [2] [1]] (.ret (.agg [.bool true,.str [2],.str [1],ω 0])):=cK (.nil)
theorem k69:CO 18 [.sl zcc4_7 3 true,.sl zcc4_7 3 true] (.ret (.bool true)):=sJ (Ap [.val ⟨false,1,1⟩,.val ⟨false,3,1⟩,.val ⟨true,2,1⟩] [.val ⟨false,1,1⟩,.val ⟨false,3,1⟩,.val ⟨true,2,1⟩] true true (by decide)) (by kernel_rfl)
theorem k70:CO 15 [.agg [ω 20,.bool false,.str [],.str [],.str []],.nilS,.agg [.nilS,.nilS]] (.ret (.agg [.bool false,.str [],.str [],ω 11])):=bD.args (.cons (aS.refl _) (.cons (aS.nilS false rfl) (.cons (aS.agg (.cons (aS.nilS false rfl) (.cons (aS.nilS false rfl) .nil))) .nil))) (sJ (q:=CO 15 [.agg [ω 20,.bool false,.str [],.str [],.str []],.sl [] 0 false,.agg [.sl [] 0 false,.sl [] 0 false]] (.ret (.agg [.bool false,.str [],.str [],ω 11]))) (Zj Aw false false false jR ⟨20,false,[],[],[]⟩ ⟨by decide,by decide⟩ (ar:= []) (by decide) (by simp)) (by kernel_rfl))
theorem k71:CO 26 [ω 11] (.ret (.agg [.bool false,.str [],.str [],ω 11])):=cK (.nil)
theorem k72:CO 21 [.nilS,.agg [.nilS,.nilS]] (.ret (.agg [.bool false,.str [],.str [],ω 11])):=bD.args (.cons (aS.nilS false rfl) (.cons (aS.agg (.cons (aS.nilS false rfl) (.cons (aS.nilS false rfl) .nil))) .nil)) (sJ (q:=CO 21 [.sl [] 0 false,.agg [.sl [] 0 false,.sl [] 0 false]] (.ret (.agg [.bool false,.str [],.str [],ω 11]))) (gU Aw false false false (e:= []) jR (lh (by kernel_rfl))) (by kernel_rfl))
theorem k73:CO 29 [Ω false [1] [2]] (.ret (.agg [.bool false,.str [1],.str [2],ω 0])):=cK (.nil)
theorem k74:CO 17 [.agg [.bool false,.str [1],.str [2],ω 0],.agg [.bool false,.str [1],.str [2],ω 0]] (.ret (.bool true)):=sJ (PV (.val ⟨false,1,2⟩) (.val ⟨false,1,2⟩)) (by kernel_rfl)
theorem k75:CO 17 [.agg [.bool false,.str [1],.str [2],ω 0],.agg [.bool false,.str [],.str [],ω 16]] (.ret (.bool false)):=sJ (PV (.val ⟨false,1,2⟩) (.err 16)) (by kernel_rfl)
theorem k76:CO 13 [] (.ret (.bool true)):=cK (.c k75 (.c k17 (.c k73 (.c k74 (.c k73 (.c k73 (.c k71 (.c k72 (.c k71 (.c k70 (.c k69 (.c k68 (.c k67 (.c k66 (.c k63 (.c k12 (.c k0 (.c k65 (.c k64 (.c k62 (.c k32 (.c k60 (.c k58 (.c k57 (.c k56 (.c k54 (.c k53 (.c k52 (.c k51 (.c k2 (.c k2 (.c k50 (.c k48 (.c k46 (.c k45 (.c k44 (.c k42 (.c k40 (.c k39 (.c k6 (.c k38 (.c k31 (.c k36 (.c k30 (.c k29 (.c k34 (.c k32 (.c k31 (.c k30 (.c k29 (.c k28 (.c k24 (.c k17 (.c k26 (.c k24 (.c k13 (.c k22 (.c k21 (.c k19 (.c k17 (.c k16 (.c k14 (.c k12 (.c k0 (.c k11 (.c k9 (.c k7 (.c k5 (.c k4 (.c k3 (.c k1 (.c k1 .nil))))))))))))))))))))))))))))))))))))))))))))))))))))))))))))))))))))))))
theorem H_:CO 13 [] (.ret (.bool true)):=k76
end Go.Proofs.Tryz
set_option maxRecDepth 100000
open Go AM Go.ChangeShapes Go.WideShapes Go.ChangeAt Go.RowKit
namespace Go.Proofs.Tryz
noncomputable def Ez (t:TypeId) (d:DataW Unit):List Lit:=((mF prog 6 t d 0).getD []).map (·.2)
open Go.Proofs.YtdmfgmmooalfnaaGreatDoor
def VZ:List (String × DataW Unit):= [("unicode/utf8.acceptRanges",Rows.laid_unicode_utf8_acceptRanges),("tithing/expr.table",Rows.laid_tithing_expr_table),("unicode/utf8.first",Rows.laid_unicode_utf8_first)]
theorem SK:VZ.filter (fun x=>x.2.handleName?.isSome)= []:=by kernel_rfl
theorem aib {W:World} (h:laidMetH prog VZ W):Us ap W:=by
 have c (i:Nat) (n:String) (d:DataW Unit) (hm:VZ[i]? =some (n,d)) (g:Nat) (t:TypeId) (hg:prog.globalNamed n=some g) (ht:(prog.globals[g]?).map (·.type)=some t)
   (hl:mF prog 6 t d 0=some ((Ez t d).zipIdx.map fun (l,i)=>(i,l))):=Oe h SK (Xqj hm) hg ht hl
 have m:=c 1 _ _ rfl 0 108 (by kernel_rfl) (by kernel_rfl) (by kernel_rfl);have o:=c 0 _ _ rfl 6 244 (by kernel_rfl) (by kernel_rfl) (by kernel_rfl);have key (k:Nat) (t:TypeId) (d:DataW Unit) (hx:(ap.gl[k]?).join=some ((Ez t d).map KU)) (ho:(Ez t d).all Ey=true) (hc:∀ (j:Nat) (l:Lit),(Ez t d)[j]? =some l→W.cell? ⟨k,j,none⟩=some (qj l)):
   ∀ f,(ap.gl[k]?).join=some f→∃ ls:List Lit,f=ls.map KU∧ls.all Ey=true∧∀ (j:Nat) (l:Lit),ls[j]? =some l→W.cell? ⟨k,j,none⟩=some (qj l):=by
  intro f e;rw [hx] at e;cases e;exact ⟨_,rfl,ho,hc⟩
 intro k
 match k with
 |0=>exact key 0 _ _ (by kernel_rfl) (by kernel_rfl) m
 |1=>intro f e;exact absurd (show (none:Option (List AV))=some f from e) (by simp)
 |2=>intro f e;exact absurd (show (none:Option (List AV))=some f from e) (by simp)
 |3=>intro f e;exact absurd (show (none:Option (List AV))=some f from e) (by simp)
 |4=>intro f e;exact absurd (show (none:Option (List AV))=some f from e) (by simp)
 |5=>intro f e;exact absurd (show (none:Option (List AV))=some f from e) (by simp)
 |6=>exact key 6 _ _ (by kernel_rfl) (by kernel_rfl) o
 |7=>intro f e;exact absurd (show (none:Option (List AV))=some f from e) (by simp)
 |k+8=>
  intro f e;have:ap.gl.length=8:=by kernel_rfl
  rw [List.getElem?_eq_none (by omega)] at e;cases e
theorem own:ownKnob prog.godebug=none:=by kernel_rfl
theorem alS:laidOutB prog=true:=by kernel_rfl
noncomputable def afZ (t:TypeId) (d:DataW Unit):Obj→Obj
 | .cells _ t' fr=> .cells ((Ez t d).map qj).toArray t' fr
 |o=>o
noncomputable def agq (os:Os):World:=
 let w:=World.holding prog os ⟨#[],#[],[]⟩
 {w with heap:=((w.heap.modify 0 (afZ 108 Rows.laid_tithing_expr_table)).modify 5 (afZ 241 Rows.laid_unicode_utf8_first)).modify 6 (afZ 244 Rows.laid_unicode_utf8_acceptRanges)}
theorem ajz (a s r:RQ) (x y:List UInt8) (e:CO 98 [.agg [.bool a.neg,.str (ae a.n),.str (ae a.d)]] (.ret (.agg [.bool a.neg,.str (ae a.n),.str (ae a.d)]))) (f:CO 98 [.agg [.bool s.neg,.str (ae s.n),.str (ae s.d)]] (.ret (.agg [.bool s.neg,.str (ae s.n),.str (ae s.d)]))) (g:CO 100 [.str (ae a.n),.str (ae s.n)] (.ret (.str x))) (d:CO 100 [.str (ae a.d),.str (ae s.d)] (.ret (.str y))) (c:CO 99 [.bool (!(a.neg==s.neg)),.str x,.str y] (.ret (.agg [.bool r.neg,.str (ae r.n),.str (ae r.d)]))):CO 89 [.agg [.bool a.neg,.str (ae a.n),.str (ae a.d)],.agg [.bool s.neg,.str (ae s.n),.str (ae s.d)]] (.ret (.agg [.bool r.neg,.str (ae r.n),.str (ae r.d)])):=pK [] 0 0 (.n 18 .nil) (.c c (.c d (.c g (.c f (.c e .nil)))))
theorem aiy (r:RQ) (x y:List UInt8) (b:Bool) (c:lit false (y== [])=true) (d:CO 179 [.str x] (.ret (.bool true))) (e:CO 179 [.str y] (.ret (.bool true))) (f:CO 99 [.bool b,.str x,.str y] (.ret (.agg [.bool r.neg,.str (ae r.n),.str (ae r.d)]))):CO 180 [.bool b,.str x,.str y] (.ret (.tup [.agg [.bool r.neg,.str (ae r.n),.str (ae r.d)],.bool true])):=pK [] 3 0 (.k 4 c (.n 2 .nil)) (.c f (.c e (.c d .nil)))
theorem ah5 (a r f g:RQ) (x y z:List UInt8) (j:lit true (decide (((0:Nat):Int)<(((η y):Nat):Int)))=true) (c:lit true a.neg=true) (h:CO 150 [.str (ae a.n),.str (ae a.d)] (.ret (.tup [.str x,.str y,.bool true]))) (i:CO 79 [ω 1] (.ret (.str z))) (k:CO 180 [.bool a.neg,.str x,.str z] (.ret (.tup [.agg [.bool f.neg,.str (ae f.n),.str (ae f.d)],.bool true]))) (e:CO 48 [ω 1] (.ret (.agg [.bool g.neg,.str (ae g.n),.str (ae g.d)]))) (d:CO 88 [.agg [.bool f.neg,.str (ae f.n),.str (ae f.d)],.agg [.bool g.neg,.str (ae g.n),.str (ae g.d)]] (.ret (.agg [.bool r.neg,.str (ae r.n),.str (ae r.d)]))):CO 143 [.agg [.bool a.neg,.str (ae a.n),.str (ae a.d)]] (.ret (.agg [.bool r.neg,.str (ae r.n),.str (ae r.d)])):=pK [] 2 3 (.k 11 j (.c c (.n 5 .nil))) (.c d (.c e (.c k (.c i (.c h .nil)))))
theorem ah6 (a f:RQ) (x y z:List UInt8) (g:lit false (decide (((0:Nat):Int)<(((η y):Nat):Int)))=true) (c:lit true a.neg=true) (d:CO 150 [.str (ae a.n),.str (ae a.d)] (.ret (.tup [.str x,.str y,.bool true]))) (e:CO 79 [ω 1] (.ret (.str z))) (h:CO 180 [.bool a.neg,.str x,.str z] (.ret (.tup [.agg [.bool f.neg,.str (ae f.n),.str (ae f.d)],.bool true]))):CO 143 [.agg [.bool a.neg,.str (ae a.n),.str (ae a.d)]] (.ret (.agg [.bool f.neg,.str (ae f.n),.str (ae f.d)])):=pK [] 2 1 (.k 7 g (.c c (.n 5 .nil))) (.c h (.c e (.c d .nil)))
theorem ah7 (a f:RQ) (x y z:List UInt8) (e:lit false a.neg=true) (c:CO 150 [.str (ae a.n),.str (ae a.d)] (.ret (.tup [.str x,.str y,.bool true]))) (d:CO 79 [ω 1] (.ret (.str z))) (g:CO 180 [.bool a.neg,.str x,.str z] (.ret (.tup [.agg [.bool f.neg,.str (ae f.n),.str (ae f.d)],.bool true]))):CO 143 [.agg [.bool a.neg,.str (ae a.n),.str (ae a.d)]] (.ret (.agg [.bool f.neg,.str (ae f.n),.str (ae f.d)])):=pK [] 2 0 (.k 8 e (.n 5 .nil)) (.c g (.c d (.c c .nil)))
theorem ahp (a s q r f:RQ) (c:Int) (j:lit false (decide (c≤((0:Nat):Int)))=true) (h:CO 137 [.agg [.bool a.neg,.str (ae a.n),.str (ae a.d)]] (.ret (.bool true))) (i:CO 137 [.agg [.bool s.neg,.str (ae s.n),.str (ae s.d)]] (.ret (.bool true))) (k:CO 141 [.agg [.bool s.neg,.str (ae s.n),.str (ae s.d)]] (.ret (ω c))) (e:CO 60 [.agg [.bool a.neg,.str (ae a.n),.str (ae a.d)],.agg [.bool s.neg,.str (ae s.n),.str (ae s.d)]] (.ret (.tup [.agg [.bool q.neg,.str (ae q.n),.str (ae q.d)],.bool true]))) (d:CO 143 [.agg [.bool q.neg,.str (ae q.n),.str (ae q.d)]] (.ret (.agg [.bool f.neg,.str (ae f.n),.str (ae f.d)]))) (g:CO 89 [.agg [.bool f.neg,.str (ae f.n),.str (ae f.d)],.agg [.bool s.neg,.str (ae s.n),.str (ae s.d)]] (.ret (.agg [.bool r.neg,.str (ae r.n),.str (ae r.d)]))):CO 91 [.agg [.bool a.neg,.str (ae a.n),.str (ae a.d)],.agg [.bool s.neg,.str (ae s.n),.str (ae s.d)]] (.ret (.tup [.agg [.bool r.neg,.str (ae r.n),.str (ae r.d)],.bool true])):=pK [] 3 0 (.k 17 j (.n 11 .nil)) (.c g (.c d (.c e (.c k (.c i (.c h .nil))))))
theorem alE (a s p q r:RQ) (d:CO 137 [.agg [.bool a.neg,.str (ae a.n),.str (ae a.d)]] (.ret (.bool true))) (e:CO 142 [.agg [.bool a.neg,.str (ae a.n),.str (ae a.d)]] (.ret (.agg [.bool p.neg,.str (ae p.n),.str (ae p.d)]))) (f:CO 91 [.agg [.bool p.neg,.str (ae p.n),.str (ae p.d)],.agg [.bool s.neg,.str (ae s.n),.str (ae s.d)]] (.ret (.tup [.agg [.bool q.neg,.str (ae q.n),.str (ae q.d)],.bool true]))) (c:CO 142 [.agg [.bool q.neg,.str (ae q.n),.str (ae q.d)]] (.ret (.agg [.bool r.neg,.str (ae r.n),.str (ae r.d)]))):CO 92 [.agg [.bool a.neg,.str (ae a.n),.str (ae a.d)],.agg [.bool s.neg,.str (ae s.n),.str (ae s.d)]] (.ret (.tup [.agg [.bool r.neg,.str (ae r.n),.str (ae r.d)],.bool true])):=pK [] 2 0 (.n 19 .nil) (.c c (.c f (.c e (.c d .nil))))
theorem aiE (a s p q r w:RQ) (f:CO 137 [.agg [.bool a.neg,.str (ae a.n),.str (ae a.d)]] (.ret (.bool true))) (g:CO 137 [.agg [.bool s.neg,.str (ae s.n),.str (ae s.d)]] (.ret (.bool true))) (h:CO 48 [ω 2] (.ret (.agg [.bool w.neg,.str (ae w.n),.str (ae w.d)]))) (d:CO 60 [.agg [.bool s.neg,.str (ae s.n),.str (ae s.d)],.agg [.bool w.neg,.str (ae w.n),.str (ae w.d)]] (.ret (.tup [.agg [.bool p.neg,.str (ae p.n),.str (ae p.d)],.bool true]))) (c:CO 62 [.agg [.bool a.neg,.str (ae a.n),.str (ae a.d)],.agg [.bool p.neg,.str (ae p.n),.str (ae p.d)]] (.ret (.agg [.bool q.neg,.str (ae q.n),.str (ae q.d)]))) (e:CO 91 [.agg [.bool q.neg,.str (ae q.n),.str (ae q.d)],.agg [.bool s.neg,.str (ae s.n),.str (ae s.d)]] (.ret (.tup [.agg [.bool r.neg,.str (ae r.n),.str (ae r.d)],.bool true]))):CO 93 [.agg [.bool a.neg,.str (ae a.n),.str (ae a.d)],.agg [.bool s.neg,.str (ae s.n),.str (ae s.d)]] (.ret (.tup [.agg [.bool r.neg,.str (ae r.n),.str (ae r.d)],.bool true])):=pK [] 2 0 (.n 25 .nil) (.c e (.c c (.c d (.c h (.c g (.c f .nil))))))
theorem WU {a b:RQ} {L:Nat} (c:a.ok) (f:b.ok) (h:iw L a) (g:iw L b) (o:L<2^28):CO 89 [qA a,qA b] (.ret (qA (iJ a b))):=by
 obtain ⟨n,m⟩:=h;obtain ⟨p,i⟩:=g;have d:=iQ a.neg (ae a.n) (ae a.d) (by omega) (by omega);have e:=iQ b.neg (ae b.n) (ae b.d) (by omega) (by omega);rw [gB c] at d;rw [gB f] at e;have k:=dO a.n b.n;have j:=dO a.d b.d;exact ajz a b (iJ a b) _ _ d e (E9 a.n b.n (by omega) (by omega)) (E9 a.d b.d (by omega) (by omega)) (oH _ _ _ (by omega) (by omega) (Nat.mul_pos c.1 f.1))
section
variable {a b:RQ} {L:Nat} (ha:a.ok) (hb:b.ok) (sa:iw L a) (sb:iw L b) (hL:L<2^28)
include ha hb sa sb hL
theorem WR:CO 62 [qA a,qA b] (.ret (qA (gK a b))):=by
 obtain ⟨_,_,e,c⟩:=jd sa hL;obtain ⟨_,_,f,d⟩:=jd sb hL;have h:=Qx a.neg b.neg (ae a.n) (ae a.d) (ae b.n) (ae b.d) e c f d;rw [gB ha,gB hb] at h;exact h
theorem LD:CO 88 [qA a,qA b] (.ret (qA (eu a b))):=by
 obtain ⟨_,_,e,c⟩:=jd sa hL;obtain ⟨f,d,_,_⟩:=jd sb hL;have h:=QB a.neg b.neg (ae a.n) (ae a.d) (ae b.n) (ae b.d) e c f d;rw [gB ha,gB hb] at h;exact h
theorem acz:CO 87 [qA a,qA b] (.ret (ω (iE a b))):=by
 obtain ⟨e,c,_,_⟩:=jd sa hL;obtain ⟨f,d,_,_⟩:=jd sb hL;have h:=Qy a.neg b.neg (ae a.n) (ae a.d) (ae b.n) (ae b.d) e c f d;rw [gB ha,gB hb] at h;exact h
theorem WW (f:0<b.n):CO 60 [qA a,qA b] (.ret (.tup [qA (fF a b),.bool true])):=by
 obtain ⟨_,_,e,c⟩:=jd sa hL;obtain ⟨_,_,g,d⟩:=jd sb hL;have h:=aau a.neg b.neg (ae a.n) (ae a.d) (ae b.n) (ae b.d) e c g d (by rw [gB hb];exact f);rw [gB ha,gB hb] at h;exact h
omit ha in
theorem ajE (f:b.n=0):CO 60 [qA a,qA b] (.ret (.tup [Ω false [] [],.bool false])):=by
 obtain ⟨_,_,e,c⟩:=jd sa hL;obtain ⟨_,_,g,d⟩:=jd sb hL;exact aat a.neg b.neg (ae a.n) (ae a.d) (ae b.n) (ae b.d) e c g d (by rw [gB hb];exact f)
end
section
variable {a:RQ} {L:Nat} (ha:a.ok) (sa:iw L a) (hL:L<2^28)
include ha sa hL
theorem acA:CO 142 [qA a] (.ret (qA (kW a))):=by
 obtain ⟨d,c,_,_⟩:=jd sa hL;have h:=QA a.neg (ae a.n) (ae a.d) (by omega) (by omega);rw [gB ha] at h;exact h
theorem vJ:CO 137 [qA a] (.ret (.bool true)):=by
 obtain ⟨d,c,_,_⟩:=jd sa hL;have h:=oI a.neg (ae a.n) (ae a.d) (by omega) (by omega);rw [xg a ha] at h;exact h
theorem Jm:CO 141 [qA a] (.ret (ω (iU a))):=by
 obtain ⟨d,c,_,_⟩:=jd sa hL;exact acB a ha (by omega) (by omega)
theorem WS:CO 81 [qA a] (.ret (.bool (iI a))):=by
 obtain ⟨d,c,_,_⟩:=jd sa hL;have h:=lL a.neg (ae a.n) (ae a.d) (by omega) (by omega);rw [yz ha] at h;exact h
end
theorem I8 (c:Bool) (x:Nat):jV c x 1=⟨c && decide (0<x),x,1⟩:=by
 unfold jV;rw [Nat.gcd_one_right,Xz0,Xz0]
theorem aeC (x:Nat):nR (ae x)=true:=(mX _).2 (by rw [aC])
theorem WT (c:Bool) (x:Nat) (f:(ae x).length<2^28):CO 180 [.bool c,.str (ae x),.str (ae 1)] (.ret (.tup [qA (jV c x 1),.bool true])):=by
 have d:=Ju (ae x);have e:=Ju (ae 1);rw [aeC] at d e;have g:(ae 1).length≤1:=bY (by decide);exact aiy (jV c x 1) (ae x) (ae 1) c (by rw [show (ae 1== [])=false from by rw [Yq2];intro h;rw [eP] at h;omega];rfl) d e (oH c x 1 (by omega) (by omega) (by decide))
theorem Zk {q:RQ}:(nH q).natAbs≤q.n / q.d+1:=by
 unfold nH;split
 ·rw [Xvi,Xjh];split<;>omega
 ·rw [Xjh];omega
theorem VV (x:Nat):jJ (x:Int)=⟨false,x,1⟩:=by
 unfold jJ;rw [Xjh,Yq1 (by omega)]
theorem VW (x:Nat):jJ (-(x:Int))=⟨decide (0<x),x,1⟩:=by
 unfold jJ;rw [Xvi,Xjh];congr 2;apply propext;omega
theorem acI {L:Nat} {q:RQ} (h:iw L q):iw (L+2) (jJ (nH q)):=by
 have c:=Zk (q:=q);have i:=kV c;have f:=vg (q.n / q.d) 1;have g:=kV (Xjq q.n q.d);have d:(ae 1).length≤1:=bY (by decide);have e:=h.1;exact ⟨by show (ae (nH q).natAbs).length≤_;omega,by show (ae 1).length≤_;omega⟩
theorem Tv {q:RQ} {L:Nat} (o:q.ok) (sq:iw L q) (y:L<2^20):CO 143 [qA q] (.ret (qA (jJ (nH q)))):=by
 obtain ⟨w,u⟩:=sq;have i:=CX (ae q.n) (ae q.d) (by omega) (by omega) (by rw [aC];exact o.1);rw [aC,aC] at i;have j:=lg 1 (by decide);have v:=kV (Xjq q.n q.d);have g:=WT q.neg (q.n / q.d) (by omega);cases f:q.neg with
 | false=>
  have e:jV q.neg (q.n / q.d) 1=jJ (nH q):=by
   rw [I8];unfold nH;rw [f,if_neg (by simp),VV];rfl
  rw [e] at g;exact ah7 q (jJ (nH q)) _ _ _ (aN f) i j g
 | true=>
  by_cases hr:q.n % q.d=0
  ·have e:jV q.neg (q.n / q.d) 1=jJ (nH q):=by
    rw [I8];unfold nH;rw [f,if_pos rfl,if_pos hr,Nat.add_zero,VW];rfl
   rw [e] at g;exact ah6 q (jJ (nH q)) _ _ _ (aN (Yq1 (by rw [hr,dB];simp))) (aK f) i j g
  ·have m:=Oy 1 (by decide) (by decide);have c:(jV q.neg (q.n / q.d) 1).ok:=vk (by decide);have d:(Lp 1).ok:=pR 1;have n:iw (L+2) (jV q.neg (q.n / q.d) 1):=by rw [I8];exact ⟨by show (ae (q.n / q.d)).length≤_;omega,by show (ae 1).length≤_;have:(ae 1).length≤1:=bY (by decide);omega⟩
   have t:iw (L+2) (Lp 1):=⟨by show (ae 1).length≤_;have:(ae 1).length≤1:=bY (by decide);omega,by show (ae 1).length≤_;have:(ae 1).length≤1:=bY (by decide);omega⟩
   have k:=LD c d n t (by omega);have e:eu (jV q.neg (q.n / q.d) 1) (Lp 1)=jJ (nH q):=by
    refine qp (gY c d) (pR _) ?_;rw [Jz c d,Jv,Au _ _ _ (by decide)];have r:(Lp 1).rt=((1:Int):Rat):=Jv 1;rw [r,f,if_pos rfl];have p:nH q= -((q.n / q.d+1:Nat):Int):=by unfold nH;rw [f,if_pos rfl,if_neg hr]
    rw [p,Rat.intCast_neg,Rat.intCast_natCast,Rat.natCast_add];simp only [show ((1:Nat):Rat)=1 from rfl,show ((1:Int):Rat)=1 from rfl];grind
   rw [e] at k;refine ah5 q (jJ (nH q)) (jV q.neg (q.n / q.d) 1) (Lp 1) _ _ _ (aK (Yq0 ?_)) (aK f) i j g m k;have:ae (q.n % q.d) ≠ []:=by intro h;rw [eP] at h;exact hr h
   have:=List.length_pos_iff.2 this;omega
section
variable {a s:RQ} {L:Nat} (ha:a.ok) (hs:s.ok) (sa:iw L a) (ss:iw L s) (hL:L<2^16) (hp:0<iU s)
include ha hs sa ss hL hp
theorem Fb:CO 91 [qA a,qA s] (.ret (.tup [qA (vZ a s),.bool true])):=by
 have d:=(Fp hs hp).2;have e:=pV ha d;have c:=AL sa ss;have f:=acI c;exact ahp a s (fF a s) (vZ a s) (jJ (nH (fF a s))) (iU s) (aN (Yq1 (by omega))) (vJ ha sa (by omega)) (vJ hs ss (by omega)) (Jm hs ss (by omega)) (WW ha hs sa ss (by omega) d) (Tv e c (by omega)) (WU (pR _) hs f (ss.mono (by omega)) (by omega))
theorem afV:CO 92 [qA a,qA s] (.ret (.tup [qA (Yb a s),.bool true])):=by
 have g:=(Fp hs hp).2;have e:=ql ha;have c:=XH sa;have f:iw (2*(2*L+2)) (vZ (kW a) s):=AC (acI (AL c ss)) (ss.mono (by omega));have d:=jf (a:=kW a) hs;rw [← alD ha hs hp];exact alE a s (kW a) (vZ (kW a) s) _ (vJ ha sa (by omega)) (acA ha sa (by omega)) (Fb e hs c ss hL hp) (acA d f (by omega))
end
theorem Xi {a s:RQ} {L:Nat} (c:a.ok) (hs:s.ok) (e:iw L a) (d:iw L s) (n:L<2^12) (j:1≤L) (hp:0<iU s):CO 93 [qA a,qA s] (.ret (.tup [qA (Ya a s),.bool true])):=by
 have k2:(jJ 2).ok:=pR 2;have m:(ae 1).length≤1:=bY (by decide);have k:(ae 2).length≤1:=bY (by decide);have g:iw L (jJ 2):=⟨by show (ae 2).length≤_;omega,by show (ae 1).length≤_;omega⟩
 have f:=pV (b:=jJ 2) hs (by decide);have h:=AL d g;have i:=xE (e.mono (show L≤2*L by omega)) h;rw [← aiG c hs hp];exact aiE a s (fF s (jJ 2)) (gK a (fF s (jJ 2))) _ (jJ 2) (vJ c e (by omega)) (vJ hs d (by omega)) (Oy 2 (by decide) (by decide)) (WW hs k2 d g (by omega) (by decide)) (WR c f (e.mono (by omega)) h (by omega)) (Fb (eQ c f) hs i (d.mono (by omega)) (by omega) hp)
theorem ai8 (l:List (RQ × RQ)) (A:Bool) (k:Nat) (b d:RQ × RQ) (x p z:RQ) (c g:Int) (o f:List AV) (r:(ε ((δ (k:Int))*6) (oU l))=Dx b++o) (e:(ε ((δ ((k+1:Nat):Int))*6) (oU l))=Dx d++f) (h:ω (γ .i64 ((k:Int)+((1:Nat):Int)))=ω ((k+1:Nat):Int)) (t:lit true (decide (g<((0:Nat):Int)))=true) (y:(decide (((0:Nat):Int)≤(k:Int)))=true) (q:(decide ((k:Int)<(l.length:Int)))=true) (i:(decide (((0:Nat):Int)≤((k+1:Nat):Int)))=true) (j:(decide (((k+1:Nat):Int)<(l.length:Int)))=true) (n:lit true (decide (c<((0:Nat):Int)))=true) (m:lit true (decide (((k+1:Nat):Int)<(l.length:Int)))=true) (B:CO 87 [.agg [.bool d.1.neg,.str (ae d.1.n),.str (ae d.1.d)],.agg [.bool x.neg,.str (ae x.n),.str (ae x.d)]] (.ret (ω c))) (w:CO 88 [.agg [.bool d.1.neg,.str (ae d.1.n),.str (ae d.1.d)],.agg [.bool b.1.neg,.str (ae b.1.n),.str (ae b.1.d)]] (.ret (.agg [.bool p.neg,.str (ae p.n),.str (ae p.d)]))) (u:CO 141 [.agg [.bool p.neg,.str (ae p.n),.str (ae p.d)]] (.ret (ω g))) (v:CO 48 [ω 0] (.ret (.agg [.bool z.neg,.str (ae z.n),.str (ae z.d)]))):CO 207 [.sl (oU l) l.length A,ω (k:Int),.agg [.bool x.neg,.str (ae x.n),.str (ae x.d)]] (.ret (.agg [.bool z.neg,.str (ae z.n),.str (ae z.d)])):=pK [] 3 7 (.k 4 t (.k 7 y (.c q (.k 7 i (.c j (.c n (.k 6 i (.c j (.c m (.n 4 .nil)))))))))) (.c v (.c u (.c w (.v 35 (.ppt r) (.v 29 (.ppt e) (.v 28 (.eq h) (.c B (.v 19 (.ppt e) (.v 18 (.eq h) (.v 11 (.eq h) .nil))))))))))
theorem ai9 (l:List (RQ × RQ)) (y:Bool) (k:Nat) (b d:RQ × RQ) (x p:RQ) (c g:Int) (o f:List AV) (r:(ε ((δ (k:Int))*6) (oU l))=Dx b++o) (e:(ε ((δ ((k+1:Nat):Int))*6) (oU l))=Dx d++f) (h:ω (γ .i64 ((k:Int)+((1:Nat):Int)))=ω ((k+1:Nat):Int)) (t:lit false (decide (g<((0:Nat):Int)))=true) (w:(decide (((0:Nat):Int)≤(k:Int)))=true) (q:(decide ((k:Int)<(l.length:Int)))=true) (i:(decide (((0:Nat):Int)≤((k+1:Nat):Int)))=true) (j:(decide (((k+1:Nat):Int)<(l.length:Int)))=true) (n:lit true (decide (c<((0:Nat):Int)))=true) (m:lit true (decide (((k+1:Nat):Int)<(l.length:Int)))=true) (z:CO 87 [.agg [.bool d.1.neg,.str (ae d.1.n),.str (ae d.1.d)],.agg [.bool x.neg,.str (ae x.n),.str (ae x.d)]] (.ret (ω c))) (v:CO 88 [.agg [.bool d.1.neg,.str (ae d.1.n),.str (ae d.1.d)],.agg [.bool b.1.neg,.str (ae b.1.n),.str (ae b.1.d)]] (.ret (.agg [.bool p.neg,.str (ae p.n),.str (ae p.d)]))) (u:CO 141 [.agg [.bool p.neg,.str (ae p.n),.str (ae p.d)]] (.ret (ω g))):CO 207 [.sl (oU l) l.length y,ω (k:Int),.agg [.bool x.neg,.str (ae x.n),.str (ae x.d)]] (.ret (.agg [.bool p.neg,.str (ae p.n),.str (ae p.d)])):=pK [] 3 3 (.k 7 t (.k 7 w (.c q (.k 7 i (.c j (.c n (.k 6 i (.c j (.c m (.n 4 .nil)))))))))) (.c u (.c v (.v 35 (.ppt r) (.v 29 (.ppt e) (.v 28 (.eq h) (.c z (.v 19 (.ppt e) (.v 18 (.eq h) (.v 11 (.eq h) .nil)))))))))
theorem ai_ (l:List (RQ × RQ)) (A:Bool) (k:Nat) (b d:RQ × RQ) (x p z:RQ) (c g:Int) (o e:List AV) (r:(ε ((δ (k:Int))*6) (oU l))=Dx b++o) (f:(ε ((δ ((k+1:Nat):Int))*6) (oU l))=Dx d++e) (h:ω (γ .i64 ((k:Int)+((1:Nat):Int)))=ω ((k+1:Nat):Int)) (t:lit true (decide (g<((0:Nat):Int)))=true) (y:(decide (((0:Nat):Int)≤(k:Int)))=true) (q:(decide ((k:Int)<(l.length:Int)))=true) (j:lit false (decide (c<((0:Nat):Int)))=true) (m:(decide (((0:Nat):Int)≤((k+1:Nat):Int)))=true) (n:(decide (((k+1:Nat):Int)<(l.length:Int)))=true) (i:lit true (decide (((k+1:Nat):Int)<(l.length:Int)))=true) (B:CO 87 [.agg [.bool d.1.neg,.str (ae d.1.n),.str (ae d.1.d)],.agg [.bool x.neg,.str (ae x.n),.str (ae x.d)]] (.ret (ω c))) (w:CO 88 [.agg [.bool x.neg,.str (ae x.n),.str (ae x.d)],.agg [.bool b.1.neg,.str (ae b.1.n),.str (ae b.1.d)]] (.ret (.agg [.bool p.neg,.str (ae p.n),.str (ae p.d)]))) (u:CO 141 [.agg [.bool p.neg,.str (ae p.n),.str (ae p.d)]] (.ret (ω g))) (v:CO 48 [ω 0] (.ret (.agg [.bool z.neg,.str (ae z.n),.str (ae z.d)]))):CO 207 [.sl (oU l) l.length A,ω (k:Int),.agg [.bool x.neg,.str (ae x.n),.str (ae x.d)]] (.ret (.agg [.bool z.neg,.str (ae z.n),.str (ae z.d)])):=pK [] 3 5 (.k 4 t (.k 7 y (.c q (.k 3 j (.k 6 m (.c n (.c i (.n 4 .nil)))))))) (.c v (.c u (.c w (.v 35 (.ppt r) (.c B (.v 19 (.ppt f) (.v 18 (.eq h) (.v 11 (.eq h) .nil))))))))
theorem aja (l:List (RQ × RQ)) (y:Bool) (k:Nat) (b d:RQ × RQ) (x p:RQ) (c g:Int) (o e:List AV) (r:(ε ((δ (k:Int))*6) (oU l))=Dx b++o) (f:(ε ((δ ((k+1:Nat):Int))*6) (oU l))=Dx d++e) (h:ω (γ .i64 ((k:Int)+((1:Nat):Int)))=ω ((k+1:Nat):Int)) (t:lit false (decide (g<((0:Nat):Int)))=true) (w:(decide (((0:Nat):Int)≤(k:Int)))=true) (q:(decide ((k:Int)<(l.length:Int)))=true) (j:lit false (decide (c<((0:Nat):Int)))=true) (m:(decide (((0:Nat):Int)≤((k+1:Nat):Int)))=true) (n:(decide (((k+1:Nat):Int)<(l.length:Int)))=true) (i:lit true (decide (((k+1:Nat):Int)<(l.length:Int)))=true) (z:CO 87 [.agg [.bool d.1.neg,.str (ae d.1.n),.str (ae d.1.d)],.agg [.bool x.neg,.str (ae x.n),.str (ae x.d)]] (.ret (ω c))) (v:CO 88 [.agg [.bool x.neg,.str (ae x.n),.str (ae x.d)],.agg [.bool b.1.neg,.str (ae b.1.n),.str (ae b.1.d)]] (.ret (.agg [.bool p.neg,.str (ae p.n),.str (ae p.d)]))) (u:CO 141 [.agg [.bool p.neg,.str (ae p.n),.str (ae p.d)]] (.ret (ω g))):CO 207 [.sl (oU l) l.length y,ω (k:Int),.agg [.bool x.neg,.str (ae x.n),.str (ae x.d)]] (.ret (.agg [.bool p.neg,.str (ae p.n),.str (ae p.d)])):=pK [] 3 1 (.k 7 t (.k 7 w (.c q (.k 3 j (.k 6 m (.c n (.c i (.n 4 .nil)))))))) (.c u (.c v (.v 35 (.ppt r) (.c z (.v 19 (.ppt f) (.v 18 (.eq h) (.v 11 (.eq h) .nil)))))))
theorem ajb (l:List (RQ × RQ)) (m:Bool) (k:Nat) (b:RQ × RQ) (x p z:RQ) (g:Int) (f:List AV) (c:(ε ((δ (k:Int))*6) (oU l))=Dx b++f) (d:ω (γ .i64 ((k:Int)+((1:Nat):Int)))=ω ((k+1:Nat):Int)) (h:lit true (decide (g<((0:Nat):Int)))=true) (e:(decide (((0:Nat):Int)≤(k:Int)))=true) (j:(decide ((k:Int)<(l.length:Int)))=true) (i:lit false (decide (((k+1:Nat):Int)<(l.length:Int)))=true) (n:CO 88 [.agg [.bool x.neg,.str (ae x.n),.str (ae x.d)],.agg [.bool b.1.neg,.str (ae b.1.n),.str (ae b.1.d)]] (.ret (.agg [.bool p.neg,.str (ae p.n),.str (ae p.d)]))) (o:CO 141 [.agg [.bool p.neg,.str (ae p.n),.str (ae p.d)]] (.ret (ω g))) (q:CO 48 [ω 0] (.ret (.agg [.bool z.neg,.str (ae z.n),.str (ae z.d)]))):CO 207 [.sl (oU l) l.length m,ω (k:Int),.agg [.bool x.neg,.str (ae x.n),.str (ae x.d)]] (.ret (.agg [.bool z.neg,.str (ae z.n),.str (ae z.d)])):=pK [] 3 4 (.k 4 h (.k 7 e (.c j (.k 4 i (.n 4 .nil))))) (.c q (.c o (.c n (.v 35 (.ppt c) (.v 11 (.eq d) .nil)))))
theorem ajc (l:List (RQ × RQ)) (m:Bool) (k:Nat) (b:RQ × RQ) (x p:RQ) (g:Int) (f:List AV) (c:(ε ((δ (k:Int))*6) (oU l))=Dx b++f) (d:ω (γ .i64 ((k:Int)+((1:Nat):Int)))=ω ((k+1:Nat):Int)) (h:lit false (decide (g<((0:Nat):Int)))=true) (e:(decide (((0:Nat):Int)≤(k:Int)))=true) (j:(decide ((k:Int)<(l.length:Int)))=true) (i:lit false (decide (((k+1:Nat):Int)<(l.length:Int)))=true) (n:CO 88 [.agg [.bool x.neg,.str (ae x.n),.str (ae x.d)],.agg [.bool b.1.neg,.str (ae b.1.n),.str (ae b.1.d)]] (.ret (.agg [.bool p.neg,.str (ae p.n),.str (ae p.d)]))) (o:CO 141 [.agg [.bool p.neg,.str (ae p.n),.str (ae p.d)]] (.ret (ω g))):CO 207 [.sl (oU l) l.length m,ω (k:Int),.agg [.bool x.neg,.str (ae x.n),.str (ae x.d)]] (.ret (.agg [.bool p.neg,.str (ae p.n),.str (ae p.d)])):=pK [] 3 0 (.k 7 h (.k 7 e (.c j (.k 4 i (.n 4 .nil))))) (.c o (.c n (.v 35 (.ppt c) (.v 11 (.eq d) .nil))))
theorem alG (d:List UInt8) (u1 u2:Int) (l:List (RQ × RQ)) (c:Bool) (k:Nat) (b:RQ × RQ) (x p z a f:RQ) (e:List AV) {nt:Nat} (q:30≤nt) (h:(ε ((δ (k:Int))*6) (oU l))=Dx b++e) (n:ω (γ .i64 ((k:Int)+((1:Nat):Int)))=ω ((k+1:Nat):Int)) (i:(decide (((0:Nat):Int)≤(k:Int)))=true) (o:(decide ((k:Int)<(l.length:Int)))=true) (g:lit true (decide ((k:Int)<(l.length:Int)))=true) (r:CO 207 [.sl (oU l) l.length c,ω (k:Int),.agg [.bool x.neg,.str (ae x.n),.str (ae x.d)]] (.ret (.agg [.bool p.neg,.str (ae p.n),.str (ae p.d)]))) (m:CO 89 [.agg [.bool b.2.neg,.str (ae b.2.n),.str (ae b.2.d)],.agg [.bool p.neg,.str (ae p.n),.str (ae p.d)]] (.ret (.agg [.bool z.neg,.str (ae z.n),.str (ae z.d)]))) (j:CO 62 [.agg [.bool a.neg,.str (ae a.n),.str (ae a.d)],.agg [.bool z.neg,.str (ae z.n),.str (ae z.d)]] (.ret (.agg [.bool f.neg,.str (ae f.n),.str (ae f.d)]))):ψ nt f182 ⟨[(2,.ptr 0 0 0),(3,.ptr 1 0 0),(4,.ptr 2 0 0),(5,.ptr 3 0 0),(6,ω (k:Int))],[(0,⟨[.str d,ω u1,ω u2,.sl (oU l) l.length c],0,false,0,0,true⟩),(1,⟨[.bool x.neg,.str (ae x.n),.str (ae x.d)],0,false,0,0,true⟩),(2,⟨[.bool false,.str [],.str []],0,false,0,0,true⟩),(3,⟨[.bool a.neg,.str (ae a.n),.str (ae a.d)],0,false,0,0,true⟩)],.dead,[]⟩ (.normal) ⟨[(2,.ptr 0 0 0),(3,.ptr 1 0 0),(4,.ptr 2 0 0),(5,.ptr 3 0 0),(6,ω ((k+1:Nat):Int))],[(0,⟨[.str d,ω u1,ω u2,.sl (oU l) l.length c],0,false,0,0,true⟩),(1,⟨[.bool x.neg,.str (ae x.n),.str (ae x.d)],0,false,0,0,true⟩),(2,⟨[.bool false,.str [],.str []],0,false,0,0,true⟩),(3,⟨[.bool f.neg,.str (ae f.n),.str (ae f.d)],0,false,0,0,true⟩)],.dead,[]⟩:=pN 182 [] 1 1 (.k 8 i (.c o (.k 4 g (.n 1 .nil)))) (.v 14 (.eq n) (.c j (.c m (.c r (.v 19 (.ppt h) .nil))))) q
theorem alH (c:List UInt8) (u1 u2:Int) (l:List (RQ × RQ)) (e:Bool) (k:Nat) (x a:RQ) {nt:Nat} (d:30≤nt) (f:lit false (decide ((k:Int)<(l.length:Int)))=true):ψ nt f182 ⟨[(2,.ptr 0 0 0),(3,.ptr 1 0 0),(4,.ptr 2 0 0),(5,.ptr 3 0 0),(6,ω (k:Int))],[(0,⟨[.str c,ω u1,ω u2,.sl (oU l) l.length e],0,false,0,0,true⟩),(1,⟨[.bool x.neg,.str (ae x.n),.str (ae x.d)],0,false,0,0,true⟩),(2,⟨[.bool false,.str [],.str []],0,false,0,0,true⟩),(3,⟨[.bool a.neg,.str (ae a.n),.str (ae a.d)],0,false,0,0,true⟩)],.dead,[]⟩ (.exit 0) ⟨[(4,.ptr 0 0 0),(5,.ptr 1 0 0)],[(0,⟨[.bool false,.str [],.str []],0,false,0,0,true⟩),(1,⟨[.bool a.neg,.str (ae a.n),.str (ae a.d)],0,false,0,0,true⟩)],.dead,[]⟩:=pN 182 [] 1 0 (.c f (.n 1 .nil)) (.nil) d
theorem alF (c:List UInt8) (u1 u2:Int) (l:List (RQ × RQ)) (d:Bool) (x a f:RQ) (g:CO 48 [ω 0] (.ret (.agg [.bool a.neg,.str (ae a.n),.str (ae a.d)]))) (e:aG prog ap [] 30 (.block 0 (.loop (af 0 (ah f182)))) ⟨[(0,.agg [.str c,ω u1,ω u2,.sl (oU l) l.length d]),(1,.agg [.bool x.neg,.str (ae x.n),.str (ae x.d)]),(2,.ptr 0 0 0),(3,.ptr 1 0 0),(4,.ptr 2 0 0),(5,.ptr 3 0 0),(6,ω 0),(12,.dead)],[(0,⟨[.str c,ω u1,ω u2,.sl (oU l) l.length d],0,false,0,0,true⟩),(1,⟨[.bool x.neg,.str (ae x.n),.str (ae x.d)],0,false,0,0,true⟩),(2,⟨[.bool false,.str [],.str []],0,false,0,0,true⟩),(3,⟨[.bool a.neg,.str (ae a.n),.str (ae a.d)],0,false,0,0,true⟩)],.dead,[]⟩ (.normal) ⟨[(4,.ptr 0 0 0),(5,.ptr 1 0 0)],[(0,⟨[.bool false,.str [],.str []],0,false,0,0,true⟩),(1,⟨[.bool f.neg,.str (ae f.n),.str (ae f.d)],0,false,0,0,true⟩)],.dead,[]⟩):CO 182 [.agg [.str c,ω u1,ω u2,.sl (oU l) l.length d],.agg [.bool x.neg,.str (ae x.n),.str (ae x.d)]] (.ret (.agg [.bool f.neg,.str (ae f.n),.str (ae f.d)])):=pK [0] 0 0 (.n 8 .nil) (.l e (.c g .nil))
theorem agD (e:List UInt8) (u1 u2:Int) (g:Bool) (x:RQ) (c:Int) (d:List AV) (f:Nat) (i:lit true (!(c==((0:Nat):Int)))=true) (h:CO 206 [.agg [.str e,ω u1,ω u2,.sl d f g]] (.ret (ω c))):CO 181 [.agg [.str e,ω u1,ω u2,.sl d f g],.agg [.bool x.neg,.str (ae x.n),.str (ae x.d)]] (.ret (ω c)):=pK [] 1 1 (.c i (.n 4 .nil)) (.c h .nil)
theorem agF (e:List UInt8) (u1 u2:Int) (g:Bool) (x:RQ) (c:Int) (d:List AV) (f:Nat) (j:lit false (!(c==((0:Nat):Int)))=true) (h:CO 206 [.agg [.str e,ω u1,ω u2,.sl d f g]] (.ret (ω c))) (i:CO 137 [.agg [.bool x.neg,.str (ae x.n),.str (ae x.d)]] (.ret (.bool true))) (k:CO 81 [.agg [.bool x.neg,.str (ae x.n),.str (ae x.d)]] (.ret (.bool true))):CO 181 [.agg [.str e,ω u1,ω u2,.sl d f g],.agg [.bool x.neg,.str (ae x.n),.str (ae x.d)]] (.ret (ω 0)):=pK [] 3 0 (.k 8 j (.n 4 .nil)) (.c k (.c i (.c h .nil)))
theorem agP (e:List UInt8) (u1 u2:Int) (g:Bool) (x:RQ) (c:Int) (d:List AV) (f:Nat) (i:lit true (!(c==((0:Nat):Int)))=true) (h:CO 181 [.agg [.str e,ω u1,ω u2,.sl d f g],.agg [.bool x.neg,.str (ae x.n),.str (ae x.d)]] (.ret (ω c))):CO 144 [.agg [.str e,ω u1,ω u2,.sl d f g],.agg [.bool x.neg,.str (ae x.n),.str (ae x.d)]] (.ret (.tup [Ω false [] [],ω c])):=pK [] 1 1 (.k 4 i (.n 7 .nil)) (.c h .nil)
theorem agQ (e:List UInt8) (u1 u2:Int) (g:Bool) (x p:RQ) (c:Int) (d:List AV) (f:Nat) (h:Bool) (m:lit true (!h)=true) (i:lit false (!(c==((0:Nat):Int)))=true) (j:CO 181 [.agg [.str e,ω u1,ω u2,.sl d f g],.agg [.bool x.neg,.str (ae x.n),.str (ae x.d)]] (.ret (ω c))) (k:CO 182 [.agg [.str e,ω u1,ω u2,.sl d f g],.agg [.bool x.neg,.str (ae x.n),.str (ae x.d)]] (.ret (.agg [.bool p.neg,.str (ae p.n),.str (ae p.d)]))) (n:CO 81 [.agg [.bool p.neg,.str (ae p.n),.str (ae p.d)]] (.ret (.bool h))):CO 144 [.agg [.str e,ω u1,ω u2,.sl d f g],.agg [.bool x.neg,.str (ae x.n),.str (ae x.d)]] (.ret (.tup [Ω false [] [],ω 3])):=pK [] 2 2 (.k 4 m (.k 11 i (.n 7 .nil))) (.c n (.c k (.c j .nil)))
theorem agR (e:List UInt8) (u1 u2:Int) (g:Bool) (x p:RQ) (c:Int) (d:List AV) (f:Nat) (h:Bool) (m:lit false (!h)=true) (i:lit false (!(c==((0:Nat):Int)))=true) (j:CO 181 [.agg [.str e,ω u1,ω u2,.sl d f g],.agg [.bool x.neg,.str (ae x.n),.str (ae x.d)]] (.ret (ω c))) (k:CO 182 [.agg [.str e,ω u1,ω u2,.sl d f g],.agg [.bool x.neg,.str (ae x.n),.str (ae x.d)]] (.ret (.agg [.bool p.neg,.str (ae p.n),.str (ae p.d)]))) (n:CO 81 [.agg [.bool p.neg,.str (ae p.n),.str (ae p.d)]] (.ret (.bool h))):CO 144 [.agg [.str e,ω u1,ω u2,.sl d f g],.agg [.bool x.neg,.str (ae x.n),.str (ae x.d)]] (.ret (.tup [.agg [.bool p.neg,.str (ae p.n),.str (ae p.d)],ω 0])):=pK [] 2 0 (.k 7 m (.k 11 i (.n 7 .nil))) (.c n (.c k (.c j .nil)))
abbrev ak4 (nm:List UInt8) (u1 u2:Int) (l:List (RQ × RQ)) (nn:Bool):AV:= .agg [.str nm,ω u1,ω u2,.sl (oU l) l.length nn]
section
variable (nm:List UInt8) (u1 u2:Int) {l:List (RQ × RQ)} (nn:Bool) (hR:Uu l) {x:RQ} (hx:x.ok) (fx:iI x=true)
include hR hx fx
theorem WV (k:Nat) (d:k<l.length):CO 207 [.sl (oU l) l.length nn,ω (k:Int),qA x] (.ret (qA (mJ l[k].1 ((l.drop (k+1)).head?.map (·.1)) x)))∧(mJ l[k].1 ((l.drop (k+1)).head?.map (·.1)) x).ok∧iw 205 (mJ l[k].1 ((l.drop (k+1)).head?.map (·.1)) x):=by
 have u:=hR.len;have y:=Xxb d;have j:=hR.ok _ y;have i:=hR.fit _ y;have n:iw 51 x:=aX fx;have w:ω (γ .i64 ((k:Int)+((1:Nat):Int)))=ω ((k+1:Nat):Int):=Ci (by omega);have m:(decide (((0:Nat):Int)≤(k:Int)))=true:=Yq0 (by omega);have g:(decide ((k:Int)<(l.length:Int)))=true:=Yq0 (by omega);have lt:∀ {b:Bool} {p:RQ},decide (iU p<0)=b→lit b (decide (iU p<((0:Nat):Int)))=true:=fun h=>by
  rw [show decide (iU _<((0:Nat):Int))=_ from h];cases ‹Bool› <;>rfl
 have f:∀ {p:RQ},p.ok→iw 205 p→(if iU p<0 then q0 else p).ok∧iw 205 (if iU p<0 then q0 else p):=fun z A=>by
  split
  ·exact ⟨wJ,Xq1 (bY (x:=0) (k:=1) (by decide)) (by decide),Xq1 (bY (x:=1) (k:=1) (by decide)) (by decide)⟩
  ·exact ⟨z,A⟩
 by_cases h:k+1<l.length
 ·have o:=Xxb h;have r:=hR.ok _ o;have t:=hR.fit _ o;have e:(l.drop (k+1)).head?.map (·.1)=some l[k+1].1:=by rw [Xxp h];rfl
  have q:=acz r.1 hx (aX t.1) n (by decide);have u1:(decide (((0:Nat):Int)≤((k+1:Nat):Int)))=true:=Yq0 (by omega);have u2:(decide (((k+1:Nat):Int)<(l.length:Int)))=true:=Yq0 (by omega);rw [e];unfold mJ;simp only;by_cases hlt:iE l[k+1].1 x<0
  ·rw [if_pos hlt];have hs:=LD r.1 j.1 (aX t.1) (aX i.1) (by decide);have k1:=gY r.1 j.1;have k2:iw 205 (eu l[k+1].1 l[k].1):=xF (L:=51) (aX t.1) (aX i.1);refine ⟨?_,f k1 k2⟩;have c:=Jm k1 k2 (by decide);by_cases h0:iU (eu l[k+1].1 l[k].1)<0
   ·rw [if_pos h0];exact ai8 l nn k _ _ x _ q0 _ _ _ _ (fZ d) (fZ h) w (aK (Yq0 h0)) m g u1 u2 (aK (Yq0 hlt)) (aK u2) q hs c uF
   ·rw [if_neg h0];exact ai9 l nn k _ _ x _ _ _ _ _ (fZ d) (fZ h) w (aN (Yq1 h0)) m g u1 u2 (aK (Yq0 hlt)) (aK u2) q hs c
  ·rw [if_neg hlt];have hs:=LD hx j.1 n (aX i.1) (by decide);have k1:=gY hx j.1;have k2:iw 205 (eu x l[k].1):=xF (L:=51) n (aX i.1);refine ⟨?_,f k1 k2⟩;have c:=Jm k1 k2 (by decide);by_cases h0:iU (eu x l[k].1)<0
   ·rw [if_pos h0];exact ai_ l nn k _ _ x _ q0 _ _ _ _ (fZ d) (fZ h) w (aK (Yq0 h0)) m g (aN (Yq1 hlt)) u1 u2 (aK u2) q hs c uF
   ·rw [if_neg h0];exact aja l nn k _ _ x _ _ _ _ _ (fZ d) (fZ h) w (aN (Yq1 h0)) m g (aN (Yq1 hlt)) u1 u2 (aK u2) q hs c
 ·have e:(l.drop (k+1)).head?.map (·.1)=none:=by rw [List.drop_of_length_le (by omega)];rfl
  rw [e];unfold mJ;simp only;have hs:=LD hx j.1 n (aX i.1) (by decide);have k1:=gY hx j.1;have k2:iw 205 (eu x l[k].1):=xF (L:=51) n (aX i.1);refine ⟨?_,f k1 k2⟩;have c:=Jm k1 k2 (by decide);have v:lit false (decide (((k+1:Nat):Int)<(l.length:Int)))=true:=aN (Yq1 (by omega));by_cases h0:iU (eu x l[k].1)<0
  ·rw [if_pos h0];exact ajb l nn k _ x _ q0 _ _ (fZ d) w (aK (Yq0 h0)) m g v hs c uF
  ·rw [if_neg h0];exact ajc l nn k _ x _ _ _ (fZ d) w (aN (Yq1 h0)) m g v hs c
abbrev vlS (nm:List UInt8) (u1 u2:Int) (l:List (RQ × RQ)) (nn:Bool) (x:RQ) (p:Nat × RQ):St:=⟨[(2,.ptr 0 0 0),(3,.ptr 1 0 0),(4,.ptr 2 0 0),(5,.ptr 3 0 0),(6,ω (p.1:Int))],[(0,⟨[.str nm,ω u1,ω u2,.sl (oU l) l.length nn],0,false,0,0,true⟩),(1,⟨[.bool x.neg,.str (ae x.n),.str (ae x.d)],0,false,0,0,true⟩),(2,⟨[.bool false,.str [],.str []],0,false,0,0,true⟩),(3,⟨[.bool p.2.neg,.str (ae p.2.n),.str (ae p.2.d)],0,false,0,0,true⟩)],.dead,[]⟩
abbrev vlO (a:RQ):St:=⟨[(4,.ptr 0 0 0),(5,.ptr 1 0 0)],[(0,⟨[.bool false,.str [],.str []],0,false,0,0,true⟩),(1,⟨[.bool a.neg,.str (ae a.n),.str (ae a.d)],0,false,0,0,true⟩)],.dead,[]⟩
theorem ab2 {nt:Nat} (u:30≤nt):∀ (r p:List (RQ × RQ)) (c:RQ),l=p++r→c.ok→iw (410*5^p.length) c→
  az prog ap [] nt (af 0 (ah f182)) (fun _=> .exit 0) (vlS nm u1 u2 l nn x) vlO (p.length,c) (ww c r x)∧(ww c r x).ok∧iw (410*5^8) (ww c r x):=by
 intro r
 induction r with
 |nil=>
  intro p c d g hs;have:=hR.len;exact ⟨.done (alH nm u1 u2 l nn p.length x c u (aN (Yq1 (by rw [d];simp)))),g,hs.mono (Nat.mul_le_mul_left 410 (Nat.pow_le_pow_right (by decide) (by rw [d] at this;simp at this;omega)))⟩
 |cons b r ih=>
  intro p c d g hs;have n:=hR.len;have f:p.length<l.length:=by rw [d];simp
  have v:l[p.length]=b:=by subst d;simp
  have C:l.drop (p.length+1)=r:=by rw [d];simp
  obtain ⟨y,m,i⟩:=WV nn hR hx fx p.length f;have z:b ∈ l:=by rw [d];simp
  have w:=hR.ok _ z;have t:=hR.fit _ z;rw [v,C] at y m i;have o:=fZ f;rw [v] at o;have B:=WU w.2 m (iw.mono (L:=51) (aX t.2) (by decide)) i (by decide);have A:=iK w.2 m;have q:iw 410 (iJ b.2 (mJ b.1 (r.head?.map (·.1)) x)):=AC (L:=205) (iw.mono (L:=51) (aX t.2) (by decide)) i;have D:=ack (k:=p.length) (by omega);have E:1≤5^p.length:=Nat.one_le_pow _ _ (by decide);have F:=WR g A hs (q.mono (by omega)) D;have j:l=p++ [b]++r:=by rw [d];simp
  have h:=XI hs q;have e:=ih (p++ [b]) _ j (eQ g A) (by rw [θ];exact h);rw [θ,σ] at e;exact ⟨.next (alG nm u1 u2 l nn p.length b x _ _ c _ _ u o (Ci (by omega)) (Yq0 (by omega)) (Yq0 (by omega)) (aK (Yq0 (by omega))) y B F) e.1,e.2⟩
theorem aay:CO 182 [ak4 nm u1 u2 l nn,qA x] (.ret (qA (ww q0 l x)))∧(ww q0 l x).ok∧iw (410*5^8) (ww q0 l x):=by
 have h:=fun nt (c:30≤nt)=>ab2 nm u1 u2 nn hR hx fx c l [] q0 rfl wJ (WQ.mono (by decide))
 refine ⟨?_,(h 30 (Δ _)).2⟩;exact alF nm u1 u2 l nn x q0 _ uF (az.blk (id:=0) (e':= .normal) (s:=⟨_,_,_,_⟩) (s':=vlO _) (fun nt c=>(h nt c).1) (by simp) rfl (aH.of ⟨rfl,rfl,rfl,rfl,rfl,trivial⟩) (aH.refl _))
end
theorem UV {l:List Br} (h:∀ x ∈ l,x.s28):xJ 87 t_ l:=fun i y x c d _ _=>
 Qy y.fn x.fn y.fa y.fd x.fa x.fd (h y (Xqj c)).1.1 (h y (Xqj c)).1.2 (h x (Xqj d)).1.1 (h x (Xqj d)).1.2
theorem ab1 {l:List (RQ × RQ)} {x:RQ} (c:Uu l) (d:x.ok):mV (ww q0 l x)=X8 l x:=by
 rw [ade d c.ok c.srt];unfold X8;split
 ·rfl
 ·rfl
theorem aaG (c:List UInt8) (u1 u2:Int) {l:List Br} (hs:∀ x ∈ l,x.s28) (t:l.length<2^40) {x:RQ} (f:x.ok) (m:iI x=true):
  CO 144 [.agg [.str c,ω u1,ω u2,.sl (gy l) l.length false],qA x] (.ret (.tup [.agg [.bool (MW l x).n,.str (MW l x).a,.str (MW l x).d],ω (MW l x).e])):=by
 have d:=OE c u1 u2 l t_ t (fun x f=>(hs x f).sm) (UV hs);unfold MW;have o:iw 51 x:=aX m;by_cases h:PE t_ l=0
 ·rw [if_pos h];rw [h] at d;obtain ⟨p,e⟩:=UQ h;have u:CO 137 [qA x] (.ret (.bool true)):=vJ f o (by decide);have q:CO 81 [qA x] (.ret (.bool true)):=by have:=WS f o (by decide);rw [m] at this;exact this
  obtain ⟨j,v1,r⟩:=aay c u1 u2 false p f m;unfold ak4 at j;rw [e,Xxt] at j;have i:=agF c u1 u2 false x 0 _ _ rfl d u q;rw [← ab1 p f];have k:=WS v1 r (by decide);unfold mV;by_cases g:iI (ww q0 (l.map UC) x)=true
  ·rw [if_pos g];rw [g] at k;exact agR c u1 u2 false x _ 0 _ _ true rfl rfl i j k
  ·rw [if_neg g];have g:iI (ww q0 (l.map UC) x)=false:=by simpa using g
   rw [g] at k;exact agQ c u1 u2 false x _ 0 _ _ false rfl rfl i j k
 ·rw [if_neg h];have n:lit true (!(PE t_ l==((0:Nat):Int)))=true:=by rw [show (PE t_ l==((0:Nat):Int))=false from beq_eq_false_iff_ne.2 h];rfl
  exact agP c u1 u2 false x _ _ _ n (agD c u1 u2 false x _ _ _ n d)
theorem akL (n:Bool) (a d:List UInt8) (e:Int) (f:lit true (!(e==((0:Nat):Int)))=true) (c:CO 47 [ω e] (.ret (.agg [.bool false,.str [],.str [],ω e]))):CO 49 [.agg [.bool n,.str a,.str d,ω e]] (.ret (.agg [.bool false,.str [],.str [],ω e])):=pK [] 1 1 (.k 6 f (.n 1 .nil)) (.c c .nil)
theorem akM (n:Bool) (a d:List UInt8) (e:Int) (c:Bool) (i:lit true (!c)=true) (f:lit false (!(e==((0:Nat):Int)))=true) (g:CO 81 [Ω n a d] (.ret (.bool c))) (h:CO 47 [ω 3] (.ret (.agg [.bool false,.str [],.str [],ω 3]))):CO 49 [.agg [.bool n,.str a,.str d,ω e]] (.ret (.agg [.bool false,.str [],.str [],ω 3])):=pK [] 2 2 (.k 5 i (.k 3 f (.n 1 .nil))) (.c h (.c g .nil))
theorem akN (n:Bool) (a d:List UInt8) (e:Int) (c:Bool) (h:lit false (!c)=true) (f:lit false (!(e==((0:Nat):Int)))=true) (g:CO 81 [Ω n a d] (.ret (.bool c))):CO 49 [.agg [.bool n,.str a,.str d,ω e]] (.ret (.agg [.bool n,.str a,.str d,ω e])):=pK [] 2 0 (.k 9 h (.k 3 f (.n 1 .nil))) (.c g .nil)
theorem akr (n:Bool) (a d:List UInt8) (o:Oq) (c:CO 49 [.agg [.bool n,.str a,.str d,ω 0]] (.ret (.agg [.bool o.n,.str o.a,.str o.d,ω o.e]))):CO 51 [Ω n a d] (.ret (.agg [.bool o.n,.str o.a,.str o.d,ω o.e])):=pK [] 0 0 (.n 8 .nil) (.c c .nil)
theorem akX (b:Bool) (o:Oq) (c:lit true b=true) (d:CO 48 [ω 1] (.ret (Ω false (ae 1) (ae 1)))) (e:CO 51 [Ω false (ae 1) (ae 1)] (.ret (.agg [.bool o.n,.str o.a,.str o.d,ω o.e]))):CO 90 [.bool b] (.ret (.agg [.bool o.n,.str o.a,.str o.d,ω o.e])):=pK [] 1 1 (.k 5 c .nil) (.c e (.c d .nil))
theorem akY (b:Bool) (o:Oq) (c:lit false b=true) (d:CO 48 [ω 0] (.ret (Ω false (ae 0) (ae 1)))) (e:CO 51 [Ω false (ae 0) (ae 1)] (.ret (.agg [.bool o.n,.str o.a,.str o.d,ω o.e]))):CO 90 [.bool b] (.ret (.agg [.bool o.n,.str o.a,.str o.d,ω o.e])):=pK [] 1 0 (.k 5 c .nil) (.c e (.c d .nil))
theorem aj2 (n:Bool) (a d:List UInt8) (e:lit true ((n==false) && ((a==(ae 0)) && ((d==(ae 1)) && true)))=true) (c:CO 48 [ω 0] (.ret (Ω false (ae 0) (ae 1)))):CO 86 [Ω n a d] (.ret (.bool true)):=pK [] 1 1 (.c e (.n 3 .nil)) (.c c .nil)
theorem aj3 (n:Bool) (a d:List UInt8) (f:lit false ((n==false) && ((a==(ae 0)) && ((d==(ae 1)) && true)))=true) (c:CO 48 [ω 0] (.ret (Ω false (ae 0) (ae 1)))) (e:CO 48 [ω 1] (.ret (Ω false (ae 1) (ae 1)))):CO 86 [Ω n a d] (.ret (.bool ((n==false) && ((a==(ae 1)) && ((d==(ae 1)) && true))))):=pK [] 1 0 (.k 3 f (.n 3 .nil)) (.c e (.c c .nil))
theorem ail (g:List UInt8) (h:Int) (k:Nat) (o:Oq) (d:Lk) (ls:List Lk) (cs:List Sc) (q m:Bool) (n:List AV) {nt:Nat} (r:41≤nt) (c:(ε ((δ (k:Int))*6) (dJ ls))=V5 d++n) (e:(decide (((0:Nat):Int)≤(k:Int)))=true) (f:(decide ((k:Int)<(ls.length:Int)))=true) (p:lit true (d.nm==g)=true) (i:lit true (d.op==h)=true) (j:lit true (decide ((k:Int)<(ls.length:Int)))=true) (t:CO 49 [.agg [.bool d.n,.str d.a,.str d.d,ω d.e]] (.ret (.agg [.bool o.n,.str o.a,.str o.d,ω o.e]))):ψ nt f52 ⟨[(1,ω h),(2,.str g),(3,.ptr 0 0 0),(6,.ptr 1 0 0),(7,ω (k:Int))],[(0,⟨[.sl (dJ ls) ls.length q,.sl (dF cs) cs.length m],0,false,0,0,true⟩),(1,⟨[.bool false,.str [],.str [],ω 0],0,false,0,0,true⟩)],.dead,[]⟩ (.ret) ⟨[(6,.ptr 0 0 0)],[(0,⟨[.bool o.n,.str o.a,.str o.d,ω o.e],0,false,0,0,true⟩)],.dead,[]⟩:=pN 52 [] 3 7 (.k 5 e (.c f (.k 1 p (.k 1 e (.c f (.k 1 i (.k 1 e (.c f (.k 1 j (.n 1 .nil)))))))))) (.c t (.v 36 (.ppt c) (.v 27 (.ppt c) (.v 18 (.ppt c) .nil)))) r
theorem aim (d:List UInt8) (e:Int) (k:Nat) (f:Lk) (ls:List Lk) (cs:List Sc) (i j:Bool) (n:List AV) {nt:Nat} (q:41≤nt) (c:(ε ((δ (k:Int))*6) (dJ ls))=V5 f++n) (m:ω (γ .i64 ((k:Int)+((1:Nat):Int)))=ω ((k+1:Nat):Int)) (r:lit false (f.nm==d)=true) (g:(decide (((0:Nat):Int)≤(k:Int)))=true) (h:(decide ((k:Int)<(ls.length:Int)))=true) (o:lit true (f.op==e)=true) (p:lit true (decide ((k:Int)<(ls.length:Int)))=true):ψ nt f52 ⟨[(1,ω e),(2,.str d),(3,.ptr 0 0 0),(6,.ptr 1 0 0),(7,ω (k:Int))],[(0,⟨[.sl (dJ ls) ls.length i,.sl (dF cs) cs.length j],0,false,0,0,true⟩),(1,⟨[.bool false,.str [],.str [],ω 0],0,false,0,0,true⟩)],.dead,[]⟩ (.normal) ⟨[(1,ω e),(2,.str d),(3,.ptr 0 0 0),(6,.ptr 1 0 0),(7,ω ((k+1:Nat):Int))],[(0,⟨[.sl (dJ ls) ls.length i,.sl (dF cs) cs.length j],0,false,0,0,true⟩),(1,⟨[.bool false,.str [],.str [],ω 0],0,false,0,0,true⟩)],.dead,[]⟩:=pN 52 [] 3 3 (.c r (.k 1 g (.c h (.k 1 o (.k 1 g (.c h (.k 1 p (.n 1 .nil)))))))) (.v 14 (.eq m) (.v 27 (.ppt c) (.v 18 (.ppt c) .nil))) q
theorem ain (e:List UInt8) (d:Int) (k:Nat) (h:Lk) (ls:List Lk) (cs:List Sc) (f g:Bool) (m:List AV) {nt:Nat} (p:41≤nt) (c:(ε ((δ (k:Int))*6) (dJ ls))=V5 h++m) (i:ω (γ .i64 ((k:Int)+((1:Nat):Int)))=ω ((k+1:Nat):Int)) (q:lit false (h.op==d)=true) (j:(decide (((0:Nat):Int)≤(k:Int)))=true) (o:(decide ((k:Int)<(ls.length:Int)))=true) (n:lit true (decide ((k:Int)<(ls.length:Int)))=true):ψ nt f52 ⟨[(1,ω d),(2,.str e),(3,.ptr 0 0 0),(6,.ptr 1 0 0),(7,ω (k:Int))],[(0,⟨[.sl (dJ ls) ls.length f,.sl (dF cs) cs.length g],0,false,0,0,true⟩),(1,⟨[.bool false,.str [],.str [],ω 0],0,false,0,0,true⟩)],.dead,[]⟩ (.normal) ⟨[(1,ω d),(2,.str e),(3,.ptr 0 0 0),(6,.ptr 1 0 0),(7,ω ((k+1:Nat):Int))],[(0,⟨[.sl (dJ ls) ls.length f,.sl (dF cs) cs.length g],0,false,0,0,true⟩),(1,⟨[.bool false,.str [],.str [],ω 0],0,false,0,0,true⟩)],.dead,[]⟩:=pN 52 [] 3 1 (.k 1 q (.k 1 j (.c o (.k 1 n (.n 1 .nil))))) (.v 14 (.eq i) (.v 18 (.ppt c) .nil)) p
theorem aio (c:List UInt8) (f:Int) (k:Nat) (ls:List Lk) (cs:List Sc) (e h:Bool) {nt:Nat} (d:41≤nt) (g:lit false (decide ((k:Int)<(ls.length:Int)))=true):ψ nt f52 ⟨[(1,ω f),(2,.str c),(3,.ptr 0 0 0),(6,.ptr 1 0 0),(7,ω (k:Int))],[(0,⟨[.sl (dJ ls) ls.length e,.sl (dF cs) cs.length h],0,false,0,0,true⟩),(1,⟨[.bool false,.str [],.str [],ω 0],0,false,0,0,true⟩)],.dead,[]⟩ (.exit 0) ⟨[(6,.ptr 0 0 0)],[(0,⟨[.bool false,.str [],.str [],ω 0],0,false,0,0,true⟩)],.dead,[]⟩:=pN 52 [] 1 0 (.c g (.n 1 .nil)) (.nil) d
theorem aij (e:List UInt8) (f:Int) (ls:List Lk) (cs:List Sc) (c d:Bool) (g:aG prog ap [] 41 (.block 0 (.loop (af 0 (ah f52)))) ⟨[(0,.agg [.sl (dJ ls) ls.length c,.sl (dF cs) cs.length d]),(1,ω f),(2,.str e),(3,.ptr 0 0 0),(6,.ptr 1 0 0),(7,ω 0),(12,.dead),(32,.dead)],[(0,⟨[.sl (dJ ls) ls.length c,.sl (dF cs) cs.length d],0,false,0,0,true⟩),(1,⟨[.bool false,.str [],.str [],ω 0],0,false,0,0,true⟩)],.dead,[]⟩ (.normal) ⟨[(6,.ptr 0 0 0)],[(0,⟨[.bool false,.str [],.str [],ω 0],0,false,0,0,true⟩)],.dead,[]⟩) (h:CO 47 [ω 12] (.ret (.agg [.bool false,.str [],.str [],ω 12]))):CO 52 [.agg [.sl (dJ ls) ls.length c,.sl (dF cs) cs.length d],ω f,.str e] (.ret (.agg [.bool false,.str [],.str [],ω 12])):=pK [0] 0 0 (.n 5 .nil) (.c h (.l g .nil))
theorem aik (e:List UInt8) (f:Int) (o:Oq) (ls:List Lk) (cs:List Sc) (c d:Bool) (g:aG prog ap [] 41 (.block 0 (.loop (af 0 (ah f52)))) ⟨[(0,.agg [.sl (dJ ls) ls.length c,.sl (dF cs) cs.length d]),(1,ω f),(2,.str e),(3,.ptr 0 0 0),(6,.ptr 1 0 0),(7,ω 0),(12,.dead),(32,.dead)],[(0,⟨[.sl (dJ ls) ls.length c,.sl (dF cs) cs.length d],0,false,0,0,true⟩),(1,⟨[.bool false,.str [],.str [],ω 0],0,false,0,0,true⟩)],.dead,[]⟩ (.ret) ⟨[(6,.ptr 0 0 0)],[(0,⟨[.bool o.n,.str o.a,.str o.d,ω o.e],0,false,0,0,true⟩)],.dead,[]⟩):CO 52 [.agg [.sl (dJ ls) ls.length c,.sl (dF cs) cs.length d],ω f,.str e] (.ret (.agg [.bool o.n,.str o.a,.str o.d,ω o.e])):=pK [0] 0 0 (.n 4 .nil) (.l g .nil)
theorem akR (e:List UInt8) (k:Nat) (x:RQ) (o:Oq) (c:Sc) (ls:List Lk) (cs:List Sc) (n q:Bool) (m:List AV) {nt:Nat} (j:39≤nt) (d:(ε ((δ (k:Int))*4) (dF cs))=MX c++m) (g:(decide (((0:Nat):Int)≤(k:Int)))=true) (f:(decide ((k:Int)<(cs.length:Int)))=true) (i:lit true (c.name==e)=true) (h:lit true (decide ((k:Int)<(cs.length:Int)))=true) (p:CO 144 [.agg [.str c.name,ω c.u1,ω c.u2,.sl c.bx c.bn false],.agg [.bool x.neg,.str (ae x.n),.str (ae x.d)]] (.ret (.tup [.agg [.bool o.n,.str o.a,.str o.d],ω o.e]))):ψ nt f94 ⟨[(1,.str e),(3,.ptr 0 0 0),(5,.ptr 1 0 0),(6,.ptr 2 0 0),(7,ω (k:Int))],[(0,⟨[.sl (dJ ls) ls.length n,.sl (dF cs) cs.length q],0,false,0,0,true⟩),(1,⟨[.bool x.neg,.str (ae x.n),.str (ae x.d)],0,false,0,0,true⟩),(2,⟨[.bool false,.str [],.str [],ω 0],0,false,0,0,true⟩)],.dead,[]⟩ (.ret) ⟨[(6,.ptr 0 0 0)],[(0,⟨[.bool o.n,.str o.a,.str o.d,ω o.e],0,false,0,0,true⟩)],.dead,[]⟩:=pN 94 [] 2 3 (.k 12 g (.c f (.k 1 i (.k 1 g (.c f (.k 1 h (.n 1 .nil))))))) (.c p (.v 29 (.ppt d) (.v 20 (.ppt d) .nil))) j
theorem akS (d:List UInt8) (k:Nat) (x:RQ) (e:Sc) (ls:List Lk) (cs:List Sc) (f g:Bool) (o:List AV) {nt:Nat} (n:39≤nt) (c:(ε ((δ (k:Int))*4) (dF cs))=MX e++o) (h:ω (γ .i64 ((k:Int)+((1:Nat):Int)))=ω ((k+1:Nat):Int)) (p:lit false (e.name==d)=true) (i:(decide (((0:Nat):Int)≤(k:Int)))=true) (m:(decide ((k:Int)<(cs.length:Int)))=true) (j:lit true (decide ((k:Int)<(cs.length:Int)))=true):ψ nt f94 ⟨[(1,.str d),(3,.ptr 0 0 0),(5,.ptr 1 0 0),(6,.ptr 2 0 0),(7,ω (k:Int))],[(0,⟨[.sl (dJ ls) ls.length f,.sl (dF cs) cs.length g],0,false,0,0,true⟩),(1,⟨[.bool x.neg,.str (ae x.n),.str (ae x.d)],0,false,0,0,true⟩),(2,⟨[.bool false,.str [],.str [],ω 0],0,false,0,0,true⟩)],.dead,[]⟩ (.normal) ⟨[(1,.str d),(3,.ptr 0 0 0),(5,.ptr 1 0 0),(6,.ptr 2 0 0),(7,ω ((k+1:Nat):Int))],[(0,⟨[.sl (dJ ls) ls.length f,.sl (dF cs) cs.length g],0,false,0,0,true⟩),(1,⟨[.bool x.neg,.str (ae x.n),.str (ae x.d)],0,false,0,0,true⟩),(2,⟨[.bool false,.str [],.str [],ω 0],0,false,0,0,true⟩)],.dead,[]⟩:=pN 94 [] 2 1 (.c p (.k 1 i (.c m (.k 1 j (.n 1 .nil))))) (.v 16 (.eq h) (.v 20 (.ppt c) .nil)) n
theorem akT (c:List UInt8) (k:Nat) (x:RQ) (ls:List Lk) (cs:List Sc) (e g:Bool) {nt:Nat} (d:39≤nt) (f:lit false (decide ((k:Int)<(cs.length:Int)))=true):ψ nt f94 ⟨[(1,.str c),(3,.ptr 0 0 0),(5,.ptr 1 0 0),(6,.ptr 2 0 0),(7,ω (k:Int))],[(0,⟨[.sl (dJ ls) ls.length e,.sl (dF cs) cs.length g],0,false,0,0,true⟩),(1,⟨[.bool x.neg,.str (ae x.n),.str (ae x.d)],0,false,0,0,true⟩),(2,⟨[.bool false,.str [],.str [],ω 0],0,false,0,0,true⟩)],.dead,[]⟩ (.exit 0) ⟨[(6,.ptr 0 0 0)],[(0,⟨[.bool false,.str [],.str [],ω 0],0,false,0,0,true⟩)],.dead,[]⟩:=pN 94 [] 1 0 (.c f (.n 1 .nil)) (.nil) d
theorem akO (e:List UInt8) (x:RQ) (ls:List Lk) (cs:List Sc) (c d:Bool) (f:aG prog ap [] 39 (.block 0 (.loop (af 0 (ah f94)))) ⟨[(0,.agg [.sl (dJ ls) ls.length c,.sl (dF cs) cs.length d]),(1,.str e),(2,.agg [.bool x.neg,.str (ae x.n),.str (ae x.d)]),(3,.ptr 0 0 0),(5,.ptr 1 0 0),(6,.ptr 2 0 0),(7,ω 0),(8,.dead),(9,.dead),(14,.dead),(24,.dead)],[(0,⟨[.sl (dJ ls) ls.length c,.sl (dF cs) cs.length d],0,false,0,0,true⟩),(1,⟨[.bool x.neg,.str (ae x.n),.str (ae x.d)],0,false,0,0,true⟩),(2,⟨[.bool false,.str [],.str [],ω 0],0,false,0,0,true⟩)],.dead,[]⟩ (.normal) ⟨[(6,.ptr 0 0 0)],[(0,⟨[.bool false,.str [],.str [],ω 0],0,false,0,0,true⟩)],.dead,[]⟩) (g:CO 47 [ω 12] (.ret (.agg [.bool false,.str [],.str [],ω 12]))):CO 94 [.agg [.sl (dJ ls) ls.length c,.sl (dF cs) cs.length d],.str e,.agg [.bool x.neg,.str (ae x.n),.str (ae x.d)]] (.ret (.agg [.bool false,.str [],.str [],ω 12])):=pK [0] 0 0 (.n 5 .nil) (.c g (.l f .nil))
theorem akP (e:List UInt8) (x:RQ) (o:Oq) (ls:List Lk) (cs:List Sc) (c d:Bool) (f:aG prog ap [] 39 (.block 0 (.loop (af 0 (ah f94)))) ⟨[(0,.agg [.sl (dJ ls) ls.length c,.sl (dF cs) cs.length d]),(1,.str e),(2,.agg [.bool x.neg,.str (ae x.n),.str (ae x.d)]),(3,.ptr 0 0 0),(5,.ptr 1 0 0),(6,.ptr 2 0 0),(7,ω 0),(8,.dead),(9,.dead),(14,.dead),(24,.dead)],[(0,⟨[.sl (dJ ls) ls.length c,.sl (dF cs) cs.length d],0,false,0,0,true⟩),(1,⟨[.bool x.neg,.str (ae x.n),.str (ae x.d)],0,false,0,0,true⟩),(2,⟨[.bool false,.str [],.str [],ω 0],0,false,0,0,true⟩)],.dead,[]⟩ (.ret) ⟨[(6,.ptr 0 0 0)],[(0,⟨[.bool o.n,.str o.a,.str o.d,ω o.e],0,false,0,0,true⟩)],.dead,[]⟩):CO 94 [.agg [.sl (dJ ls) ls.length c,.sl (dF cs) cs.length d],.str e,.agg [.bool x.neg,.str (ae x.n),.str (ae x.d)]] (.ret (.agg [.bool o.n,.str o.a,.str o.d,ω o.e])):=pK [0] 0 0 (.n 4 .nil) (.l f .nil)
theorem aj6 (c e d:Oq) (f:Bool) (g:lit true (!(c.e==((0:Nat):Int)))=true):CO 53 [.sl [.bool c.n,.str c.a,.str c.d,ω c.e,.bool e.n,.str e.a,.str e.d,ω e.e,.bool d.n,.str d.a,.str d.d,ω d.e] 3 f] (.ret (.agg [.bool c.n,.str c.a,.str c.d,ω c.e])):=pK [] 1 1 (.k 11 g (.n 3 .nil)) (.nil)
theorem aj7 (b:Bool) (c e d:Oq) (h:Bool) (g:lit true (!b)=true) (f:lit false (!(c.e==((0:Nat):Int)))=true) (i:CO 86 [.agg [.bool c.n,.str c.a,.str c.d]] (.ret (.bool b))) (j:CO 47 [ω 13] (.ret (.agg [.bool false,.str [],.str [],ω 13]))):CO 53 [.sl [.bool c.n,.str c.a,.str c.d,ω c.e,.bool e.n,.str e.a,.str e.d,ω e.e,.bool d.n,.str d.a,.str d.d,ω d.e] 3 h] (.ret (.agg [.bool false,.str [],.str [],ω 13])):=pK [] 2 2 (.k 5 g (.k 5 f (.n 3 .nil))) (.c j (.c i .nil))
theorem aj8 (b:Bool) (c d e:Oq) (i:Bool) (g:lit true ((c.n==false) && ((c.a==(ae 1)) && ((c.d==(ae 1)) && true)))=true) (f:lit false (!b)=true) (h:lit false (!(c.e==((0:Nat):Int)))=true) (j:CO 86 [.agg [.bool c.n,.str c.a,.str c.d]] (.ret (.bool b))) (k:CO 48 [ω 1] (.ret (Ω false (ae 1) (ae 1)))):CO 53 [.sl [.bool c.n,.str c.a,.str c.d,ω c.e,.bool d.n,.str d.a,.str d.d,ω d.e,.bool e.n,.str e.a,.str e.d,ω e.e] 3 i] (.ret (.agg [.bool d.n,.str d.a,.str d.d,ω d.e])):=pK [] 3 4 (.k 11 g (.k 5 f (.k 5 h (.n 3 .nil)))) (.c k (.c j .nil))
theorem aj9 (b:Bool) (c e d:Oq) (i:Bool) (g:lit false ((c.n==false) && ((c.a==(ae 1)) && ((c.d==(ae 1)) && true)))=true) (f:lit false (!b)=true) (h:lit false (!(c.e==((0:Nat):Int)))=true) (j:CO 86 [.agg [.bool c.n,.str c.a,.str c.d]] (.ret (.bool b))) (k:CO 48 [ω 1] (.ret (Ω false (ae 1) (ae 1)))):CO 53 [.sl [.bool c.n,.str c.a,.str c.d,ω c.e,.bool e.n,.str e.a,.str e.d,ω e.e,.bool d.n,.str d.a,.str d.d,ω d.e] 3 i] (.ret (.agg [.bool d.n,.str d.a,.str d.d,ω d.e])):=pK [] 3 0 (.k 11 g (.k 5 f (.k 5 h (.n 3 .nil)))) (.c k (.c j .nil))
theorem afU (c:Int) (x y r:RQ) (o:Oq) (d:CO 87 [.agg [.bool x.neg,.str (ae x.n),.str (ae x.d)],.agg [.bool y.neg,.str (ae y.n),.str (ae y.d)]] (.ret (ω c))) (e:CO 62 [.agg [.bool x.neg,.str (ae x.n),.str (ae x.d)],.agg [.bool y.neg,.str (ae y.n),.str (ae y.d)]] (.ret (.agg [.bool r.neg,.str (ae r.n),.str (ae r.d)]))) (f:CO 51 [.agg [.bool r.neg,.str (ae r.n),.str (ae r.d)]] (.ret (.agg [.bool o.n,.str o.a,.str o.d,ω o.e]))):CO 54 [ω 9,.agg [.bool x.neg,.str (ae x.n),.str (ae x.d)],.agg [.bool y.neg,.str (ae y.n),.str (ae y.d)]] (.ret (.agg [.bool o.n,.str o.a,.str o.d,ω o.e])):=pK [] 1 1 (.n 18 .nil) (.c f (.c e (.c d .nil)))
theorem aba (c:Int) (x y r:RQ) (o:Oq) (d:CO 87 [.agg [.bool x.neg,.str (ae x.n),.str (ae x.d)],.agg [.bool y.neg,.str (ae y.n),.str (ae y.d)]] (.ret (ω c))) (e:CO 88 [.agg [.bool x.neg,.str (ae x.n),.str (ae x.d)],.agg [.bool y.neg,.str (ae y.n),.str (ae y.d)]] (.ret (.agg [.bool r.neg,.str (ae r.n),.str (ae r.d)]))) (f:CO 51 [.agg [.bool r.neg,.str (ae r.n),.str (ae r.d)]] (.ret (.agg [.bool o.n,.str o.a,.str o.d,ω o.e]))):CO 54 [ω 10,.agg [.bool x.neg,.str (ae x.n),.str (ae x.d)],.agg [.bool y.neg,.str (ae y.n),.str (ae y.d)]] (.ret (.agg [.bool o.n,.str o.a,.str o.d,ω o.e])):=pK [] 2 2 (.n 19 .nil) (.c f (.c e (.c d .nil)))
theorem abb (c:Int) (x y r:RQ) (o:Oq) (d:CO 87 [.agg [.bool x.neg,.str (ae x.n),.str (ae x.d)],.agg [.bool y.neg,.str (ae y.n),.str (ae y.d)]] (.ret (ω c))) (e:CO 89 [.agg [.bool x.neg,.str (ae x.n),.str (ae x.d)],.agg [.bool y.neg,.str (ae y.n),.str (ae y.d)]] (.ret (.agg [.bool r.neg,.str (ae r.n),.str (ae r.d)]))) (f:CO 51 [.agg [.bool r.neg,.str (ae r.n),.str (ae r.d)]] (.ret (.agg [.bool o.n,.str o.a,.str o.d,ω o.e]))):CO 54 [ω 11,.agg [.bool x.neg,.str (ae x.n),.str (ae x.d)],.agg [.bool y.neg,.str (ae y.n),.str (ae y.d)]] (.ret (.agg [.bool o.n,.str o.a,.str o.d,ω o.e])):=pK [] 3 4 (.n 20 .nil) (.c f (.c e (.c d .nil)))
theorem abd (c:Int) (b:Bool) (x y r:RQ) (d:lit true (!b)=true) (e:CO 87 [.agg [.bool x.neg,.str (ae x.n),.str (ae x.d)],.agg [.bool y.neg,.str (ae y.n),.str (ae y.d)]] (.ret (ω c))) (f:CO 60 [.agg [.bool x.neg,.str (ae x.n),.str (ae x.d)],.agg [.bool y.neg,.str (ae y.n),.str (ae y.d)]] (.ret (.tup [.agg [.bool r.neg,.str (ae r.n),.str (ae r.d)],.bool b]))) (g:CO 47 [ω 16] (.ret (.agg [.bool false,.str [],.str [],ω 16]))):CO 54 [ω 12,.agg [.bool x.neg,.str (ae x.n),.str (ae x.d)],.agg [.bool y.neg,.str (ae y.n),.str (ae y.d)]] (.ret (.agg [.bool false,.str [],.str [],ω 16])):=pK [] 5 24 (.k 5 d (.n 17 .nil)) (.c g (.c f (.c e .nil)))
theorem abe (c:Int) (b:Bool) (x y r:RQ) (o:Oq) (d:lit false (!b)=true) (e:CO 87 [.agg [.bool x.neg,.str (ae x.n),.str (ae x.d)],.agg [.bool y.neg,.str (ae y.n),.str (ae y.d)]] (.ret (ω c))) (f:CO 60 [.agg [.bool x.neg,.str (ae x.n),.str (ae x.d)],.agg [.bool y.neg,.str (ae y.n),.str (ae y.d)]] (.ret (.tup [.agg [.bool r.neg,.str (ae r.n),.str (ae r.d)],.bool b]))) (g:CO 51 [.agg [.bool r.neg,.str (ae r.n),.str (ae r.d)]] (.ret (.agg [.bool o.n,.str o.a,.str o.d,ω o.e]))):CO 54 [ω 12,.agg [.bool x.neg,.str (ae x.n),.str (ae x.d)],.agg [.bool y.neg,.str (ae y.n),.str (ae y.d)]] (.ret (.agg [.bool o.n,.str o.a,.str o.d,ω o.e])):=pK [] 5 8 (.k 8 d (.n 17 .nil)) (.c g (.c f (.c e .nil)))
theorem abf (c:Int) (x y:RQ) (o:Oq) (f:lit true (decide (((0:Nat):Int)<c))=true) (d:CO 87 [.agg [.bool x.neg,.str (ae x.n),.str (ae x.d)],.agg [.bool y.neg,.str (ae y.n),.str (ae y.d)]] (.ret (ω c))) (e:CO 51 [.agg [.bool y.neg,.str (ae y.n),.str (ae y.d)]] (.ret (.agg [.bool o.n,.str o.a,.str o.d,ω o.e]))):CO 54 [ω 13,.agg [.bool x.neg,.str (ae x.n),.str (ae x.d)],.agg [.bool y.neg,.str (ae y.n),.str (ae y.d)]] (.ret (.agg [.bool o.n,.str o.a,.str o.d,ω o.e])):=pK [] 6 48 (.k 8 f (.n 11 .nil)) (.c e (.c d .nil))
theorem abg (c:Int) (x y:RQ) (o:Oq) (f:lit false (decide (((0:Nat):Int)<c))=true) (d:CO 87 [.agg [.bool x.neg,.str (ae x.n),.str (ae x.d)],.agg [.bool y.neg,.str (ae y.n),.str (ae y.d)]] (.ret (ω c))) (e:CO 51 [.agg [.bool x.neg,.str (ae x.n),.str (ae x.d)]] (.ret (.agg [.bool o.n,.str o.a,.str o.d,ω o.e]))):CO 54 [ω 13,.agg [.bool x.neg,.str (ae x.n),.str (ae x.d)],.agg [.bool y.neg,.str (ae y.n),.str (ae y.d)]] (.ret (.agg [.bool o.n,.str o.a,.str o.d,ω o.e])):=pK [] 6 16 (.k 8 f (.n 11 .nil)) (.c e (.c d .nil))
theorem abh (c:Int) (x y:RQ) (o:Oq) (f:lit true (decide (c<((0:Nat):Int)))=true) (d:CO 87 [.agg [.bool x.neg,.str (ae x.n),.str (ae x.d)],.agg [.bool y.neg,.str (ae y.n),.str (ae y.d)]] (.ret (ω c))) (e:CO 51 [.agg [.bool y.neg,.str (ae y.n),.str (ae y.d)]] (.ret (.agg [.bool o.n,.str o.a,.str o.d,ω o.e]))):CO 54 [ω 14,.agg [.bool x.neg,.str (ae x.n),.str (ae x.d)],.agg [.bool y.neg,.str (ae y.n),.str (ae y.d)]] (.ret (.agg [.bool o.n,.str o.a,.str o.d,ω o.e])):=pK [] 7 96 (.k 8 f (.n 12 .nil)) (.c e (.c d .nil))
theorem abj (c:Int) (x y:RQ) (o:Oq) (f:lit false (decide (c<((0:Nat):Int)))=true) (d:CO 87 [.agg [.bool x.neg,.str (ae x.n),.str (ae x.d)],.agg [.bool y.neg,.str (ae y.n),.str (ae y.d)]] (.ret (ω c))) (e:CO 51 [.agg [.bool x.neg,.str (ae x.n),.str (ae x.d)]] (.ret (.agg [.bool o.n,.str o.a,.str o.d,ω o.e]))):CO 54 [ω 14,.agg [.bool x.neg,.str (ae x.n),.str (ae x.d)],.agg [.bool y.neg,.str (ae y.n),.str (ae y.d)]] (.ret (.agg [.bool o.n,.str o.a,.str o.d,ω o.e])):=pK [] 7 32 (.k 8 f (.n 12 .nil)) (.c e (.c d .nil))
theorem abk (c:Int) (x y:RQ) (o:Oq) (d:CO 87 [.agg [.bool x.neg,.str (ae x.n),.str (ae x.d)],.agg [.bool y.neg,.str (ae y.n),.str (ae y.d)]] (.ret (ω c))) (e:CO 90 [.bool (decide (c<((0:Nat):Int)))] (.ret (.agg [.bool o.n,.str o.a,.str o.d,ω o.e]))):CO 54 [ω 16,.agg [.bool x.neg,.str (ae x.n),.str (ae x.d)],.agg [.bool y.neg,.str (ae y.n),.str (ae y.d)]] (.ret (.agg [.bool o.n,.str o.a,.str o.d,ω o.e])):=pK [] 7 64 (.n 18 .nil) (.c e (.c d .nil))
theorem abl (c:Int) (x y:RQ) (o:Oq) (d:CO 87 [.agg [.bool x.neg,.str (ae x.n),.str (ae x.d)],.agg [.bool y.neg,.str (ae y.n),.str (ae y.d)]] (.ret (ω c))) (e:CO 90 [.bool (c==((0:Nat):Int))] (.ret (.agg [.bool o.n,.str o.a,.str o.d,ω o.e]))):CO 54 [ω 17,.agg [.bool x.neg,.str (ae x.n),.str (ae x.d)],.agg [.bool y.neg,.str (ae y.n),.str (ae y.d)]] (.ret (.agg [.bool o.n,.str o.a,.str o.d,ω o.e])):=pK [] 8 128 (.n 19 .nil) (.c e (.c d .nil))
theorem abm (c:Int) (x y:RQ) (d:Bool) (g:lit true (!d)=true) (e:CO 87 [.agg [.bool x.neg,.str (ae x.n),.str (ae x.d)],.agg [.bool y.neg,.str (ae y.n),.str (ae y.d)]] (.ret (ω c))) (f:CO 86 [.agg [.bool x.neg,.str (ae x.n),.str (ae x.d)]] (.ret (.bool d))) (h:CO 47 [ω 13] (.ret (.agg [.bool false,.str [],.str [],ω 13]))):CO 54 [ω 18,.agg [.bool x.neg,.str (ae x.n),.str (ae x.d)],.agg [.bool y.neg,.str (ae y.n),.str (ae y.d)]] (.ret (.agg [.bool false,.str [],.str [],ω 13])):=pK [] 10 768 (.k 6 g (.n 17 .nil)) (.c h (.c f (.c e .nil)))
theorem abn (c:Int) (x y:RQ) (d e:Bool) (j:lit true (!e)=true) (f:lit false (!d)=true) (h:CO 87 [.agg [.bool x.neg,.str (ae x.n),.str (ae x.d)],.agg [.bool y.neg,.str (ae y.n),.str (ae y.d)]] (.ret (ω c))) (i:CO 86 [.agg [.bool x.neg,.str (ae x.n),.str (ae x.d)]] (.ret (.bool d))) (k:CO 86 [.agg [.bool y.neg,.str (ae y.n),.str (ae y.d)]] (.ret (.bool e))) (g:CO 47 [ω 13] (.ret (.agg [.bool false,.str [],.str [],ω 13]))):CO 54 [ω 18,.agg [.bool x.neg,.str (ae x.n),.str (ae x.d)],.agg [.bool y.neg,.str (ae y.n),.str (ae y.d)]] (.ret (.agg [.bool false,.str [],.str [],ω 13])):=pK [] 10 512 (.k 5 j (.k 3 f (.n 17 .nil))) (.c g (.c k (.c i (.c h .nil))))
theorem abo (c:Int) (x y:RQ) (o:Oq) (d e:Bool) (m:lit true ((x.neg==false) && (((ae x.n)==(ae 1)) && (((ae x.d)==(ae 1)) && true)))=true) (f:lit false (!e)=true) (h:lit false (!d)=true) (j:CO 87 [.agg [.bool x.neg,.str (ae x.n),.str (ae x.d)],.agg [.bool y.neg,.str (ae y.n),.str (ae y.d)]] (.ret (ω c))) (k:CO 86 [.agg [.bool x.neg,.str (ae x.n),.str (ae x.d)]] (.ret (.bool d))) (n:CO 86 [.agg [.bool y.neg,.str (ae y.n),.str (ae y.d)]] (.ret (.bool e))) (i:CO 48 [ω 1] (.ret (Ω false (ae 1) (ae 1)))) (g:CO 90 [.bool ((y.neg==false) && (((ae y.n)==(ae 1)) && (((ae y.d)==(ae 1)) && true)))] (.ret (.agg [.bool o.n,.str o.a,.str o.d,ω o.e]))):CO 54 [ω 18,.agg [.bool x.neg,.str (ae x.n),.str (ae x.d)],.agg [.bool y.neg,.str (ae y.n),.str (ae y.d)]] (.ret (.agg [.bool o.n,.str o.a,.str o.d,ω o.e])):=pK [] 12 3072 (.k 11 m (.k 8 f (.k 3 h (.n 17 .nil)))) (.c g (.c i (.c n (.c k (.c j .nil)))))
theorem abp (c:Int) (x y:RQ) (o:Oq) (d e:Bool) (m:lit false ((x.neg==false) && (((ae x.n)==(ae 1)) && (((ae x.d)==(ae 1)) && true)))=true) (f:lit false (!e)=true) (h:lit false (!d)=true) (j:CO 87 [.agg [.bool x.neg,.str (ae x.n),.str (ae x.d)],.agg [.bool y.neg,.str (ae y.n),.str (ae y.d)]] (.ret (ω c))) (k:CO 86 [.agg [.bool x.neg,.str (ae x.n),.str (ae x.d)]] (.ret (.bool d))) (n:CO 86 [.agg [.bool y.neg,.str (ae y.n),.str (ae y.d)]] (.ret (.bool e))) (i:CO 48 [ω 1] (.ret (Ω false (ae 1) (ae 1)))) (g:CO 90 [.bool false] (.ret (.agg [.bool o.n,.str o.a,.str o.d,ω o.e]))):CO 54 [ω 18,.agg [.bool x.neg,.str (ae x.n),.str (ae x.d)],.agg [.bool y.neg,.str (ae y.n),.str (ae y.d)]] (.ret (.agg [.bool o.n,.str o.a,.str o.d,ω o.e])):=pK [] 12 1024 (.k 5 m (.k 8 f (.k 3 h (.n 17 .nil)))) (.c g (.c i (.c n (.c k (.c j .nil)))))
theorem abq (c:Int) (x y:RQ) (d:Bool) (g:lit true (!d)=true) (e:CO 87 [.agg [.bool x.neg,.str (ae x.n),.str (ae x.d)],.agg [.bool y.neg,.str (ae y.n),.str (ae y.d)]] (.ret (ω c))) (f:CO 86 [.agg [.bool x.neg,.str (ae x.n),.str (ae x.d)]] (.ret (.bool d))) (h:CO 47 [ω 13] (.ret (.agg [.bool false,.str [],.str [],ω 13]))):CO 54 [ω 19,.agg [.bool x.neg,.str (ae x.n),.str (ae x.d)],.agg [.bool y.neg,.str (ae y.n),.str (ae y.d)]] (.ret (.agg [.bool false,.str [],.str [],ω 13])):=pK [] 10 768 (.k 6 g (.n 17 .nil)) (.c h (.c f (.c e .nil)))
theorem abr (c:Int) (x y:RQ) (d e:Bool) (j:lit true (!e)=true) (f:lit false (!d)=true) (h:CO 87 [.agg [.bool x.neg,.str (ae x.n),.str (ae x.d)],.agg [.bool y.neg,.str (ae y.n),.str (ae y.d)]] (.ret (ω c))) (i:CO 86 [.agg [.bool x.neg,.str (ae x.n),.str (ae x.d)]] (.ret (.bool d))) (k:CO 86 [.agg [.bool y.neg,.str (ae y.n),.str (ae y.d)]] (.ret (.bool e))) (g:CO 47 [ω 13] (.ret (.agg [.bool false,.str [],.str [],ω 13]))):CO 54 [ω 19,.agg [.bool x.neg,.str (ae x.n),.str (ae x.d)],.agg [.bool y.neg,.str (ae y.n),.str (ae y.d)]] (.ret (.agg [.bool false,.str [],.str [],ω 13])):=pK [] 10 512 (.k 5 j (.k 3 f (.n 17 .nil))) (.c g (.c k (.c i (.c h .nil))))
theorem abt (c:Int) (x y:RQ) (o:Oq) (d e:Bool) (m:lit true ((x.neg==false) && (((ae x.n)==(ae 1)) && (((ae x.d)==(ae 1)) && true)))=true) (f:lit false (!e)=true) (h:lit false (!d)=true) (j:CO 87 [.agg [.bool x.neg,.str (ae x.n),.str (ae x.d)],.agg [.bool y.neg,.str (ae y.n),.str (ae y.d)]] (.ret (ω c))) (k:CO 86 [.agg [.bool x.neg,.str (ae x.n),.str (ae x.d)]] (.ret (.bool d))) (n:CO 86 [.agg [.bool y.neg,.str (ae y.n),.str (ae y.d)]] (.ret (.bool e))) (i:CO 48 [ω 1] (.ret (Ω false (ae 1) (ae 1)))) (g:CO 90 [.bool true] (.ret (.agg [.bool o.n,.str o.a,.str o.d,ω o.e]))):CO 54 [ω 19,.agg [.bool x.neg,.str (ae x.n),.str (ae x.d)],.agg [.bool y.neg,.str (ae y.n),.str (ae y.d)]] (.ret (.agg [.bool o.n,.str o.a,.str o.d,ω o.e])):=pK [] 12 2048 (.k 5 m (.k 8 f (.k 3 h (.n 17 .nil)))) (.c g (.c i (.c n (.c k (.c j .nil)))))
theorem abu (c:Int) (x y:RQ) (o:Oq) (d e:Bool) (m:lit false ((x.neg==false) && (((ae x.n)==(ae 1)) && (((ae x.d)==(ae 1)) && true)))=true) (f:lit false (!e)=true) (h:lit false (!d)=true) (j:CO 87 [.agg [.bool x.neg,.str (ae x.n),.str (ae x.d)],.agg [.bool y.neg,.str (ae y.n),.str (ae y.d)]] (.ret (ω c))) (k:CO 86 [.agg [.bool x.neg,.str (ae x.n),.str (ae x.d)]] (.ret (.bool d))) (n:CO 86 [.agg [.bool y.neg,.str (ae y.n),.str (ae y.d)]] (.ret (.bool e))) (i:CO 48 [ω 1] (.ret (Ω false (ae 1) (ae 1)))) (g:CO 90 [.bool ((y.neg==false) && (((ae y.n)==(ae 1)) && (((ae y.d)==(ae 1)) && true)))] (.ret (.agg [.bool o.n,.str o.a,.str o.d,ω o.e]))):CO 54 [ω 19,.agg [.bool x.neg,.str (ae x.n),.str (ae x.d)],.agg [.bool y.neg,.str (ae y.n),.str (ae y.d)]] (.ret (.agg [.bool o.n,.str o.a,.str o.d,ω o.e])):=pK [] 12 0 (.k 11 m (.k 8 f (.k 3 h (.n 17 .nil)))) (.c g (.c i (.c n (.c k (.c j .nil)))))
theorem aaW (c k j:List UInt8) (f:Bool) (b:Bool) (x:RQ) (ls:List Lk) (cs:List Sc) (g d:Bool) (e:lit true (!b)=true) (h:CO 86 [.agg [.bool x.neg,.str (ae x.n),.str (ae x.d)]] (.ret (.bool b))) (i:CO 47 [ω 13] (.ret (.agg [.bool false,.str [],.str [],ω 13]))):CO 55 [.agg [ω 20,.bool f,.str k,.str j,.str c],.agg [.bool x.neg,.str (ae x.n),.str (ae x.d)],.agg [.sl (dJ ls) ls.length g,.sl (dF cs) cs.length d]] (.ret (.agg [.bool false,.str [],.str [],ω 13])):=pK [] 2 3 (.k 5 e (.n 5 .nil)) (.c i (.c h .nil))
theorem aaX (c k j:List UInt8) (f:Bool) (b:Bool) (x:RQ) (o:Oq) (ls:List Lk) (cs:List Sc) (g d:Bool) (e:lit false (!b)=true) (h:CO 86 [.agg [.bool x.neg,.str (ae x.n),.str (ae x.d)]] (.ret (.bool b))) (i:CO 48 [ω 0] (.ret (Ω false (ae 0) (ae 1)))) (m:CO 90 [.bool ((x.neg==false) && (((ae x.n)==(ae 0)) && (((ae x.d)==(ae 1)) && true)))] (.ret (.agg [.bool o.n,.str o.a,.str o.d,ω o.e]))):CO 55 [.agg [ω 20,.bool f,.str k,.str j,.str c],.agg [.bool x.neg,.str (ae x.n),.str (ae x.d)],.agg [.sl (dJ ls) ls.length g,.sl (dF cs) cs.length d]] (.ret (.agg [.bool o.n,.str o.a,.str o.d,ω o.e])):=pK [] 2 1 (.k 8 e (.n 5 .nil)) (.c m (.c i (.c h .nil)))
theorem aaY (c:List UInt8) (x p r:RQ) (o:Oq) (ls:List Lk) (cs:List Sc) (d g:Bool) (e:CO 91 [.agg [.bool x.neg,.str (ae x.n),.str (ae x.d)],.agg [.bool p.neg,.str (ae p.n),.str (ae p.d)]] (.ret (.tup [.agg [.bool r.neg,.str (ae r.n),.str (ae r.d)],.bool true]))) (f:CO 51 [.agg [.bool r.neg,.str (ae r.n),.str (ae r.d)]] (.ret (.agg [.bool o.n,.str o.a,.str o.d,ω o.e]))):CO 55 [.agg [ω 21,.bool p.neg,.str (ae p.n),.str (ae p.d),.str c],.agg [.bool x.neg,.str (ae x.n),.str (ae x.d)],.agg [.sl (dJ ls) ls.length d,.sl (dF cs) cs.length g]] (.ret (.agg [.bool o.n,.str o.a,.str o.d,ω o.e])):=pK [] 2 2 (.n 18 .nil) (.c f (.c e .nil))
theorem aaZ (c:List UInt8) (x p r:RQ) (o:Oq) (ls:List Lk) (cs:List Sc) (d g:Bool) (e:CO 92 [.agg [.bool x.neg,.str (ae x.n),.str (ae x.d)],.agg [.bool p.neg,.str (ae p.n),.str (ae p.d)]] (.ret (.tup [.agg [.bool r.neg,.str (ae r.n),.str (ae r.d)],.bool true]))) (f:CO 51 [.agg [.bool r.neg,.str (ae r.n),.str (ae r.d)]] (.ret (.agg [.bool o.n,.str o.a,.str o.d,ω o.e]))):CO 55 [.agg [ω 22,.bool p.neg,.str (ae p.n),.str (ae p.d),.str c],.agg [.bool x.neg,.str (ae x.n),.str (ae x.d)],.agg [.sl (dJ ls) ls.length d,.sl (dF cs) cs.length g]] (.ret (.agg [.bool o.n,.str o.a,.str o.d,ω o.e])):=pK [] 3 4 (.n 19 .nil) (.c f (.c e .nil))
theorem aa0 (c:List UInt8) (x p r:RQ) (o:Oq) (ls:List Lk) (cs:List Sc) (d g:Bool) (e:CO 93 [.agg [.bool x.neg,.str (ae x.n),.str (ae x.d)],.agg [.bool p.neg,.str (ae p.n),.str (ae p.d)]] (.ret (.tup [.agg [.bool r.neg,.str (ae r.n),.str (ae r.d)],.bool true]))) (f:CO 51 [.agg [.bool r.neg,.str (ae r.n),.str (ae r.d)]] (.ret (.agg [.bool o.n,.str o.a,.str o.d,ω o.e]))):CO 55 [.agg [ω 23,.bool p.neg,.str (ae p.n),.str (ae p.d),.str c],.agg [.bool x.neg,.str (ae x.n),.str (ae x.d)],.agg [.sl (dJ ls) ls.length d,.sl (dF cs) cs.length g]] (.ret (.agg [.bool o.n,.str o.a,.str o.d,ω o.e])):=pK [] 4 8 (.n 20 .nil) (.c f (.c e .nil))
theorem aa1 (c i h:List UInt8) (f:Bool) (x:RQ) (o:Oq) (ls:List Lk) (cs:List Sc) (e d:Bool) (g:CO 94 [.agg [.sl (dJ ls) ls.length e,.sl (dF cs) cs.length d],.str c,.agg [.bool x.neg,.str (ae x.n),.str (ae x.d)]] (.ret (.agg [.bool o.n,.str o.a,.str o.d,ω o.e]))):CO 55 [.agg [ω 24,.bool f,.str i,.str h,.str c],.agg [.bool x.neg,.str (ae x.n),.str (ae x.d)],.agg [.sl (dJ ls) ls.length e,.sl (dF cs) cs.length d]] (.ret (.agg [.bool o.n,.str o.a,.str o.d,ω o.e])):=pK [] 4 0 (.n 16 .nil) (.c g .nil)
theorem xA (n:Bool) (a d:List UInt8) (e:Int) (h:e=0→a.length<2^33∧d.length<2^33):CO 49 [.agg [.bool n,.str a,.str d,ω e]] (.ret (eF (yR n a d e))):=by
 unfold yR;by_cases h0:e=0
 ·rw [if_pos h0];have c:=lL n a d (h h0).1 (h h0).2;have g:lit false (!(e==((0:Nat):Int)))=true:=by rw [h0];rfl
  cases f:fB n a d with
  |true=>
   rw [f] at c;rw [if_pos rfl];have:=akN n a d e true rfl g c;obtain ⟨j,i⟩:=iV (oq f).1;show CO 49 _ (.ret (.agg [.bool n,.str (ae (ag a)),.str (ae (ag d)),ω 0]));rw [j,i,← h0];exact this
  |false=>
   rw [f] at c;rw [if_neg (by simp)];exact akM n a d e false rfl g c (jQ 3)
 ·rw [if_neg h0];exact akL n a d e (by rw [show (e==((0:Nat):Int))=false from beq_eq_false_iff_ne.2 h0];rfl) (jQ e)
theorem Xd (n:Bool) (a d:List UInt8) (h:a.length<2^33∧d.length<2^33):CO 51 [Ω n a d] (.ret (eF (yR n a d 0))):=akr n a d _ (xA n a d 0 (fun _=>h))
theorem LZ {q:RQ} {L:Nat} (h:q.ok) (s:iw L q) (e:L<2^28):CO 51 [qA q] (.ret (eF (mV q))):=by
 rw [← yT h];have d:=s.1;have c:=s.2;exact Xd _ _ _ ⟨by omega,by omega⟩
theorem TB {q:RQ} (h:q.ok) (c:iI q=true):CO 51 [qA q] (.ret (eF (.val q))):=by
 have:=LZ h (iw.mono (L:=51) (aX c) (Δ _)) (by decide);unfold mV at this;rw [if_pos c] at this;exact this
theorem lN (b:Bool):CO 90 [.bool b] (.ret (eF (FT b))):=by
 cases b with
 |true=>exact akX true _ rfl yL (TB (nM true).1 (nM true).2)
 |false=>exact akY false _ rfl uF (TB (nM false).1 (nM false).2)
theorem vK (o:Oq):CO 86 [.agg [.bool o.n,.str o.a,.str o.d]] (.ret (.bool o.bit)):=by
 cases h:((o.n==false) && ((o.a==(ae 0)) && ((o.d==(ae 1)) && true))) with
 |true=>
  have:o.bit=true:=by unfold Oq.bit;rw [h,Bool.or_true]
  rw [this];exact aj2 o.n o.a o.d (by rw [h];rfl) uF
 |false=>
  have:o.bit=((o.n==false) && ((o.a==(ae 1)) && ((o.d==(ae 1)) && true))):=by unfold Oq.bit;rw [h,Bool.or_false];rfl
  rw [this];exact aj3 o.n o.a o.d (by rw [h];rfl) uF yL
theorem UD {o:Oq} (h:o.bit=true):((o.n==false) && ((o.a==(ae 0)) && ((o.d==(ae 1)) && true)))= !o.one:=by
 unfold Oq.bit at h;cases c:o.one with
 |false=>rw [c,Bool.false_or] at h;exact h
 | true=>
  have d:o.a=ae 1:=by
   unfold Oq.one at c;simp only [π,beq_iff_eq] at c;exact c.2.1
  rw [d,show (ae 1==ae 0)=false by kernel_rfl];cases o.n<;>rfl
theorem Y8 {x y:RQ} (m:x.ok) (d:y.ok):(iE x y==((0:Nat):Int))=eqO (.val x) (.val y):=by
 by_cases h:x=y
 ·rw [h,(jr d d).2.1.2 rfl];simp [eqO]
 ·have f:(iE x y==((0:Nat):Int))=false:=beq_eq_false_iff_ne.2 fun q=>h ((jr m d).2.1.1 q)
  rw [f];symm;cases i:eqO (.val x) (.val y) with
  |false=>rfl
  |true=>
   refine absurd ?_ h;simp only [eqO,Oq.n,Oq.a,Oq.d,π,beq_iff_eq,and_true] at i;obtain ⟨j,g,k⟩:=i;have e:=congrArg ag g;have c:=congrArg ag k;rw [aC,aC] at e c;clear g k h f;cases x;cases y;simp only at j e c;subst j e c;rfl
theorem Xj {d:Int} (q:(9≤d∧d≤14)∨(16≤d∧d≤19)) {x y:RQ} (f:x.ok) (e:y.ok) (p:iI x=true) (o:iI y=true):CO 54 [ω d,qA x,qA y] (.ret (eF (Lt d (.val x) (.val y)))):=by
 have g:iw 51 x:=aX p;have i:iw 51 y:=aX o;have c:=acz f e g i (by decide);have n:d=9∨d=10∨d=11∨d=12∨d=13∨d=14∨d=16∨d=17∨d=18∨d=19:=by omega
 rcases n with rfl|rfl|rfl|rfl|rfl|rfl|rfl|rfl|rfl|rfl
 ·exact afU _ x y _ _ c (WR f e g i (by decide)) (LZ (eQ f e) (xE g i) (by decide))
 ·exact aba _ x y _ _ c (LD f e g i (by decide)) (LZ (gY f e) (xF g i) (by decide))
 ·exact abb _ x y _ _ c (WU f e g i (by decide)) (LZ (iK f e) (AC g i) (by decide))
 ·show CO 54 _ (.ret (eF (if y.n=0 then .err 16 else mV (fF x y))));by_cases h:y.n=0
  ·rw [if_pos h];exact abd _ false x y ⟨false,0,0⟩ rfl c (by
    show CO 60 _ (.ret (.tup [Ω false (ae 0) (ae 0),.bool false]));rw [dB];exact ajE (a:=x) e g i (by decide) h) (jQ 16)
  ·rw [if_neg h];exact abe _ true x y _ _ rfl c (WW f e g i (by decide) (by omega)) (LZ (pV f (by omega)) (AL g i) (by decide))
 ·show CO 54 _ (.ret (eF (if 0<iE x y then .val y else .val x)));by_cases h:0<iE x y
  ·rw [if_pos h];exact abf _ x y _ (aK (Yq0 h)) c (TB e o)
  ·rw [if_neg h];exact abg _ x y _ (aN (Yq1 h)) c (TB f p)
 ·show CO 54 _ (.ret (eF (if iE x y<0 then .val y else .val x)));by_cases h:iE x y<0
  ·rw [if_pos h];exact abh _ x y _ (aK (Yq0 h)) c (TB e o)
  ·rw [if_neg h];exact abj _ x y _ (aN (Yq1 h)) c (TB f p)
 ·exact abk _ x y _ c (lN _)
 ·exact abl _ x y _ c (by rw [Y8 f e];exact lN _)
 ·have j:=vK (.val x);have k:=vK (.val y);show CO 54 _ (.ret (eF (if Oq.bit (.val x) && Oq.bit (.val y) then FT (Oq.one (.val x) && Oq.one (.val y)) else .err 13)));generalize r:Oq.bit (.val x)=x2 at*
  generalize t:Oq.bit (.val y)=x4 at*
  cases x2 with
  |false=>exact abm _ x y false rfl c j (jQ 13)
  | true=>
   cases x4 with
   |false=>exact abn _ x y true false rfl rfl c j k (jQ 13)
   |true=>
    cases m:Oq.one (.val x) with
    |true=>exact abo _ x y _ true true (by rw [show ((x.neg==false) && (((ae x.n)==(ae 1)) && (((ae x.d)==(ae 1)) && true)))=true from m];rfl) rfl rfl c j k yL (lN _)
    |false=>exact abp _ x y _ true true (by rw [show ((x.neg==false) && (((ae x.n)==(ae 1)) && (((ae x.d)==(ae 1)) && true)))=false from m];rfl) rfl rfl c j k yL (lN _)
 ·have j:=vK (.val x);have k:=vK (.val y);show CO 54 _ (.ret (eF (if Oq.bit (.val x) && Oq.bit (.val y) then FT (Oq.one (.val x)||Oq.one (.val y)) else .err 13)));generalize r:Oq.bit (.val x)=x2 at*
  generalize t:Oq.bit (.val y)=x4 at*
  cases x2 with
  |false=>exact abq _ x y false rfl c j (jQ 13)
  | true=>
   cases x4 with
   |false=>exact abr _ x y true false rfl rfl c j k (jQ 13)
   |true=>
    cases m:Oq.one (.val x) with
    |true=>exact abt _ x y _ true true (by rw [show ((x.neg==false) && (((ae x.n)==(ae 1)) && (((ae x.d)==(ae 1)) && true)))=true from m];rfl) rfl rfl c j k yL (lN _)
    |false=>exact abu _ x y _ true true (by rw [show ((x.neg==false) && (((ae x.n)==(ae 1)) && (((ae x.d)==(ae 1)) && true)))=false from m];rfl) rfl rfl c j k yL (lN _)
theorem OG (a b c:Oq) (e:Bool):CO 53 [.sl (uB a++(uB b++uB c)) 3 e] (.ret (eF (Rw a b c))):=by
 have d:=vK a;unfold Rw;by_cases h:a.e=0
 ·rw [if_pos h];have g:lit false (!(a.e==((0:Nat):Int)))=true:=by rw [h];rfl
  cases f:a.bit with
  |false=>rw [f] at d;exact aj7 false a b c e rfl g d (jQ 13)
  |true=>
   rw [f] at d;cases i:a.one with
   |true=>exact aj8 true a b c e (by rw [show ((a.n==false) && ((a.a==(ae 1)) && ((a.d==(ae 1)) && true)))=true from i];rfl) rfl g d yL
   |false=>exact aj9 true a b c e (by rw [show ((a.n==false) && ((a.a==(ae 1)) && ((a.d==(ae 1)) && true)))=false from i];rfl) rfl g d yL
 ·rw [if_neg h];exact aj6 a b c e (by rw [show (a.e==((0:Nat):Int))=false from beq_eq_false_iff_ne.2 h];rfl)
structure eU.r33 (E:eU):Prop where
 ls:E.ls.length<2^40
 qs:E.qs.length<2^40
 lk:∀ x ∈ E.ls,x.e=0→x.a.length<2^33∧x.d.length<2^33
 sq:∀ s ∈ E.qs,s.l.length<2^40∧∀ b ∈ s.l,b.s28
abbrev lrZ:bg:=⟨[.bool false,.str [],.str [],ω 0],0,false,0,0,true⟩
abbrev lrS (op:Int) (nm:List UInt8) (ls:List Lk) (cs:List Sc) (nl ns:Bool) (k:Nat):St:=⟨[(1,ω op),(2,.str nm),(3,.ptr 0 0 0),(6,.ptr 1 0 0),(7,ω (k:Int))],[(0,⟨[.sl (dJ ls) ls.length nl,.sl (dF cs) cs.length ns],0,false,0,0,true⟩),(1,lrZ)],.dead,[]⟩
abbrev lrO:Option Oq→St
 |none=> ⟨[(6,.ptr 0 0 0)],[(0,lrZ)],.dead,[]⟩
 |some o=> ⟨[(6,.ptr 0 0 0)],[(0,⟨[.bool o.n,.str o.a,.str o.d,.int .i64 o.e],0,false,0,0,true⟩)],.dead,[]⟩
abbrev lrE:Option Oq→bG|none=> .exit 0|some _=> .ret
theorem ZE {nt:Nat} (i:41≤nt) (c:Int) (e:List UInt8) (ls:List Lk) (cs:List Sc) (g h:Bool) (t:ls.length<2^40) (n:∀ x ∈ ls,x.e=0→x.a.length<2^33∧x.d.length<2^33):∀ (r p:List Lk),ls=p++r→
  az prog ap [] nt (af 0 (ah f52)) lrE (lrS c e ls cs g h) lrO p.length (Qg r c e):=by
 intro r
 induction r with
 |nil=>
  intro p hp;exact .done (aio e c p.length ls cs g h i (aN (Yq1 (by rw [hp];simp))))
 | cons x r ih=>
  intro p hp;have m:p.length<ls.length:=by rw [hp];simp
  have o:ls[p.length]=x:=by subst hp;simp
  have d:=KY m;rw [o] at d;have k:decide (((0:Nat):Int)≤(p.length:Int))=true:=Yq0 (by omega);have f:decide ((p.length:Int)<(ls.length:Int))=true:=Yq0 (by omega);have j:=ih (p++ [x]) (by rw [hp];simp);rw [θ,σ] at j;unfold Qg;by_cases h1:c=x.op
  ·by_cases h2:e=x.nm
   ·rw [Xv6 (by rw [h1,h2];simp)];exact .done (ail e c p.length _ x ls cs g h _ i d k f (aK (by rw [h2];exact beq_self_eq_true _)) (aK (by rw [h1];exact beq_self_eq_true _)) (aK f) (xA x.n x.a x.d x.e (n x (by rw [hp];simp))))
   ·rw [Xwm (by simp [h2])];exact .next (aim e c p.length x ls cs g h _ i d (Ci (by omega)) (aN (beq_eq_false_iff_ne.2 fun q=>h2 q.symm)) k f (aK (by rw [h1];exact beq_self_eq_true _)) (aK f)) j
  ·rw [Xwm (by simp [h1])];exact .next (ain e c p.length x ls cs g h _ i d (Ci (by omega)) (aN (beq_eq_false_iff_ne.2 fun q=>h1 q.symm)) k f (aK f)) j
theorem OL (d:Int) (c:List UInt8) (ls:List Lk) (cs:List Sc) (e f:Bool) (k:ls.length<2^40) (i:∀ x ∈ ls,x.e=0→x.a.length<2^33∧x.d.length<2^33):
  CO 52 [.agg [.sl (dJ ls) ls.length e,.sl (dF cs) cs.length f],ω d,.str c] (.ret (eF ((Qg ls d c).getD (.err 12)))):=by
 have h:=fun nt j=>ZE (nt:=nt) j d c ls cs e f k i ls [] rfl
 cases g:Qg ls d c with
 |none=>
  rw [g] at h;exact aij c d ls cs e f (az.blk (id:=0) (e':= .normal) (s:=⟨_,_,_,_⟩) (s':=lrO none) h (by simp) rfl (aH.of ⟨rfl,rfl,rfl,rfl,rfl,trivial⟩) (aH.refl _)) (jQ 12)
 |some o=>
  rw [g] at h;exact aik c d o ls cs e f (az.blk (id:=0) (e':= .ret) (s:=⟨_,_,_,_⟩) (s':=lrO (some o)) h (by simp) rfl (aH.of ⟨rfl,rfl,rfl,rfl,rfl,trivial⟩) (aH.refl _))
abbrev rdS (nm:List UInt8) (x:RQ) (ls:List Lk) (cs:List Sc) (nl ns:Bool) (k:Nat):St:=⟨[(1,.str nm),(3,.ptr 0 0 0),(5,.ptr 1 0 0),(6,.ptr 2 0 0),(7,ω (k:Int))],[(0,⟨[.sl (dJ ls) ls.length nl,.sl (dF cs) cs.length ns],0,false,0,0,true⟩),(1,⟨[.bool x.neg,.str (ae x.n),.str (ae x.d)],0,false,0,0,true⟩),(2,lrZ)],.dead,[]⟩
theorem aaM {nt:Nat} (i:39≤nt) (c:List UInt8) {x:RQ} (o:x.ok) (w:iI x=true) (ls:List Lk) (qs:List Sq) (f g:Bool) (y:qs.length<2^40) (u:∀ s ∈ qs,s.l.length<2^40∧∀ b ∈ s.l,b.s28):∀ (r p:List Sq),qs=p++r→
  az prog ap [] nt (af 0 (ah f94)) lrE (rdS c x ls (qs.map Sq.c) f g) lrO p.length ((sqO r c).map fun s=>MW s.l x):=by
 intro r;have e:(qs.map Sq.c).length=qs.length:=Xxt ..
 induction r with
 |nil=>
  intro p hp;exact .done (akT c p.length x ls (qs.map Sq.c) f g i (aN (Yq1 (by rw [e,hp];simp))))
 | cons s r ih=>
  intro p hp;have j:p.length<(qs.map Sq.c).length:=by rw [e,hp];simp
  have v:(qs.map Sq.c)[p.length]=s.c:=by subst hp;simp
  have d:=Mc j;rw [v] at d;have m:decide (((0:Nat):Int)≤(p.length:Int))=true:=Yq0 (by omega);have h:decide ((p.length:Int)<(((qs.map Sq.c).length:Nat):Int))=true:=Yq0 (by omega);have k:=ih (p++ [s]) (by rw [hp];simp);rw [θ,σ] at k;unfold sqO;obtain ⟨n,t⟩:=u s (by rw [hp];simp);by_cases h2:c=s.nm
  ·rw [Xv6 (by rw [h2];simp)];exact .done (akR c p.length x _ s.c ls (qs.map Sq.c) f g _ i d m h (aK (by rw [h2];exact beq_self_eq_true _)) (aK h) (aaG s.nm s.u1 s.u2 t n o w))
  ·rw [Xwm (by simp [h2])];exact .next (akS c p.length x s.c ls (qs.map Sq.c) f g _ i d (Ci (by omega)) (aN (beq_eq_false_iff_ne.2 fun q=>h2 q.symm)) m h (aK h)) k
theorem TE (c:List UInt8) {x:RQ} (j:x.ok) (k:iI x=true) (ls:List Lk) (qs:List Sq) (d e:Bool) (m:qs.length<2^40) (g:∀ s ∈ qs,s.l.length<2^40∧∀ b ∈ s.l,b.s28):
  CO 94 [.agg [.sl (dJ ls) ls.length d,.sl (dF (qs.map Sq.c)) (qs.map Sq.c).length e],.str c,qA x] (.ret (eF (match sqO qs c with|none=> .err 12|some s=>MW s.l x))):=by
 have h:=fun nt i=>aaM (nt:=nt) i c j k ls qs d e m g qs [] rfl
 cases f:sqO qs c with
 |none=>
  rw [f] at h;exact akO c x ls (qs.map Sq.c) d e (az.blk (id:=0) (e':= .normal) (s:=⟨_,_,_,_⟩) (s':=lrO none) h (by simp) rfl (aH.of ⟨rfl,rfl,rfl,rfl,rfl,trivial⟩) (aH.refl _)) (jQ 12)
 |some s=>
  rw [f] at h;exact akP c x _ ls (qs.map Sq.c) d e (az.blk (id:=0) (e':= .ret) (s:=⟨_,_,_,_⟩) (s':=lrO (some (MW s.l x))) h (by simp) rfl (aH.of ⟨rfl,rfl,rfl,rfl,rfl,trivial⟩) (aH.refl _))
theorem OM (E:eU) (y:Nd) (q t:Bool) {x:RQ} (n:20≤y.op∧y.op≤24) (i:QU y) (f:x.ok) (j:iI x=true) (o:E.r33):
  CO 55 [.agg (nI y),qA x,.agg [.sl (dJ E.ls) E.ls.length q,.sl (dF (E.qs.map Sq.c)) (E.qs.map Sq.c).length t]] (.ret (eF (OW E.qs y.op y.name (vQ y.neg y.num y.den) (.val x)))):=by
 obtain ⟨d,p,u,r,B⟩:=y;unfold OW;simp only at n i ⊢;have step:21≤d→d≤23→∃ c:RQ,vQ p u r=c∧c.ok∧iI c=true∧0<iU c∧u=ae c.n∧r=ae c.d∧p=c.neg:=by
  intro A C;obtain ⟨D,v⟩:=i A C;obtain ⟨g,w⟩:=oq D;refine ⟨_,rfl,jo _ _ _,by rw [sW g];exact w,by rw [← FI];exact v, ?_, ?_, ?_⟩
  ·rw [sW g];exact (iV g).1.symm
  ·rw [sW g];exact (iV g).2.symm
  ·rw [sW g]
 have m:iw 51 x:=aX j;have z:d=20∨d=21∨d=22∨d=23∨d=24:=by omega
 rcases z with rfl|rfl|rfl|rfl|rfl
 ·rw [if_pos rfl];have k:=vK (.val x);cases h:Oq.bit (.val x) with
  |false=>
   rw [h] at k;exact aaW _ _ _ _ false x _ _ _ _ rfl k (jQ 13)
  |true=>
   rw [h] at k;refine aaX _ _ _ _ true x _ _ _ _ _ rfl k uF ?_;have e:=UD h;rw [show ((x.neg==false) && (((ae x.n)==(ae 0)) && (((ae x.d)==(ae 1)) && true)))= !Oq.one (.val x) from e];exact lN _
 ·obtain ⟨c,e,k1,k2,k3,rfl,rfl,rfl⟩:=step (by decide) (by decide);rw [e,if_neg (by decide),if_neg (by decide),if_pos rfl];exact aaY _ x c _ _ _ _ _ _ (Fb f k1 m (aX k2) (by decide) k3) (LZ (jf k1) (Aa j k2).2.2 (by decide))
 ·obtain ⟨c,e,k1,k2,k3,rfl,rfl,rfl⟩:=step (by decide) (by decide);rw [e,if_neg (by decide),if_neg (by decide),if_neg (by decide),if_pos rfl];exact aaZ _ x c _ _ _ _ _ _ (afV f k1 m (aX k2) (by decide) k3) (LZ (AU f k1).1 (Aa j k2).2.1 (by decide))
 ·obtain ⟨c,e,k1,k2,k3,rfl,rfl,rfl⟩:=step (by decide) (by decide);rw [e,if_neg (by decide),if_neg (by decide),if_neg (by decide),if_neg (by decide)];exact aa0 _ x c _ _ _ _ _ _ (Xi f k1 m (aX k2) (by decide) (by decide) k3) (LZ (AU f k1).2 (Aa j k2).1 (by decide))
 ·rw [if_neg (by decide),if_pos rfl];exact aa1 _ _ _ _ x _ _ _ _ _ (TE B f j E.ls E.qs q t o.qs o.sq)
def TY (o:Oq):Ro:=⟨o.n,o.a,o.d,o.e⟩
theorem age (l:List Oq):xy (l.map TY)=dI l:=by
 induction l with
 |nil=>rfl
 |cons x r ih=>
  show roC (TY x)++xy (r.map TY)=uB x++dI r;rw [ih];rfl
theorem agf {o:Oq} (h:o.ok):Aq (TY o)=o:=by
 cases o with
 |err e=>exact if_neg h
 |val q=>
  show yR q.neg (ae q.n) (ae q.d) 0=_;rw [yT h.1];unfold mV;rw [if_pos h.2]
theorem XQ {l:List Oq} (h:∀ o ∈ l,o.ok):(l.map TY).map Aq=l:=by
 rw [List.map_map]
 conv=>rhs;rw [← List.map_id l]
 exact List.map_congr_left fun o c=>agf (h o c)
theorem seO (o:Oq):AV.bool ((o.n==o.n) && ((o.a==o.a) && ((o.d==o.d) && ((o.e==o.e) && true))))= .bool true:=by simp
theorem afy (y:Nd) (o:Oq) (f j d:Bool) (c:Int) (ls:List Lk) (cs:List Sc) (i:lit true (decide (y.op≤((4:Nat):Int)))=true) (e:lit false (!(c==((0:Nat):Int)))=true) (g:CO 50 [.sl [ω y.op,.bool y.neg,.str y.num,.str y.den,.str y.name] 1 true] (.ret (ω c))) (h:CO 51 [.agg [.bool y.neg,.str y.num,.str y.den]] (.ret (.agg [.bool o.n,.str o.a,.str o.d,ω o.e]))):CO 16 [.agg [ω y.op,.bool y.neg,.str y.num,.str y.den,.str y.name],.sl [] 0 d,.agg [.sl (dJ ls) ls.length f,.sl (dF cs) cs.length j]] (.ret (.agg [.bool o.n,.str o.a,.str o.d,ω o.e])):=pK [] 5 16 (.k 8 i (.k 1 e (.n 10 .nil))) (.c h (.c g .nil))
theorem afz (y:Nd) (o:Oq) (d e f:Bool) (c:Int) (ls:List Lk) (cs:List Sc) (k:lit true (decide (y.op≤((8:Nat):Int)))=true) (g:lit false (decide (y.op≤((4:Nat):Int)))=true) (h:lit false (!(c==((0:Nat):Int)))=true) (i:CO 50 [.sl [ω y.op,.bool y.neg,.str y.num,.str y.den,.str y.name] 1 true] (.ret (ω c))) (j:CO 52 [.agg [.sl (dJ ls) ls.length d,.sl (dF cs) cs.length e],ω y.op,.str y.name] (.ret (.agg [.bool o.n,.str o.a,.str o.d,ω o.e]))):CO 16 [.agg [ω y.op,.bool y.neg,.str y.num,.str y.den,.str y.name],.sl [] 0 f,.agg [.sl (dJ ls) ls.length d,.sl (dF cs) cs.length e]] (.ret (.agg [.bool o.n,.str o.a,.str o.d,ω o.e])):=pK [] 6 32 (.k 9 k (.k 1 g (.k 1 h (.n 10 .nil)))) (.c j (.c i .nil))
theorem afA (y:Nd) (e:Ro) (d:Oq) (k p f:Bool) (c:Int) (ls:List Lk) (cs:List Sc) (o:lit true (!(d.e==((0:Nat):Int)))=true) (g:lit false (y.op==((15:Nat):Int))=true) (j:lit false (decide (y.op≤((8:Nat):Int)))=true) (h:lit false (decide (y.op≤((4:Nat):Int)))=true) (i:lit false (!(c==((0:Nat):Int)))=true) (m:CO 48 [ω 0] (.ret (Ω false [] [1]))) (n:CO 49 [.agg [.bool e.n,.str e.a,.str e.d,ω e.e]] (.ret (.agg [.bool d.n,.str d.a,.str d.d,ω d.e]))) (q:CO 50 [.sl [ω 3,.bool false,.str [],.str [1],.str [],ω y.op,.bool y.neg,.str y.num,.str y.den,.str y.name] 2 true] (.ret (ω c))):CO 16 [.agg [ω y.op,.bool y.neg,.str y.num,.str y.den,.str y.name],.sl [.bool e.n,.str e.a,.str e.d,ω e.e] 1 f,.agg [.sl (dJ ls) ls.length k,.sl (dF cs) cs.length p]] (.ret (.agg [.bool d.n,.str d.a,.str d.d,ω d.e])):=pK [] 11 1538 (.k 11 o (.k 4 g (.k 1 j (.k 1 h (.k 1 i (.n 24 .nil)))))) (.c q (.c n (.c m .nil)))
theorem afB (y:Nd) (d:Ro) (o e:Oq) (g f q:Bool) (c:Int) (ls:List Lk) (cs:List Sc) (k:lit false (!(e.e==((0:Nat):Int)))=true) (r:lit false (y.op==((15:Nat):Int))=true) (j:lit false (decide (y.op≤((8:Nat):Int)))=true) (h:lit false (decide (y.op≤((4:Nat):Int)))=true) (i:lit false (!(c==((0:Nat):Int)))=true) (t:CO 48 [ω 0] (.ret (Ω false [] [1]))) (p:CO 49 [.agg [.bool d.n,.str d.a,.str d.d,ω d.e]] (.ret (.agg [.bool e.n,.str e.a,.str e.d,ω e.e]))) (m:CO 50 [.sl [ω 3,.bool false,.str [],.str [1],.str [],ω y.op,.bool y.neg,.str y.num,.str y.den,.str y.name] 2 true] (.ret (ω c))) (n:CO 55 [.agg [ω y.op,.bool y.neg,.str y.num,.str y.den,.str y.name],.agg [.bool e.n,.str e.a,.str e.d],.agg [.sl (dJ ls) ls.length g,.sl (dF cs) cs.length f]] (.ret (.agg [.bool o.n,.str o.a,.str o.d,ω o.e]))):CO 16 [.agg [ω y.op,.bool y.neg,.str y.num,.str y.den,.str y.name],.sl [.bool d.n,.str d.a,.str d.d,ω d.e] 1 q,.agg [.sl (dJ ls) ls.length g,.sl (dF cs) cs.length f]] (.ret (.agg [.bool o.n,.str o.a,.str o.d,ω o.e])):=pK [] 13 514 (.k 19 k (.k 4 r (.k 1 j (.k 1 h (.k 1 i (.n 24 .nil)))))) (.c n (.c m (.c p (.c t .nil))))
theorem afC (y:Nd) (e f:Ro) (d g:Oq) (p j r:Bool) (c:Int) (ls:List Lk) (cs:List Sc) (m:lit true (!(d.e==((0:Nat):Int)))=true) (t:lit false (y.op==((15:Nat):Int))=true) (k:lit false (decide (y.op≤((8:Nat):Int)))=true) (h:lit false (decide (y.op≤((4:Nat):Int)))=true) (i:lit false (!(c==((0:Nat):Int)))=true) (v:CO 48 [ω 0] (.ret (Ω false [] [1]))) (q:CO 49 [.agg [.bool e.n,.str e.a,.str e.d,ω e.e]] (.ret (.agg [.bool d.n,.str d.a,.str d.d,ω d.e]))) (n:CO 48 [ω 0] (.ret (Ω false [] [1]))) (o:CO 49 [.agg [.bool f.n,.str f.a,.str f.d,ω f.e]] (.ret (.agg [.bool g.n,.str g.a,.str g.d,ω g.e]))) (u:CO 50 [.sl [ω 3,.bool false,.str [],.str [1],.str [],ω 3,.bool false,.str [],.str [1],.str [],ω y.op,.bool y.neg,.str y.num,.str y.den,.str y.name] 3 true] (.ret (ω c))):CO 16 [.agg [ω y.op,.bool y.neg,.str y.num,.str y.den,.str y.name],.sl [.bool e.n,.str e.a,.str e.d,ω e.e,.bool f.n,.str f.a,.str f.d,ω f.e] 2 r,.agg [.sl (dJ ls) ls.length p,.sl (dF cs) cs.length j]] (.ret (.agg [.bool d.n,.str d.a,.str d.d,ω d.e])):=pK [] 12 3090 (.k 11 m (.k 4 t (.k 1 k (.k 1 h (.k 1 i (.n 39 .nil)))))) (.c u (.c o (.c n (.c q (.c v .nil)))))
theorem afD (y:Nd) (e f:Ro) (g d:Oq) (q j t:Bool) (c:Int) (ls:List Lk) (cs:List Sc) (n:lit true (!(d.e==((0:Nat):Int)))=true) (u:lit false (!(g.e==((0:Nat):Int)))=true) (m:lit false (y.op==((15:Nat):Int))=true) (h:lit false (decide (y.op≤((8:Nat):Int)))=true) (i:lit false (decide (y.op≤((4:Nat):Int)))=true) (k:lit false (!(c==((0:Nat):Int)))=true) (w:CO 48 [ω 0] (.ret (Ω false [] [1]))) (r:CO 49 [.agg [.bool e.n,.str e.a,.str e.d,ω e.e]] (.ret (.agg [.bool g.n,.str g.a,.str g.d,ω g.e]))) (o:CO 48 [ω 0] (.ret (Ω false [] [1]))) (p:CO 49 [.agg [.bool f.n,.str f.a,.str f.d,ω f.e]] (.ret (.agg [.bool d.n,.str d.a,.str d.d,ω d.e]))) (v:CO 50 [.sl [ω 3,.bool false,.str [],.str [1],.str [],ω 3,.bool false,.str [],.str [1],.str [],ω y.op,.bool y.neg,.str y.num,.str y.den,.str y.name] 3 true] (.ret (ω c))):CO 16 [.agg [ω y.op,.bool y.neg,.str y.num,.str y.den,.str y.name],.sl [.bool e.n,.str e.a,.str e.d,ω e.e,.bool f.n,.str f.a,.str f.d,ω f.e] 2 t,.agg [.sl (dJ ls) ls.length q,.sl (dF cs) cs.length j]] (.ret (.agg [.bool d.n,.str d.a,.str d.d,ω d.e])):=pK [] 14 13330 (.k 11 n (.k 4 u (.k 4 m (.k 1 h (.k 1 i (.k 1 k (.n 39 .nil))))))) (.c v (.c p (.c o (.c r (.c w .nil)))))
theorem afE (y:Nd) (d f:Ro) (o e g:Oq) (t j v:Bool) (c:Int) (ls:List Lk) (cs:List Sc) (n:lit false (!(g.e==((0:Nat):Int)))=true) (w:lit false (!(e.e==((0:Nat):Int)))=true) (m:lit false (y.op==((15:Nat):Int))=true) (h:lit false (decide (y.op≤((8:Nat):Int)))=true) (i:lit false (decide (y.op≤((4:Nat):Int)))=true) (k:lit false (!(c==((0:Nat):Int)))=true) (A:CO 48 [ω 0] (.ret (Ω false [] [1]))) (u:CO 49 [.agg [.bool d.n,.str d.a,.str d.d,ω d.e]] (.ret (.agg [.bool e.n,.str e.a,.str e.d,ω e.e]))) (p:CO 48 [ω 0] (.ret (Ω false [] [1]))) (q:CO 49 [.agg [.bool f.n,.str f.a,.str f.d,ω f.e]] (.ret (.agg [.bool g.n,.str g.a,.str g.d,ω g.e]))) (z:CO 50 [.sl [ω 3,.bool false,.str [],.str [1],.str [],ω 3,.bool false,.str [],.str [1],.str [],ω y.op,.bool y.neg,.str y.num,.str y.den,.str y.name] 3 true] (.ret (ω c))) (r:CO 54 [ω y.op,.agg [.bool e.n,.str e.a,.str e.d],.agg [.bool g.n,.str g.a,.str g.d]] (.ret (.agg [.bool o.n,.str o.a,.str o.d,ω o.e]))):CO 16 [.agg [ω y.op,.bool y.neg,.str y.num,.str y.den,.str y.name],.sl [.bool d.n,.str d.a,.str d.d,ω d.e,.bool f.n,.str f.a,.str f.d,ω f.e] 2 v,.agg [.sl (dJ ls) ls.length t,.sl (dF cs) cs.length j]] (.ret (.agg [.bool o.n,.str o.a,.str o.d,ω o.e])):=pK [] 16 37906 (.k 18 n (.k 4 w (.k 4 m (.k 1 h (.k 1 i (.k 1 k (.n 39 .nil))))))) (.c r (.c z (.c q (.c p (.c u (.c A .nil))))))
theorem afF (y:Nd) (e g i:Ro) (o f h d:Oq) (u k z:Bool) (c:Int) (ls:List Lk) (cs:List Sc) (p:lit true (y.op==((15:Nat):Int))=true) (A:lit false (decide (y.op≤((8:Nat):Int)))=true) (m:lit false (decide (y.op≤((4:Nat):Int)))=true) (j:lit false (!(c==((0:Nat):Int)))=true) (C:CO 48 [ω 0] (.ret (Ω false [] [1]))) (w:CO 49 [.agg [.bool e.n,.str e.a,.str e.d,ω e.e]] (.ret (.agg [.bool f.n,.str f.a,.str f.d,ω f.e]))) (q:CO 48 [ω 0] (.ret (Ω false [] [1]))) (r:CO 49 [.agg [.bool g.n,.str g.a,.str g.d,ω g.e]] (.ret (.agg [.bool h.n,.str h.a,.str h.d,ω h.e]))) (B:CO 48 [ω 0] (.ret (Ω false [] [1]))) (t:CO 49 [.agg [.bool i.n,.str i.a,.str i.d,ω i.e]] (.ret (.agg [.bool d.n,.str d.a,.str d.d,ω d.e]))) (v:CO 50 [.sl [ω 3,.bool false,.str [],.str [1],.str [],ω 3,.bool false,.str [],.str [1],.str [],ω 3,.bool false,.str [],.str [1],.str [],ω y.op,.bool y.neg,.str y.num,.str y.den,.str y.name] 4 true] (.ret (ω c))) (n:CO 53 [.sl [.bool f.n,.str f.a,.str f.d,ω f.e,.bool h.n,.str h.a,.str h.d,ω h.e,.bool d.n,.str d.a,.str d.d,ω d.e] 3 true] (.ret (.agg [.bool o.n,.str o.a,.str o.d,ω o.e]))):CO 16 [.agg [ω y.op,.bool y.neg,.str y.num,.str y.den,.str y.name],.sl [.bool e.n,.str e.a,.str e.d,ω e.e,.bool g.n,.str g.a,.str g.d,ω g.e,.bool i.n,.str i.a,.str i.d,ω i.e] 3 z,.agg [.sl (dJ ls) ls.length u,.sl (dF cs) cs.length k]] (.ret (.agg [.bool o.n,.str o.a,.str o.d,ω o.e])):=pK [] 11 1074 (.k 5 p (.k 1 A (.k 1 m (.k 1 j (.n 54 .nil))))) (.c n (.c v (.c t (.c B (.c r (.c q (.c w (.c C .nil))))))))
theorem aa7 (x:Nd) (o:Oq) (d c g:Bool) (k:Nat) (e:List Nd) (A:List (List Nat)) (ls:List Lk) (cs:List Sc) (m i:List AV) {nt:Nat} (t:57≤nt) (n:(ε ((δ (k:Int))*5) (aV e))=nI x++m) (q:(ε ((δ (k:Int))*1) (dE A))= [.nilS]++i) (p:ω (γ .i64 ((k:Int)+((1:Nat):Int)))=ω ((k+1:Nat):Int)) (f:(decide (((0:Nat):Int)≤(k:Int)))=true) (r:(decide ((k:Int)<(e.length:Int)))=true) (j:(decide ((k:Int)<(A.length:Int)))=true) (h:lit true (decide ((k:Int)<(e.length:Int)))=true) (u:CO 16 [.agg [ω x.op,.bool x.neg,.str x.num,.str x.den,.str x.name],.nilS,.agg [.sl (dJ ls) ls.length d,.sl (dF cs) cs.length c]] (.ret (.agg [.bool o.n,.str o.a,.str o.d,ω o.e]))):ψ nt f20 ⟨[(0,.sl (aV e) e.length g),(3,.ptr 0 0 0),(5,.sl (dE A) A.length true),(7,.nilS),(8,ω (k:Int))],[(0,⟨[.sl (dJ ls) ls.length d,.sl (dF cs) cs.length c],0,false,0,0,true⟩)],.dead,[]⟩ (.normal) ⟨[(0,.sl (aV e) e.length g),(3,.ptr 0 0 0),(5,.sl (dE A) A.length true),(7,.ref 1 0 0 1),(8,ω ((k+1:Nat):Int))],[(0,⟨[.sl (dJ ls) ls.length d,.sl (dF cs) cs.length c],0,false,0,0,true⟩),(1,⟨[.bool o.n,.str o.a,.str o.d,ω o.e],0,false,0,4,true⟩)],.dead,[]⟩:=pN 20 [] 3 1 (.k 10 f (.c r (.k 2 f (.c j (.c h .nil))))) (.v 23 (.eq p) (.c u (.v 49 (.ppt n) (.v 27 (.ppt q) .nil)))) t
theorem aa8 (f h c:Bool) (k:Nat) (e:List Nd) (A:List (List Nat)) (ls:List Lk) (cs:List Sc) {nt:Nat} (d:57≤nt) (g:lit false (decide ((k:Int)<(e.length:Int)))=true):ψ nt f20 ⟨[(0,.sl (aV e) e.length c),(3,.ptr 0 0 0),(5,.sl (dE A) A.length true),(7,.nilS),(8,ω (k:Int))],[(0,⟨[.sl (dJ ls) ls.length f,.sl (dF cs) cs.length h],0,false,0,0,true⟩)],.dead,[]⟩ (.exit 0) ⟨[(7,.nilS)],[],.dead,[]⟩:=pN 20 [] 1 0 (.c g .nil) (.nil) d
theorem afH (x:Nd) (o:Oq) (f d i:Bool) (k:Nat) (e:List Nd) (A:List (List Nat)) (c:List Oq) (ls:List Lk) (cs:List Sc) (q p:List AV) {nt:Nat} (y:57≤nt) (t:(ε ((δ (k:Int))*5) (aV e))=nI x++q) (v:(ε ((δ (k:Int))*1) (dE A))= [.nilS]++p) (g:((ν (c.length*4) (dI c))++ [.bool o.n,.str o.a,.str o.d,ω o.e])=(dI (c++ [o]))) (u:ω (γ .i64 ((k:Int)+((1:Nat):Int)))=ω ((k+1:Nat):Int)) (r:(Xqg (c.length+1) 1099511627776)=true) (w:(Xqg (c.length*4) (η (dI c)))=true) (h:(decide (((0:Nat):Int)≤(k:Int)))=true) (j:(decide ((k:Int)<(e.length:Int)))=true) (m:(decide ((k:Int)<(A.length:Int)))=true) (n:lit true (decide ((k:Int)<(e.length:Int)))=true) (z:CO 16 [.agg [ω x.op,.bool x.neg,.str x.num,.str x.den,.str x.name],.nilS,.agg [.sl (dJ ls) ls.length f,.sl (dF cs) cs.length d]] (.ret (.agg [.bool o.n,.str o.a,.str o.d,ω o.e]))):ψ nt f20 ⟨[(0,.sl (aV e) e.length i),(3,.ptr 0 0 0),(5,.sl (dE A) A.length true),(7,.ref 1 0 0 c.length),(8,ω (k:Int))],[(0,⟨[.sl (dJ ls) ls.length f,.sl (dF cs) cs.length d],0,false,0,0,true⟩),(1,⟨(dI c),0,false,0,4,true⟩)],.dead,[]⟩ (.normal) ⟨[(0,.sl (aV e) e.length i),(3,.ptr 0 0 0),(5,.sl (dE A) A.length true),(7,.ref 1 0 0 (c.length+1)),(8,ω ((k+1:Nat):Int))],[(0,⟨[.sl (dJ ls) ls.length f,.sl (dF cs) cs.length d],0,false,0,0,true⟩),(1,⟨(dI (c++ [o])),0,false,0,4,true⟩)],.dead,[]⟩:=pN 20 [] 2 1 (.k 1 r (.c w (.k 8 h (.c j (.k 2 h (.c m (.c n .nil))))))) (.v 23 (.eq u) (.b 55 g (.c z (.v 49 (.ppt t) (.v 27 (.ppt v) .nil))))) y
theorem afI (g i d:Bool) (k:Nat) (e:List Nd) (A:List (List Nat)) (c:List Oq) (ls:List Lk) (cs:List Sc) {nt:Nat} (f:57≤nt) (h:lit false (decide ((k:Int)<(e.length:Int)))=true):ψ nt f20 ⟨[(0,.sl (aV e) e.length d),(3,.ptr 0 0 0),(5,.sl (dE A) A.length true),(7,.ref 1 0 0 c.length),(8,ω (k:Int))],[(0,⟨[.sl (dJ ls) ls.length g,.sl (dF cs) cs.length i],0,false,0,0,true⟩),(1,⟨(dI c),0,false,0,4,true⟩)],.dead,[]⟩ (.exit 0) ⟨[(7,.ref 0 0 0 c.length)],[(0,⟨(dI c),0,false,0,4,true⟩)],.dead,[]⟩:=pN 20 [] 1 0 (.c h .nil) (.nil) f
theorem afJ (x:Nd) (o d:Oq) (m j q:Bool) (k g:Nat) (e:List Nd) (A:List (List Nat)) (c:List Oq) (ls:List Lk) (cs:List Sc) (z w v:List AV) {nt:Nat} (F:57≤nt) (C:(ε ((δ (k:Int))*5) (aV e))=nI x++z) (n:(ε ((δ (k:Int))*1) (dE A))= [.sl [ω (g:Int)] 1 true]++w) (f:(ε ((0+(δ (g:Int)))*4) (dI c))=uB d++v) (p:((ν (c.length*4) (dI c))++ [.bool o.n,.str o.a,.str o.d,ω o.e])=(dI (c++ [o]))) (D:ω (γ .i64 ((k:Int)+((1:Nat):Int)))=ω ((k+1:Nat):Int)) (B:(Xqg (c.length+1) 1099511627776)=true) (E:(Xqg (c.length*4) (η (dI c)))=true) (h:(decide (((0:Nat):Int)≤(k:Int)))=true) (t:(decide ((k:Int)<(e.length:Int)))=true) (i:(decide ((k:Int)<(A.length:Int)))=true) (u:(decide (((0:Nat):Int)≤(g:Int)))=true) (r:(decide ((g:Int)<(c.length:Int)))=true) (y:lit true (decide ((k:Int)<(e.length:Int)))=true) (G:CO 16 [.agg [ω x.op,.bool x.neg,.str x.num,.str x.den,.str x.name],.sl [.bool d.n,.str d.a,.str d.d,ω d.e] 1 true,.agg [.sl (dJ ls) ls.length m,.sl (dF cs) cs.length j]] (.ret (.agg [.bool o.n,.str o.a,.str o.d,ω o.e]))):ψ nt f20 ⟨[(0,.sl (aV e) e.length q),(3,.ptr 0 0 0),(5,.sl (dE A) A.length true),(7,.ref 1 0 0 c.length),(8,ω (k:Int))],[(0,⟨[.sl (dJ ls) ls.length m,.sl (dF cs) cs.length j],0,false,0,0,true⟩),(1,⟨(dI c),0,false,0,4,true⟩)],.dead,[]⟩ (.normal) ⟨[(0,.sl (aV e) e.length q),(3,.ptr 0 0 0),(5,.sl (dE A) A.length true),(7,.ref 1 0 0 (c.length+1)),(8,ω ((k+1:Nat):Int))],[(0,⟨[.sl (dJ ls) ls.length m,.sl (dF cs) cs.length j],0,false,0,0,true⟩),(1,⟨(dI (c++ [o])),0,false,0,4,true⟩)],.dead,[]⟩:=pN 20 [] 4 3 (.k 1 B (.c E (.k 8 h (.c t (.k 2 h (.c i (.n 3 (.a (jy [.bool,.str,.str,.int .i64] f rfl) (.c u (.c r (.k 4 h (.c i (.k 2 h (.c i (.c y .nil))))))))))))))) (.v 23 (.eq D) (.b 55 p (.c G (.v 49 (.ppt C) (.v 27 (.ppt n) (.v 43 (.rd [.bool,.str,.str,.int .i64] f rfl) (.v 37 (.ppt n) (.v 27 (.ppt n) .nil)))))))) F
theorem afK (x:Nd) (o g m:Oq) (r q u:Bool) (k n p:Nat) (e:List Nd) (A:List (List Nat)) (c:List Oq) (ls:List Lk) (cs:List Sc) (E C B M:List AV) {nt:Nat} (N:57≤nt) (G:(ε ((δ (k:Int))*5) (aV e))=nI x++E) (j:(ε ((δ (k:Int))*1) (dE A))= [.sl [ω (n:Int),ω (p:Int)] 2 true]++C) (h:(ε ((0+(δ (n:Int)))*4) (dI c))=uB g++B) (i:(ε ((0+(δ (p:Int)))*4) (dI c))=uB m++M) (t:((ν (c.length*4) (dI c))++ [.bool o.n,.str o.a,.str o.d,ω o.e])=(dI (c++ [o]))) (J:ω (γ .i64 ((k:Int)+((1:Nat):Int)))=ω ((k+1:Nat):Int)) (F:(Xqg (c.length+1) 1099511627776)=true) (K:(Xqg (c.length*4) (η (dI c)))=true) (d:(decide (((0:Nat):Int)≤(k:Int)))=true) (y:(decide ((k:Int)<(e.length:Int)))=true) (f:(decide ((k:Int)<(A.length:Int)))=true) (z:(decide (((0:Nat):Int)≤(p:Int)))=true) (w:(decide ((p:Int)<(c.length:Int)))=true) (D:(decide (((0:Nat):Int)≤(n:Int)))=true) (I:(decide ((n:Int)<(c.length:Int)))=true) (v:lit true (decide ((k:Int)<(e.length:Int)))=true) (O:CO 16 [.agg [ω x.op,.bool x.neg,.str x.num,.str x.den,.str x.name],.sl [.bool g.n,.str g.a,.str g.d,ω g.e,.bool m.n,.str m.a,.str m.d,ω m.e] 2 true,.agg [.sl (dJ ls) ls.length r,.sl (dF cs) cs.length q]] (.ret (.agg [.bool o.n,.str o.a,.str o.d,ω o.e]))):ψ nt f20 ⟨[(0,.sl (aV e) e.length u),(3,.ptr 0 0 0),(5,.sl (dE A) A.length true),(7,.ref 1 0 0 c.length),(8,ω (k:Int))],[(0,⟨[.sl (dJ ls) ls.length r,.sl (dF cs) cs.length q],0,false,0,0,true⟩),(1,⟨(dI c),0,false,0,4,true⟩)],.dead,[]⟩ (.normal) ⟨[(0,.sl (aV e) e.length u),(3,.ptr 0 0 0),(5,.sl (dE A) A.length true),(7,.ref 1 0 0 (c.length+1)),(8,ω ((k+1:Nat):Int))],[(0,⟨[.sl (dJ ls) ls.length r,.sl (dF cs) cs.length q],0,false,0,0,true⟩),(1,⟨(dI (c++ [o])),0,false,0,4,true⟩)],.dead,[]⟩:=pN 20 [] 5 11 (.k 1 F (.c K (.k 8 d (.c y (.k 2 d (.c f (.n 4 (.a (jy [.bool,.str,.str,.int .i64] i rfl) (.c z (.c w (.k 4 d (.c f (.k 2 d (.c f (.n 3 (.a (jy [.bool,.str,.str,.int .i64] h rfl) (.c D (.c I (.k 4 d (.c f (.k 2 d (.c f (.c v .nil))))))))))))))))))))))) (.v 23 (.eq J) (.b 55 t (.c O (.v 49 (.ppt G) (.v 27 (.ppt j) (.v 43 (.rd [.bool,.str,.str,.int .i64] i rfl) (.v 37 (.ppt j) (.v 27 (.ppt j) (.v 43 (.rd [.bool,.str,.str,.int .i64] h rfl) (.v 37 (.ppt j) (.v 27 (.ppt j) .nil))))))))))) N
theorem afL (x:Nd) (o i p h:Oq) (y w B:Bool) (k q t r:Nat) (e:List Nd) (A:List (List Nat)) (c:List Oq) (ls:List Lk) (cs:List Sc) (M I G S K:List AV) {nt:Nat} (T:57≤nt) (O:(ε ((δ (k:Int))*5) (aV e))=nI x++M) (g:(ε ((δ (k:Int))*1) (dE A))= [.sl [ω (q:Int),ω (t:Int),ω (r:Int)] 3 true]++I) (j:(ε ((0+(δ (q:Int)))*4) (dI c))=uB i++G) (m:(ε ((0+(δ (t:Int)))*4) (dI c))=uB p++S) (n:(ε ((0+(δ (r:Int)))*4) (dI c))=uB h++K) (z:((ν (c.length*4) (dI c))++ [.bool o.n,.str o.a,.str o.d,ω o.e])=(dI (c++ [o]))) (Q:ω (γ .i64 ((k:Int)+((1:Nat):Int)))=ω ((k+1:Nat):Int)) (N:(Xqg (c.length+1) 1099511627776)=true) (R:(Xqg (c.length*4) (η (dI c)))=true) (d:(decide (((0:Nat):Int)≤(k:Int)))=true) (E:(decide ((k:Int)<(e.length:Int)))=true) (f:(decide ((k:Int)<(A.length:Int)))=true) (F:(decide (((0:Nat):Int)≤(r:Int)))=true) (D:(decide ((r:Int)<(c.length:Int)))=true) (J:(decide (((0:Nat):Int)≤(t:Int)))=true) (P:(decide ((t:Int)<(c.length:Int)))=true) (C:(decide (((0:Nat):Int)≤(q:Int)))=true) (u:(decide ((q:Int)<(c.length:Int)))=true) (v:lit true (decide ((k:Int)<(e.length:Int)))=true) (U:CO 16 [.agg [ω x.op,.bool x.neg,.str x.num,.str x.den,.str x.name],.sl [.bool i.n,.str i.a,.str i.d,ω i.e,.bool p.n,.str p.a,.str p.d,ω p.e,.bool h.n,.str h.a,.str h.d,ω h.e] 3 true,.agg [.sl (dJ ls) ls.length y,.sl (dF cs) cs.length w]] (.ret (.agg [.bool o.n,.str o.a,.str o.d,ω o.e]))):ψ nt f20 ⟨[(0,.sl (aV e) e.length B),(3,.ptr 0 0 0),(5,.sl (dE A) A.length true),(7,.ref 1 0 0 c.length),(8,ω (k:Int))],[(0,⟨[.sl (dJ ls) ls.length y,.sl (dF cs) cs.length w],0,false,0,0,true⟩),(1,⟨(dI c),0,false,0,4,true⟩)],.dead,[]⟩ (.normal) ⟨[(0,.sl (aV e) e.length B),(3,.ptr 0 0 0),(5,.sl (dE A) A.length true),(7,.ref 1 0 0 (c.length+1)),(8,ω ((k+1:Nat):Int))],[(0,⟨[.sl (dJ ls) ls.length y,.sl (dF cs) cs.length w],0,false,0,0,true⟩),(1,⟨(dI (c++ [o])),0,false,0,4,true⟩)],.dead,[]⟩:=pN 20 [] 6 27 (.k 1 N (.c R (.k 8 d (.c E (.k 2 d (.c f (.n 4 (.a (jy [.bool,.str,.str,.int .i64] n rfl) (.c F (.c D (.k 4 d (.c f (.k 2 d (.c f (.n 4 (.a (jy [.bool,.str,.str,.int .i64] m rfl) (.c J (.c P (.k 4 d (.c f (.k 2 d (.c f (.n 3 (.a (jy [.bool,.str,.str,.int .i64] j rfl) (.c C (.c u (.k 4 d (.c f (.k 2 d (.c f (.c v .nil))))))))))))))))))))))))))))))) (.v 23 (.eq Q) (.b 55 z (.c U (.v 49 (.ppt O) (.v 27 (.ppt g) (.v 43 (.rd [.bool,.str,.str,.int .i64] n rfl) (.v 37 (.ppt g) (.v 27 (.ppt g) (.v 43 (.rd [.bool,.str,.str,.int .i64] m rfl) (.v 37 (.ppt g) (.v 27 (.ppt g) (.v 43 (.rd [.bool,.str,.str,.int .i64] j rfl) (.v 37 (.ppt g) (.v 27 (.ppt g) .nil)))))))))))))) T
theorem afN (f g d:Bool) (e:List Nd) (A:List (List Nat)) (c:List Oq) (ls:List Lk) (cs:List Sc) (i:CO 56 [.sl (aV e) e.length d] (.ret (.tup [.sl (dE A) A.length true,.bool true]))) (h:aG prog ap [] 57 (.block 0 (.loop (af 0 (ah f20)))) ⟨[(0,.sl (aV e) e.length d),(1,.agg [.sl (dJ ls) ls.length f,.sl (dF cs) cs.length g]),(3,.ptr 0 0 0),(4,.nilS),(5,.sl (dE A) A.length true),(6,.bool true),(7,.nilS),(8,ω 0),(9,.dead),(10,.dead),(17,.bool false),(21,.dead),(30,.dead)],[(0,⟨[.sl (dJ ls) ls.length f,.sl (dF cs) cs.length g],0,false,0,0,true⟩)],.dead,[]⟩ (.normal) ⟨[(7,.ref 0 0 0 c.length)],[(0,⟨(dI c),0,false,0,4,true⟩)],.dead,[]⟩):CO 20 [.sl (aV e) e.length d,.agg [.sl (dJ ls) ls.length f,.sl (dF cs) cs.length g]] (.ret (.own (ν (c.length*4) (dI c)) c.length 4)):=pK [0] 1 0 (.n 1 .nil) (.l h (.c i .nil))
theorem afM (d g c:Bool) (e:List Nd) (ls:List Lk) (cs:List Sc) (f:CO 56 [.sl (aV e) e.length c] (.ret (.tup [.nilS,.bool false]))):CO 20 [.sl (aV e) e.length c,.agg [.sl (dJ ls) ls.length d,.sl (dF cs) cs.length g]] (.ret (.nilS)):=pK [] 1 1 (.n 1 .nil) (.c f .nil)
theorem akm (o:Oq) (f h d:Bool) (k:Nat) (e:List Nd) (c:List Oq) (ls:List Lk) (cs:List Sc) (n:List AV) (g:(ε ((0+(δ (k:Int)))*4) (dI c))=uB o++n) (i:ω (γ .i64 ((c.length:Int) - ((1:Nat):Int)))=ω (k:Int)) (q:(decide (((0:Nat):Int)≤(k:Int)))=true) (j:(decide ((k:Int)<(c.length:Int)))=true) (m:lit false ((c.length:Int)==((0:Nat):Int))=true) (p:CO 20 [.sl (aV e) e.length d,.agg [.sl (dJ ls) ls.length f,.sl (dF cs) cs.length h]] (.ret (.own (dI c) c.length 4))):CO 22 [.sl (aV e) e.length d,.agg [.sl (dJ ls) ls.length f,.sl (dF cs) cs.length h]] (.ret (.agg [.bool o.n,.str o.a,.str o.d,ω o.e])):=pK [] 1 0 (.n 5 (.a (jy [.bool,.str,.str,.int .i64] g rfl) (.c q (.c j (.c m (.n 2 .nil)))))) (.v 18 (.rd [.bool,.str,.str,.int .i64] g rfl) (.v 16 (.eq i) (.c p .nil)))
theorem akl (d f c:Bool) (e:List Nd) (ls:List Lk) (cs:List Sc) (g:CO 20 [.sl (aV e) e.length c,.agg [.sl (dJ ls) ls.length d,.sl (dF cs) cs.length f]] (.ret (.nilS))) (h:CO 47 [ω 11] (.ret (.agg [.bool false,.str [],.str [],ω 11]))):CO 22 [.sl (aV e) e.length c,.agg [.sl (dJ ls) ls.length d,.sl (dF cs) cs.length f]] (.ret (.agg [.bool false,.str [],.str [],ω 11])):=pK [] 1 1 (.n 8 .nil) (.c h (.c g .nil))
theorem uG:CO 48 [ω 0] (.ret (Ω false [] [1])):=sJ uF (by kernel_rfl)
theorem TC (E:eU) (m k r:Bool) (v:E.r33) (y:Nd) (M:y.sm) {ar:List Ro} (D:b_ (fK ar.length++ [y])=0) (K:∀ x ∈ ar,x.e=0→x.a.length<2^33∧x.d.length<2^33):
  CO 16 [.agg (nI y),.sl (xy ar) ar.length r,zG E m k] (.ret (eF (mG E y (ar.map Aq)))):=by
 have A:∀ x ∈ fK ar.length++ [y],x.sm:=fun x F=>(List.mem_append.1 F).elim (Qo _ x) (fun h=>by rw [Xzg] at h;exact h ▸ M)
 have f:=Ak (fK ar.length++ [y]) true A;have j:∀ x ∈ ar,CO 49 [.agg [.bool x.n,.str x.a,.str x.d,ω x.e]] (.ret (eF (Aq x))):=fun x F=>xA x.n x.a x.d x.e (K x F)
 have ok:∀ x:Ro,(Aq x).ok:=fun x=>yS _ _ _ _
 have zT:∀ o:Oq,o.e=0→lit false (!(o.e==((0:Nat):Int)))=true:=fun o h=>by rw [h];rfl
 have G:∀ o:Oq,¬ o.e=0→lit true (!(o.e==((0:Nat):Int)))=true:=fun o h=>by rw [show (o.e==((0:Nat):Int))=false from beq_eq_false_iff_ne.2 h];rfl
 have i:∀ {p:Prop} [Decidable p],¬ p→lit false (decide p)=true:=fun h=>aN (Yq1 h)
 rw [D] at f;have O:=(kw D).1 y (by simp);obtain ⟨V,w⟩:=ry O;have I:=JF O;have d:=acx D;have U:=wR y.op;have t:lit false (!((0:Int)==((0:Nat):Int)))=true:=rfl
 match ar,f,j,d with
 | [],f,j,d=>
  have N:y.op≤8:=by
   unfold dD at d;split at d
   ·cases d
   ·split at d
    ·cases d
    ·split at d
     ·cases d
     ·omega
  unfold mG;by_cases h4:y.op≤4
  ·rw [if_pos h4];exact afy y _ m k r 0 _ _ (aK (Yq0 h4)) t f (Xd _ _ _ M)
  ·rw [if_neg h4,if_pos N];exact afz y _ m k r 0 _ _ (aK (Yq0 N)) (i h4) t f (OL y.op y.name E.ls (E.qs.map Sq.c) m k v.ls v.lk)
 | [a],f,j,d=>
  have B:20≤y.op:=by
   unfold dD at d;split at d
   ·cases d
   ·split at d
    ·cases d
    ·split at d
     ·omega
     ·cases d
  have g:lit false (y.op==((15:Nat):Int))=true:=by rw [show (y.op==((15:Nat):Int))=false from beq_eq_false_iff_ne.2 (by omega)];rfl
  have n:=j a (by simp);unfold mG;rw [if_neg (by omega),if_neg (by omega)];show CO 16 _ (.ret (eF (if (Aq a).e=0 then _ else _)));by_cases za:(Aq a).e=0
  ·rw [if_pos za];obtain ⟨q,e,z,C⟩:=zi (ok a) za;rw [e] at n ⊢;exact afB y a _ (.val q) m k r 0 _ _ rfl g (i (by omega)) (i (by omega)) t uG n f (OM E y m k ⟨B,w⟩ I z C v)
  ·rw [if_neg za];exact afA y a _ m k r 0 _ _ (G _ za) g (i (by omega)) (i (by omega)) t uG n f
 | [a,b],f,j,d=>
  have P:(9≤y.op∧y.op≤14)∨(16≤y.op∧y.op≤19):=by
   unfold dD at d;split at d
   ·cases d
   ·split at d
    ·omega
    ·split at d<;>cases d
  have g:lit false (y.op==((15:Nat):Int))=true:=by rw [show (y.op==((15:Nat):Int))=false from beq_eq_false_iff_ne.2 (by omega)];rfl
  have n:=j a (by simp);have u:=j b (by simp);unfold mG;rw [if_neg (by omega),if_neg (by omega)];show CO 16 _ (.ret (eF (if (Aq a).e=0 then (if (Aq b).e=0 then _ else _) else _)));by_cases za:(Aq a).e=0
  ·rw [if_pos za];by_cases zb:(Aq b).e=0
   ·rw [if_pos zb];obtain ⟨p,Q,S,R⟩:=zi (ok a) za;obtain ⟨q,eq,z,C⟩:=zi (ok b) zb;rw [Q] at n ⊢;rw [eq] at u ⊢;exact afE y a b _ (.val p) (.val q) m k r 0 _ _ rfl rfl g (i (by omega)) (i (by omega)) t uG n uG u f (Xj P S z R C)
   ·rw [if_neg zb];exact afD y a b _ _ m k r 0 _ _ (G _ zb) (zT _ za) g (i (by omega)) (i (by omega)) t uG n uG u f
  ·rw [if_neg za];exact afC y a b _ _ m k r 0 _ _ (G _ za) g (i (by omega)) (i (by omega)) t uG n uG u f
 | [a,b,c],f,j,d=>
  have J:y.op=15:=by
   unfold dD at d;split at d
   ·assumption
   ·split at d
    ·cases d
    ·split at d<;>cases d
  have n:=j a (by simp);have u:=j b (by simp);have T:=j c (by simp);unfold mG;rw [if_neg (by omega),if_neg (by omega)];exact afF y a b c _ _ _ _ m k r 0 _ _ (aK (by rw [J];rfl)) (i (by omega)) (i (by omega)) t uG n uG u uG T f (OG _ _ _ true)
 |_::_::_::_::_,f,j,d=>simp only [μ] at d;omega
theorem UM {y:Nd} {k:Nat} (c:aI y=0) (e:k=dD y.op):b_ (fK k++ [y])=0:=by
 have d:=wR y.op;unfold b_;rw [if_neg (by simp [fK];omega),DJ];simp only [je];rw [if_pos c,if_neg (by omega)];simp only;rw [if_pos (by omega)]
theorem aaV {E:eU} (g:E.r33) (e f c:Bool) {y:Nd} (i:aI y=0) (j:y.sm) {l:List Oq} (n:l.length=dD y.op) (d:∀ o ∈ l,o.ok):
  CO 16 [.agg (nI y),.sl (dI l) l.length c,zG E e f] (.ret (eF (mG E y l))):=by
 have h:=TC E e f c g y j (ar:=l.map TY) (UM i (by rw [Xxt];exact n)) (by
  intro x k _;obtain ⟨o,m,rfl⟩:=List.mem_map.1 k;have:=aeN (d o m);exact ⟨χ this.1 (by decide),χ this.2 (by decide)⟩)
 rw [age,XQ d,Xxt] at h;exact h
def rtO (os:List Oq):AV:=match os with| []=> .nilS|_::_=> .ref 1 0 0 os.length
def rtB (os:List Oq):Hp:=match os with| []=> []|_::_=> [(1,⟨dI os,0,false,0,4,true⟩)]
abbrev rtS (E:eU) (nl ns ne:Bool) (e:List Nd) (A:List (List Nat)) (os:List Oq):St:=⟨[(0,.sl (aV e) e.length ne),(3,.ptr 0 0 0),(5,.sl (dE A) A.length true),(7,rtO os),(8,ω (os.length:Int))],[(0,⟨[.sl (dJ E.ls) E.ls.length nl,.sl (dF (E.qs.map Sq.c)) (E.qs.map Sq.c).length ns],0,false,0,0,true⟩)]++rtB os,.dead,[]⟩
def rtE (os:List Oq):St:=match os with| []=> ⟨[(7,.nilS)],[],.dead,[]⟩|_::_=> ⟨[(7,.ref 0 0 0 os.length)],[(0,⟨dI os,0,false,0,4,true⟩)],.dead,[]⟩
theorem Xn (E:eU) (f g d:Bool) (e:List Nd) (A:List (List Nat)) (c:List Oq) (o:Oq):rtS E f g d e A (c++ [o])=⟨[(0,.sl (aV e) e.length d),(3,.ptr 0 0 0),(5,.sl (dE A) A.length true),(7,.ref 1 0 0 (c.length+1)),(8,ω ((c.length+1:Nat):Int))],[(0,⟨[.sl (dJ E.ls) E.ls.length f,.sl (dF (E.qs.map Sq.c)) (E.qs.map Sq.c).length g],0,false,0,0,true⟩),(1,⟨dI (c++ [o]),0,false,0,4,true⟩)],.dead,[]⟩:=by
 cases c with
 |nil=>rfl
 |cons a r=>
  show (⟨[(0,_),(3,_),(5,_),(7,.ref 1 0 0 (a::r++ [o]).length),(8,ω (((a::r++ [o]).length:Nat):Int))],_,_,_⟩:St)=_;rw [show (a::r++ [o]).length=(a::r).length+1 from θ];rfl
theorem Fj (E:eU) (f g d:Bool) (e:List Nd) (A:List (List Nat)) {c:List Oq} (h:0<c.length):rtS E f g d e A c=⟨[(0,.sl (aV e) e.length d),(3,.ptr 0 0 0),(5,.sl (dE A) A.length true),(7,.ref 1 0 0 c.length),(8,ω (c.length:Int))],[(0,⟨[.sl (dJ E.ls) E.ls.length f,.sl (dF (E.qs.map Sq.c)) (E.qs.map Sq.c).length g],0,false,0,0,true⟩),(1,⟨dI c,0,false,0,4,true⟩)],.dead,[]⟩:=by
 cases c with
 |nil=>simp at h
 |cons a r=>rfl
theorem Nq {A:List (List Nat)} {k:Nat} (h:k<A.length):ε (δ (k:Int)*1) (dE A)= [Np (A.getD k [])]++dE (A.drop (k+1)):=by
 unfold dE;rw [aB,Nat.mul_one,← List.map_drop,Xxp h,ο,ξ h];rfl
theorem aa6 {nt:Nat} (G:57≤nt) (E:eU) (z y C:Bool) {e:List Nd} (hE:E.r33) (hc:b_ e=0) (X:∀ x ∈ e,x.sm):∀ (r p:List Nd) (c:List Oq),e=p++r→c.length=p.length→(∀ o ∈ c,o.ok)→
  az prog ap [] nt (af 0 (ah f20)) (fun _=> .exit 0) (rtS E z y C e (bF e)) rtE c (trF E (bF e) r c):=by
 obtain ⟨hw,h60,hpos⟩:=kw hc;obtain ⟨hal,V⟩:=rF hc;intro r
 induction r with
 |nil=>
  intro p c hp m F;rw [Γ] at hp;subst hp;cases c with
  |nil=>exact .done (aa8 z y C 0 e (bF e) E.ls (E.qs.map Sq.c) G (aN (Yq1 (by simp at m;omega))))
  |cons a r=>exact .done (afI z y C (a::r).length e (bF e) (a::r) E.ls (E.qs.map Sq.c) G (aN (Yq1 (by omega))))
 | cons x r ih=>
  intro p c hp m F;have N:c.length<e.length:=by rw [hp,m];simp
  have I:e[c.length]=x:=by subst hp;simp [m]
  have P:x ∈ e:=by rw [← I];exact Xxb N
  have O:ε (δ (c.length:Int)*5) (aV e)=nI x++aV r:=by subst hp;exact vC m
  obtain ⟨d,g⟩:=V c.length x (by rw [ξ N,I]);have J:=Nq (A:=bF e) (k:=c.length) (by omega);have w:=fun (nn:Bool) (l:List Oq) (Y:l.length=dD x.op) (hk:∀ o ∈ l,o.ok)=>aaV hE z y nn (hw x P) (X x P) Y hk
  have K:∀ j,(c.getD j zO).ok∨c.length≤j:=fun j=>by
   rcases Xq5 j c.length with h|h
   ·left;rw [ο,ξ h];exact F _ (Xxb h)
   ·exact .inr h
  have f:∀ j ∈ (bF e).getD c.length [],(c.getD j zO).ok:=fun j U=>(K j).resolve_right (by have:=g j U;omega)
  have R:∀ l:List Nat,(∀ j ∈ l,(c.getD j zO).ok)→∀ o ∈ c++ [mG E x (l.map fun j=>c.getD j zO)],o.ok:=fun l Y o B=>by
   rcases List.mem_append.1 B with B|B
   ·exact F o B
   ·rw [Xzg] at B;subst B;exact Lh fun o B=>by
     obtain ⟨j,U,rfl⟩:=List.mem_map.1 B;exact Y j U
  have nx:=ih (p++ [x]) (c++ [mG E x (((bF e).getD c.length []).map fun j=>c.getD j zO)]) (by rw [hp];simp) (by simp [m]) (R _ f);refine .next ?_ nx
  rw [Xn];have Q:decide (((0:Nat):Int)≤(c.length:Int))=true:=Yq0 (by omega);have M:decide ((c.length:Int)<(((bF e).length:Nat):Int))=true:=Yq0 (by omega);have v:decide ((c.length:Int)<(e.length:Int))=true:=Yq0 (by omega);have t:=Ci (i:=c.length) (by omega);have T:Xqg (c.length+1) 1099511627776=true:=Xqt (by omega);have S:Xqg (c.length*4) (η (dI c))=true:=Xqt (by rw [pU];exact Δ _);have n:∀ j,j<c.length→decide (((0:Nat):Int)≤(j:Int))=true∧decide ((j:Int)<(c.length:Int))=true:=fun j U=> ⟨Yq0 (by omega),Yq0 (by omega)⟩
  generalize (bF e).getD c.length []=al at*
  have h3:=wR x.op
  match al,d with
  | [],d=>
   have c0:=(w false [] d (by simp)).args (fC.cons (aS.refl _) (fC.cons (aS.nilS false rfl) (fC.cons (aS.refl _) (fC.refl _))));cases c with
   |nil=>exact aa7 x _ z y C 0 e (bF e) E.ls (E.qs.map Sq.c) _ _ G O J t Q v M (aK v) c0
   |cons a q=>exact afH x _ z y C _ e (bF e) (a::q) E.ls (E.qs.map Sq.c) _ _ G O J (kY _ _) t T S Q v M (aK v) c0
  | [i],d=>
   have u:=g i (by simp);rw [Fj _ _ _ _ _ _ (by omega)];exact afJ x _ (c.getD i zO) z y C _ i e (bF e) c E.ls (E.qs.map Sq.c) _ _ _ G O J (gV u) (kY _ _) t T S Q v M (n i u).1 (n i u).2 (aK v) (w true [c.getD i zO] d (by simpa using f i (by simp)))
  | [i,j],d=>
   have u:=g i (by simp);have D:=g j (by simp);rw [Fj _ _ _ _ _ _ (by omega)];exact afK x _ (c.getD i zO) (c.getD j zO) z y C _ i j e (bF e) c E.ls (E.qs.map Sq.c) _ _ _ _ G O J (gV u) (gV D) (kY _ _) t T S Q v M (n j D).1 (n j D).2 (n i u).1 (n i u).2 (aK v) (w true [c.getD i zO,c.getD j zO] d (by
    intro o m;simp at m;rcases m with rfl|rfl
    ·exact f i (by simp)
    ·exact f j (by simp)))
  | [i,j,h],d=>
   have u:=g i (by simp);have D:=g j (by simp);have Z:=g h (by simp);rw [Fj _ _ _ _ _ _ (by omega)];exact afL x _ (c.getD i zO) (c.getD j zO) (c.getD h zO) z y C _ i j h e (bF e) c E.ls (E.qs.map Sq.c) _ _ _ _ _ G O J (gV u) (gV D) (gV Z) (kY _ _) t T S Q v M (n h Z).1 (n h Z).2 (n j D).1 (n j D).2 (n i u).1 (n i u).2 (aK v) (w true [c.getD i zO,c.getD j zO,c.getD h zO] d (by
    intro o m;simp at m;rcases m with rfl|rfl|rfl
    ·exact f i (by simp)
    ·exact f j (by simp)
    ·exact f h (by simp)))
  |_::_::_::_::_,d=>simp only [μ] at d;omega
theorem H9 (E:eU) (d f c:Bool) {e:List Nd} (n:E.r33) (i:b_ e=0) (g:∀ x ∈ e,x.sm):CO 20 [.sl (aV e) e.length c,zG E d f] (.ret (.own (dI (bK E e)) (bK E e).length 4)):=by
 have m:(bK E e).length=e.length:=by unfold bK;rw [vS];simp
 have k:=(kw i).2.2;have j:=(rF i).1;have o:∀ nt,57≤nt→az prog ap [] nt (af 0 (ah f20)) (fun _=> .exit 0) (rtS E d f c e (bF e)) rtE [] (bK E e):=fun nt q=>aa6 q E d f c n i g e [] [] rfl rfl (by simp)
 have p:CO 56 [.sl (aV e) e.length c] (.ret (.tup [.sl (dE (bF e)) (bF e).length true,.bool true])):=by rw [j];exact WY e c g i
 have u:=az.blk (id:=0) (e':= .normal) (s:=⟨[(0,.sl (aV e) e.length c),(1,zG E d f),(3,.ptr 0 0 0),(4,.nilS),(5,.sl (dE (bF e)) (bF e).length true),(6,.bool true),(7,.nilS),(8,ω 0),(9,.dead),(10,.dead),(17,.bool false),(21,.dead),(30,.dead)],[(0,⟨[.sl (dJ E.ls) E.ls.length d,.sl (dF (E.qs.map Sq.c)) (E.qs.map Sq.c).length f],0,false,0,0,true⟩)],.dead,[]⟩) (s':=⟨[(7,.ref 0 0 0 (bK E e).length)],[(0,⟨dI (bK E e),0,false,0,4,true⟩)],.dead,[]⟩) o (by simp) rfl (aH.of ⟨rfl,rfl,rfl,rfl,rfl,trivial⟩) (by
  generalize bK E e=t at m;cases t with
  |nil=>simp at m;omega
  |cons a r=>exact aH.refl _)
 have h:=afN d f c e (bF e) (bK E e) E.ls (E.qs.map Sq.c) p u;rw [Ξ (by rw [pU];exact Δ _)] at h;exact h
theorem Xc (E:eU) (g h d:Bool) {e:List Nd} (k:E.r33) (c:b_ e=0) (f:∀ x ∈ e,x.sm):CO 22 [.sl (aV e) e.length d,zG E g h] (.ret (eF (Bg E e))):=by
 unfold Bg;rw [if_pos c];have m:=H9 E g h d k c f;have p:(bK E e).length=e.length:=by unfold bK;rw [vS];simp
 obtain ⟨_,n,j⟩:=kw c;have i:(bK E e).length - 1<(bK E e).length:=by omega
 have hd:=gV i;have o:(bK E e).getLastD (.err 11)=(bK E e).getD ((bK E e).length - 1) zO:=by
  rw [List.getLastD_eq_getLast?,List.getLast?_eq_getElem?,ο,ξ i];rfl
 rw [o];generalize bK E e=t at*
 exact akm _ g h d (t.length - 1) e t E.ls (E.qs.map Sq.c) _ hd (by
  congr 1;rw [show (t.length:Int) - ((1:Nat):Int)=((t.length - 1:Nat):Int) by omega];exact aO (by omega)) (Yq0 (by omega)) (Yq0 (by omega)) (by rw [show ((t.length:Int)==((0:Nat):Int))=false from beq_eq_false_iff_ne.2 (by omega)];rfl) m
theorem NR (l:List Oq) (h:l.length<2^40):CO 18 [.sl (ν (l.length*4) (dI l)) l.length true,.sl (ν (l.length*4) (dI l)) l.length true] (.ret (.bool true)):=by
 rw [Ξ (by rw [pU];exact Δ _)];have c:=Ap l l true true h;rw [Yq0 rfl,G5] at c;exact c
theorem ala (ls d:List Lk) (cs c:List Sc) (n m:Nat) (i:ω (if ((20:Nat):Int)<(ls.length:Int) then ((20:Nat):Int) else (ls.length:Int))=ω (n:Int)) (j:Yqi (ν ((δ (n:Int))*6) (dJ ls)) ((δ (n:Int)) - 0) false=Yqi (dJ d) d.length false) (o:ω (if ((5:Nat):Int)<(cs.length:Int) then ((5:Nat):Int) else (cs.length:Int))=ω (m:Int)) (e:Yqi (ν ((δ (m:Int))*4) (dF cs)) ((δ (m:Int)) - 0) false=Yqi (dF c) c.length false) (k:(decide (((0:Nat):Int)≤(m:Int)))=true) (f:(decide ((m:Int)≤(cs.length:Int)))=true) (h:(decide (((0:Nat):Int)≤(n:Int)))=true) (g:(decide ((n:Int)≤(ls.length:Int)))=true):CO 14 [.agg [.sl (dJ ls) ls.length false,.sl (dF cs) cs.length false]] (.ret (.agg [.sl (dJ d) d.length false,.sl (dF c) c.length false])):=pK [] 0 0 (.k 7 k (.c f (.k 4 h (.c g (.n 2 .nil))))) (.v 17 (.eq e) (.v 16 (.eq o) (.v 9 (.eq j) (.v 8 (.eq i) .nil))))
theorem ai2 (e g:List Nd) (E:eU) (ls:List Lk) (cs:List Sc) (d c:List Oq) (v:Oq) (n:Nat) (f:Bool) (u:ω (if ((70:Nat):Int)<(e.length:Int) then ((70:Nat):Int) else (e.length:Int))=ω (n:Int)) (h:Yqi (ν ((δ (n:Int))*5) (aV e)) ((δ (n:Int)) - 0) false=Yqi (aV g) g.length false) (j:lit true f=true) (r:(decide (((0:Nat):Int)≤(n:Int)))=true) (i:(decide ((n:Int)≤(e.length:Int)))=true) (w:CO 13 [] (.ret (.bool true))) (q:CO 14 [.agg [.sl (dJ ls) ls.length false,.sl (dF cs) cs.length false]] (.ret (.agg [.sl (dJ E.ls) E.ls.length false,.sl (dF (E.qs.map Sq.c)) (E.qs.map Sq.c).length false]))) (k:CO 19 [.sl (aV g) g.length false,.agg [.sl (dJ E.ls) E.ls.length false,.sl (dF (E.qs.map Sq.c)) (E.qs.map Sq.c).length false]] (.ret (.own (dI d) d.length 4))) (m:CO 20 [.sl (aV g) g.length false,.agg [.sl (dJ E.ls) E.ls.length false,.sl (dF (E.qs.map Sq.c)) (E.qs.map Sq.c).length false]] (.ret (.own (dI c) c.length 4))) (t:CO 18 [.sl (ν (d.length*4) (dI d)) d.length true,.sl (ν (c.length*4) (dI c)) c.length true] (.ret (.bool f))) (o:CO 21 [.sl (aV g) g.length false,.agg [.sl (dJ E.ls) E.ls.length false,.sl (dF (E.qs.map Sq.c)) (E.qs.map Sq.c).length false]] (.ret (.agg [.bool v.n,.str v.a,.str v.d,ω v.e]))) (p:CO 22 [.sl (aV g) g.length false,.agg [.sl (dJ E.ls) E.ls.length false,.sl (dF (E.qs.map Sq.c)) (E.qs.map Sq.c).length false]] (.ret (.agg [.bool v.n,.str v.a,.str v.d,ω v.e]))):CO 4 [.sl (aV e) e.length false,.agg [.sl (dJ ls) ls.length false,.sl (dF cs) cs.length false]] (.ret (.bool ((v.n==v.n) && ((v.a==v.a) && ((v.d==v.d) && ((v.e==v.e) && true)))))):=pK [] 2 3 (.k 4 j (.k 9 r (.c i .nil))) (.c p (.c o (.c t (.c m (.c k (.c q (.v 11 (.eq h) (.v 10 (.eq u) (.c w .nil)))))))))
theorem ai1 (e g:List Nd) (E:eU) (ls:List Lk) (cs:List Sc) (v:Oq) (n:Nat) (c:Bool) (r:ω (if ((70:Nat):Int)<(e.length:Int) then ((70:Nat):Int) else (e.length:Int))=ω (n:Int)) (d:Yqi (ν ((δ (n:Int))*5) (aV e)) ((δ (n:Int)) - 0) false=Yqi (aV g) g.length false) (h:lit true c=true) (p:(decide (((0:Nat):Int)≤(n:Int)))=true) (f:(decide ((n:Int)≤(e.length:Int)))=true) (t:CO 13 [] (.ret (.bool true))) (o:CO 14 [.agg [.sl (dJ ls) ls.length false,.sl (dF cs) cs.length false]] (.ret (.agg [.sl (dJ E.ls) E.ls.length false,.sl (dF (E.qs.map Sq.c)) (E.qs.map Sq.c).length false]))) (i:CO 19 [.sl (aV g) g.length false,.agg [.sl (dJ E.ls) E.ls.length false,.sl (dF (E.qs.map Sq.c)) (E.qs.map Sq.c).length false]] (.ret (.nilS))) (j:CO 20 [.sl (aV g) g.length false,.agg [.sl (dJ E.ls) E.ls.length false,.sl (dF (E.qs.map Sq.c)) (E.qs.map Sq.c).length false]] (.ret (.nilS))) (q:CO 18 [.nilS,.nilS] (.ret (.bool c))) (k:CO 21 [.sl (aV g) g.length false,.agg [.sl (dJ E.ls) E.ls.length false,.sl (dF (E.qs.map Sq.c)) (E.qs.map Sq.c).length false]] (.ret (.agg [.bool v.n,.str v.a,.str v.d,ω v.e]))) (m:CO 22 [.sl (aV g) g.length false,.agg [.sl (dJ E.ls) E.ls.length false,.sl (dF (E.qs.map Sq.c)) (E.qs.map Sq.c).length false]] (.ret (.agg [.bool v.n,.str v.a,.str v.d,ω v.e]))):CO 4 [.sl (aV e) e.length false,.agg [.sl (dJ ls) ls.length false,.sl (dF cs) cs.length false]] (.ret (.bool ((v.n==v.n) && ((v.a==v.a) && ((v.d==v.d) && ((v.e==v.e) && true)))))):=pK [] 2 3 (.k 4 h (.k 9 p (.c f .nil))) (.c m (.c k (.c q (.c j (.c i (.c o (.v 11 (.eq d) (.v 10 (.eq r) (.c t .nil)))))))))
theorem Zl {α:Type} (f:α→List AV) (m:Nat) (c:∀ a,(f a).length=m) (l:List α) (k:Nat):ν (k*m) (l.flatMap f)=(l.take k).flatMap f:=by
 rcases Xq5 k l.length with h|h
 ·have d:l.flatMap f=(l.take k).flatMap f++(l.drop k).flatMap f:=by rw [← Xjf,List.take_append_drop]
  have e:((l.take k).flatMap f).length=k*m:=by rw [ul f m c,Xqz,Xx1 (by omega)]
  rw [d];generalize (l.take k).flatMap f=P at*
  generalize (l.drop k).flatMap f=Q at*
  rw [List.take_append,Ξ (by omega),show k*m - P.length=0 by omega,List.take_zero,Γ]
 ·rw [Ξ h];refine Ξ ?_;rw [ul f m c];exact Nat.mul_le_mul_right _ h
theorem JB {α:Type} (f:α→List AV) (m:Nat) (c:∀ a,(f a).length=m) (l:List α) {k:Nat} (d:k≤l.length):Yqi (ν ((δ (k:Int))*m) (l.flatMap f)) ((δ (k:Int)) - 0) false=Yqi ((l.take k).flatMap f) (l.take k).length false:=by
 rw [aB,Nat.sub_zero,Zl f m c,Xqz,Xx1 d]
theorem Oo (c n:Nat):ω (if (c:Int)<(n:Int) then (c:Int) else (n:Int))=ω ((min c n:Nat):Int):=by
 congr 1;split<;>omega
def lm (E:eU):eU:=⟨E.ls.take (min 20 E.ls.length),E.qs.take (min 5 (E.qs.map Sq.c).length)⟩
theorem nnK (k:Nat):(decide (((0:Nat):Int)≤(k:Int)))=true:=Yq0 (by omega)
theorem TN (E:eU):CO 14 [zG E false false] (.ret (zG (lm E) false false)):=by
 have h:=ala E.ls (E.ls.take (min 20 E.ls.length)) (E.qs.map Sq.c) ((E.qs.map Sq.c).take (min 5 (E.qs.map Sq.c).length)) _ _ (Oo 20 _) (JB V5 6 (fun _=>rfl) E.ls (Xv1 _ _)) (Oo 5 _) (JB MX 4 (fun _=>rfl) (E.qs.map Sq.c) (Xv1 _ _)) (nnK _) (Yq0 (by omega)) (nnK _) (Yq0 (by omega));rw [← List.map_take] at h;exact h
structure eU.raw (E:eU) (b:Nat):Prop where
 ls:E.ls.length≤b
 qs:E.qs.length≤b
 lk:∀ x ∈ E.ls,x.a.length≤b∧x.d.length≤b
 sq:∀ s ∈ E.qs,s.l.length≤b∧∀ x ∈ s.l,(x.fa.length≤b∧x.fd.length≤b)∧x.ra.length≤b∧x.rd.length≤b
theorem eU.raw.small {E:eU} {b:Nat} (h:E.raw b):(lm E).raw b where
 ls:=by show (ν _ _).length≤b;rw [Xqz];have:=h.ls;omega
 qs:=by show (ν _ _).length≤b;rw [Xqz];have:=h.qs;omega
 lk x hx:=h.lk x (Xxl hx)
 sq x hx:=h.sq x (Xxl hx)
theorem eU.raw.sm {E:eU} (h:E.raw 1048576):E.sm where
 ls:=χ h.ls (by decide)
 qs:=χ h.qs (by decide)
 lk x c:=⟨χ (h.lk x c).1 (by decide),χ (h.lk x c).2 (by decide)⟩
 sq s hs:=⟨χ (h.sq s hs).1 (by decide),fun x c=> ⟨⟨χ ((h.sq s hs).2 x c).1.1 (by decide),χ ((h.sq s hs).2 x c).1.2 (by decide)⟩,χ ((h.sq s hs).2 x c).2.1 (by decide),χ ((h.sq s hs).2 x c).2.2 (by decide)⟩⟩
theorem eU.raw.r33 {E:eU} (h:E.raw 1048576):E.r33 where
 ls:=h.sm.ls
 qs:=h.sm.qs
 lk x hx _:=⟨χ (h.lk x hx).1 (by decide),χ (h.lk x hx).2 (by decide)⟩
 sq:=h.sm.sq
theorem H8 (E:eU) (f g c:Bool) {e:List Nd} (h:b_ e ≠ 0) (d:∀ x ∈ e,x.sm):CO 20 [.sl (aV e) e.length c,zG E f g] (.ret .nilS):=
 afM f g c e E.ls (E.qs.map Sq.c) (aeU e c (b_ e) [] 0 (by rw [show (b_ e==((0:Nat):Int))=false from beq_eq_false_iff_ne.2 h];rfl) (Ak e c d))
theorem Tu (E:eU) (f g d:Bool) {e:List Nd} (h:E.r33) (c:∀ x ∈ e,x.sm):CO 22 [.sl (aV e) e.length d,zG E f g] (.ret (eF (Bg E e))):=by
 by_cases hc:b_ e=0
 ·exact Xc E f g d h hc c
 ·unfold Bg;rw [if_neg hc];exact akl f g d e E.ls (E.qs.map Sq.c) (H8 E f g d hc c) (jQ 11)
theorem Si:CO 18 [.nilS,.nilS] (.ret (.bool true)):=(Ap [] [] false false (by decide)).args (fC.cons (aS.nilS false rfl) (fC.cons (aS.nilS false rfl) (fC.refl _)))
theorem alQ (e:List Nd) (E:eU) (p:∀ x ∈ e,x.sm) (f:E.raw 1048576):CO 4 [.sl (aV e) e.length false,zG E false false] (.ret (.bool true)):=by
 have o:=f.small.sm;have i:=f.small.r33;have cs:=TN E;have k:=Oo 70 e.length;have m:=JB nI 5 (fun _=>rfl) e (Xv1 70 e.length);have c:∀ x ∈ e.take (min 70 e.length),x.sm:=fun x q=>p x (Xxl q)
 have j:(e.take (min 70 e.length)).length≤70:=by rw [Xqz];omega
 have d:(decide (((min 70 e.length:Nat):Int)≤(e.length:Int)))=true:=Yq0 (by omega);generalize e.take (min 70 e.length)=g at*
 generalize min 70 e.length=n at*
 have u:=gU (lm E) false false false (e:=g) o c;have w:=Tu (lm E) false false false (e:=g) i c;by_cases hc:b_ g=0
 ·have h:=ai2 e g (lm E) E.ls (E.qs.map Sq.c) (bK (lm E) g) (bK (lm E) g) (Bg (lm E) g) n true k m rfl (nnK _) d H_ cs (zJ (lm E) false false false o hc c) (H9 (lm E) false false false i hc c) (NR _ (by rw [O7];omega)) u w;rw [seO] at h;exact h
 ·have h:=ai1 e g (lm E) E.ls (E.qs.map Sq.c) (Bg (lm E) g) n true k m rfl (nnK _) d H_ cs (G6 (lm E) false false false hc c) (H8 (lm E) false false false hc c) Si u w;rw [seO] at h;exact h
end Go.Proofs.Tryz
set_option maxRecDepth 100000
set_option linter.unusedVariables false
open Go AM Go.ChangeShapes Go.WideShapes Go.ChangeAt Go.RowKit
namespace Go.Proofs.Tryz
open Go.Proofs.YtdmfgmmooalfnaaGreatDoor
section
variable {H:Type}
theorem agX (d:DataW H):1≤Rows.uptoBulk d:=by
 cases d with
 |lit x=>cases x<;>simp [Rows.uptoBulk]
 |_=>simp [Rows.uptoBulk]
theorem Dy:∀ {l:List (DataW H)} {d:DataW H},d ∈ l→Rows.uptoBulk d≤Rows.uptoBulkAll l
 |x::r,d,h=>by
  simp only [Rows.uptoBulkAll];rcases List.mem_cons.1 h with rfl|h
  ·omega
  ·have:=Dy h;omega
theorem J5:∀ l:List (DataW H),l.length≤Rows.uptoBulkAll l
 | []=>Nat.zero_le _
 |x::r=>by
  simp only [Rows.uptoBulkAll,μ];have:=J5 r;have:=agX x;omega
theorem aca:agx (Rows.uptoBulk (H:=H)) where
 str s:=by simp only [Rows.uptoBulk];omega
 agg l d h:=by
  simp only [Rows.uptoBulk];have:=Dy h;omega
 slc l r:=by
  simp only [Rows.uptoBulk];exact ⟨fun d h=>by have:=Dy h;omega,by have:=J5 l;omega⟩
theorem yH {α:Type} {b:Nat} {ks:List DK} (f:α→List AV) (Q:α→Prop) (d:∀ x,fU b ks x→∃ a,x=f a∧Q a):∀ L:List (List AV),(∀ x ∈ L,fU b ks x)→∃ l:List α,L.flatten=l.flatMap f∧L.length=l.length∧∀ a ∈ l,Q a
 | [],_=> ⟨[],rfl,rfl,fun a h=>by cases h⟩
 |x::L,h=>by
  obtain ⟨a,e,q⟩:=d x (h x (by simp));obtain ⟨l,g,j,i⟩:=yH f Q d L fun y c=>h y (by simp [c])
  refine ⟨a::l,by rw [List.flatten_cons,Xjg,e,g],by simp [j],fun y c=> ?_⟩;rcases List.mem_cons.1 c with rfl|c
  ·exact q
  ·exact i y c
abbrev kN:List DK:= [.int .i64,.bool,.str,.str,.str]
abbrev kL:List DK:= [.int .i64,.str,.bool,.str,.str,.int .i64]
abbrev kB:List DK:= [.bool,.str,.str,.bool,.str,.str]
abbrev kS:List DK:= [.str,.int .i64,.int .i64,.slc kB]
theorem aiD {b:Nat} {c:List AV} (h:fU b kN c):∃ y:Nd,c=nI y∧y.num.length≤b∧y.den.length≤b:=by
 cases h with|int h=>cases h with|bool h=>cases h with|str h1 h=>cases h with|str h2 h=>cases h with|str h3 h=>cases h with|nil=>exact ⟨⟨_,_,_,_,_⟩,rfl,h1,h2⟩
theorem aii {b:Nat} {c:List AV} (h:fU b kL c):∃ y:Lk,c=V5 y∧y.a.length≤b∧y.d.length≤b:=by
 cases h with|int h=>cases h with|str h0 h=>cases h with|bool h=>cases h with|str h1 h=>cases h with|str h2 h=>cases h with|int h=>cases h with|nil=>exact ⟨⟨_,_,_,_,_,_⟩,rfl,h1,h2⟩
theorem agW {b:Nat} {c:List AV} (h:fU b kB c):∃ y:Br,c=Io y∧(y.fa.length≤b∧y.fd.length≤b)∧y.ra.length≤b∧y.rd.length≤b:=by
 cases h with|bool h=>cases h with|str h1 h=>cases h with|str h2 h=>cases h with|bool h=>cases h with|str h3 h=>cases h with|str h4 h=>cases h with|nil=>exact ⟨⟨_,_,_,_,_,_⟩,rfl,⟨h1,h2⟩,h3,h4⟩
theorem alb {b:Nat} {e:List AV} (h:fU b kS e):∃ s:Sq,e=MX s.c∧s.l.length≤b∧∀ x ∈ s.l,(x.fa.length≤b∧x.fd.length≤b)∧x.ra.length≤b∧x.rd.length≤b:=by
 cases h with|str h0 h=>cases h with|int h=>cases h with|int h=>cases h with|slc c hl h=>cases h with|nil=>
  obtain ⟨l,f,d,g⟩:=yH Io (fun y:Br=>(y.fa.length≤b∧y.fd.length≤b)∧y.ra.length≤b∧y.rd.length≤b) (fun x c=>agW c) _ c;rw [d] at hl;rw [f,d];exact ⟨⟨_,_,_,l⟩,rfl,hl,g⟩
theorem adT {b:Nat} {e:List AV} (h:fU b [.slc kL,.slc kS] e):∃ E:eU,AV.agg e=zG E false false∧E.raw b:=by
 cases h with|slc h1 l1 h=>cases h with|slc h2 l2 h=>cases h with|nil=>
  obtain ⟨ls,i,d,j⟩:=yH V5 (fun y:Lk=>y.a.length≤b∧y.d.length≤b) (fun x c=>aii c) _ h1;obtain ⟨qs,k,f,g⟩:=yH (fun s:Sq=>MX s.c) (fun s=>s.l.length≤b∧∀ x ∈ s.l,(x.fa.length≤b∧x.fd.length≤b)∧x.ra.length≤b∧x.rd.length≤b) (fun x c=>alb c) _ h2;refine ⟨⟨ls,qs⟩, ?_,⟨by rw [← d];exact l1,by rw [← f];exact l2,j,g⟩⟩;rw [i,d,k,f];unfold zG dF;rw [List.flatMap_map,Xxt];rfl
theorem ajZ {E:eU} {b c:Nat} (d:b≤c) (h:E.raw b):E.raw c where
 ls:=Xq1 h.ls d
 qs:=Xq1 h.qs d
 lk x e:=⟨Xq1 (h.lk x e).1 d,Xq1 (h.lk x e).2 d⟩
 sq s hs:=⟨Xq1 (h.sq s hs).1 d,fun x e=> ⟨⟨Xq1 ((h.sq s hs).2 x e).1.1 d,Xq1 ((h.sq s hs).2 x e).1.2 d⟩,Xq1 ((h.sq s hs).2 x e).2.1 d,Xq1 ((h.sq s hs).2 x e).2.2 d⟩⟩
variable {enc:TypeId × Value→H} {W:World} {base:Nat}
def aif:Option TypeDesc→Bool|some (.struct _)=>true|_=>false
theorem aag {t:TypeId} {n:Nat} {ks:List DK} (c:aif (prog.underlying t)=true) (j:DW prog n t=some ks) {v:Value} {d:DataW H} {p:List MemPlace} (i:Value.okWide prog W .any base t v) (h:DataW.Trod enc prog W 0 (fun _=>true) true t v d p):
  ∃ g,fU (Rows.uptoBulk d) ks g∧PR (jq W) (.agg g) v:=by
 obtain ⟨f,c⟩:∃ f,prog.underlying t=some (.struct f):=by
  unfold aif at c;split at c
  ·rename_i f h;exact ⟨f,h⟩
  ·cases c
 obtain ⟨e,h⟩:=h;obtain ⟨g,k,m,_⟩:=GV aca (fun _=>rfl) n t ks j e _ _ h;refine ⟨g,k, ?_⟩;simp only [Value.okWide,c] at i;obtain ⟨cs,rfl,_⟩:=i;rw [PR];exact ⟨cs.toList,by simp,m⟩
theorem aaf {t e:TypeId} {n:Nat} {ks:List DK} (k:prog.underlying t=some (.slice e)) (i:DW prog n t=some [.slc ks]) {v:Value} {d:DataW H} {p:List MemPlace} (j:Value.okWide prog W .any base t v) (h:DataW.Trod enc prog W 0 (fun _=>true) true t v d p):
  ∃ L:List (List AV),(∀ x ∈ L,fU (Rows.uptoBulk d) ks x)∧PR (jq W) (.sl L.flatten L.length false) v:=by
 obtain ⟨c,h⟩:=h;obtain ⟨m,f,g,_⟩:=GV aca (fun _=>rfl) n t _ i c _ _ h;rw [MB k j] at g;cases f with|slc hx hl f=>cases f with|nil=>
  simp only [dY,and_true] at g;exact ⟨_,hx,g⟩
theorem aiY {v:Value} {d:DataW H} {p:List MemPlace} (g:Value.okWide prog W .any base 31 v) (h:DataW.Trod enc prog W 0 (fun _=>true) true 31 v d p):
  ∃ E:eU,E.raw (Rows.uptoBulk d)∧PR (jq W) (zG E false false) v:=by
 obtain ⟨j,f,c⟩:=aag (n:=8) (ks:= [.slc kL,.slc kS]) (by kernel_rfl) (by kernel_rfl) g h;obtain ⟨E,e,i⟩:=adT f;rw [e] at c;exact ⟨E,i,c⟩
theorem aiZ {v:Value} {d:DataW H} {p:List MemPlace} (g:Value.okWide prog W .any base 40 v) (h:DataW.Trod enc prog W 0 (fun _=>true) true 40 v d p):
  ∃ l:List Nd,(∀ x ∈ l,x.num.length≤Rows.uptoBulk d∧x.den.length≤Rows.uptoBulk d)∧PR (jq W) (.sl (aV l) l.length false) v:=by
 obtain ⟨L,f,c⟩:=aaf (n:=5) (ks:=kN) (e:=26) (by kernel_rfl) (by kernel_rfl) g h;obtain ⟨l,k,i,m⟩:=yH nI (fun y:Nd=>y.num.length≤Rows.uptoBulk d∧y.den.length≤Rows.uptoBulk d) (fun x j=>aiD j) _ f;rw [k,i] at c;exact ⟨l,m,c⟩
end
end Go.Proofs.Tryz
