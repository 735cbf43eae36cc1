/- Contracts of functions that the law reaches, each by its own hypotheses; joined by a program of mine. -/
import Derived.Test.YtcjindbblhcopaaGreatDoorC2
import Derived.Test.YtcjindbblhcopaaGreatDoorC1
import Derived.RangeFuncBox
import Derived.RangeFuncCalls
import Derived.RangeFuncLeaves
import Derived.Shelf.Abstract
import Derived.WalkKit
import Derived.OwnWalkIn
import Derived.TacticsInMore
import Derived.LoopNIn
import Derived.LoopIn
set_option linter.unusedSimpArgs false
set_option linter.unusedVariables false
set_option maxRecDepth 100000
open Go AM
open List renaming take→μ,drop→ε,map_cons→Xqf,append_assoc→Ψ,length→ζ,length_set→Xqk,length_append→θ,length_singleton→ο,length_cons→ν,getElem?_cons_zero→Xvo,replicate→κ,getD_eq_getElem?_getD→ξ,getElem?_eq_getElem→π,getElem_mem→Xjr,getElem?_eq_none→Xqx,append_nil→Γ,length_replicate→Xq8,drop_of_length_le→Xxj,drop_eq_getElem_cons→Xxb,any_cons→Xz1,all_cons→Xx2,cons_append→Xq1,nil_append→Xqc,length_map→Xxd,range→Xq2,prefix_refl→Xk2,prefix_append→Xvc,size_toArray→Xx8,length_nil→Δ,push_toArray→Xz2,append_toArray→Xzn,any_nil→Yxm,drop_zero→Xx7,take_length→Xqy,headD→η,headD_cons→Xje,tail_cons→Xzf,replicate_zero→Xwa,replicate_succ→Xxe,singleton_append→Xxg,replicate_append_replicate→Xwp
open Int renaming toNat→δ
open Nat renaming zero_add→χ,mul_one→υ,ble→Ξ,ble_eq→Xqn,lt_trans→Xxo,le_refl→Θ,reduceAdd→Xw1,reduceSub→Xw2,zero_le→Xxq,mod_lt→Xqw,mod_eq_of_lt→φ,lt_or_ge→Xq9,add_comm→Xx9,lt_of_lt_of_le→Xqg,pow_mul→Xja,pow_le_pow_right→Xqj,lt_of_le_of_lt→Xq7,mul_add→Xxa,pow_succ→Xq3,mul_le_mul→Xwr,mul_comm→Xqa,mul_assoc→Xqp,mul_left_comm→Xwl,add_mul→Xxp
open IntKind renaming wrap→γ
open Bool renaming and_eq_true→σ,not_eq_true→Xk1,or_self→Yxi,true_and→Xxw,false_and→Xxy,false_or→Xzd,and_true→Xzc,and_false→Xzr,true_or→Xvb,or_false→Yq6
open AV renaming int→Xxr,toInt→τ
namespace Go.Proofs.Tryz
abbrev zcc3_0 : List AV := [ω 9,ω 13,ω 14,ω 21,ω 22,ω 23,ω 10,ω 11,ω 12,ω 15,ω 24]
def h_ (e:List Nd) (ne:Bool) (A:List (List Nat)) (sc:List Sc) (ns:Bool) (op:Int) (name:List UInt8) (p:Nat × List Nat):St:=⟨[(0,.sl (aH e) e.length ne),(2,ω op),(3,.str name),(11,.ptr 0 0 0),(12,.mp zcc3_0 [.fn 39 [] [],.fn 39 [] [],.fn 39 [] [],.fn 39 [] [],.fn 39 [] [],.fn 39 [] [],.fn 63 [] [],.fn 64 [] [],.fn 65 [] [],.fn 66 [] [],.fn 67 [] []]),(41,.sl (aH e) e.length ne),(42,ω (e.length:Int)),(43,ω (p.1:Int))],[(0,⟨[.sl (aH e) e.length ne,.sl (bC A) A.length true,.sl (bT sc) sc.length ns,.ref 1 0 0 p.2.length],0,false,0,0,false⟩),(1,⟨(ah p.2),0,false,0,1,true⟩)],.dead,[]⟩
def WV (e:List Nd) (ne:Bool) (A:List (List Nat)) (sc:List Sc) (ns:Bool) (ss:List Nat):St:=⟨[(0,.sl (aH e) e.length ne),(11,.ptr 0 0 0)],[(0,⟨[.sl (aH e) e.length ne,.sl (bC A) A.length true,.sl (bT sc) sc.length ns,.ref 1 0 0 ss.length],0,false,0,0,false⟩),(1,⟨(ah ss),0,false,0,1,true⟩)],.dead,[]⟩
def fM (ck:Sc→Int) (up:Sc→Bool) (e:List Nd) (A:List (List Nat)) (sc:List Sc) (ss:List Nat) (k:Nat) (x:Nd):Nat:=
 if x.op=9∨x.op=13∨x.op=14∨x.op=21∨x.op=22∨x.op=23 then dZ A ss k else if x.op=10 then dX (eH A ss k 0) (jD (eH A ss k 1)) else if x.op=11 then Ey e A ss k else if x.op=12 then Dv e A ss k else if x.op=15 then IB A ss k else if x.op=24 then Hw ck up x.name sc (eH A ss k 0) else 3
def yX (ck:Sc→Int) (up:Sc→Bool) (e:List Nd) (A:List (List Nat)) (sc:List Sc) (op:Int) (name:List UInt8) (ss:List Nat) (k:Nat) (x:Nd):Nat:=
 cond (x.op==op && x.name==name) 1 (cond (((dZ A ss k:Nat):Int)==((0:Nat):Int)) 0 (fM ck up e A sc ss k x))
theorem uH (e:List Nd) (d:Bool) (A:List (List Nat)) (b:List Sc) (c:Bool) (a:List Nat):([some ⟨[.sl (aH e) e.length d,.sl (bC A) A.length true,.sl (bT b) b.length c,.ref 2 0 0 a.length],0,false,0,0,false⟩,some (sB a)]:List (Option bi))= [some ⟨[.sl (aH e) e.length d,.sl (bC A) A.length true,.sl (bT b) b.length c,.ref 2 0 0 a.length],0,false,0,0,false⟩,some (sB a)]:=rfl
abbrev Ei (o:Int):AV:=KT true (yE zcc3_0 [.fn 39 [] [],.fn 39 [] [],.fn 39 [] [],.fn 39 [] [],.fn 39 [] [],.fn 39 [] [],.fn 63 [] [],.fn 64 [] [],.fn 65 [] [],.fn 66 [] [],.fn 67 [] []] (ω o)) .nilF
theorem aW {a:List Nat} {k v:Nat} (h:k<a.length):μ ((0+(δ (k:Int)))*1) (ah a)++ [ω (v:Int)]++ε (((0+(δ (k:Int)))*1)+1) (ah a)=ah (a.set k v):=by
 rw [aA,χ,υ];unfold ah;rw [← List.map_take,← List.map_drop,List.set_eq_take_append_cons_drop,if_pos h,List.map_append,Xqf,Ψ];rfl
theorem Vy {x:Nd} (h:x.op=9∨x.op=13∨x.op=14∨x.op=21∨x.op=22∨x.op=23):Ei x.op= .tup [.fn 39 [] [],.bool true]:=by rcases x with ⟨o,b,n,d,a⟩;dsimp only at h ⊢;rcases h with h|h|h|h|h|h<;>subst h<;>rfl
theorem VD {x:Nd} (h:x.op=10):Ei x.op= .tup [.fn 63 [] [],.bool true]:=by rcases x with ⟨o,b,n,d,a⟩;dsimp only at h ⊢;subst h;rfl
theorem VB {x:Nd} (h:x.op=11):Ei x.op= .tup [.fn 64 [] [],.bool true]:=by rcases x with ⟨o,b,n,d,a⟩;dsimp only at h ⊢;subst h;rfl
theorem VA {x:Nd} (h:x.op=12):Ei x.op= .tup [.fn 65 [] [],.bool true]:=by rcases x with ⟨o,b,n,d,a⟩;dsimp only at h ⊢;subst h;rfl
theorem Vz {x:Nd} (h:x.op=15):Ei x.op= .tup [.fn 66 [] [],.bool true]:=by rcases x with ⟨o,b,n,d,a⟩;dsimp only at h ⊢;subst h;rfl
theorem P5 {x:Nd} (h:x.op=24):Ei x.op= .tup [.fn 67 [] [],.bool true]:=by rcases x with ⟨o,b,n,d,a⟩;dsimp only at h ⊢;subst h;rfl
theorem VC {x:Nd} (h:¬ ((x.op=9∨x.op=13∨x.op=14∨x.op=21∨x.op=22∨x.op=23)∨(x.op=10)∨(x.op=11)∨(x.op=12)∨(x.op=15)∨(x.op=24))):Ei x.op= .tup [.nilF,.bool false]:=by
 rcases x with ⟨o,b,n,d,f⟩
 dsimp only at h ⊢;have a:∀ c:Int,o ≠ c→(o==c)=false:=fun c e=>beq_eq_false_iff_ne.2 e
 simp only [Ei,yE,PN];rw [a 9 (by intro q;exact h (by omega)),a 13 (by intro q;exact h (by omega)),a 14 (by intro q;exact h (by omega)),a 21 (by intro q;exact h (by omega)),a 22 (by intro q;exact h (by omega)),a 23 (by intro q;exact h (by omega)),a 10 (by intro q;exact h (by omega)),a 11 (by intro q;exact h (by omega)),a 12 (by intro q;exact h (by omega)),a 15 (by intro q;exact h (by omega)),a 24 (by intro q;exact h (by omega))];rfl
theorem ajJ {nt:Nat} (j:111≤nt) (e:List Nd) (g:Bool) (A:List (List Nat)) (h:List Sc) (i:Bool) (c:List Nat) (f:Int) (a:List UInt8) (k:Nat) (x:Nd) (l:List AV) (v:e.getD k iQ=x) (r:(ε ((δ (k:Int))*5) (aH e))=iE x++l) (t:k<e.length) (p:e.length<2^40) (u:A.length=e.length) (s:c.length=e.length) (d:Ei x.op= .tup [.nilF,.bool false]) (n:(x.op==f)=true) (o:(x.name==a)=true):ψ nt f14 (h_ e g A h i f a (k,c)) .normal (h_ e g A h i f a (k+1,c.set k 1)):=by
 have b:k<c.length:=by omega
 have m:k<2^62:=by omega
 have h0:(decide ((k:Int)<(e.length:Int)))=true:=Yq0 (by omega);have q:Ξ (((0+(δ (k:Int)))*1)+1) (ζ (ah c))=true:=by rw [Xqn,aA];simp [ah];omega
 unfold h_;dsimp only;rw [Xqk,← aW b];exact pN 14 [] 3 7 (.c q (.c (aQ k) (.c (bJ b) (.k 1 (aC o) (.k 1 (aC n) (.k 10 (aQ k) (.c h0 (.c (aC h0) .nil)))))))) (.v 101 (.eq (iL m)) (.v 52 (.eq d) (.v 46 (.ppt r) .nil))) j
theorem ajL {nt:Nat} (j:111≤nt) (e:List Nd) (d:Bool) (A:List (List Nat)) (f:List Sc) (g:Bool) (b:List Nat) (i:Int) (a:List UInt8) (k:Nat) (x:Nd) (l:List AV) (w:e.getD k iQ=x) (s:(ε ((δ (k:Int))*5) (aH e))=iE x++l) (u:k<e.length) (p:e.length<2^40) (v:A.length=e.length) (t:b.length=e.length) (h:Ei x.op= .tup [.nilF,.bool false]) (n:(x.op==i)=true) (o:(x.name==a)=false) (q:((((dZ A b k):Nat):Int)==((0:Nat):Int))=true) (call_:ax prog ap 39 [.ptr 0 0 0,ω (k:Int)] (wH e d A f g b) (.ret (ω ((dZ A b k:Nat):Int))) (wH e d A f g b)):ψ nt f14 (h_ e d A f g i a (k,b)) .normal (h_ e d A f g i a (k+1,b.set k 0)):=by
 have c:k<b.length:=by omega
 have m:k<2^62:=by omega
 have h0:(decide ((k:Int)<(e.length:Int)))=true:=Yq0 (by omega);have r:Ξ (((0+(δ (k:Int)))*1)+1) (ζ (ah b))=true:=by rw [Xqn,aA];simp [ah];omega
 unfold h_;dsimp only;rw [Xqk,← aW c];exact pN 14 [] 4 11 (.c r (.c (aQ k) (.c (bJ c) (.k 1 (aC q) (.c (aB o) (.k 1 (aC n) (.k 10 (aQ k) (.c h0 (.c (aC h0) .nil))))))))) (.v 101 (.eq (iL m)) (.c call_ (.v 52 (.eq h) (.v 46 (.ppt s) .nil)))) j
theorem ajN {nt:Nat} (j:111≤nt) (e:List Nd) (d:Bool) (A:List (List Nat)) (f:List Sc) (g:Bool) (a:List Nat) (i:Int) (b:List UInt8) (k:Nat) (x:Nd) (l:List AV) (v:e.getD k iQ=x) (r:(ε ((δ (k:Int))*5) (aH e))=iE x++l) (t:k<e.length) (o:e.length<2^40) (u:A.length=e.length) (s:a.length=e.length) (h:Ei x.op= .tup [.nilF,.bool false]) (n:(x.op==i)=false) (p:((((dZ A a k):Nat):Int)==((0:Nat):Int))=true) (call_:ax prog ap 39 [.ptr 0 0 0,ω (k:Int)] (wH e d A f g a) (.ret (ω ((dZ A a k:Nat):Int))) (wH e d A f g a)):ψ nt f14 (h_ e d A f g i b (k,a)) .normal (h_ e d A f g i b (k+1,a.set k 0)):=by
 have c:k<a.length:=by omega
 have m:k<2^62:=by omega
 have h0:(decide ((k:Int)<(e.length:Int)))=true:=Yq0 (by omega);have q:Ξ (((0+(δ (k:Int)))*1)+1) (ζ (ah a))=true:=by rw [Xqn,aA];simp [ah];omega
 unfold h_;dsimp only;rw [Xqk,← aW c];exact pN 14 [] 4 9 (.c q (.c (aQ k) (.c (bJ c) (.k 1 (aC p) (.k 1 (aB n) (.k 10 (aQ k) (.c h0 (.c (aC h0) .nil)))))))) (.v 101 (.eq (iL m)) (.c call_ (.v 52 (.eq h) (.v 46 (.ppt r) .nil)))) j
theorem ajI {nt:Nat} (l:111≤nt) (e:List Nd) (h:Bool) (A:List (List Nat)) (i:List Sc) (j:Bool) (c:List Nat) (g:Int) (a:List UInt8) (k:Nat) (x:Nd) (m:List AV) (w:e.getD k iQ=x) (s:(ε ((δ (k:Int))*5) (aH e))=iE x++m) (u:k<e.length) (q:e.length<2^40) (v:A.length=e.length) (t:c.length=e.length) (f:Nat) (d:Ei x.op= .tup [.fn f [] [],.bool true]) (o:(x.op==g)=true) (p:(x.name==a)=true):ψ nt f14 (h_ e h A i j g a (k,c)) .normal (h_ e h A i j g a (k+1,c.set k 1)):=by
 have b:k<c.length:=by omega
 have n:k<2^62:=by omega
 have h0:(decide ((k:Int)<(e.length:Int)))=true:=Yq0 (by omega);have r:Ξ (((0+(δ (k:Int)))*1)+1) (ζ (ah c))=true:=by rw [Xqn,aA];simp [ah];omega
 unfold h_;dsimp only;rw [Xqk,← aW b];exact pN 14 [] 3 7 (.c r (.c (aQ k) (.c (bJ b) (.k 1 (aC p) (.k 1 (aC o) (.k 10 (aQ k) (.c h0 (.c (aC h0) .nil)))))))) (.v 101 (.eq (iL n)) (.v 52 (.eq d) (.v 46 (.ppt s) .nil))) l
theorem ajK {nt:Nat} (l:111≤nt) (e:List Nd) (d:Bool) (A:List (List Nat)) (g:List Sc) (h:Bool) (b:List Nat) (j:Int) (a:List UInt8) (k:Nat) (x:Nd) (m:List AV) (y:e.getD k iQ=x) (t:(ε ((δ (k:Int))*5) (aH e))=iE x++m) (v:k<e.length) (q:e.length<2^40) (w:A.length=e.length) (u:b.length=e.length) (f:Nat) (i:Ei x.op= .tup [.fn f [] [],.bool true]) (o:(x.op==j)=true) (p:(x.name==a)=false) (r:((((dZ A b k):Nat):Int)==((0:Nat):Int))=true) (call_:ax prog ap 39 [.ptr 0 0 0,ω (k:Int)] (wH e d A g h b) (.ret (ω ((dZ A b k:Nat):Int))) (wH e d A g h b)):ψ nt f14 (h_ e d A g h j a (k,b)) .normal (h_ e d A g h j a (k+1,b.set k 0)):=by
 have c:k<b.length:=by omega
 have n:k<2^62:=by omega
 have h0:(decide ((k:Int)<(e.length:Int)))=true:=Yq0 (by omega);have s:Ξ (((0+(δ (k:Int)))*1)+1) (ζ (ah b))=true:=by rw [Xqn,aA];simp [ah];omega
 unfold h_;dsimp only;rw [Xqk,← aW c];exact pN 14 [] 4 11 (.c s (.c (aQ k) (.c (bJ c) (.k 1 (aC r) (.c (aB p) (.k 1 (aC o) (.k 10 (aQ k) (.c h0 (.c (aC h0) .nil))))))))) (.v 101 (.eq (iL n)) (.c call_ (.v 52 (.eq i) (.v 46 (.ppt t) .nil)))) l
theorem ajM {nt:Nat} (l:111≤nt) (e:List Nd) (d:Bool) (A:List (List Nat)) (g:List Sc) (h:Bool) (a:List Nat) (j:Int) (b:List UInt8) (k:Nat) (x:Nd) (m:List AV) (w:e.getD k iQ=x) (s:(ε ((δ (k:Int))*5) (aH e))=iE x++m) (u:k<e.length) (p:e.length<2^40) (v:A.length=e.length) (t:a.length=e.length) (f:Nat) (i:Ei x.op= .tup [.fn f [] [],.bool true]) (o:(x.op==j)=false) (q:((((dZ A a k):Nat):Int)==((0:Nat):Int))=true) (call_:ax prog ap 39 [.ptr 0 0 0,ω (k:Int)] (wH e d A g h a) (.ret (ω ((dZ A a k:Nat):Int))) (wH e d A g h a)):ψ nt f14 (h_ e d A g h j b (k,a)) .normal (h_ e d A g h j b (k+1,a.set k 0)):=by
 have c:k<a.length:=by omega
 have n:k<2^62:=by omega
 have h0:(decide ((k:Int)<(e.length:Int)))=true:=Yq0 (by omega);have r:Ξ (((0+(δ (k:Int)))*1)+1) (ζ (ah a))=true:=by rw [Xqn,aA];simp [ah];omega
 unfold h_;dsimp only;rw [Xqk,← aW c];exact pN 14 [] 4 9 (.c r (.c (aQ k) (.c (bJ c) (.k 1 (aC q) (.k 1 (aB o) (.k 10 (aQ k) (.c h0 (.c (aC h0) .nil)))))))) (.v 101 (.eq (iL n)) (.c call_ (.v 52 (.eq i) (.v 46 (.ppt s) .nil)))) l
theorem aeC {nt:Nat} (l:111≤nt) (e:List Nd) (f:Bool) (A:List (List Nat)) (i:List Sc) (j:Bool) (b:List Nat) (g:Int) (a:List UInt8) (k:Nat) (x:Nd) (q:List AV) (w:e.getD k iQ=x) (p:(ε ((δ (k:Int))*5) (aH e))=iE x++q) (u:k<e.length) (s:e.length<2^40) (v:A.length=e.length) (t:b.length=e.length) (d:Ei x.op= .tup [.nilF,.bool false]) (hit:(x.op==g)=false∨(x.name==a)=false) (n:((((dZ A b k):Nat):Int)==((0:Nat):Int))=false) (call_:ax prog ap 39 [.ptr 0 0 0,ω (k:Int)] (wH e f A i j b) (.ret (ω ((dZ A b k:Nat):Int))) (wH e f A i j b)):ψ nt f14 (h_ e f A i j g a (k,b)) .normal (h_ e f A i j g a (k+1,b.set k (3))):=by
 have c:k<b.length:=by omega
 have m:k<2^62:=by omega
 have h0:(decide ((k:Int)<(e.length:Int)))=true:=Yq0 (by omega);have o:Ξ (((0+(δ (k:Int)))*1)+1) (ζ (ah b))=true:=by rw [Xqn,aA];simp [ah];omega
 unfold h_;dsimp only;rw [Xqk,← aW c];rcases tf (x.op==g) with b1|b1
 ·have r:(x.name==a)=false:=by rcases hit with h|h;rw [h] at b1;cases b1;exact h
  exact pN 14 [] 5 3 (.c o (.c (aQ k) (.c (bJ c) (.k 2 (aB n) (.c (aB r) (.k 1 (aC b1) (.k 10 (aQ k) (.c h0 (.c (aC h0) .nil))))))))) (.v 101 (.eq (iL m)) (.c call_ (.v 52 (.eq d) (.v 46 (.ppt p) .nil)))) l
 ·exact pN 14 [] 5 1 (.c o (.c (aQ k) (.c (bJ c) (.k 2 (aB n) (.k 1 (aB b1) (.k 10 (aQ k) (.c h0 (.c (aC h0) .nil)))))))) (.v 101 (.eq (iL m)) (.c call_ (.v 52 (.eq d) (.v 46 (.ppt p) .nil)))) l
theorem aex {nt:Nat} (l:111≤nt) (e:List Nd) (d:Bool) (A:List (List Nat)) (f:List Sc) (g:Bool) (b:List Nat) (j:Int) (a:List UInt8) (k:Nat) (x:Nd) (q:List AV) (w:e.getD k iQ=x) (p:(ε ((δ (k:Int))*5) (aH e))=iE x++q) (u:k<e.length) (s:e.length<2^40) (v:A.length=e.length) (t:b.length=e.length) (i:Ei x.op= .tup [.fn 39 [] [],.bool true]) (hit:(x.op==j)=false∨(x.name==a)=false) (n:((((dZ A b k):Nat):Int)==((0:Nat):Int))=false) (call_:ax prog ap 39 [.ptr 0 0 0,ω (k:Int)] (wH e d A f g b) (.ret (ω ((dZ A b k:Nat):Int))) (wH e d A f g b)):ψ nt f14 (h_ e d A f g j a (k,b)) .normal (h_ e d A f g j a (k+1,b.set k (dZ A b k))):=by
 have c:k<b.length:=by omega
 have m:k<2^62:=by omega
 have h0:(decide ((k:Int)<(e.length:Int)))=true:=Yq0 (by omega);have o:Ξ (((0+(δ (k:Int)))*1)+1) (ζ (ah b))=true:=by rw [Xqn,aA];simp [ah];omega
 unfold h_;dsimp only;rw [Xqk,← aW c];rcases tf (x.op==j) with b1|b1
 ·have r:(x.name==a)=false:=by rcases hit with h|h;rw [h] at b1;cases b1;exact h
  exact pN 14 [] 5 19 (.c o (.c (aQ k) (.c (bJ c) (.k 2 (aB n) (.c (aB r) (.k 1 (aC b1) (.k 10 (aQ k) (.c h0 (.c (aC h0) .nil))))))))) (.v 101 (.eq (iL m)) (.u 99 (uH e d A f g b) (.c call_ (.c call_ (.v 52 (.eq i) (.v 46 (.ppt p) .nil)))))) l
 ·exact pN 14 [] 5 17 (.c o (.c (aQ k) (.c (bJ c) (.k 2 (aB n) (.k 1 (aB b1) (.k 10 (aQ k) (.c h0 (.c (aC h0) .nil)))))))) (.v 101 (.eq (iL m)) (.u 99 (uH e d A f g b) (.c call_ (.c call_ (.v 52 (.eq i) (.v 46 (.ppt p) .nil)))))) l
theorem aeD {nt:Nat} (l:111≤nt) (e:List Nd) (c:Bool) (A:List (List Nat)) (d:List Sc) (f:Bool) (a:List Nat) (j:Int) (b:List UInt8) (k:Nat) (x:Nd) (q:List AV) (w:e.getD k iQ=x) (p:(ε ((δ (k:Int))*5) (aH e))=iE x++q) (u:k<e.length) (s:e.length<2^40) (v:A.length=e.length) (t:a.length=e.length) (i:Ei x.op= .tup [.fn 63 [] [],.bool true]) (hit:(x.op==j)=false∨(x.name==b)=false) (n:((((dZ A a k):Nat):Int)==((0:Nat):Int))=false) (call_:ax prog ap 39 [.ptr 0 0 0,ω (k:Int)] (wH e c A d f a) (.ret (ω ((dZ A a k:Nat):Int))) (wH e c A d f a)) (crule:ax prog ap 63 [.ptr 0 0 0,ω (k:Int)] (wH e c A d f a) (.ret (ω (((dX (eH A a k 0) (jD (eH A a k 1))):Nat):Int))) (wH e c A d f a)):ψ nt f14 (h_ e c A d f j b (k,a)) .normal (h_ e c A d f j b (k+1,a.set k (dX (eH A a k 0) (jD (eH A a k 1))))):=by
 have g:k<a.length:=by omega
 have m:k<2^62:=by omega
 have h0:(decide ((k:Int)<(e.length:Int)))=true:=Yq0 (by omega);have o:Ξ (((0+(δ (k:Int)))*1)+1) (ζ (ah a))=true:=by rw [Xqn,aA];simp [ah];omega
 unfold h_;dsimp only;rw [Xqk,← aW g];rcases tf (x.op==j) with b1|b1
 ·have r:(x.name==b)=false:=by rcases hit with h|h;rw [h] at b1;cases b1;exact h
  exact pN 14 [] 5 19 (.c o (.c (aQ k) (.c (bJ g) (.k 2 (aB n) (.c (aB r) (.k 1 (aC b1) (.k 10 (aQ k) (.c h0 (.c (aC h0) .nil))))))))) (.v 101 (.eq (iL m)) (.u 99 (uH e c A d f a) (.c crule (.c call_ (.v 52 (.eq i) (.v 46 (.ppt p) .nil)))))) l
 ·exact pN 14 [] 5 17 (.c o (.c (aQ k) (.c (bJ g) (.k 2 (aB n) (.k 1 (aB b1) (.k 10 (aQ k) (.c h0 (.c (aC h0) .nil)))))))) (.v 101 (.eq (iL m)) (.u 99 (uH e c A d f a) (.c crule (.c call_ (.v 52 (.eq i) (.v 46 (.ppt p) .nil)))))) l
theorem aeB {nt:Nat} (l:111≤nt) (e:List Nd) (c:Bool) (A:List (List Nat)) (d:List Sc) (f:Bool) (a:List Nat) (j:Int) (b:List UInt8) (k:Nat) (x:Nd) (q:List AV) (w:e.getD k iQ=x) (p:(ε ((δ (k:Int))*5) (aH e))=iE x++q) (u:k<e.length) (s:e.length<2^40) (v:A.length=e.length) (t:a.length=e.length) (i:Ei x.op= .tup [.fn 64 [] [],.bool true]) (hit:(x.op==j)=false∨(x.name==b)=false) (n:((((dZ A a k):Nat):Int)==((0:Nat):Int))=false) (call_:ax prog ap 39 [.ptr 0 0 0,ω (k:Int)] (wH e c A d f a) (.ret (ω ((dZ A a k:Nat):Int))) (wH e c A d f a)) (crule:ax prog ap 64 [.ptr 0 0 0,ω (k:Int)] (wH e c A d f a) (.ret (ω (((Ey e A a k):Nat):Int))) (wH e c A d f a)):ψ nt f14 (h_ e c A d f j b (k,a)) .normal (h_ e c A d f j b (k+1,a.set k (Ey e A a k))):=by
 have g:k<a.length:=by omega
 have m:k<2^62:=by omega
 have h0:(decide ((k:Int)<(e.length:Int)))=true:=Yq0 (by omega);have o:Ξ (((0+(δ (k:Int)))*1)+1) (ζ (ah a))=true:=by rw [Xqn,aA];simp [ah];omega
 unfold h_;dsimp only;rw [Xqk,← aW g];rcases tf (x.op==j) with b1|b1
 ·have r:(x.name==b)=false:=by rcases hit with h|h;rw [h] at b1;cases b1;exact h
  exact pN 14 [] 5 19 (.c o (.c (aQ k) (.c (bJ g) (.k 2 (aB n) (.c (aB r) (.k 1 (aC b1) (.k 10 (aQ k) (.c h0 (.c (aC h0) .nil))))))))) (.v 101 (.eq (iL m)) (.u 99 (uH e c A d f a) (.c crule (.c call_ (.v 52 (.eq i) (.v 46 (.ppt p) .nil)))))) l
 ·exact pN 14 [] 5 17 (.c o (.c (aQ k) (.c (bJ g) (.k 2 (aB n) (.k 1 (aB b1) (.k 10 (aQ k) (.c h0 (.c (aC h0) .nil)))))))) (.v 101 (.eq (iL m)) (.u 99 (uH e c A d f a) (.c crule (.c call_ (.v 52 (.eq i) (.v 46 (.ppt p) .nil)))))) l
theorem aez {nt:Nat} (l:111≤nt) (e:List Nd) (c:Bool) (A:List (List Nat)) (d:List Sc) (f:Bool) (a:List Nat) (j:Int) (b:List UInt8) (k:Nat) (x:Nd) (q:List AV) (w:e.getD k iQ=x) (p:(ε ((δ (k:Int))*5) (aH e))=iE x++q) (u:k<e.length) (s:e.length<2^40) (v:A.length=e.length) (t:a.length=e.length) (i:Ei x.op= .tup [.fn 65 [] [],.bool true]) (hit:(x.op==j)=false∨(x.name==b)=false) (n:((((dZ A a k):Nat):Int)==((0:Nat):Int))=false) (call_:ax prog ap 39 [.ptr 0 0 0,ω (k:Int)] (wH e c A d f a) (.ret (ω ((dZ A a k:Nat):Int))) (wH e c A d f a)) (crule:ax prog ap 65 [.ptr 0 0 0,ω (k:Int)] (wH e c A d f a) (.ret (ω (((Dv e A a k):Nat):Int))) (wH e c A d f a)):ψ nt f14 (h_ e c A d f j b (k,a)) .normal (h_ e c A d f j b (k+1,a.set k (Dv e A a k))):=by
 have g:k<a.length:=by omega
 have m:k<2^62:=by omega
 have h0:(decide ((k:Int)<(e.length:Int)))=true:=Yq0 (by omega);have o:Ξ (((0+(δ (k:Int)))*1)+1) (ζ (ah a))=true:=by rw [Xqn,aA];simp [ah];omega
 unfold h_;dsimp only;rw [Xqk,← aW g];rcases tf (x.op==j) with b1|b1
 ·have r:(x.name==b)=false:=by rcases hit with h|h;rw [h] at b1;cases b1;exact h
  exact pN 14 [] 5 19 (.c o (.c (aQ k) (.c (bJ g) (.k 2 (aB n) (.c (aB r) (.k 1 (aC b1) (.k 10 (aQ k) (.c h0 (.c (aC h0) .nil))))))))) (.v 101 (.eq (iL m)) (.u 99 (uH e c A d f a) (.c crule (.c call_ (.v 52 (.eq i) (.v 46 (.ppt p) .nil)))))) l
 ·exact pN 14 [] 5 17 (.c o (.c (aQ k) (.c (bJ g) (.k 2 (aB n) (.k 1 (aB b1) (.k 10 (aQ k) (.c h0 (.c (aC h0) .nil)))))))) (.v 101 (.eq (iL m)) (.u 99 (uH e c A d f a) (.c crule (.c call_ (.v 52 (.eq i) (.v 46 (.ppt p) .nil)))))) l
theorem aey {nt:Nat} (l:111≤nt) (e:List Nd) (c:Bool) (A:List (List Nat)) (d:List Sc) (f:Bool) (a:List Nat) (j:Int) (b:List UInt8) (k:Nat) (x:Nd) (q:List AV) (w:e.getD k iQ=x) (p:(ε ((δ (k:Int))*5) (aH e))=iE x++q) (u:k<e.length) (s:e.length<2^40) (v:A.length=e.length) (t:a.length=e.length) (i:Ei x.op= .tup [.fn 66 [] [],.bool true]) (hit:(x.op==j)=false∨(x.name==b)=false) (n:((((dZ A a k):Nat):Int)==((0:Nat):Int))=false) (call_:ax prog ap 39 [.ptr 0 0 0,ω (k:Int)] (wH e c A d f a) (.ret (ω ((dZ A a k:Nat):Int))) (wH e c A d f a)) (crule:ax prog ap 66 [.ptr 0 0 0,ω (k:Int)] (wH e c A d f a) (.ret (ω (((IB A a k):Nat):Int))) (wH e c A d f a)):ψ nt f14 (h_ e c A d f j b (k,a)) .normal (h_ e c A d f j b (k+1,a.set k (IB A a k))):=by
 have g:k<a.length:=by omega
 have m:k<2^62:=by omega
 have h0:(decide ((k:Int)<(e.length:Int)))=true:=Yq0 (by omega);have o:Ξ (((0+(δ (k:Int)))*1)+1) (ζ (ah a))=true:=by rw [Xqn,aA];simp [ah];omega
 unfold h_;dsimp only;rw [Xqk,← aW g];rcases tf (x.op==j) with b1|b1
 ·have r:(x.name==b)=false:=by rcases hit with h|h;rw [h] at b1;cases b1;exact h
  exact pN 14 [] 5 19 (.c o (.c (aQ k) (.c (bJ g) (.k 2 (aB n) (.c (aB r) (.k 1 (aC b1) (.k 10 (aQ k) (.c h0 (.c (aC h0) .nil))))))))) (.v 101 (.eq (iL m)) (.u 99 (uH e c A d f a) (.c crule (.c call_ (.v 52 (.eq i) (.v 46 (.ppt p) .nil)))))) l
 ·exact pN 14 [] 5 17 (.c o (.c (aQ k) (.c (bJ g) (.k 2 (aB n) (.k 1 (aB b1) (.k 10 (aQ k) (.c h0 (.c (aC h0) .nil)))))))) (.v 101 (.eq (iL m)) (.u 99 (uH e c A d f a) (.c crule (.c call_ (.v 52 (.eq i) (.v 46 (.ppt p) .nil)))))) l
theorem aaq {nt:Nat} (l:111≤nt) (e:List Nd) (d:Bool) (A:List (List Nat)) (c:List Sc) (f:Bool) (a:List Nat) (j:Int) (b:List UInt8) (k:Nat) (x:Nd) (r:List AV) (y:e.getD k iQ=x) (q:(ε ((δ (k:Int))*5) (aH e))=iE x++r) (v:k<e.length) (t:e.length<2^40) (w:A.length=e.length) (u:a.length=e.length) (ck:Sc→Int) (o:Sc→Bool) (i:Ei x.op= .tup [.fn 67 [] [],.bool true]) (hit:(x.op==j)=false∨(x.name==b)=false) (n:((((dZ A a k):Nat):Int)==((0:Nat):Int))=false) (call_:ax prog ap 39 [.ptr 0 0 0,ω (k:Int)] (wH e d A c f a) (.ret (ω ((dZ A a k:Nat):Int))) (wH e d A c f a)) (crule:ax prog ap 67 [.ptr 0 0 0,ω (k:Int)] (wH e d A c f a) (.ret (ω (((Hw ck o x.name c (eH A a k 0)):Nat):Int))) (wH e d A c f a)):ψ nt f14 (h_ e d A c f j b (k,a)) .normal (h_ e d A c f j b (k+1,a.set k (Hw ck o x.name c (eH A a k 0)))):=by
 have g:k<a.length:=by omega
 have m:k<2^62:=by omega
 have h0:(decide ((k:Int)<(e.length:Int)))=true:=Yq0 (by omega);have p:Ξ (((0+(δ (k:Int)))*1)+1) (ζ (ah a))=true:=by rw [Xqn,aA];simp [ah];omega
 unfold h_;dsimp only;rw [Xqk,← aW g];rcases tf (x.op==j) with b1|b1
 ·have s:(x.name==b)=false:=by rcases hit with h|h;rw [h] at b1;cases b1;exact h
  exact pN 14 [] 5 19 (.c p (.c (aQ k) (.c (bJ g) (.k 2 (aB n) (.c (aB s) (.k 1 (aC b1) (.k 10 (aQ k) (.c h0 (.c (aC h0) .nil))))))))) (.v 101 (.eq (iL m)) (.u 99 (uH e d A c f a) (.c crule (.c call_ (.v 52 (.eq i) (.v 46 (.ppt q) .nil)))))) l
 ·exact pN 14 [] 5 17 (.c p (.c (aQ k) (.c (bJ g) (.k 2 (aB n) (.k 1 (aB b1) (.k 10 (aQ k) (.c h0 (.c (aC h0) .nil)))))))) (.v 101 (.eq (iL m)) (.u 99 (uH e d A c f a) (.c crule (.c call_ (.v 52 (.eq i) (.v 46 (.ppt q) .nil)))))) l
theorem aeA {nt:Nat} (g:111≤nt) (e:List Nd) (d:Bool) (A:List (List Nat)) (f:List Sc) (c:Bool) (b:List Nat) (h:Int) (a:List UInt8):ψ nt f14 (h_ e d A f c h a (e.length,b)) (.exit 0) (WV e d A f c b):=by
 have h0:(decide ((e.length:Int)<(e.length:Int)))=false:=Yq1 (by omega);exact pN 14 [] 1 0 (.c (aB h0) .nil) (.nil) g
theorem Gw:∀ (r:List Nd) (k:Nat) (a:List Nat),(∀ j ∈ a,j<k)→(∃ e,mZ r a.length= .inl e)→(wz r k a).length=r.length∧∀ i x,r[i]? =some x→((wz r k a).getD i []).length=eU x.op∧∀ j ∈ (wz r k a).getD i [],j<k+i
 | [],k,a,_,_=> ⟨rfl,fun i x h=>by simp at h⟩
 | x ::r,k,a,hst,⟨e,he⟩=>by
  simp only [mZ] at he;split at he
  ·split at he
   ·cases he
   ·rename_i n m;have l:(a.take (a.length - eU x.op)++ [k]).length=a.length - eU x.op+1:=by rw [θ,List.length_take,ο];omega
    have d:=Gw r (k+1) (a.take (a.length - eU x.op)++ [k]) (by
     intro j b;rcases List.mem_append.1 b with b|b
     ·have:=hst j (List.mem_of_mem_take b);omega
     ·rw [List.mem_singleton.1 b];omega) ⟨e,by rw [l];exact he⟩
    refine ⟨by simp only [wz,ν,d.1], ?_⟩;intro i y c;cases i with
    |zero=>
     simp only [Xvo,Option.some.injEq] at c;subst c;simp only [wz,List.getD_cons_zero];refine ⟨by rw [List.length_drop];omega,fun j b=> ?_⟩;have:=hst j (List.mem_of_mem_drop b);omega
    |succ i=>
     simp only [List.getElem?_cons_succ] at c;obtain ⟨f,g⟩:=d.2 i y c;simp only [wz,List.getD_cons_succ];exact ⟨f,fun j b=>by have:=g j b;omega⟩
  ·cases he
theorem Pv:∀ (r:List Nd) (d:Nat) (w:Int),mZ r d= .inr w→w ≠ 0
 | [],d,w,h=>by simp [mZ] at h
 | x::r,d,w,h=>by
  simp only [mZ] at h;split at h
  ·split at h
   ·cases h;decide
   ·exact Pv r _ w h
  ·rename_i a;cases h;exact a
theorem nK {e:List Nd} (a:eG e=0):(bU e).length=e.length∧∀ i x,e[i]? =some x→((bU e).getD i []).length=eU x.op∧∀ j ∈ (bU e).getD i [],j<i:=by
 have h:∃ d,mZ e ([]:List Nat).length= .inl d:=by
  unfold eG at a;split at a
  ·cases a
  ·split at a
   ·rename_i d hd;exact ⟨d,hd⟩
   ·rename_i w b;exact absurd a (Pv _ _ _ b)
 obtain ⟨c,f⟩:=Gw e 0 [] (by simp) h;exact ⟨c,fun i x g=>by have:=f i x g;rw [χ] at this;exact this⟩
theorem wkn {n a:Nat} (h:n=a+1) (b:n<2^40):ω (γ .i64 ((n:Int) - ((1:Nat):Int)))= ω (a:Int):=by rw [dL]<;>first|(congr 1;omega)|omega
theorem deq (n:Nat):decide ((n:Int)=(n:Int))=true:=Yq0 rfl
theorem dle {n:Nat} (h:n<2^40):decide ((n:Int)≤((1099511627776:Nat):Int))=true:=Yq0 (by omega)
theorem WU:CO 38 [] (.ret (.mp zcc3_0 [.fn 39 [] [],.fn 39 [] [],.fn 39 [] [],.fn 39 [] [],.fn 39 [] [],.fn 39 [] [],.fn 63 [] [],.fn 64 [] [],.fn 65 [] [],.fn 66 [] [],.fn 67 [] []])):=cK .nil
theorem J5 (l:List Nd) (b:Bool) (a:∀ x ∈ l,x.sm) (c:eG l=0):CO 37 [.sl (aH l) l.length b] (.ret (.tup [.sl (bC (bU l)) (bU l).length true,.bool true])):=by
 rw [(nK c).1];exact XV l b a c
theorem ajO (e:List Nd) (b:Bool) (A:List (List Nat)) (c:List Sc) (f:Bool) (h:List Nat) (g:Int) (a:List UInt8) (d:CO 37 [.sl (aH e) e.length b] (.ret (.tup [.nilS,.bool false]))):CO 14 [.sl (aH e) e.length b,.sl (bT c) c.length f,ω g,.str a] (.ret (ω ((3:Nat):Int))):=pK [] 3 7 (.n 3 .nil) (.c d .nil)
theorem aeE (e:List Nd) (d:Bool) (A:List (List Nat)) (f:List Sc) (h:Bool) (i:List Nat) (a:Int) (b:List UInt8) (c:CO 37 [.sl (aH e) e.length d] (.ret (.tup [.sl (bC A) A.length true,.bool true]))) (j:a<5∨8<a):CO 14 [.sl (aH e) e.length d,.sl (bT f) f.length h,ω a,.str b] (.ret (ω ((3:Nat):Int))):=by
 rcases tf (decide (a<((5:Nat):Int))) with b0|b0
 ·exact pK [] 3 6 (.k 1 (aC b0) (.n 1 .nil)) (.c c .nil)
 ·have g:(decide (((8:Nat):Int)<a))=true:=Yq0 (by have:=of_decide_eq_false b0;omega);exact pK [] 3 4 (.c (aC g) (.c (aB b0) (.n 1 .nil))) (.c c .nil)
theorem ajP (e:List Nd) (c:Bool) (A:List (List Nat)) (b:List Sc) (i:Bool) (g:List Nat) (d:Int) (a:List UInt8) (h s:Nat) (o:List AV) (l:CO 37 [.sl (aH e) e.length c] (.ret (.tup [.sl (bC A) A.length true,.bool true]))) (n:(decide (d<((5:Nat):Int)))=false) (m:(decide (((8:Nat):Int)<d))=false) (j:e.length=h+1) (f:e.length<2^40) (k:h<g.length) (hs:(ε ((0+(δ (h:Int)))*1) (ah g))= [ω (s:Int)]++o)
  (m0:Nat) (Z:List AV) (hm0:m0=δ (e.length:Int)) (hZ:Z=gp (δ (e.length:Int)) [ω 0])
  (l0:aI prog ap [] 111 (.block 0 (.loop (ae 0 (af f14)))) ⟨[(0,.sl (aH e) e.length c),(1,.sl (bT b) b.length i),(2,ω d),(3,.str a),(8,ω 0),(9,.sl (bC A) A.length true),(10,.bool true),(11,.ptr 0 0 0),(12,.mp zcc3_0 [.fn 39 [] [],.fn 39 [] [],.fn 39 [] [],.fn 39 [] [],.fn 39 [] [],.fn 39 [] [],.fn 63 [] [],.fn 64 [] [],.fn 65 [] [],.fn 66 [] [],.fn 67 [] []]),(13,.dead),(14,.dead),(15,.dead),(16,.dead),(31,.bool (decide (((8:Nat):Int)<d))),(41,.sl (aH e) e.length c),(42,ω (e.length:Int)),(43,ω 0),(44,.dead),(61,.dead),(78,.dead),(89,.dead)],[(0,⟨[.sl (aH e) e.length c,.sl (bC A) A.length true,.sl (bT b) b.length i,.ref 1 0 0 m0],0,false,0,0,false⟩),(1,⟨Z,0,false,0,1,true⟩)],.dead,[]⟩ (.normal) ⟨[(0,.sl (aH e) e.length c),(11,.ptr 0 0 0)],[(0,⟨[.sl (aH e) e.length c,.sl (bC A) A.length true,.sl (bT b) b.length i,.ref 1 0 0 g.length],0,false,0,0,false⟩),(1,⟨(ah g),0,false,0,1,true⟩)],.dead,[]⟩):CO 14 [.sl (aH e) e.length c,.sl (bT b) b.length i,ω d,.str a] (.ret (ω (s:Int))):=by
 subst hm0 hZ;exact pK [0] 3 0 (.a (gU [.int .i64] hs rfl) (.c (aQ h) (.c (bJ k) (.k 1 (aQ e.length) (.c (deq e.length) (.c (dle f) (.c (aB m) (.c (aB n) (.n 1 .nil))))))))) (.v 110 (.rd1 (.int .i64) hs rfl) (.v 108 (.eq (wkn j f)) (.l l0 (.c WU (.c l .nil)))))
def tq (ck:Sc→Int) (up:Sc→Bool) (e:List Nd) (A:List (List Nat)) (sc:List Sc) (op:Int) (name:List UInt8):List Nd→Nat→List Nat→List Nat
 | [],_,ss=>ss
 |x::r,k,ss=>tq ck up e A sc op name r (k+1) (ss.set k (yX ck up e A sc op name ss k x))
theorem zY (ck:Sc→Int) (b:Sc→Bool) (e:List Nd) (A:List (List Nat)) (d:List Sc) (c:Int) (a:List UInt8):∀ (r:List Nd) (k:Nat) (ss:List Nat),(tq ck b e A d c a r k ss).length=ss.length
 | [],_,_=>rfl
 |x::r,k,ss=>by simp only [tq,zY ck b e A d c a r,Xqk]
def jF (ck:Sc→Int) (up:Sc→Bool) (e:List Nd) (sc:List Sc) (op:Int) (name:List UInt8):Nat:=
 if eG e=0∧5≤op∧op≤8 then (tq ck up e (bU e) sc op name e 0 (κ e.length 0)).getD (e.length - 1) 0 else 3
theorem aar {nt:Nat} (q:111≤nt) (e:List Nd) (m:Bool) (l:List Sc) (o:Bool) (g:List Nat) (ck:Sc→Int) (I:Sc→Bool) (p:Int) (a:List UInt8) (k:Nat) (x:Nd) (K:∀ y ∈ e,y.sm) (T:eG e=0) (N:e[k]? =some x) (c:e.length<2^40) (t:g.length=e.length) (J:l.length<2^40) (R:∀ x ∈ l,CO 102 [.agg (xO x)] (.ret (ω (ck x)))∧(ck x=0→CO 103 [.agg (xO x)] (.ret (.bool (I x))))):
  ψ nt f14 (h_ e m (bU e) l o p a (k,g)) .normal (h_ e m (bU e) l o p a (k+1,g.set k (yX ck I e (bU e) l p a g k x))):=by
 obtain ⟨w,M⟩:=nK T;obtain ⟨F,G⟩:=M k x N;obtain ⟨r,U⟩:=List.getElem?_eq_some_iff.1 N;have b:e.getD k iQ=x:=by rw [ξ,N];rfl
 generalize V:bU e=A at*
 have v:k<A.length:=by omega
 have u:∀ j ∈ A.getD k [],j<g.length:=fun j D=>by have:=G j D;omega
 have B:∀ j ∈ A.getD k [],j<e.length:=fun j D=>by have:=G j D;omega
 have H:(A.getD k []).length<2^40:=by rw [F];unfold eU;split<;>(try split)<;>(try split)<;>omega
 have z:(ε ((δ (k:Int))*5) (aH e))=iE x++aH (e.drop (k+1)):=by rw [uG r,b]
 have call_:=abR e m A l o g k v H u;have L:∀ j,(e.getD j iQ).num.length<2^36∧(e.getD j iQ).den.length<2^36:=by
  intro j;by_cases D:j<e.length
  ·have Q:e.getD j iQ ∈ e:=by rw [ξ,π D];exact Xjr D
   have:=K _ Q;exact ⟨Xxo this.1 (by decide),Xxo this.2 (by decide)⟩
  ·rw [ξ,Xqx (by omega)];decide
 have C:(Ei x.op= .tup [.nilF,.bool false])∨∃ f,Ei x.op= .tup [.fn f [] [],.bool true]:=by
  by_cases h1:(x.op=9∨x.op=13∨x.op=14∨x.op=21∨x.op=22∨x.op=23)∨(x.op=10)∨(x.op=11)∨(x.op=12)∨(x.op=15)∨(x.op=24)
  ·rcases h1 with h|h|h|h|h|h
   ·exact .inr ⟨_,Vy h⟩
   ·exact .inr ⟨_,VD h⟩
   ·exact .inr ⟨_,VB h⟩
   ·exact .inr ⟨_,VA h⟩
   ·exact .inr ⟨_,Vz h⟩
   ·exact .inr ⟨_,P5 h⟩
  ·exact .inl (VC h1)
 unfold yX;by_cases hit:(x.op==p && x.name==a)=true
 ·rw [hit];rw [σ] at hit;rcases C with h|⟨f,h⟩
  ·exact ajJ q e m A l o g p a k x _ b z r c w t h hit.1 hit.2
  ·exact ajI q e m A l o g p a k x _ b z r c w t f h hit.1 hit.2
 ·rw [Xk1] at hit;rw [hit];have d:(x.op==p)=false∨(x.name==a)=false:=Bool.and_eq_false_iff.1 hit;rcases tf ((((dZ A g k):Nat):Int)==((0:Nat):Int)) with b3|b3
  ·rw [b3];rcases tf (x.op==p) with b1|b1
   ·have O:(x.name==a)=false:=by rcases d with h|h;rw [h] at b1;cases b1;exact h
    rcases C with h|⟨f,h⟩
    ·exact ajL q e m A l o g p a k x _ b z r c w t h b1 O b3 call_
    ·exact ajK q e m A l o g p a k x _ b z r c w t f h b1 O b3 call_
   ·rcases C with h|⟨f,h⟩
    ·exact ajN q e m A l o g p a k x _ b z r c w t h b1 b3 call_
    ·exact ajM q e m A l o g p a k x _ b z r c w t f h b1 b3 call_
  ·rw [b3];dsimp only [cond];unfold fM;have E:∀ n,eU x.op=n→∀ i,i<n→i<(A.getD k []).length:=fun n q i S=>by rw [F,q];exact S
   by_cases g1:x.op=9∨x.op=13∨x.op=14∨x.op=21∨x.op=22∨x.op=23
   ·rw [if_pos g1];exact aex q e m A l o g p a k x _ b z r c w t (Vy g1) d b3 call_
   rw [if_neg g1];by_cases g2:x.op=10
   ·rw [if_pos g2];have s:=E 2 (by rw [g2];rfl);exact aeD q e m A l o g p a k x _ b z r c w t (VD g2) d b3 call_ (aeM e m A l o g k v u B (s 0 (by omega)) (s 1 (by omega)))
   rw [if_neg g2];by_cases g3:x.op=11
   ·rw [if_pos g3];have s:=E 2 (by rw [g3];rfl);exact aeB q e m A l o g p a k x _ b z r c w t (VB g3) d b3 call_ (ac1 e m A l o g k v u B (s 0 (by omega)) (s 1 (by omega)))
   rw [if_neg g3];by_cases g4:x.op=12
   ·rw [if_pos g4];have s:=E 2 (by rw [g4];rfl);exact aez q e m A l o g p a k x _ b z r c w t (VA g4) d b3 call_ (aco e m A l o g k v u B (s 0 (by omega)) (s 1 (by omega)) (L _))
   rw [if_neg g4];by_cases g5:x.op=15
   ·rw [if_pos g5];have s:=E 3 (by rw [g5];rfl);exact aey q e m A l o g p a k x _ b z r c w t (Vz g5) d b3 call_ (acf e m A l o g k v u B (s 0 (by omega)) (s 1 (by omega)) (s 2 (by omega)))
   rw [if_neg g5];by_cases g6:x.op=24
   ·rw [if_pos g6];have s:=E 1 (by rw [g6];rfl);have P:=ZV e m A l o g ck I k v r J u (s 0 (by omega)) R;rw [b] at P;exact aaq q e m A l o g p a k x _ b z r c w t ck I (P5 g6) d b3 call_ P
   rw [if_neg g6];exact aeC q e m A l o g p a k x _ b z r c w t (VC (by rintro (h|h|h|h|h|h);exact g1 h;exact g2 h;exact g3 h;exact g4 h;exact g5 h;exact g6 h)) d b3 call_
theorem aap {nt:Nat} (n:111≤nt) (e:List Nd) (g:Bool) (c:List Sc) (i:Bool) (ck:Sc→Int) (f:Sc→Bool) (d:Int) (a:List UInt8) (j:∀ y ∈ e,y.sm) (o:eG e=0) (l:e.length<2^40) (m:c.length<2^40) (q:∀ x ∈ c,CO 102 [.agg (xO x)] (.ret (ω (ck x)))∧(ck x=0→CO 103 [.agg (xO x)] (.ret (.bool (f x))))):∀ (r p:List Nd) (b:List Nat),p++r=e→b.length=e.length→
  aF prog ap [] nt (ae 0 (af f14)) (fun _=> .exit 0) (h_ e g (bU e) c i d a) (WV e g (bU e) c i) (p.length,b) (tq ck f e (bU e) c d a r p.length b):=by
 intro r
 induction r with
 |nil=>
  intro p b hp k;rw [Γ] at hp;rw [hp];exact .done (aeA n e g (bU e) c i b d a)
 |cons x r ih=>
  intro p b hp k;have s:e[p.length]? =some x:=by rw [← hp];simp
  have h:=ih (p++ [x]) (b.set p.length (yX ck f e (bU e) c d a b p.length x)) (by rw [← hp];simp) (by rw [Xqk];exact k);rw [θ,ο] at h;exact .next (aar n e g c i b ck f d a p.length x j o s l k m q) h
theorem WW (e:List Nd) (d:Bool) (b:List Sc) (g:Bool) (ck:Sc→Int) (i:Sc→Bool) (c:Int) (a:List UInt8) (f:∀ y ∈ e,y.sm) (l:e.length<2^40) (o:b.length<2^40) (s:∀ x ∈ b,CO 102 [.agg (xO x)] (.ret (ω (ck x)))∧(ck x=0→CO 103 [.agg (xO x)] (.ret (.bool (i x))))) (n:eG e ≠ 0→CO 37 [.sl (aH e) e.length d] (.ret (.tup [.nilS,.bool false]))):
  CO 14 [.sl (aH e) e.length d,.sl (bT b) b.length g,ω c,.str a] (.ret (ω ((jF ck i e b c a:Nat):Int))):=by
 unfold jF;by_cases hq:eG e=0
 ·by_cases ho:5≤c∧c≤8
  ·rw [if_pos ⟨hq,ho⟩];have h0:e ≠ []:=by intro h;rw [h] at hq;exact absurd hq (by decide)
   obtain ⟨j,m⟩:∃ j,e.length=j+1:=⟨e.length - 1,by have:=List.length_pos_iff.2 h0;omega⟩
   have p:(tq ck i e (bU e) b c a e 0 (κ e.length 0)).length=e.length:=by rw [zY,Xq8]
   have h:∀ nt,111≤nt→aF prog ap [] nt (ae 0 (af f14)) (fun _=> .exit 0) (h_ e d (bU e) b g c a) (WV e d (bU e) b g) (0,κ e.length 0) (tq ck i e (bU e) b c a e 0 (κ e.length 0)):=fun nt q=>aap q e d b g ck i c a f hq l o s e [] _ rfl (Xq8 ..)
   generalize tq ck i e (bU e) b c a e 0 (κ e.length 0)=ss at*
   rw [show e.length - 1=j by omega];have k:j<ss.length:=by omega
   refine ajP e d (bU e) b g ss c a j (ss.getD j 0) _ (J5 e d f hq) (Yq1 (by omega)) (Yq1 (by omega)) m l k (by rw [χ];exact kH k) (κ e.length 0).length (ah (κ e.length 0)) (by rw [Xq8,aA]) (by rw [aA,yO]) ?_;have r:(decide (((8:Nat):Int)<c))=false:=Yq1 (by omega);rw [r];exact aF.blk h (by simp) rfl (aJ.of ⟨rfl,rfl,rfl,rfl,rfl,rfl,rfl,rfl,trivial⟩) (aJ.of ⟨rfl,rfl,trivial⟩)
  ·rw [if_neg (fun h=>ho h.2)];exact aeE e d (bU e) b g [] c a (J5 e d f hq) (by omega)
 ·rw [if_neg (fun h=>hq h.1)];exact ajO e d [] b g [] c a (n hq)
theorem uP (a b:Nat):CO 41 [ω (a:Int),ω (b:Int)] (.ret (ω ((dX a b:Nat):Int))):=by
 rcases tf ((a:Int)==((0:Nat):Int)) with b0|b0
 ·rw [show dX a b=b by unfold dX;simp only [gX,decide_eq_true_eq,decide_eq_false_iff_not] at b0;first|(simp [*];done)|(subst b0;simp [*];done)|(subst b1;simp [*];done)|(simp [*];omega)];exact pK [] 2 3 (.k 1 (aC b0) .nil) (.nil)
 ·rcases tf ((a:Int)==(b:Int)) with b1|b1
  ·rw [show dX a b=b by unfold dX;simp only [gX,decide_eq_true_eq,decide_eq_false_iff_not] at b0 b1;first|(simp [*];done)|(subst b0;simp [*];done)|(subst b1;simp [*];done)|(simp [*];omega)];exact pK [] 2 2 (.c (aC b1) (.c (aB b0) .nil)) (.nil)
  ·rcases tf ((b:Int)==((0:Nat):Int)) with b2|b2
   ·rw [show dX a b=a by unfold dX;simp only [gX,decide_eq_true_eq,decide_eq_false_iff_not] at b0 b1 b2;first|(simp [*];done)|(subst b0;simp [*];done)|(subst b1;simp [*];done)|(simp [*];omega)];exact pK [] 3 4 (.c (aC b2) (.c (aB b1) (.c (aB b0) .nil))) (.nil)
   ·rw [show dX a b=3 by unfold dX;simp only [gX,decide_eq_true_eq,decide_eq_false_iff_not] at b0 b1 b2;first|(simp [*];done)|(subst b0;simp [*];done)|(subst b1;simp [*];done)|(simp [*];omega)];exact pK [] 3 0 (.c (aB b2) (.c (aB b1) (.c (aB b0) .nil))) (.nil)
theorem E5 (a:Nat):CO 42 [ω (a:Int)] (.ret (ω ((jD a:Nat):Int))):=by
 rcases tf ((a:Int)==((1:Nat):Int)) with b0|b0
 ·have e:((jD a:Nat):Int)=γ .i64 (((3:Nat):Int) - (a:Int)):=by
   simp only [gX,decide_eq_true_eq,decide_eq_false_iff_not] at b0;subst b0;decide
  rw [e];exact pK [] 2 3 (.k 1 (aC b0) .nil) (.nil)
 ·rcases tf ((a:Int)==((2:Nat):Int)) with b1|b1
  ·have e:((jD a:Nat):Int)=γ .i64 (((3:Nat):Int) - (a:Int)):=by
    simp only [gX,decide_eq_true_eq,decide_eq_false_iff_not] at b0 b1;subst b1;decide
   rw [e];exact pK [] 2 2 (.c (aC b1) (.c (aB b0) .nil)) (.nil)
  ·rw [show jD a=a by unfold jD;simp only [gX,decide_eq_true_eq,decide_eq_false_iff_not] at b0 b1;simp [*]];exact pK [] 2 0 (.c (aB b1) (.c (aB b0) .nil)) (.nil)
theorem vV (s:Nat) (x:Nd):CO 44 [ω (s:Int),.agg [.bool x.neg,.str x.num,.str x.den]] (.ret (ω ((gJ x.neg s:Nat):Int))):=by
 rcases tf x.neg with b0|b0
 ·rw [show gJ x.neg s=jD s by unfold gJ;rw [b0];rfl];exact pK [] 1 1 (.c (aC b0) (.n 1 .nil)) (.c (E5 s) .nil)
 ·rw [show gJ x.neg s=s by unfold gJ;rw [b0];rfl];exact pK [] 1 0 (.c (aB b0) (.n 1 .nil)) (.nil)
theorem gI (x:Nd):CO 43 [.agg (iE x)] (.ret (.bool (fB x.op))):=by
 have e:fB x.op=(decide (((1:Nat):Int)≤x.op) && decide (x.op≤((3:Nat):Int))):=by
  unfold fB;by_cases h1:x.op=1
  ·rw [h1];rfl
  ·by_cases h2:x.op=2
   ·rw [h2];rfl
   ·by_cases h3:x.op=3
    ·rw [h3];rfl
    ·rw [beq_eq_false_iff_ne.2 h1,beq_eq_false_iff_ne.2 h2,beq_eq_false_iff_ne.2 h3];symm;rw [Yxi,Yxi,Bool.and_eq_false_iff];by_cases h4:((1:Nat):Int)≤x.op
     ·exact .inr (Yq1 (by omega))
     ·exact .inl (Yq1 (by omega))
 rw [e];rcases tf (decide (((1:Nat):Int)≤x.op)) with b0|b0
 ·rw [b0,Xxw];exact pK [] 1 1 (.k 1 (aC b0) (.n 1 .nil)) (.nil)
 ·rw [b0];rw [Xxy];exact pK [] 1 0 (.c (aB b0) (.n 1 .nil)) (.nil)
def yQ (ck:Sc→Int) (up:Sc→Bool) (name:List UInt8):List Sc→Option Bool
 | []=>none
 |x::r=>if x.name==name then some (ck x==0 && up x) else yQ ck up name r
theorem EX (ck:Sc→Int) (b:Sc→Bool) (a:List UInt8):∀ r,yQ ck b a r=(r.find? (fun x=>x.name==a)).map fun x=>ck x==0 && b x
 | []=>rfl
 |x::r=>by
  unfold yQ;rw [List.find?_cons];rcases tf (x.name==a) with h|h
  ·rw [if_pos h,h];rfl
  ·rw [if_neg (by rw [h];decide),h];exact EX ck b a r
def ajw (sc:List Sc) (ns:Bool) (name:List UInt8) (p:Nat × Unit):St:=⟨[(0,.sl (bT sc) sc.length ns),(1,.str name),(5,ω (p.1:Int))],[],.dead,[]⟩
def aby (sc:List Sc) (ns:Bool) (name:List UInt8):Option Bool→St
 |none=> ⟨[(0,.sl (bT sc) sc.length ns)],[],.dead,[]⟩
 |some z=> ⟨[(4,.bool z)],[],.dead,[]⟩
def rrE:Option Bool→bK
 |none=> .exit 0
 |some _=> .ret
theorem aah {nt:Nat} (f:32≤nt) (c:List Sc) (k:Bool) (a:List UInt8) (ck:Sc→Int) (j:Sc→Bool) (t:c.length<2^40) (o:∀ x ∈ c,CO 71 [.agg (xO x)] (.ret (ω (ck x)))∧(ck x=0→CO 72 [.agg (xO x)] (.ret (.bool (j x))))):∀ (r p:List Sc),p++r=c→
  aF prog ap [] nt (ae 0 (af f46)) rrE (ajw c k a) (aby c k a) (p.length,()) (yQ ck j a r):=by
 intro r
 induction r with
 |nil=>
  intro p hp;rw [Γ] at hp;subst hp;generalize u:p.length=i;have b:(decide ((i:Int)<(p.length:Int)))=false:=Yq1 (by omega);exact .done (pN 46 [] 1 0 (.c (aB b) .nil) (.nil) f)
 | cons x r ih=>
  intro p hp;have n:p.length<c.length:=by rw [← hp];simp
  have d:(ε ((δ (p.length:Int))*4) (bT c))=xO x++bT r:=by
   rw [aA,yT n];have s:c[p.length]=x:=by subst hp;simp
   have q:c.drop (p.length+1)=r:=by rw [← hp];simp
   rw [s,q]
  have e:=ih (p++ [x]) (by rw [← hp];simp);rw [θ,ο] at e;obtain ⟨h,m⟩:=o x (by rw [← hp];simp);unfold yQ;generalize u:p.length=i at*
  generalize bT r=rS at d;have b:(decide ((i:Int)<(c.length:Int)))=true:=Yq0 (by omega);have l:i<2^62:=by omega
  rcases tf (x.name==a) with b1|b1
  ·rw [if_pos b1];rcases tf ((ck x)==((0:Nat):Int)) with b2|b2
   ·have g:ck x=0:=by simpa using b2
    rw [show (ck x==0)=true from b2,Xxw];exact .done (pN 46 [] 3 7 (.k 4 (aQ i) (.c b (.c (aC b2) (.k 4 (aQ i) (.c b (.c (aC b1) (.k 1 (aQ i) (.c b (.c (aC b) .nil))))))))) (.c (m g) (.v 28 (.ppt d) (.c h (.v 21 (.ppt d) (.v 14 (.ppt d) .nil))))) f)
   ·rw [show (ck x==0)=false from b2,Xxy];exact .done (pN 46 [] 3 3 (.c (aB b2) (.k 4 (aQ i) (.c b (.c (aC b1) (.k 1 (aQ i) (.c b (.c (aC b) .nil))))))) (.c h (.v 21 (.ppt d) (.v 14 (.ppt d) .nil))) f)
  ·rw [if_neg (by rw [b1];decide)];exact .next (pN 46 [] 2 1 (.c (aB b1) (.k 1 (aQ i) (.c b (.c (aC b) .nil)))) (.v 11 (.eq (iL l)) (.v 14 (.ppt d) .nil)) f) e
theorem ajA (b:List Sc) (c:Bool) (a:List UInt8) (z:Bool) (d:aI prog ap [] 32 (.block 0 (.loop (ae 0 (af f46)))) ⟨[(0,.sl (bT b) b.length c),(1,.str a),(4,.bool false),(5,ω 0),(9,.dead),(18,.dead)],[],.dead,[]⟩ (.ret) ⟨[(4,.bool z)],[],.dead,[]⟩):CO 46 [.sl (bT b) b.length c,.str a] (.ret (.bool z)):=pK [0] 0 0 .nil (.l d .nil)
theorem ajz (b:List Sc) (c:Bool) (a:List UInt8) (d:aI prog ap [] 32 (.block 0 (.loop (ae 0 (af f46)))) ⟨[(0,.sl (bT b) b.length c),(1,.str a),(4,.bool false),(5,ω 0),(9,.dead),(18,.dead)],[],.dead,[]⟩ (.normal) ⟨[(0,.sl (bT b) b.length c)],[],.dead,[]⟩):CO 46 [.sl (bT b) b.length c,.str a] (.ret (.bool false)):=pK [0] 0 0 .nil (.l d .nil)
theorem WP (b:List Sc) (c:Bool) (a:List UInt8) (ck:Sc→Int) (d:Sc→Bool) (e:b.length<2^40) (i:∀ x ∈ b,CO 71 [.agg (xO x)] (.ret (ω (ck x)))∧(ck x=0→CO 72 [.agg (xO x)] (.ret (.bool (d x))))):CO 46 [.sl (bT b) b.length c,.str a] (.ret (.bool ((yQ ck d a b).getD false))):=by
 have h:∀ nt,32≤nt→aF prog ap [] nt (ae 0 (af f46)) rrE (ajw b c a) (aby b c a) (0,()) (yQ ck d a b):=fun nt g=>aah g b c a ck d e i b [] rfl
 cases f:yQ ck d a b with
 |none=>
  rw [f] at h;exact ajz b c a (aF.blk h (by simp [rrE]) rfl (aJ.of ⟨rfl,rfl,rfl,trivial⟩) (aJ.of ⟨rfl,trivial⟩))
 |some z=>
  rw [f] at h;exact ajA b c a z (aF.blk h (by simp [rrE]) rfl (aJ.of ⟨rfl,rfl,rfl,trivial⟩) (aJ.of ⟨rfl,trivial⟩))
def LP (e:List Nd) (ne:Bool) (A:List (List Nat)) (sc:List Sc) (ns:Bool) (ss:List Nat) (op:Int) (name:List UInt8) (xo:Int) (xb:Bool) (xn xd xm:List UInt8) (k:Nat) (p:Nat × Nat):St:=⟨[(0,.sl (aH e) e.length ne),(1,.sl (bT sc) sc.length ns),(2,ω op),(3,.str name),(9,.sl (bC A) A.length true),(11,.ref 0 0 0 ss.length),(12,ω (k:Int)),(13,.ptr 1 0 0),(14,ω (p.2:Int)),(15,ω (p.1:Int))],[(0,⟨(ah ss),0,false,0,1,true⟩),(1,⟨[ω xo,.bool xb,.str xn,.str xd,.str xm],0,false,0,0,true⟩)],.dead,[]⟩
def Oz (e:List Nd) (ne:Bool) (A:List (List Nat)) (sc:List Sc) (ns:Bool) (ss:List Nat) (op:Int) (name:List UInt8) (xo:Int) (xb:Bool) (xn xd xm:List UInt8) (k:Nat) (acc:Nat):St:=⟨[(0,.sl (aH e) e.length ne),(1,.sl (bT sc) sc.length ns),(2,ω op),(3,.str name),(9,.sl (bC A) A.length true),(11,.ref 0 0 0 ss.length),(12,ω (k:Int)),(13,.ptr 1 0 0),(14,ω (acc:Int))],[(0,⟨(ah ss),0,false,0,1,true⟩),(1,⟨[ω xo,.bool xb,.str xn,.str xd,.str xm],0,false,0,0,true⟩)],.dead,[]⟩
theorem ai4 {nt:Nat} (v:282≤nt) (e:List Nd) (h:Bool) (A:List (List Nat)) (r:List Sc) (t:Bool) (d:List Nat) (p:Int) (b:List UInt8) (f:Int) (n:Bool) (o u m:List UInt8) (k:Nat) (c i:Nat) (a:List Nat) (rA:List AV) (j:Nat) (B:List AV) (s:Nat) (y:List AV) (q:k<A.length) (l:(ε ((δ (k:Int))*1) (bC A))= [zt a]++rA) (g:(decide ((i:Int)<(a.length:Int)))=true) (z:(ε ((δ (i:Int))*1) (ah a))= [ω (j:Int)]++B) (x:j<d.length) (hs:(ε ((0+(δ (j:Int)))*1) (ah d))= [ω (s:Int)]++y) (w:i<2^62):
  aj prog ap [] nt (ae 2 (af f15)) (LP e h A r t d p b f n o u m k (i,c)) .normal (LP e h A r t d p b f n o u m k (i+1,dX c s)):=pN 15 [] 1 1 (.a (gU [.int .i64] hs rfl) (.c (aQ j) (.c (bJ x) (.k 1 (aQ i) (.c g (.k 1 (aQ k) (.c (bJ q) (.c (aC g) (.k 1 (aQ k) (.c (bJ q) .nil)))))))))) (.v 67 (.eq (iL w)) (.c (uP c s) (.v 78 (.rd1 (.int .i64) hs rfl) (.v 75 (.ppt z) (.v 72 (.ppt l) (.v 62 (.ppt l) .nil)))))) v
theorem ai5 {nt:Nat} (q:282≤nt) (e:List Nd) (f:Bool) (A:List (List Nat)) (n:List Sc) (o:Bool) (g:List Nat) (m:Int) (b:List UInt8) (d:Int) (j:Bool) (l p h:List UInt8) (k:Nat) (c i:Nat) (a:List Nat) (rA:List AV) (t:k<A.length) (s:(ε ((δ (k:Int))*1) (bC A))= [zt a]++rA) (r:(decide ((i:Int)<(a.length:Int)))=false):
  aj prog ap [] nt (ae 2 (af f15)) (LP e f A n o g m b d j l p h k (i,c)) (.exit 2) (Oz e f A n o g m b d j l p h k c):=pN 15 [] 1 0 (.c (aB r) (.k 1 (aQ k) (.c (bJ t) .nil))) (.v 62 (.ppt s) .nil) q
theorem WB {nt:Nat} (v:282≤nt) (e:List Nd) (l:Bool) (A:List (List Nat)) (r:List Sc) (t:Bool) (f:List Nat) (p:Int) (a:List UInt8) (h:Int) (n:Bool) (o u m:List UInt8) (k:Nat) (q:k<A.length) (z:(A.getD k []).length<2^40) (x:∀ j ∈ A.getD k [],j<f.length):∀ (d i b:Nat),i+d=(A.getD k []).length→
  aF prog ap [] nt (ae 2 (af f15)) (fun _=> .exit 2) (LP e l A r t f p a h n o u m k) (Oz e l A r t f p a h n o u m k) (i,b) (((A.getD k []).drop i).foldl (fun s j=>dX s (f.getD j 0)) b):=by
 intro d
 induction d with
 |zero=>
  intro i b w;rw [Xxj (by omega)];exact .done (ai5 v e l A r t f p a h n o u m k b i _ _ q (lD q) (Yq1 (by omega)))
 |succ d ih=>
  intro i b w;have c:i<(A.getD k []).length:=by omega
  have g:(A.getD k []).getD i 0<f.length:=by rw [ry c];exact x _ (Xjr c)
  rw [Xxb c];have y:(A.getD k [])[i]=(A.getD k []).getD i 0:=(ry c).symm;rw [y];exact .next (ai4 v e l A r t f p a h n o u m k b i _ _ _ _ _ _ q (lD q) (Yq0 (by omega)) (kH c) g (by rw [χ];exact kH g) (by omega)) (ih (i+1) _ (by omega))
def eu (e:List Nd) (ne:Bool) (A:List (List Nat)) (sc:List Sc) (ns:Bool) (op:Int) (name:List UInt8) (p:Nat × List Nat):St:=⟨[(0,.sl (aH e) e.length ne),(1,.sl (bT sc) sc.length ns),(2,ω op),(3,.str name),(9,.sl (bC A) A.length true),(11,.ref 0 0 0 p.2.length),(12,ω (p.1:Int))],[(0,⟨(ah p.2),0,false,0,1,true⟩)],.dead,[]⟩
def WL (e:List Nd) (ne:Bool) (ss:List Nat):St:=⟨[(0,.sl (aH e) e.length ne),(11,.ref 0 0 0 ss.length)],[(0,⟨(ah ss),0,false,0,1,true⟩)],.dead,[]⟩
abbrev uQ (e:List Nd) (ne:Bool) (A:List (List Nat)) (sc:List Sc) (ns:Bool) (ss:List Nat) (op:Int) (name:List UInt8) (xo:Int) (xb:Bool) (xn xd xm:List UInt8) (k:Nat) (b55:Bool) (w:Nat):Prop:=aI prog ap [] 282 (.block 2 (.loop (ae 2 (af f15)))) ⟨[(0,.sl (aH e) e.length ne),(1,.sl (bT sc) sc.length ns),(2,ω op),(3,.str name),(8,.dead),(9,.sl (bC A) A.length true),(10,.dead),(11,.ref 0 0 0 ss.length),(12,ω (k:Int)),(13,.ptr 1 0 0),(14,ω 0),(15,ω 0),(16,.dead),(17,.dead),(32,.dead),(39,.bool (decide ((k:Int)<(e.length:Int)))),(55,.bool b55),(65,.dead),(81,.dead),(111,.dead),(118,.dead),(147,.dead),(176,.dead),(216,.dead),(245,.dead),(271,.dead)],[(0,⟨(ah ss),0,false,0,1,true⟩),(1,⟨[ω xo,.bool xb,.str xn,.str xd,.str xm],0,false,0,0,true⟩)],.dead,[]⟩ (.normal) ⟨[(0,.sl (aH e) e.length ne),(1,.sl (bT sc) sc.length ns),(2,ω op),(3,.str name),(9,.sl (bC A) A.length true),(11,.ref 0 0 0 ss.length),(12,ω (k:Int)),(13,.ptr 1 0 0),(14,ω (w:Int))],[(0,⟨(ah ss),0,false,0,1,true⟩),(1,⟨[ω xo,.bool xb,.str xn,.str xd,.str xm],0,false,0,0,true⟩)],.dead,[]⟩
theorem aem (e:List Nd) (g:Bool) (A:List (List Nat)) (i:List Sc) (n:Bool) (b:List Nat) (f:Int) (a:List UInt8) (c:Int) (m:Bool) (d o l:List UInt8) (k:Nat) (p:Bool) (r:k<A.length) (s:(A.getD k []).length<2^40) (t:∀ j ∈ A.getD k [],j<b.length):uQ e g A i n b f a c m d o l k p (dZ A b k):=by
 have h:∀ nt,282≤nt→aF prog ap [] nt (ae 2 (af f15)) (fun _=> .exit 2) (LP e g A i n b f a c m d o l k) (Oz e g A i n b f a c m d o l k) (0,0) (dZ A b k):=fun nt q=>WB q e g A i n b f a c m d o l k r s t _ 0 0 (χ _)
 exact aF.blk h (by simp) rfl (aJ.of ⟨rfl,rfl,rfl,rfl,rfl,rfl,rfl,rfl,rfl,rfl,trivial⟩) (aJ.of ⟨rfl,rfl,rfl,rfl,rfl,rfl,rfl,rfl,rfl,trivial⟩)
abbrev jB (k:Nat) (ss:List Nat):List AV:=μ ((0+(δ (k:Int)))*1) (ah ss)++ [ω 3]++ε (((0+(δ (k:Int)))*1)+1) (ah ss)
theorem dJ {a:List Nat} {k v:Nat} (h:k<a.length):μ ((0+(δ (k:Int)))*1) (jB k a)++ [ω (v:Int)]++ε (((0+(δ (k:Int)))*1)+1) (jB k a)=ah (a.set k v):=by
 have b:(jB k a)=ah (a.set k 3):=aW (v:=3) h;rw [b,aW (by rw [Xqk];exact h),List.set_set]
theorem apM {nt:Nat} (i:282≤nt) (e:List Nd) (f:Bool) (A:List (List Nat)) (g:List Sc) (h:Bool) (b:List Nat) (d:Int) (a:List UInt8) (k:Nat) (t:k<e.length) (p:e.length<2^40) (u:A.length=e.length) (s:b.length=e.length) (j:List AV) (x:Nd) (r:(ε ((δ (k:Int))*5) (aH e))=iE x++j) (m:(x.op==d)=true) (n:(x.name==a)=true):ψ nt f15 (eu e f A g h d a (k,b)) .normal (eu e f A g h d a (k+1,b.set k (1))):=by
 have c:k<b.length:=by omega
 have l:k<2^62:=by omega
 have h0:(decide ((k:Int)<(e.length:Int)))=true:=Yq0 (by omega);have q:Ξ (((0+(δ (k:Int)))*1)+1) (ζ (ah b))=true:=by rw [Xqn,aA];simp [ah];omega
 have o:Ξ (((0+(δ (k:Int)))*1)+1) (ζ (jB k b))=true:=by rw [Xqn,show (jB k b)=ah (b.set k 3) from aW (v:=3) c,aA];simp [ah];omega
 unfold eu;dsimp only;rw [Xqk,← aW c];exact pN 15 [] 3 7 (.c q (.c (aQ k) (.c (bJ c) (.c (aC n) (.k 1 (aC m) (.k 7 (aQ k) (.c h0 (.c (aC h0) .nil)))))))) (.v 41 (.eq (iL l)) (.v 44 (.ppt r) .nil)) i
theorem apN {nt:Nat} (i:282≤nt) (e:List Nd) (f:Bool) (A:List (List Nat)) (g:List Sc) (h:Bool) (b:List Nat) (c:Int) (a:List UInt8) (k:Nat) (u:k<e.length) (p:e.length<2^40) (y:A.length=e.length) (t:b.length=e.length) (j:List AV) (x:Nd) (s:(ε ((δ (k:Int))*5) (aH e))=iE x++j) (w:Nat) (r:uQ e f A g h b c a x.op x.neg x.num x.den x.name k (x.name==a) w) (m:(x.op==c)=true) (n:(x.name==a)=false) (q:((w:Int)==((0:Nat):Int))=true):ψ nt f15 (eu e f A g h c a (k,b)) .normal (eu e f A g h c a (k+1,b)):=by
 have d:k<b.length:=by omega
 have l:k<2^62:=by omega
 have h0:(decide ((k:Int)<(e.length:Int)))=true:=Yq0 (by omega);have z:Ξ (((0+(δ (k:Int)))*1)+1) (ζ (ah b))=true:=by rw [Xqn,aA];simp [ah];omega
 have o:Ξ (((0+(δ (k:Int)))*1)+1) (ζ (jB k b))=true:=by rw [Xqn,show (jB k b)=ah (b.set k 3) from aW (v:=3) d,aA];simp [ah];omega
 unfold eu;exact pN 15 [2] 4 11 (.c (aC q) (.c (aB n) (.k 1 (aC m) (.k 7 (aQ k) (.c h0 (.c (aC h0) .nil)))))) (.v 41 (.eq (iL l)) (.l r (.v 44 (.ppt s) .nil))) i
theorem apO {nt:Nat} (i:282≤nt) (e:List Nd) (f:Bool) (A:List (List Nat)) (g:List Sc) (h:Bool) (b:List Nat) (c:Int) (a:List UInt8) (k:Nat) (t:k<e.length) (o:e.length<2^40) (u:A.length=e.length) (s:b.length=e.length) (j:List AV) (x:Nd) (r:(ε ((δ (k:Int))*5) (aH e))=iE x++j) (w:Nat) (q:uQ e f A g h b c a x.op x.neg x.num x.den x.name k (false) w) (m:(x.op==c)=false) (p:((w:Int)==((0:Nat):Int))=true):ψ nt f15 (eu e f A g h c a (k,b)) .normal (eu e f A g h c a (k+1,b)):=by
 have d:k<b.length:=by omega
 have l:k<2^62:=by omega
 have h0:(decide ((k:Int)<(e.length:Int)))=true:=Yq0 (by omega);have y:Ξ (((0+(δ (k:Int)))*1)+1) (ζ (ah b))=true:=by rw [Xqn,aA];simp [ah];omega
 have n:Ξ (((0+(δ (k:Int)))*1)+1) (ζ (jB k b))=true:=by rw [Xqn,show (jB k b)=ah (b.set k 3) from aW (v:=3) d,aA];simp [ah];omega
 unfold eu;exact pN 15 [2] 4 9 (.c (aC p) (.k 1 (aB m) (.k 7 (aQ k) (.c h0 (.c (aC h0) .nil))))) (.v 41 (.eq (iL l)) (.l q (.v 44 (.ppt r) .nil))) i
theorem aen {nt:Nat} (d:282≤nt) (e:List Nd) (c:Bool) (A:List (List Nat)) (h:List Sc) (f:Bool) (b:List Nat) (g:Int) (a:List UInt8):ψ nt f15 (eu e c A h f g a (e.length,b)) (.exit 0) (WL e c b):=by
 have h0:(decide ((e.length:Int)<(e.length:Int)))=false:=Yq1 (by omega);exact pN 15 [] 1 0 (.c (aB h0) .nil) (.nil) d
theorem apL {nt:Nat} (q:282≤nt) (e:List Nd) (o:Bool) (A:List (List Nat)) (f:List Sc) (l:Bool) (c:List Nat) (d:Int) (a:List UInt8) (k:Nat) (V:k<e.length) (O:e.length<2^40) (W:A.length=e.length) (U:c.length=e.length) (E:List AV) (j:k<A.length) (x:Nd) (rA:List AV) (i:Nat) (Q:Nat) (H:Nd) (N u0:List AV) (m:Nat) (G:Nat) (I:Nd) (L u1:List AV) (D:(ε ((δ (k:Int))*5) (aH e))= [ω 9,.bool x.neg,.str x.num,.str x.den,.str x.name]++E) (u:(ε ((δ (k:Int))*1) (bC A))= [.sl [ω (i:Int),ω (m:Int)] 2 false]++rA) (M:(ε ((0+(δ (i:Int)))*1) (jB k c))= [ω (Q:Int)]++N) (J:(ε ((δ (i:Int))*5) (aH e))=iE H++u0) (S:(ε ((0+(δ (m:Int)))*1) (jB k c))= [ω (G:Int)]++L) (F:(ε ((δ (m:Int))*5) (aH e))=iE I++u1) (B:i<c.length) (t:i<e.length) (z:m<c.length) (s:m<e.length) (w:Nat) (R:Bool) (P:uQ e o A f l c d a 9 x.neg x.num x.den x.name k (x.name==a) w) (T:uQ e o A f l c d a 9 x.neg x.num x.den x.name k (false) w) (n:CO 46 [.sl (bT f) f.length l,.str x.name] (.ret (.bool R))) (y:((w:Int)==((0:Nat):Int))=false) (hit:(((9:Nat):Int)==d)=false∨(x.name==a)=false):ψ nt f15 (eu e o A f l d a (k,c)) .normal (eu e o A f l d a (k+1,c.set k (w))):=by
 have b:k<c.length:=by omega
 have r:k<2^62:=by omega
 have h0:(decide ((k:Int)<(e.length:Int)))=true:=Yq0 (by omega);have C:Ξ (((0+(δ (k:Int)))*1)+1) (ζ (ah c))=true:=by rw [Xqn,aA];simp [ah];omega
 have g:Ξ (((0+(δ (k:Int)))*1)+1) (ζ (jB k c))=true:=by rw [Xqn,show (jB k c)=ah (c.set k 3) from aW (v:=3) b,aA];simp [ah];omega
 unfold eu;dsimp only;rw [Xqk];rcases tf (((9:Nat):Int)==d) with b1|b1
 ·have p:=P;have K:(x.name==a)=false:=by rcases hit with h|h;rw [h] at b1;cases b1;exact h
  rw [← dJ b];exact pN 15 [2] 20 243 (.k 19 g (.c (aQ k) (.c (bJ b) (.k 6 (aQ k) (.c (bJ j) (.c C (.c (aQ k) (.c (bJ b) (.c (aB y) (.c (aB K) (.k 1 (aC b1) (.k 7 (aQ k) (.c h0 (.c (aC h0) .nil)))))))))))))) (.v 41 (.eq (iL r)) (.c n (.v 87 (.ppt u) (.l p (.v 44 (.ppt D) .nil))))) q
 ·have p:=T;rw [← dJ b];exact pN 15 [2] 20 241 (.k 19 g (.c (aQ k) (.c (bJ b) (.k 6 (aQ k) (.c (bJ j) (.c C (.c (aQ k) (.c (bJ b) (.c (aB y) (.k 1 (aB b1) (.k 7 (aQ k) (.c h0 (.c (aC h0) .nil))))))))))))) (.v 41 (.eq (iL r)) (.c n (.v 87 (.ppt u) (.l p (.v 44 (.ppt D) .nil))))) q
theorem ajh {nt:Nat} (z:282≤nt) (e:List Nd) (t:Bool) (A:List (List Nat)) (o:List Sc) (r:Bool) (c:List Nat) (n:Int) (a:List UInt8) (k:Nat) (V:k<e.length) (Q:e.length<2^40) (W:A.length=e.length) (U:c.length=e.length) (I:List AV) (q:k<A.length) (x:Nd) (rA:List AV) (j:Nat) (u:Nat) (K:Nd) (P u0:List AV) (l:Nat) (m:Nat) (L:Nd) (O u1:List AV) (H:(ε ((δ (k:Int))*5) (aH e))= [ω 10,.bool x.neg,.str x.num,.str x.den,.str x.name]++I) (E:(ε ((δ (k:Int))*1) (bC A))= [.sl [ω (j:Int),ω (l:Int)] 2 false]++rA) (d:(ε ((0+(δ (j:Int)))*1) (jB k c))= [ω (u:Int)]++P) (M:(ε ((δ (j:Int))*5) (aH e))=iE K++u0) (f:(ε ((0+(δ (l:Int)))*1) (jB k c))= [ω (m:Int)]++O) (J:(ε ((δ (l:Int))*5) (aH e))=iE L++u1) (i:j<c.length) (D:j<e.length) (g:l<c.length) (C:l<e.length) (w:Nat) (S:Bool) (R:uQ e t A o r c n a 10 x.neg x.num x.den x.name k (x.name==a) w) (T:uQ e t A o r c n a 10 x.neg x.num x.den x.name k (false) w) (s:CO 46 [.sl (bT o) o.length r,.str x.name] (.ret (.bool S))) (F:((w:Int)==((0:Nat):Int))=false) (hit:(((10:Nat):Int)==n)=false∨(x.name==a)=false):ψ nt f15 (eu e t A o r n a (k,c)) .normal (eu e t A o r n a (k+1,c.set k (dX u (jD m)))):=by
 have b:k<c.length:=by omega
 have B:k<2^62:=by omega
 have h0:(decide ((k:Int)<(e.length:Int)))=true:=Yq0 (by omega);have G:Ξ (((0+(δ (k:Int)))*1)+1) (ζ (ah c))=true:=by rw [Xqn,aA];simp [ah];omega
 have p:Ξ (((0+(δ (k:Int)))*1)+1) (ζ (jB k c))=true:=by rw [Xqn,show (jB k c)=ah (c.set k 3) from aW (v:=3) b,aA];simp [ah];omega
 unfold eu;dsimp only;rw [Xqk];rcases tf (((10:Nat):Int)==n) with b1|b1
 ·have y:=R;have N:(x.name==a)=false:=by rcases hit with h|h;rw [h] at b1;cases b1;exact h
  rw [← dJ b];exact pN 15 [2] 21 515 (.k 17 p (.c (aQ k) (.c (bJ b) (.a (gU [.int .i64] f rfl) (.c (aQ l) (.c (bJ g) (.n 3 (.a (gU [.int .i64] d rfl) (.c (aQ j) (.c (bJ i) (.k 15 (aQ k) (.c (bJ q) (.c G (.c (aQ k) (.c (bJ b) (.c (aB F) (.c (aB N) (.k 1 (aC b1) (.k 7 (aQ k) (.c h0 (.c (aC h0) .nil))))))))))))))))))))) (.v 41 (.eq (iL B)) (.c s (.c (uP u (jD m)) (.c (E5 m) (.v 132 (.rd1 (.int .i64) f rfl) (.v 126 (.rd1 (.int .i64) d rfl) (.v 87 (.ppt E) (.l y (.v 44 (.ppt H) .nil))))))))) z
 ·have y:=T;rw [← dJ b];exact pN 15 [2] 21 513 (.k 17 p (.c (aQ k) (.c (bJ b) (.a (gU [.int .i64] f rfl) (.c (aQ l) (.c (bJ g) (.n 3 (.a (gU [.int .i64] d rfl) (.c (aQ j) (.c (bJ i) (.k 15 (aQ k) (.c (bJ q) (.c G (.c (aQ k) (.c (bJ b) (.c (aB F) (.k 1 (aB b1) (.k 7 (aQ k) (.c h0 (.c (aC h0) .nil)))))))))))))))))))) (.v 41 (.eq (iL B)) (.c s (.c (uP u (jD m)) (.c (E5 m) (.v 132 (.rd1 (.int .i64) f rfl) (.v 126 (.rd1 (.int .i64) d rfl) (.v 87 (.ppt E) (.l y (.v 44 (.ppt H) .nil))))))))) z
theorem aji {nt:Nat} (C:282≤nt) (e:List Nd) (N:Bool) (A:List (List Nat)) (H:List Sc) (M:Bool) (n:List Nat) (G:Int) (g:List UInt8) (k:Nat) (X:k<e.length) (S:e.length<2^40) (Y:A.length=e.length) (W:n.length=e.length) (P:List AV) (o:k<A.length) (x:Nd) (rA:List AV) (l:Nat) (r:Nat) (b:Nd) (R u0:List AV) (m:Nat) (q:Nat) (c:Nd) (Q u1:List AV) (J:(ε ((δ (k:Int))*5) (aH e))= [ω 11,.bool x.neg,.str x.num,.str x.den,.str x.name]++P) (E:(ε ((δ (k:Int))*1) (bC A))= [.sl [ω (l:Int),ω (m:Int)] 2 false]++rA) (t:(ε ((0+(δ (l:Int)))*1) (jB k n))= [ω (r:Int)]++R) (j:(ε ((δ (l:Int))*5) (aH e))=iE b++u0) (u:(ε ((0+(δ (m:Int)))*1) (jB k n))= [ω (q:Int)]++Q) (i:(ε ((δ (m:Int))*5) (aH e))=iE c++u1) (z:l<n.length) (f:l<e.length) (y:m<n.length) (d:m<e.length) (w:Nat) (U:Bool) (T:uQ e N A H M n G g 11 x.neg x.num x.den x.name k (x.name==g) w) (V:uQ e N A H M n G g 11 x.neg x.num x.den x.name k (false) w) (p:CO 46 [.sl (bT H) H.length M,.str x.name] (.ret (.bool U))) (L:fB b.op=true→fB c.op=false) (F:((w:Int)==((0:Nat):Int))=false) (hit:(((11:Nat):Int)==G)=false∨(x.name==g)=false):ψ nt f15 (eu e N A H M G g (k,n)) .normal (eu e N A H M G g (k+1,n.set k (cond (fB b.op) (gJ b.neg q) (cond (fB c.op) (gJ c.neg r) 3)))):=by
 have a:k<n.length:=by omega
 have D:k<2^62:=by omega
 have h0:(decide ((k:Int)<(e.length:Int)))=true:=Yq0 (by omega);have I:Ξ (((0+(δ (k:Int)))*1)+1) (ζ (ah n))=true:=by rw [Xqn,aA];simp [ah];omega
 have s:Ξ (((0+(δ (k:Int)))*1)+1) (ζ (jB k n))=true:=by rw [Xqn,show (jB k n)=ah (n.set k 3) from aW (v:=3) a,aA];simp [ah];omega
 unfold eu;dsimp only;rw [Xqk];rcases tf (((11:Nat):Int)==G) with b1|b1
 ·have B:=T;have O:(x.name==g)=false:=by rcases hit with h|h;rw [h] at b1;cases b1;exact h
  rcases tf (fB b.op) with c0|c0
  ·have K:=L c0;rw [show (cond (fB b.op) (gJ b.neg q) (cond (fB c.op) (gJ c.neg r) 3))=(gJ b.neg q) by rw [c0,K];rfl];rw [← dJ a];exact pN 15 [2] 21 7171 (.k 11 (aB K) (.k 5 (aQ m) (.c (bJ d) (.k 5 s (.c (aQ k) (.c (bJ a) (.k 3 (aQ l) (.c (bJ f) (.n 3 (.a (gU [.int .i64] u rfl) (.c (aQ m) (.c (bJ y) (.k 3 (aC c0) (.k 5 (aQ l) (.c (bJ f) (.k 17 (aQ k) (.c (bJ o) (.c I (.c (aQ k) (.c (bJ a) (.c (aB F) (.c (aB O) (.k 1 (aC b1) (.k 7 (aQ k) (.c h0 (.c (aC h0) .nil)))))))))))))))))))))))))) (.v 41 (.eq (iL D)) (.c p (.c (gI c) (.v 173 (.ppt i) (.c (vV q b) (.v 160 (.ppt j) (.v 155 (.rd1 (.int .i64) u rfl) (.c (gI b) (.v 144 (.ppt j) (.v 87 (.ppt E) (.l B (.v 44 (.ppt J) .nil)))))))))))) C
  ·skip
   rcases tf (fB c.op) with c10|c10
   ·rw [show (cond (fB b.op) (gJ b.neg q) (cond (fB c.op) (gJ c.neg r) 3))=(gJ c.neg r) by rw [c0,c10];rfl];rw [← dJ a];exact pN 15 [2] 21 13315 (.k 11 s (.c (aQ k) (.c (bJ a) (.k 3 (aQ m) (.c (bJ d) (.n 3 (.a (gU [.int .i64] t rfl) (.c (aQ l) (.c (bJ z) (.k 3 (aC c10) (.k 5 (aQ m) (.c (bJ d) (.k 5 (aB c0) (.k 5 (aQ l) (.c (bJ f) (.k 17 (aQ k) (.c (bJ o) (.c I (.c (aQ k) (.c (bJ a) (.c (aB F) (.c (aB O) (.k 1 (aC b1) (.k 7 (aQ k) (.c h0 (.c (aC h0) .nil)))))))))))))))))))))))))) (.v 41 (.eq (iL D)) (.c p (.c (vV r c) (.v 189 (.ppt i) (.v 184 (.rd1 (.int .i64) t rfl) (.c (gI c) (.v 173 (.ppt i) (.c (gI b) (.v 144 (.ppt j) (.v 87 (.ppt E) (.l B (.v 44 (.ppt J) .nil)))))))))))) C
   ·rw [show (cond (fB b.op) (gJ b.neg q) (cond (fB c.op) (gJ c.neg r) 3))=3 by rw [c0,c10];rfl];rw [← aW a];exact pN 15 [2] 21 5123 (.k 11 (aB c10) (.k 5 (aQ m) (.c (bJ d) (.k 5 (aB c0) (.k 5 (aQ l) (.c (bJ f) (.k 17 (aQ k) (.c (bJ o) (.c I (.c (aQ k) (.c (bJ a) (.c (aB F) (.c (aB O) (.k 1 (aC b1) (.k 7 (aQ k) (.c h0 (.c (aC h0) .nil))))))))))))))))) (.v 41 (.eq (iL D)) (.c p (.c (gI c) (.v 173 (.ppt i) (.c (gI b) (.v 144 (.ppt j) (.v 87 (.ppt E) (.l B (.v 44 (.ppt J) .nil))))))))) C
 ·have B:=V;rcases tf (fB b.op) with c0|c0
  ·have K:=L c0;rw [show (cond (fB b.op) (gJ b.neg q) (cond (fB c.op) (gJ c.neg r) 3))=(gJ b.neg q) by rw [c0,K];rfl];rw [← dJ a];exact pN 15 [2] 21 7169 (.k 11 (aB K) (.k 5 (aQ m) (.c (bJ d) (.k 5 s (.c (aQ k) (.c (bJ a) (.k 3 (aQ l) (.c (bJ f) (.n 3 (.a (gU [.int .i64] u rfl) (.c (aQ m) (.c (bJ y) (.k 3 (aC c0) (.k 5 (aQ l) (.c (bJ f) (.k 17 (aQ k) (.c (bJ o) (.c I (.c (aQ k) (.c (bJ a) (.c (aB F) (.k 1 (aB b1) (.k 7 (aQ k) (.c h0 (.c (aC h0) .nil))))))))))))))))))))))))) (.v 41 (.eq (iL D)) (.c p (.c (gI c) (.v 173 (.ppt i) (.c (vV q b) (.v 160 (.ppt j) (.v 155 (.rd1 (.int .i64) u rfl) (.c (gI b) (.v 144 (.ppt j) (.v 87 (.ppt E) (.l B (.v 44 (.ppt J) .nil)))))))))))) C
  ·skip
   rcases tf (fB c.op) with c10|c10
   ·rw [show (cond (fB b.op) (gJ b.neg q) (cond (fB c.op) (gJ c.neg r) 3))=(gJ c.neg r) by rw [c0,c10];rfl];rw [← dJ a];exact pN 15 [2] 21 13313 (.k 11 s (.c (aQ k) (.c (bJ a) (.k 3 (aQ m) (.c (bJ d) (.n 3 (.a (gU [.int .i64] t rfl) (.c (aQ l) (.c (bJ z) (.k 3 (aC c10) (.k 5 (aQ m) (.c (bJ d) (.k 5 (aB c0) (.k 5 (aQ l) (.c (bJ f) (.k 17 (aQ k) (.c (bJ o) (.c I (.c (aQ k) (.c (bJ a) (.c (aB F) (.k 1 (aB b1) (.k 7 (aQ k) (.c h0 (.c (aC h0) .nil))))))))))))))))))))))))) (.v 41 (.eq (iL D)) (.c p (.c (vV r c) (.v 189 (.ppt i) (.v 184 (.rd1 (.int .i64) t rfl) (.c (gI c) (.v 173 (.ppt i) (.c (gI b) (.v 144 (.ppt j) (.v 87 (.ppt E) (.l B (.v 44 (.ppt J) .nil)))))))))))) C
   ·rw [show (cond (fB b.op) (gJ b.neg q) (cond (fB c.op) (gJ c.neg r) 3))=3 by rw [c0,c10];rfl];rw [← aW a];exact pN 15 [2] 21 5121 (.k 11 (aB c10) (.k 5 (aQ m) (.c (bJ d) (.k 5 (aB c0) (.k 5 (aQ l) (.c (bJ f) (.k 17 (aQ k) (.c (bJ o) (.c I (.c (aQ k) (.c (bJ a) (.c (aB F) (.k 1 (aB b1) (.k 7 (aQ k) (.c h0 (.c (aC h0) .nil)))))))))))))))) (.v 41 (.eq (iL D)) (.c p (.c (gI c) (.v 173 (.ppt i) (.c (gI b) (.v 144 (.ppt j) (.v 87 (.ppt E) (.l B (.v 44 (.ppt J) .nil))))))))) C
theorem ajj {nt:Nat} (s:282≤nt) (e:List Nd) (G:Bool) (A:List (List Nat)) (B:List Sc) (F:Bool) (i:List Nat) (z:Int) (f:List UInt8) (k:Nat) (W:k<e.length) (Q:e.length<2^40) (X:A.length=e.length) (V:i.length=e.length) (K:List AV) (j:k<A.length) (x:Nd) (rA:List AV) (r:Nat) (m:Nat) (M:Nd) (P u0:List AV) (g:Nat) (L:Nat) (a:Nd) (O u1:List AV) (D:(ε ((δ (k:Int))*5) (aH e))= [ω 12,.bool x.neg,.str x.num,.str x.den,.str x.name]++K) (u:(ε ((δ (k:Int))*1) (bC A))= [.sl [ω (r:Int),ω (g:Int)] 2 false]++rA) (n:(ε ((0+(δ (r:Int)))*1) (jB k i))= [ω (m:Int)]++P) (N:(ε ((δ (r:Int))*5) (aH e))=iE M++u0) (T:(ε ((0+(δ (g:Int)))*1) (jB k i))= [ω (L:Int)]++O) (d:(ε ((δ (g:Int))*5) (aH e))=iE a++u1) (p:r<i.length) (I:r<e.length) (J:g<i.length) (b:g<e.length) (w:Nat) (S:Bool) (R:uQ e G A B F i z f 12 x.neg x.num x.den x.name k (x.name==f) w) (U:uQ e G A B F i z f 12 x.neg x.num x.den x.name k (false) w) (l:CO 46 [.sl (bT B) B.length F,.str x.name] (.ret (.bool S))) (o:CO 45 [.agg [.bool a.neg,.str a.num,.str a.den]] (.ret (ω (gz a.neg a.num a.den)))) (y:((w:Int)==((0:Nat):Int))=false) (hit:(((12:Nat):Int)==z)=false∨(x.name==f)=false):ψ nt f15 (eu e G A B F z f (k,i)) .normal (eu e G A B F z f (k+1,i.set k (cond (fB a.op) (cond (gz a.neg a.num a.den==((0:Nat):Int)) 3 (gJ a.neg m)) 3))):=by
 have c:k<i.length:=by omega
 have t:k<2^62:=by omega
 have h0:(decide ((k:Int)<(e.length:Int)))=true:=Yq0 (by omega);have C:Ξ (((0+(δ (k:Int)))*1)+1) (ζ (ah i))=true:=by rw [Xqn,aA];simp [ah];omega
 have E:Ξ (((0+(δ (k:Int)))*1)+1) (ζ (jB k i))=true:=by rw [Xqn,show (jB k i)=ah (i.set k 3) from aW (v:=3) c,aA];simp [ah];omega
 unfold eu;dsimp only;rw [Xqk];rcases tf (((12:Nat):Int)==z) with b1|b1
 ·have q:=R;have H:(x.name==f)=false:=by rcases hit with h|h;rw [h] at b1;cases b1;exact h
  rcases tf (fB a.op) with d0|d0
  ·rcases tf ((gz a.neg a.num a.den)==((0:Nat):Int)) with d1|d1
   ·rw [show (cond (fB a.op) (cond (gz a.neg a.num a.den==((0:Nat):Int)) 3 (gJ a.neg m)) 3)=3 by rw [d0,d1];rfl];rw [← aW c];exact pN 15 [2] 21 49155 (.k 7 (aS d1) (.k 3 (aQ g) (.c (bJ b) (.k 3 (aC d0) (.k 5 (aQ g) (.c (bJ b) (.k 23 (aQ k) (.c (bJ j) (.c C (.c (aQ k) (.c (bJ c) (.c (aB y) (.c (aB H) (.k 1 (aC b1) (.k 7 (aQ k) (.c h0 (.c (aC h0) .nil))))))))))))))))) (.v 41 (.eq (iL t)) (.c l (.c o (.v 211 (.ppt d) (.c (gI a) (.v 202 (.ppt d) (.v 87 (.ppt u) (.l q (.v 44 (.ppt D) .nil))))))))) s
   ·rw [show (cond (fB a.op) (cond (gz a.neg a.num a.den==((0:Nat):Int)) 3 (gJ a.neg m)) 3)=(gJ a.neg m) by rw [d0,d1];rfl];rw [← dJ c];exact pN 15 [2] 21 114691 (.k 7 E (.c (aQ k) (.c (bJ c) (.k 3 (aQ g) (.c (bJ b) (.n 3 (.a (gU [.int .i64] n rfl) (.c (aQ r) (.c (bJ p) (.k 3 (dK d1) (.k 3 (aQ g) (.c (bJ b) (.k 3 (aC d0) (.k 5 (aQ g) (.c (bJ b) (.k 23 (aQ k) (.c (bJ j) (.c C (.c (aQ k) (.c (bJ c) (.c (aB y) (.c (aB H) (.k 1 (aC b1) (.k 7 (aQ k) (.c h0 (.c (aC h0) .nil)))))))))))))))))))))))))) (.v 41 (.eq (iL t)) (.c l (.c (vV m a) (.v 229 (.ppt d) (.v 224 (.rd1 (.int .i64) n rfl) (.c o (.v 211 (.ppt d) (.c (gI a) (.v 202 (.ppt d) (.v 87 (.ppt u) (.l q (.v 44 (.ppt D) .nil)))))))))))) s
  ·rw [show (cond (fB a.op) (cond (gz a.neg a.num a.den==((0:Nat):Int)) 3 (gJ a.neg m)) 3)=3 by rw [d0];rfl];rw [← aW c];exact pN 15 [2] 21 16387 (.k 8 (aB d0) (.k 5 (aQ g) (.c (bJ b) (.k 23 (aQ k) (.c (bJ j) (.c C (.c (aQ k) (.c (bJ c) (.c (aB y) (.c (aB H) (.k 1 (aC b1) (.k 7 (aQ k) (.c h0 (.c (aC h0) .nil)))))))))))))) (.v 41 (.eq (iL t)) (.c l (.c (gI a) (.v 202 (.ppt d) (.v 87 (.ppt u) (.l q (.v 44 (.ppt D) .nil))))))) s
 ·have q:=U;rcases tf (fB a.op) with d0|d0
  ·rcases tf ((gz a.neg a.num a.den)==((0:Nat):Int)) with d1|d1
   ·rw [show (cond (fB a.op) (cond (gz a.neg a.num a.den==((0:Nat):Int)) 3 (gJ a.neg m)) 3)=3 by rw [d0,d1];rfl];rw [← aW c];exact pN 15 [2] 21 49153 (.k 7 (aS d1) (.k 3 (aQ g) (.c (bJ b) (.k 3 (aC d0) (.k 5 (aQ g) (.c (bJ b) (.k 23 (aQ k) (.c (bJ j) (.c C (.c (aQ k) (.c (bJ c) (.c (aB y) (.k 1 (aB b1) (.k 7 (aQ k) (.c h0 (.c (aC h0) .nil)))))))))))))))) (.v 41 (.eq (iL t)) (.c l (.c o (.v 211 (.ppt d) (.c (gI a) (.v 202 (.ppt d) (.v 87 (.ppt u) (.l q (.v 44 (.ppt D) .nil))))))))) s
   ·rw [show (cond (fB a.op) (cond (gz a.neg a.num a.den==((0:Nat):Int)) 3 (gJ a.neg m)) 3)=(gJ a.neg m) by rw [d0,d1];rfl];rw [← dJ c];exact pN 15 [2] 21 114689 (.k 7 E (.c (aQ k) (.c (bJ c) (.k 3 (aQ g) (.c (bJ b) (.n 3 (.a (gU [.int .i64] n rfl) (.c (aQ r) (.c (bJ p) (.k 3 (dK d1) (.k 3 (aQ g) (.c (bJ b) (.k 3 (aC d0) (.k 5 (aQ g) (.c (bJ b) (.k 23 (aQ k) (.c (bJ j) (.c C (.c (aQ k) (.c (bJ c) (.c (aB y) (.k 1 (aB b1) (.k 7 (aQ k) (.c h0 (.c (aC h0) .nil))))))))))))))))))))))))) (.v 41 (.eq (iL t)) (.c l (.c (vV m a) (.v 229 (.ppt d) (.v 224 (.rd1 (.int .i64) n rfl) (.c o (.v 211 (.ppt d) (.c (gI a) (.v 202 (.ppt d) (.v 87 (.ppt u) (.l q (.v 44 (.ppt D) .nil)))))))))))) s
  ·rw [show (cond (fB a.op) (cond (gz a.neg a.num a.den==((0:Nat):Int)) 3 (gJ a.neg m)) 3)=3 by rw [d0];rfl];rw [← aW c];exact pN 15 [2] 21 16385 (.k 8 (aB d0) (.k 5 (aQ g) (.c (bJ b) (.k 23 (aQ k) (.c (bJ j) (.c C (.c (aQ k) (.c (bJ c) (.c (aB y) (.k 1 (aB b1) (.k 7 (aQ k) (.c h0 (.c (aC h0) .nil))))))))))))) (.v 41 (.eq (iL t)) (.c l (.c (gI a) (.v 202 (.ppt d) (.v 87 (.ppt u) (.l q (.v 44 (.ppt D) .nil))))))) s
theorem ajk {nt:Nat} (q:282≤nt) (e:List Nd) (o:Bool) (A:List (List Nat)) (f:List Sc) (l:Bool) (c:List Nat) (d:Int) (a:List UInt8) (k:Nat) (V:k<e.length) (O:e.length<2^40) (W:A.length=e.length) (U:c.length=e.length) (E:List AV) (j:k<A.length) (x:Nd) (rA:List AV) (i:Nat) (Q:Nat) (H:Nd) (N u0:List AV) (m:Nat) (G:Nat) (I:Nd) (L u1:List AV) (D:(ε ((δ (k:Int))*5) (aH e))= [ω 13,.bool x.neg,.str x.num,.str x.den,.str x.name]++E) (u:(ε ((δ (k:Int))*1) (bC A))= [.sl [ω (i:Int),ω (m:Int)] 2 false]++rA) (M:(ε ((0+(δ (i:Int)))*1) (jB k c))= [ω (Q:Int)]++N) (J:(ε ((δ (i:Int))*5) (aH e))=iE H++u0) (S:(ε ((0+(δ (m:Int)))*1) (jB k c))= [ω (G:Int)]++L) (F:(ε ((δ (m:Int))*5) (aH e))=iE I++u1) (B:i<c.length) (t:i<e.length) (z:m<c.length) (s:m<e.length) (w:Nat) (R:Bool) (P:uQ e o A f l c d a 13 x.neg x.num x.den x.name k (x.name==a) w) (T:uQ e o A f l c d a 13 x.neg x.num x.den x.name k (false) w) (n:CO 46 [.sl (bT f) f.length l,.str x.name] (.ret (.bool R))) (y:((w:Int)==((0:Nat):Int))=false) (hit:(((13:Nat):Int)==d)=false∨(x.name==a)=false):ψ nt f15 (eu e o A f l d a (k,c)) .normal (eu e o A f l d a (k+1,c.set k (w))):=by
 have b:k<c.length:=by omega
 have r:k<2^62:=by omega
 have h0:(decide ((k:Int)<(e.length:Int)))=true:=Yq0 (by omega);have C:Ξ (((0+(δ (k:Int)))*1)+1) (ζ (ah c))=true:=by rw [Xqn,aA];simp [ah];omega
 have g:Ξ (((0+(δ (k:Int)))*1)+1) (ζ (jB k c))=true:=by rw [Xqn,show (jB k c)=ah (c.set k 3) from aW (v:=3) b,aA];simp [ah];omega
 unfold eu;dsimp only;rw [Xqk];rcases tf (((13:Nat):Int)==d) with b1|b1
 ·have p:=P;have K:(x.name==a)=false:=by rcases hit with h|h;rw [h] at b1;cases b1;exact h
  rw [← dJ b];exact pN 15 [2] 20 227 (.k 19 g (.c (aQ k) (.c (bJ b) (.k 7 (aQ k) (.c (bJ j) (.c C (.c (aQ k) (.c (bJ b) (.c (aB y) (.c (aB K) (.k 1 (aC b1) (.k 7 (aQ k) (.c h0 (.c (aC h0) .nil)))))))))))))) (.v 41 (.eq (iL r)) (.c n (.v 87 (.ppt u) (.l p (.v 44 (.ppt D) .nil))))) q
 ·have p:=T;rw [← dJ b];exact pN 15 [2] 20 225 (.k 19 g (.c (aQ k) (.c (bJ b) (.k 7 (aQ k) (.c (bJ j) (.c C (.c (aQ k) (.c (bJ b) (.c (aB y) (.k 1 (aB b1) (.k 7 (aQ k) (.c h0 (.c (aC h0) .nil))))))))))))) (.v 41 (.eq (iL r)) (.c n (.v 87 (.ppt u) (.l p (.v 44 (.ppt D) .nil))))) q
theorem ajl {nt:Nat} (q:282≤nt) (e:List Nd) (o:Bool) (A:List (List Nat)) (f:List Sc) (l:Bool) (c:List Nat) (d:Int) (a:List UInt8) (k:Nat) (V:k<e.length) (O:e.length<2^40) (W:A.length=e.length) (U:c.length=e.length) (E:List AV) (j:k<A.length) (x:Nd) (rA:List AV) (i:Nat) (Q:Nat) (H:Nd) (N u0:List AV) (m:Nat) (G:Nat) (I:Nd) (L u1:List AV) (D:(ε ((δ (k:Int))*5) (aH e))= [ω 14,.bool x.neg,.str x.num,.str x.den,.str x.name]++E) (u:(ε ((δ (k:Int))*1) (bC A))= [.sl [ω (i:Int),ω (m:Int)] 2 false]++rA) (M:(ε ((0+(δ (i:Int)))*1) (jB k c))= [ω (Q:Int)]++N) (J:(ε ((δ (i:Int))*5) (aH e))=iE H++u0) (S:(ε ((0+(δ (m:Int)))*1) (jB k c))= [ω (G:Int)]++L) (F:(ε ((δ (m:Int))*5) (aH e))=iE I++u1) (B:i<c.length) (t:i<e.length) (z:m<c.length) (s:m<e.length) (w:Nat) (R:Bool) (P:uQ e o A f l c d a 14 x.neg x.num x.den x.name k (x.name==a) w) (T:uQ e o A f l c d a 14 x.neg x.num x.den x.name k (false) w) (n:CO 46 [.sl (bT f) f.length l,.str x.name] (.ret (.bool R))) (y:((w:Int)==((0:Nat):Int))=false) (hit:(((14:Nat):Int)==d)=false∨(x.name==a)=false):ψ nt f15 (eu e o A f l d a (k,c)) .normal (eu e o A f l d a (k+1,c.set k (w))):=by
 have b:k<c.length:=by omega
 have r:k<2^62:=by omega
 have h0:(decide ((k:Int)<(e.length:Int)))=true:=Yq0 (by omega);have C:Ξ (((0+(δ (k:Int)))*1)+1) (ζ (ah c))=true:=by rw [Xqn,aA];simp [ah];omega
 have g:Ξ (((0+(δ (k:Int)))*1)+1) (ζ (jB k c))=true:=by rw [Xqn,show (jB k c)=ah (c.set k 3) from aW (v:=3) b,aA];simp [ah];omega
 unfold eu;dsimp only;rw [Xqk];rcases tf (((14:Nat):Int)==d) with b1|b1
 ·have p:=P;have K:(x.name==a)=false:=by rcases hit with h|h;rw [h] at b1;cases b1;exact h
  rw [← dJ b];exact pN 15 [2] 20 195 (.k 19 g (.c (aQ k) (.c (bJ b) (.k 8 (aQ k) (.c (bJ j) (.c C (.c (aQ k) (.c (bJ b) (.c (aB y) (.c (aB K) (.k 1 (aC b1) (.k 7 (aQ k) (.c h0 (.c (aC h0) .nil)))))))))))))) (.v 41 (.eq (iL r)) (.c n (.v 87 (.ppt u) (.l p (.v 44 (.ppt D) .nil))))) q
 ·have p:=T;rw [← dJ b];exact pN 15 [2] 20 193 (.k 19 g (.c (aQ k) (.c (bJ b) (.k 8 (aQ k) (.c (bJ j) (.c C (.c (aQ k) (.c (bJ b) (.c (aB y) (.k 1 (aB b1) (.k 7 (aQ k) (.c h0 (.c (aC h0) .nil))))))))))))) (.v 41 (.eq (iL r)) (.c n (.v 87 (.ppt u) (.l p (.v 44 (.ppt D) .nil))))) q
theorem ajm {nt:Nat} (D:282≤nt) (e:List Nd) (F:Bool) (A:List (List Nat)) (y:List Sc) (C:Bool) (d:List Nat) (u:Int) (b:List UInt8) (k:Nat) (hk:k<e.length) (Y:e.length<2^40) (hA:A.length=e.length) (hS:d.length=e.length) (O:List AV) (n:k<A.length) (x:Nd) (rA:List AV) (m:Nat) (r:Nat) (Q:Nd) (W u0:List AV) (s:Nat) (g:Nat) (R:Nd) (U u1:List AV) (t:Nat) (i:Nat) (X:Nd) (V u2:List AV) (J:(ε ((δ (k:Int))*5) (aH e))= [ω 15,.bool x.neg,.str x.num,.str x.den,.str x.name]++O) (G:(ε ((δ (k:Int))*1) (bC A))= [.sl [ω (m:Int),ω (s:Int),ω (t:Int)] 3 false]++rA) (c:(ε ((0+(δ (m:Int)))*1) (jB k d))= [ω (r:Int)]++W) (S:(ε ((δ (m:Int))*5) (aH e))=iE Q++u0) (o:(ε ((0+(δ (s:Int)))*1) (jB k d))= [ω (g:Int)]++U) (P:(ε ((δ (s:Int))*5) (aH e))=iE R++u1) (l:(ε ((0+(δ (t:Int)))*1) (jB k d))= [ω (i:Int)]++V) (T:(ε ((δ (t:Int))*5) (aH e))=iE X++u2) (f:m<d.length) (L:m<e.length) (q:s<d.length) (K:s<e.length) (p:t<d.length) (N:t<e.length) (w:Nat) (rz:Bool) (Z:uQ e F A y C d u b 15 x.neg x.num x.den x.name k (x.name==b) w) (lF:uQ e F A y C d u b 15 x.neg x.num x.den x.name k (false) w) (j:CO 46 [.sl (bT y) y.length C,.str x.name] (.ret (.bool rz))) (H:((w:Int)==((0:Nat):Int))=false) (hit:(((15:Nat):Int)==u)=false∨(x.name==b)=false):ψ nt f15 (eu e F A y C u b (k,d)) .normal (eu e F A y C u b (k+1,d.set k (cond ((r:Int)==((0:Nat):Int)) (dX g i) 3))):=by
 have a:k<d.length:=by omega
 have E:k<2^62:=by omega
 have h0:(decide ((k:Int)<(e.length:Int)))=true:=Yq0 (by omega);have I:Ξ (((0+(δ (k:Int)))*1)+1) (ζ (ah d))=true:=by rw [Xqn,aA];simp [ah];omega
 have z:Ξ (((0+(δ (k:Int)))*1)+1) (ζ (jB k d))=true:=by rw [Xqn,show (jB k d)=ah (d.set k 3) from aW (v:=3) a,aA];simp [ah];omega
 unfold eu;dsimp only;rw [Xqk];rcases tf (((15:Nat):Int)==u) with b1|b1
 ·have B:=Z;have M:(x.name==b)=false:=by rcases hit with h|h;rw [h] at b1;cases b1;exact h
  rcases tf ((r:Int)==((0:Nat):Int)) with d0|d0
  ·rw [show (cond ((r:Int)==((0:Nat):Int)) (dX g i) 3)=(dX g i) by rw [d0];rfl];rw [← dJ a];exact pN 15 [2] 21 393219 (.k 4 z (.c (aQ k) (.c (bJ a) (.a (gU [.int .i64] l rfl) (.c (aQ t) (.c (bJ p) (.n 3 (.a (gU [.int .i64] o rfl) (.c (aQ s) (.c (bJ q) (.k 3 (aC d0) (.a (gU [.int .i64] c rfl) (.c (aQ m) (.c (bJ f) (.k 27 (aQ k) (.c (bJ n) (.c I (.c (aQ k) (.c (bJ a) (.c (aB H) (.c (aB M) (.k 1 (aC b1) (.k 7 (aQ k) (.c h0 (.c (aC h0) .nil))))))))))))))))))))))))) (.v 41 (.eq (iL E)) (.c j (.c (uP g i) (.v 259 (.rd1 (.int .i64) l rfl) (.v 253 (.rd1 (.int .i64) o rfl) (.v 243 (.rd1 (.int .i64) c rfl) (.v 87 (.ppt G) (.l B (.v 44 (.ppt J) .nil))))))))) D
  ·rw [show (cond ((r:Int)==((0:Nat):Int)) (dX g i) 3)=3 by rw [d0];rfl];rw [← aW a];exact pN 15 [2] 21 131075 (.k 4 (aB d0) (.a (gU [.int .i64] c rfl) (.c (aQ m) (.c (bJ f) (.k 27 (aQ k) (.c (bJ n) (.c I (.c (aQ k) (.c (bJ a) (.c (aB H) (.c (aB M) (.k 1 (aC b1) (.k 7 (aQ k) (.c h0 (.c (aC h0) .nil))))))))))))))) (.v 41 (.eq (iL E)) (.c j (.v 243 (.rd1 (.int .i64) c rfl) (.v 87 (.ppt G) (.l B (.v 44 (.ppt J) .nil)))))) D
 ·have B:=lF;rcases tf ((r:Int)==((0:Nat):Int)) with d0|d0
  ·rw [show (cond ((r:Int)==((0:Nat):Int)) (dX g i) 3)=(dX g i) by rw [d0];rfl];rw [← dJ a];exact pN 15 [2] 21 393217 (.k 4 z (.c (aQ k) (.c (bJ a) (.a (gU [.int .i64] l rfl) (.c (aQ t) (.c (bJ p) (.n 3 (.a (gU [.int .i64] o rfl) (.c (aQ s) (.c (bJ q) (.k 3 (aC d0) (.a (gU [.int .i64] c rfl) (.c (aQ m) (.c (bJ f) (.k 27 (aQ k) (.c (bJ n) (.c I (.c (aQ k) (.c (bJ a) (.c (aB H) (.k 1 (aB b1) (.k 7 (aQ k) (.c h0 (.c (aC h0) .nil)))))))))))))))))))))))) (.v 41 (.eq (iL E)) (.c j (.c (uP g i) (.v 259 (.rd1 (.int .i64) l rfl) (.v 253 (.rd1 (.int .i64) o rfl) (.v 243 (.rd1 (.int .i64) c rfl) (.v 87 (.ppt G) (.l B (.v 44 (.ppt J) .nil))))))))) D
  ·rw [show (cond ((r:Int)==((0:Nat):Int)) (dX g i) 3)=3 by rw [d0];rfl];rw [← aW a];exact pN 15 [2] 21 131073 (.k 4 (aB d0) (.a (gU [.int .i64] c rfl) (.c (aQ m) (.c (bJ f) (.k 27 (aQ k) (.c (bJ n) (.c I (.c (aQ k) (.c (bJ a) (.c (aB H) (.k 1 (aB b1) (.k 7 (aQ k) (.c h0 (.c (aC h0) .nil)))))))))))))) (.v 41 (.eq (iL E)) (.c j (.v 243 (.rd1 (.int .i64) c rfl) (.v 87 (.ppt G) (.l B (.v 44 (.ppt J) .nil)))))) D
theorem ajn {nt:Nat} (p:282≤nt) (e:List Nd) (n:Bool) (A:List (List Nat)) (f:List Sc) (j:Bool) (b:List Nat) (d:Int) (a:List UInt8) (k:Nat) (V:k<e.length) (O:e.length<2^40) (W:A.length=e.length) (U:b.length=e.length) (D:List AV) (i:k<A.length) (x:Nd) (rA:List AV) (g:Nat) (Q:Nat) (G:Nd) (N u0:List AV) (l:Nat) (F:Nat) (H:Nd) (K u1:List AV) (C:(ε ((δ (k:Int))*5) (aH e))= [ω 16,.bool x.neg,.str x.num,.str x.den,.str x.name]++D) (t:(ε ((δ (k:Int))*1) (bC A))= [.sl [ω (g:Int),ω (l:Int)] 2 false]++rA) (M:(ε ((0+(δ (g:Int)))*1) (jB k b))= [ω (Q:Int)]++N) (I:(ε ((δ (g:Int))*5) (aH e))=iE G++u0) (S:(ε ((0+(δ (l:Int)))*1) (jB k b))= [ω (F:Int)]++K) (E:(ε ((δ (l:Int))*5) (aH e))=iE H++u1) (z:g<b.length) (s:g<e.length) (y:l<b.length) (r:l<e.length) (w:Nat) (R:Bool) (P:uQ e n A f j b d a 16 x.neg x.num x.den x.name k (x.name==a) w) (T:uQ e n A f j b d a 16 x.neg x.num x.den x.name k (false) w) (m:CO 46 [.sl (bT f) f.length j,.str x.name] (.ret (.bool R))) (u:((w:Int)==((0:Nat):Int))=false) (hit:(((16:Nat):Int)==d)=false∨(x.name==a)=false):ψ nt f15 (eu e n A f j d a (k,b)) .normal (eu e n A f j d a (k+1,b.set k (3))):=by
 have c:k<b.length:=by omega
 have q:k<2^62:=by omega
 have h0:(decide ((k:Int)<(e.length:Int)))=true:=Yq0 (by omega);have B:Ξ (((0+(δ (k:Int)))*1)+1) (ζ (ah b))=true:=by rw [Xqn,aA];simp [ah];omega
 have L:Ξ (((0+(δ (k:Int)))*1)+1) (ζ (jB k b))=true:=by rw [Xqn,show (jB k b)=ah (b.set k 3) from aW (v:=3) c,aA];simp [ah];omega
 unfold eu;dsimp only;rw [Xqk];rcases tf (((16:Nat):Int)==d) with b1|b1
 ·have o:=P;have J:(x.name==a)=false:=by rcases hit with h|h;rw [h] at b1;cases b1;exact h
  rw [← aW c];exact pN 15 [2] 21 3 (.k 29 (aQ k) (.c (bJ i) (.c B (.c (aQ k) (.c (bJ c) (.c (aB u) (.c (aB J) (.k 1 (aC b1) (.k 7 (aQ k) (.c h0 (.c (aC h0) .nil))))))))))) (.v 41 (.eq (iL q)) (.c m (.v 87 (.ppt t) (.l o (.v 44 (.ppt C) .nil))))) p
 ·have o:=T;rw [← aW c];exact pN 15 [2] 21 1 (.k 29 (aQ k) (.c (bJ i) (.c B (.c (aQ k) (.c (bJ c) (.c (aB u) (.k 1 (aB b1) (.k 7 (aQ k) (.c h0 (.c (aC h0) .nil)))))))))) (.v 41 (.eq (iL q)) (.c m (.v 87 (.ppt t) (.l o (.v 44 (.ppt C) .nil))))) p
theorem ajo {nt:Nat} (p:282≤nt) (e:List Nd) (n:Bool) (A:List (List Nat)) (f:List Sc) (j:Bool) (b:List Nat) (d:Int) (a:List UInt8) (k:Nat) (V:k<e.length) (O:e.length<2^40) (W:A.length=e.length) (U:b.length=e.length) (D:List AV) (i:k<A.length) (x:Nd) (rA:List AV) (g:Nat) (Q:Nat) (G:Nd) (N u0:List AV) (l:Nat) (F:Nat) (H:Nd) (K u1:List AV) (C:(ε ((δ (k:Int))*5) (aH e))= [ω 17,.bool x.neg,.str x.num,.str x.den,.str x.name]++D) (t:(ε ((δ (k:Int))*1) (bC A))= [.sl [ω (g:Int),ω (l:Int)] 2 false]++rA) (M:(ε ((0+(δ (g:Int)))*1) (jB k b))= [ω (Q:Int)]++N) (I:(ε ((δ (g:Int))*5) (aH e))=iE G++u0) (S:(ε ((0+(δ (l:Int)))*1) (jB k b))= [ω (F:Int)]++K) (E:(ε ((δ (l:Int))*5) (aH e))=iE H++u1) (z:g<b.length) (s:g<e.length) (y:l<b.length) (r:l<e.length) (w:Nat) (R:Bool) (P:uQ e n A f j b d a 17 x.neg x.num x.den x.name k (x.name==a) w) (T:uQ e n A f j b d a 17 x.neg x.num x.den x.name k (false) w) (m:CO 46 [.sl (bT f) f.length j,.str x.name] (.ret (.bool R))) (u:((w:Int)==((0:Nat):Int))=false) (hit:(((17:Nat):Int)==d)=false∨(x.name==a)=false):ψ nt f15 (eu e n A f j d a (k,b)) .normal (eu e n A f j d a (k+1,b.set k (3))):=by
 have c:k<b.length:=by omega
 have q:k<2^62:=by omega
 have h0:(decide ((k:Int)<(e.length:Int)))=true:=Yq0 (by omega);have B:Ξ (((0+(δ (k:Int)))*1)+1) (ζ (ah b))=true:=by rw [Xqn,aA];simp [ah];omega
 have L:Ξ (((0+(δ (k:Int)))*1)+1) (ζ (jB k b))=true:=by rw [Xqn,show (jB k b)=ah (b.set k 3) from aW (v:=3) c,aA];simp [ah];omega
 unfold eu;dsimp only;rw [Xqk];rcases tf (((17:Nat):Int)==d) with b1|b1
 ·have o:=P;have J:(x.name==a)=false:=by rcases hit with h|h;rw [h] at b1;cases b1;exact h
  rw [← aW c];exact pN 15 [2] 21 3 (.k 29 (aQ k) (.c (bJ i) (.c B (.c (aQ k) (.c (bJ c) (.c (aB u) (.c (aB J) (.k 1 (aC b1) (.k 7 (aQ k) (.c h0 (.c (aC h0) .nil))))))))))) (.v 41 (.eq (iL q)) (.c m (.v 87 (.ppt t) (.l o (.v 44 (.ppt C) .nil))))) p
 ·have o:=T;rw [← aW c];exact pN 15 [2] 21 1 (.k 29 (aQ k) (.c (bJ i) (.c B (.c (aQ k) (.c (bJ c) (.c (aB u) (.k 1 (aB b1) (.k 7 (aQ k) (.c h0 (.c (aC h0) .nil)))))))))) (.v 41 (.eq (iL q)) (.c m (.v 87 (.ppt t) (.l o (.v 44 (.ppt C) .nil))))) p
theorem ajp {nt:Nat} (p:282≤nt) (e:List Nd) (n:Bool) (A:List (List Nat)) (f:List Sc) (j:Bool) (b:List Nat) (d:Int) (a:List UInt8) (k:Nat) (V:k<e.length) (O:e.length<2^40) (W:A.length=e.length) (U:b.length=e.length) (D:List AV) (i:k<A.length) (x:Nd) (rA:List AV) (g:Nat) (Q:Nat) (G:Nd) (N u0:List AV) (l:Nat) (F:Nat) (H:Nd) (K u1:List AV) (C:(ε ((δ (k:Int))*5) (aH e))= [ω 18,.bool x.neg,.str x.num,.str x.den,.str x.name]++D) (t:(ε ((δ (k:Int))*1) (bC A))= [.sl [ω (g:Int),ω (l:Int)] 2 false]++rA) (M:(ε ((0+(δ (g:Int)))*1) (jB k b))= [ω (Q:Int)]++N) (I:(ε ((δ (g:Int))*5) (aH e))=iE G++u0) (S:(ε ((0+(δ (l:Int)))*1) (jB k b))= [ω (F:Int)]++K) (E:(ε ((δ (l:Int))*5) (aH e))=iE H++u1) (z:g<b.length) (s:g<e.length) (y:l<b.length) (r:l<e.length) (w:Nat) (R:Bool) (P:uQ e n A f j b d a 18 x.neg x.num x.den x.name k (x.name==a) w) (T:uQ e n A f j b d a 18 x.neg x.num x.den x.name k (false) w) (m:CO 46 [.sl (bT f) f.length j,.str x.name] (.ret (.bool R))) (u:((w:Int)==((0:Nat):Int))=false) (hit:(((18:Nat):Int)==d)=false∨(x.name==a)=false):ψ nt f15 (eu e n A f j d a (k,b)) .normal (eu e n A f j d a (k+1,b.set k (3))):=by
 have c:k<b.length:=by omega
 have q:k<2^62:=by omega
 have h0:(decide ((k:Int)<(e.length:Int)))=true:=Yq0 (by omega);have B:Ξ (((0+(δ (k:Int)))*1)+1) (ζ (ah b))=true:=by rw [Xqn,aA];simp [ah];omega
 have L:Ξ (((0+(δ (k:Int)))*1)+1) (ζ (jB k b))=true:=by rw [Xqn,show (jB k b)=ah (b.set k 3) from aW (v:=3) c,aA];simp [ah];omega
 unfold eu;dsimp only;rw [Xqk];rcases tf (((18:Nat):Int)==d) with b1|b1
 ·have o:=P;have J:(x.name==a)=false:=by rcases hit with h|h;rw [h] at b1;cases b1;exact h
  rw [← aW c];exact pN 15 [2] 21 3 (.k 29 (aQ k) (.c (bJ i) (.c B (.c (aQ k) (.c (bJ c) (.c (aB u) (.c (aB J) (.k 1 (aC b1) (.k 7 (aQ k) (.c h0 (.c (aC h0) .nil))))))))))) (.v 41 (.eq (iL q)) (.c m (.v 87 (.ppt t) (.l o (.v 44 (.ppt C) .nil))))) p
 ·have o:=T;rw [← aW c];exact pN 15 [2] 21 1 (.k 29 (aQ k) (.c (bJ i) (.c B (.c (aQ k) (.c (bJ c) (.c (aB u) (.k 1 (aB b1) (.k 7 (aQ k) (.c h0 (.c (aC h0) .nil)))))))))) (.v 41 (.eq (iL q)) (.c m (.v 87 (.ppt t) (.l o (.v 44 (.ppt C) .nil))))) p
theorem ajq {nt:Nat} (p:282≤nt) (e:List Nd) (n:Bool) (A:List (List Nat)) (f:List Sc) (j:Bool) (b:List Nat) (d:Int) (a:List UInt8) (k:Nat) (V:k<e.length) (O:e.length<2^40) (W:A.length=e.length) (U:b.length=e.length) (D:List AV) (i:k<A.length) (x:Nd) (rA:List AV) (g:Nat) (Q:Nat) (G:Nd) (N u0:List AV) (l:Nat) (F:Nat) (H:Nd) (K u1:List AV) (C:(ε ((δ (k:Int))*5) (aH e))= [ω 19,.bool x.neg,.str x.num,.str x.den,.str x.name]++D) (t:(ε ((δ (k:Int))*1) (bC A))= [.sl [ω (g:Int),ω (l:Int)] 2 false]++rA) (M:(ε ((0+(δ (g:Int)))*1) (jB k b))= [ω (Q:Int)]++N) (I:(ε ((δ (g:Int))*5) (aH e))=iE G++u0) (S:(ε ((0+(δ (l:Int)))*1) (jB k b))= [ω (F:Int)]++K) (E:(ε ((δ (l:Int))*5) (aH e))=iE H++u1) (z:g<b.length) (s:g<e.length) (y:l<b.length) (r:l<e.length) (w:Nat) (R:Bool) (P:uQ e n A f j b d a 19 x.neg x.num x.den x.name k (x.name==a) w) (T:uQ e n A f j b d a 19 x.neg x.num x.den x.name k (false) w) (m:CO 46 [.sl (bT f) f.length j,.str x.name] (.ret (.bool R))) (u:((w:Int)==((0:Nat):Int))=false) (hit:(((19:Nat):Int)==d)=false∨(x.name==a)=false):ψ nt f15 (eu e n A f j d a (k,b)) .normal (eu e n A f j d a (k+1,b.set k (3))):=by
 have c:k<b.length:=by omega
 have q:k<2^62:=by omega
 have h0:(decide ((k:Int)<(e.length:Int)))=true:=Yq0 (by omega);have B:Ξ (((0+(δ (k:Int)))*1)+1) (ζ (ah b))=true:=by rw [Xqn,aA];simp [ah];omega
 have L:Ξ (((0+(δ (k:Int)))*1)+1) (ζ (jB k b))=true:=by rw [Xqn,show (jB k b)=ah (b.set k 3) from aW (v:=3) c,aA];simp [ah];omega
 unfold eu;dsimp only;rw [Xqk];rcases tf (((19:Nat):Int)==d) with b1|b1
 ·have o:=P;have J:(x.name==a)=false:=by rcases hit with h|h;rw [h] at b1;cases b1;exact h
  rw [← aW c];exact pN 15 [2] 21 3 (.k 29 (aQ k) (.c (bJ i) (.c B (.c (aQ k) (.c (bJ c) (.c (aB u) (.c (aB J) (.k 1 (aC b1) (.k 7 (aQ k) (.c h0 (.c (aC h0) .nil))))))))))) (.v 41 (.eq (iL q)) (.c m (.v 87 (.ppt t) (.l o (.v 44 (.ppt C) .nil))))) p
 ·have o:=T;rw [← aW c];exact pN 15 [2] 21 1 (.k 29 (aQ k) (.c (bJ i) (.c B (.c (aQ k) (.c (bJ c) (.c (aB u) (.k 1 (aB b1) (.k 7 (aQ k) (.c h0 (.c (aC h0) .nil)))))))))) (.v 41 (.eq (iL q)) (.c m (.v 87 (.ppt t) (.l o (.v 44 (.ppt C) .nil))))) p
theorem ajr {nt:Nat} (o:282≤nt) (e:List Nd) (m:Bool) (A:List (List Nat)) (f:List Sc) (j:Bool) (b:List Nat) (d:Int) (a:List UInt8) (k:Nat) (N:k<e.length) (H:e.length<2^40) (O:A.length=e.length) (M:b.length=e.length) (z:List AV) (i:k<A.length) (x:Nd) (rA:List AV) (g:Nat) (J:Nat) (B:Nd) (G u0:List AV) (y:(ε ((δ (k:Int))*5) (aH e))= [ω 20,.bool x.neg,.str x.num,.str x.den,.str x.name]++z) (r:(ε ((δ (k:Int))*1) (bC A))= [.sl [ω (g:Int)] 1 false]++rA) (F:(ε ((0+(δ (g:Int)))*1) (jB k b))= [ω (J:Int)]++G) (C:(ε ((δ (g:Int))*5) (aH e))=iE B++u0) (t:g<b.length) (q:g<e.length) (w:Nat) (K:Bool) (I:uQ e m A f j b d a 20 x.neg x.num x.den x.name k (x.name==a) w) (L:uQ e m A f j b d a 20 x.neg x.num x.den x.name k (false) w) (l:CO 46 [.sl (bT f) f.length j,.str x.name] (.ret (.bool K))) (s:((w:Int)==((0:Nat):Int))=false) (hit:(((20:Nat):Int)==d)=false∨(x.name==a)=false):ψ nt f15 (eu e m A f j d a (k,b)) .normal (eu e m A f j d a (k+1,b.set k (3))):=by
 have c:k<b.length:=by omega
 have p:k<2^62:=by omega
 have h0:(decide ((k:Int)<(e.length:Int)))=true:=Yq0 (by omega);have u:Ξ (((0+(δ (k:Int)))*1)+1) (ζ (ah b))=true:=by rw [Xqn,aA];simp [ah];omega
 have E:Ξ (((0+(δ (k:Int)))*1)+1) (ζ (jB k b))=true:=by rw [Xqn,show (jB k b)=ah (b.set k 3) from aW (v:=3) c,aA];simp [ah];omega
 unfold eu;dsimp only;rw [Xqk];rcases tf (((20:Nat):Int)==d) with b1|b1
 ·have n:=I;have D:(x.name==a)=false:=by rcases hit with h|h;rw [h] at b1;cases b1;exact h
  rw [← aW c];exact pN 15 [2] 21 3 (.k 29 (aQ k) (.c (bJ i) (.c u (.c (aQ k) (.c (bJ c) (.c (aB s) (.c (aB D) (.k 1 (aC b1) (.k 7 (aQ k) (.c h0 (.c (aC h0) .nil))))))))))) (.v 41 (.eq (iL p)) (.c l (.v 87 (.ppt r) (.l n (.v 44 (.ppt y) .nil))))) o
 ·have n:=L;rw [← aW c];exact pN 15 [2] 21 1 (.k 29 (aQ k) (.c (bJ i) (.c u (.c (aQ k) (.c (bJ c) (.c (aB s) (.k 1 (aB b1) (.k 7 (aQ k) (.c h0 (.c (aC h0) .nil)))))))))) (.v 41 (.eq (iL p)) (.c l (.v 87 (.ppt r) (.l n (.v 44 (.ppt y) .nil))))) o
theorem ajs {nt:Nat} (p:282≤nt) (e:List Nd) (n:Bool) (A:List (List Nat)) (f:List Sc) (l:Bool) (c:List Nat) (d:Int) (a:List UInt8) (k:Nat) (N:k<e.length) (H:e.length<2^40) (O:A.length=e.length) (M:c.length=e.length) (B:List AV) (j:k<A.length) (x:Nd) (rA:List AV) (i:Nat) (J:Nat) (C:Nd) (G u0:List AV) (z:(ε ((δ (k:Int))*5) (aH e))= [ω 21,.bool x.neg,.str x.num,.str x.den,.str x.name]++B) (s:(ε ((δ (k:Int))*1) (bC A))= [.sl [ω (i:Int)] 1 false]++rA) (F:(ε ((0+(δ (i:Int)))*1) (jB k c))= [ω (J:Int)]++G) (D:(ε ((δ (i:Int))*5) (aH e))=iE C++u0) (u:i<c.length) (r:i<e.length) (w:Nat) (K:Bool) (I:uQ e n A f l c d a 21 x.neg x.num x.den x.name k (x.name==a) w) (L:uQ e n A f l c d a 21 x.neg x.num x.den x.name k (false) w) (m:CO 46 [.sl (bT f) f.length l,.str x.name] (.ret (.bool K))) (t:((w:Int)==((0:Nat):Int))=false) (hit:(((21:Nat):Int)==d)=false∨(x.name==a)=false):ψ nt f15 (eu e n A f l d a (k,c)) .normal (eu e n A f l d a (k+1,c.set k (w))):=by
 have b:k<c.length:=by omega
 have q:k<2^62:=by omega
 have h0:(decide ((k:Int)<(e.length:Int)))=true:=Yq0 (by omega);have y:Ξ (((0+(δ (k:Int)))*1)+1) (ζ (ah c))=true:=by rw [Xqn,aA];simp [ah];omega
 have g:Ξ (((0+(δ (k:Int)))*1)+1) (ζ (jB k c))=true:=by rw [Xqn,show (jB k c)=ah (c.set k 3) from aW (v:=3) b,aA];simp [ah];omega
 unfold eu;dsimp only;rw [Xqk];rcases tf (((21:Nat):Int)==d) with b1|b1
 ·have o:=I;have E:(x.name==a)=false:=by rcases hit with h|h;rw [h] at b1;cases b1;exact h
  rw [← dJ b];exact pN 15 [2] 21 387 (.k 19 g (.c (aQ k) (.c (bJ b) (.k 11 (aQ k) (.c (bJ j) (.c y (.c (aQ k) (.c (bJ b) (.c (aB t) (.c (aB E) (.k 1 (aC b1) (.k 7 (aQ k) (.c h0 (.c (aC h0) .nil)))))))))))))) (.v 41 (.eq (iL q)) (.c m (.v 87 (.ppt s) (.l o (.v 44 (.ppt z) .nil))))) p
 ·have o:=L;rw [← dJ b];exact pN 15 [2] 21 385 (.k 19 g (.c (aQ k) (.c (bJ b) (.k 11 (aQ k) (.c (bJ j) (.c y (.c (aQ k) (.c (bJ b) (.c (aB t) (.k 1 (aB b1) (.k 7 (aQ k) (.c h0 (.c (aC h0) .nil))))))))))))) (.v 41 (.eq (iL q)) (.c m (.v 87 (.ppt s) (.l o (.v 44 (.ppt z) .nil))))) p
theorem ajt {nt:Nat} (p:282≤nt) (e:List Nd) (n:Bool) (A:List (List Nat)) (f:List Sc) (l:Bool) (c:List Nat) (d:Int) (a:List UInt8) (k:Nat) (N:k<e.length) (H:e.length<2^40) (O:A.length=e.length) (M:c.length=e.length) (B:List AV) (j:k<A.length) (x:Nd) (rA:List AV) (i:Nat) (J:Nat) (C:Nd) (G u0:List AV) (z:(ε ((δ (k:Int))*5) (aH e))= [ω 22,.bool x.neg,.str x.num,.str x.den,.str x.name]++B) (s:(ε ((δ (k:Int))*1) (bC A))= [.sl [ω (i:Int)] 1 false]++rA) (F:(ε ((0+(δ (i:Int)))*1) (jB k c))= [ω (J:Int)]++G) (D:(ε ((δ (i:Int))*5) (aH e))=iE C++u0) (u:i<c.length) (r:i<e.length) (w:Nat) (K:Bool) (I:uQ e n A f l c d a 22 x.neg x.num x.den x.name k (x.name==a) w) (L:uQ e n A f l c d a 22 x.neg x.num x.den x.name k (false) w) (m:CO 46 [.sl (bT f) f.length l,.str x.name] (.ret (.bool K))) (t:((w:Int)==((0:Nat):Int))=false) (hit:(((22:Nat):Int)==d)=false∨(x.name==a)=false):ψ nt f15 (eu e n A f l d a (k,c)) .normal (eu e n A f l d a (k+1,c.set k (w))):=by
 have b:k<c.length:=by omega
 have q:k<2^62:=by omega
 have h0:(decide ((k:Int)<(e.length:Int)))=true:=Yq0 (by omega);have y:Ξ (((0+(δ (k:Int)))*1)+1) (ζ (ah c))=true:=by rw [Xqn,aA];simp [ah];omega
 have g:Ξ (((0+(δ (k:Int)))*1)+1) (ζ (jB k c))=true:=by rw [Xqn,show (jB k c)=ah (c.set k 3) from aW (v:=3) b,aA];simp [ah];omega
 unfold eu;dsimp only;rw [Xqk];rcases tf (((22:Nat):Int)==d) with b1|b1
 ·have o:=I;have E:(x.name==a)=false:=by rcases hit with h|h;rw [h] at b1;cases b1;exact h
  rw [← dJ b];exact pN 15 [2] 21 387 (.k 19 g (.c (aQ k) (.c (bJ b) (.k 11 (aQ k) (.c (bJ j) (.c y (.c (aQ k) (.c (bJ b) (.c (aB t) (.c (aB E) (.k 1 (aC b1) (.k 7 (aQ k) (.c h0 (.c (aC h0) .nil)))))))))))))) (.v 41 (.eq (iL q)) (.c m (.v 87 (.ppt s) (.l o (.v 44 (.ppt z) .nil))))) p
 ·have o:=L;rw [← dJ b];exact pN 15 [2] 21 385 (.k 19 g (.c (aQ k) (.c (bJ b) (.k 11 (aQ k) (.c (bJ j) (.c y (.c (aQ k) (.c (bJ b) (.c (aB t) (.k 1 (aB b1) (.k 7 (aQ k) (.c h0 (.c (aC h0) .nil))))))))))))) (.v 41 (.eq (iL q)) (.c m (.v 87 (.ppt s) (.l o (.v 44 (.ppt z) .nil))))) p
theorem aju {nt:Nat} (p:282≤nt) (e:List Nd) (n:Bool) (A:List (List Nat)) (f:List Sc) (l:Bool) (c:List Nat) (d:Int) (a:List UInt8) (k:Nat) (N:k<e.length) (H:e.length<2^40) (O:A.length=e.length) (M:c.length=e.length) (B:List AV) (j:k<A.length) (x:Nd) (rA:List AV) (i:Nat) (J:Nat) (C:Nd) (G u0:List AV) (z:(ε ((δ (k:Int))*5) (aH e))= [ω 23,.bool x.neg,.str x.num,.str x.den,.str x.name]++B) (s:(ε ((δ (k:Int))*1) (bC A))= [.sl [ω (i:Int)] 1 false]++rA) (F:(ε ((0+(δ (i:Int)))*1) (jB k c))= [ω (J:Int)]++G) (D:(ε ((δ (i:Int))*5) (aH e))=iE C++u0) (u:i<c.length) (r:i<e.length) (w:Nat) (K:Bool) (I:uQ e n A f l c d a 23 x.neg x.num x.den x.name k (x.name==a) w) (L:uQ e n A f l c d a 23 x.neg x.num x.den x.name k (false) w) (m:CO 46 [.sl (bT f) f.length l,.str x.name] (.ret (.bool K))) (t:((w:Int)==((0:Nat):Int))=false) (hit:(((23:Nat):Int)==d)=false∨(x.name==a)=false):ψ nt f15 (eu e n A f l d a (k,c)) .normal (eu e n A f l d a (k+1,c.set k (w))):=by
 have b:k<c.length:=by omega
 have q:k<2^62:=by omega
 have h0:(decide ((k:Int)<(e.length:Int)))=true:=Yq0 (by omega);have y:Ξ (((0+(δ (k:Int)))*1)+1) (ζ (ah c))=true:=by rw [Xqn,aA];simp [ah];omega
 have g:Ξ (((0+(δ (k:Int)))*1)+1) (ζ (jB k c))=true:=by rw [Xqn,show (jB k c)=ah (c.set k 3) from aW (v:=3) b,aA];simp [ah];omega
 unfold eu;dsimp only;rw [Xqk];rcases tf (((23:Nat):Int)==d) with b1|b1
 ·have o:=I;have E:(x.name==a)=false:=by rcases hit with h|h;rw [h] at b1;cases b1;exact h
  rw [← dJ b];exact pN 15 [2] 21 387 (.k 19 g (.c (aQ k) (.c (bJ b) (.k 11 (aQ k) (.c (bJ j) (.c y (.c (aQ k) (.c (bJ b) (.c (aB t) (.c (aB E) (.k 1 (aC b1) (.k 7 (aQ k) (.c h0 (.c (aC h0) .nil)))))))))))))) (.v 41 (.eq (iL q)) (.c m (.v 87 (.ppt s) (.l o (.v 44 (.ppt z) .nil))))) p
 ·have o:=L;rw [← dJ b];exact pN 15 [2] 21 385 (.k 19 g (.c (aQ k) (.c (bJ b) (.k 11 (aQ k) (.c (bJ j) (.c y (.c (aQ k) (.c (bJ b) (.c (aB t) (.k 1 (aB b1) (.k 7 (aQ k) (.c h0 (.c (aC h0) .nil))))))))))))) (.v 41 (.eq (iL q)) (.c m (.v 87 (.ppt s) (.l o (.v 44 (.ppt z) .nil))))) p
theorem ajv {nt:Nat} (p:282≤nt) (e:List Nd) (r:Bool) (A:List (List Nat)) (j:List Sc) (o:Bool) (c:List Nat) (i:Int) (b:List UInt8) (k:Nat) (N:k<e.length) (I:e.length<2^40) (O:A.length=e.length) (M:c.length=e.length) (D:List AV) (d:k<A.length) (x:Nd) (rA:List AV) (n:Nat) (K:Nat) (E:Nd) (H u0:List AV) (y:(ε ((δ (k:Int))*5) (aH e))= [ω 24,.bool x.neg,.str x.num,.str x.den,.str x.name]++D) (s:(ε ((δ (k:Int))*1) (bC A))= [.sl [ω (n:Int)] 1 false]++rA) (G:(ε ((0+(δ (n:Int)))*1) (jB k c))= [ω (K:Int)]++H) (F:(ε ((δ (n:Int))*5) (aH e))=iE E++u0) (C:n<c.length) (z:n<e.length) (w:Nat) (g:Bool) (J:uQ e r A j o c i b 24 x.neg x.num x.den x.name k (x.name==b) w) (L:uQ e r A j o c i b 24 x.neg x.num x.den x.name k (false) w) (f:CO 46 [.sl (bT j) j.length o,.str x.name] (.ret (.bool g))) (t:((w:Int)==((0:Nat):Int))=false) (hit:(((24:Nat):Int)==i)=false∨(x.name==b)=false):ψ nt f15 (eu e r A j o i b (k,c)) .normal (eu e r A j o i b (k+1,c.set k (cond g w 3))):=by
 have a:k<c.length:=by omega
 have q:k<2^62:=by omega
 have h0:(decide ((k:Int)<(e.length:Int)))=true:=Yq0 (by omega);have u:Ξ (((0+(δ (k:Int)))*1)+1) (ζ (ah c))=true:=by rw [Xqn,aA];simp [ah];omega
 have l:Ξ (((0+(δ (k:Int)))*1)+1) (ζ (jB k c))=true:=by rw [Xqn,show (jB k c)=ah (c.set k 3) from aW (v:=3) a,aA];simp [ah];omega
 unfold eu;dsimp only;rw [Xqk];rcases tf (((24:Nat):Int)==i) with b1|b1
 ·have m:=J;have B:(x.name==b)=false:=by rcases hit with h|h;rw [h] at b1;cases b1;exact h
  rcases tf g with d0|d0
  ·rw [show (cond g w 3)=w by rw [d0];rfl];rw [← dJ a];exact pN 15 [2] 21 1572995 (.c l (.c (aQ k) (.c (bJ a) (.c (aC d0) (.k 29 (aQ k) (.c (bJ d) (.c u (.c (aQ k) (.c (bJ a) (.c (aB t) (.c (aB B) (.k 1 (aC b1) (.k 7 (aQ k) (.c h0 (.c (aC h0) .nil))))))))))))))) (.v 41 (.eq (iL q)) (.c f (.v 87 (.ppt s) (.l m (.v 44 (.ppt y) .nil))))) p
  ·rw [show (cond g w 3)=3 by rw [d0];rfl];rw [← aW a];exact pN 15 [2] 21 524419 (.c (aB d0) (.k 29 (aQ k) (.c (bJ d) (.c u (.c (aQ k) (.c (bJ a) (.c (aB t) (.c (aB B) (.k 1 (aC b1) (.k 7 (aQ k) (.c h0 (.c (aC h0) .nil)))))))))))) (.v 41 (.eq (iL q)) (.c f (.v 87 (.ppt s) (.l m (.v 44 (.ppt y) .nil))))) p
 ·have m:=L;rcases tf g with d0|d0
  ·rw [show (cond g w 3)=w by rw [d0];rfl];rw [← dJ a];exact pN 15 [2] 21 1572993 (.c l (.c (aQ k) (.c (bJ a) (.c (aC d0) (.k 29 (aQ k) (.c (bJ d) (.c u (.c (aQ k) (.c (bJ a) (.c (aB t) (.k 1 (aB b1) (.k 7 (aQ k) (.c h0 (.c (aC h0) .nil)))))))))))))) (.v 41 (.eq (iL q)) (.c f (.v 87 (.ppt s) (.l m (.v 44 (.ppt y) .nil))))) p
  ·rw [show (cond g w 3)=3 by rw [d0];rfl];rw [← aW a];exact pN 15 [2] 21 524417 (.c (aB d0) (.k 29 (aQ k) (.c (bJ d) (.c u (.c (aQ k) (.c (bJ a) (.c (aB t) (.k 1 (aB b1) (.k 7 (aQ k) (.c h0 (.c (aC h0) .nil))))))))))) (.v 41 (.eq (iL q)) (.c f (.v 87 (.ppt s) (.l m (.v 44 (.ppt y) .nil))))) p
theorem pR {l:List Nat} (h:l.length=2):∃ a b,l= [a,b]:=match l,h with| [a,b],_=> ⟨a,b,rfl⟩
theorem Df {l:List Nat} (h:l.length=1):∃ a,l= [a]:=match l,h with| [a],_=> ⟨a,rfl⟩
theorem ace {l:List Nat} (h:l.length=3):∃ a b c,l= [a,b,c]:=match l,h with| [a,b,c],_=> ⟨a,b,c,rfl⟩
theorem S9 {a:List Nat} {k:Nat} (h:a.getD k 0=0):a.set k 0=a:=by
 by_cases hk:k<a.length
 ·rw [ry hk] at h
  conv=>lhs;rw [← h]
  exact List.set_getElem_self hk
 ·exact List.set_eq_of_length_le (by omega)
theorem uq {a:List Nat} {k j v:Nat} (h:j ≠ k):(a.set k v).getD j 0=a.getD j 0:=by
 rw [ξ,ξ,List.getElem?_set_ne (Ne.symm h)]
theorem adQ {a:List Nat} {k j:Nat} (b:k<a.length) (c:j<k):ε ((0+(δ (j:Int)))*1) (μ ((0+(δ (k:Int)))*1) (ah a)++ [ω 3]++ε (((0+(δ (k:Int)))*1)+1) (ah a))= [ω ((a.getD j 0:Nat):Int)]++ah ((a.set k 3).drop (j+1)):=by
 rw [show (μ ((0+(δ (k:Int)))*1) (ah a)++ [ω 3]++ε (((0+(δ (k:Int)))*1)+1) (ah a))=ah (a.set k 3) from aW (v:=3) b,χ,kH (by rw [Xqk];omega),uq (by omega)]
theorem aag {nt:Nat} (K:282≤nt) (e:List Nd) (H:Bool) (q:List Sc) (G:Bool) (d:List Nat) (ck:Sc→Int) (I:Sc→Bool) (E:Int) (i:List UInt8) (k:Nat) (x:Nd) (hsm:∀ y ∈ e,y.sm) (hq:eG e=0) (hx:e[k]? =some x) (r:e.length<2^40) (L:d.length=e.length) (Z:q.length<2^40) (hz:d.getD k 0=0) (R:∀ j,j<k→fB (e.getD j iQ).op=true→d.getD j 0=0) (hc:∀ x ∈ q,CO 71 [.agg (xO x)] (.ret (ω (ck x)))∧(ck x=0→CO 72 [.agg (xO x)] (.ret (.bool (I x))))):
  ψ nt f15 (eu e H (bU e) q G E i (k,d)) .normal (eu e H (bU e) q G E i (k+1,d.set k (yX ck I e (bU e) q E i d k x))):=by
 obtain ⟨M,hsp⟩:=nK hq;obtain ⟨s,l⟩:=hsp k x hx;obtain ⟨J,hxe⟩:=List.getElem?_eq_some_iff.1 hx;have hgx:e.getD k iQ=x:=by rw [ξ,hx];rfl
 generalize hAA:bU e=A at*
 have t:k<A.length:=by omega
 have V:k<d.length:=by omega
 have m:∀ j ∈ A.getD k [],j<d.length:=fun j Q=>by have:=l j Q;omega
 have U:(A.getD k []).length<2^40:=by rw [s];unfold eU;split<;>(try split)<;>(try split)<;>omega
 have N:(ε ((δ (k:Int))*5) (aH e))=iE x++aH (e.drop (k+1)):=by rw [uG J,hgx]
 have v:=fun b=>aem e H A q G d E i x.op x.neg x.num x.den x.name k b t U m
 unfold yX;by_cases hit:(x.op==E && x.name==i)=true
 ·rw [hit];rw [σ] at hit;exact apM K e H A q G d E i k J r M L _ x N hit.1 hit.2
 ·rw [Xk1] at hit;rw [hit];have p:(x.op==E)=false∨(x.name==i)=false:=Bool.and_eq_false_iff.1 hit;rcases tf ((((dZ A d k):Nat):Int)==((0:Nat):Int)) with b3|b3
  ·rw [b3];dsimp only [cond];rw [S9 hz];rcases tf (x.op==E) with b1|b1
   ·have b2:(x.name==i)=false:=by rcases p with h|h;rw [h] at b1;cases b1;exact h
    exact apN K e H A q G d E i k J r M L _ x N _ (v _) b1 b2 b3
   ·exact apO K e H A q G d E i k J r M L _ x N _ (v _) b1 b3
  ·rw [b3];dsimp only [cond];have w:=WP q G x.name ck I Z hc;have W:A.getD k [] ≠ []:=by
    intro h;have:dZ A d k=0:=by unfold dZ;rw [h];rfl
    rw [this] at b3;exact absurd b3 (by decide)
   have g:=lD t;have o:∀ j ∈ A.getD k [],ε ((0+(δ (j:Int)))*1) (μ ((0+(δ (k:Int)))*1) (ah d)++ [ω 3]++ε (((0+(δ (k:Int)))*1)+1) (ah d))= [ω ((d.getD j 0:Nat):Int)]++ah ((d.set k 3).drop (j+1)):=fun j Q=>adQ V (l j Q)
   have n:∀ j ∈ A.getD k [],(ε ((δ (j:Int))*5) (aH e))=iE (e.getD j iQ)++aH (e.drop (j+1)):=fun j Q=>uG (by have:=l j Q;omega)
   rcases x with ⟨F,z,B,C,u⟩
   dsimp only at*
   have X:F=9∨F=10∨F=11∨F=12∨F=13∨F=14∨F=15∨F=16∨F=17∨F=18∨F=19∨F=20∨F=21∨F=22∨F=23∨F=24:=by
    have S:eU F ≠ 0:=by intro h;rw [h] at s;exact W (List.length_eq_zero_iff.1 s)
    unfold eU at S;by_cases g1:F=15
    ·omega
    ·rw [if_neg g1] at S;by_cases g2:(9≤F∧F≤14)∨(16≤F∧F≤19)
     ·omega
     ·rw [if_neg g2] at S;by_cases g3:20≤F∧F≤24
      ·omega
      ·rw [if_neg g3] at S;exact absurd rfl S
   have P:∀ j,(e.getD j iQ).num.length<2^33∧(e.getD j iQ).den.length<2^33:=by
    intro j;by_cases Q:j<e.length
    ·exact hsm _ (by rw [ξ,π Q];exact Xjr Q)
    ·rw [ξ,Xqx (by omega)];decide
   rcases X with hxo|hxo|hxo|hxo|hxo|hxo|hxo|hxo|hxo|hxo|hxo|hxo|hxo|hxo|hxo|hxo
   ·subst hxo;obtain ⟨c,f,a⟩:=pR (show (A.getD k []).length=2 by rw [s];rfl);rw [a] at g;have D:fM ck I e A q d k ⟨9,z,B,C,u⟩=dZ A d k:=by
     unfold fM;dsimp only;rw [if_pos (by decide)]
    rw [D];exact apL K e H A q G d E i k J r M L _ t ⟨9,z,B,C,u⟩ _ c (d.getD c 0) (e.getD c iQ) _ _ f (d.getD f 0) (e.getD f iQ) _ _ N g (o c (by rw [a];simp)) (n c (by rw [a];simp)) (o f (by rw [a];simp)) (n f (by rw [a];simp)) (m c (by rw [a];simp)) (by have:=l c (by rw [a];simp);omega) (m f (by rw [a];simp)) (by have:=l f (by rw [a];simp);omega) (dZ A d k) _ (v _) (v _) w b3 p
   ·subst hxo;obtain ⟨c,f,a⟩:=pR (show (A.getD k []).length=2 by rw [s];rfl);rw [a] at g;have D:fM ck I e A q d k ⟨10,z,B,C,u⟩=dX (d.getD c 0) (jD (d.getD f 0)):=by
     unfold fM;dsimp only;rw [if_neg (by decide)];rw [if_pos (by decide)];rw [show eH A d k 0=d.getD c 0 by unfold eH;rw [a];rfl,show eH A d k 1=d.getD f 0 by unfold eH;rw [a];rfl]
    rw [D];exact ajh K e H A q G d E i k J r M L _ t ⟨10,z,B,C,u⟩ _ c (d.getD c 0) (e.getD c iQ) _ _ f (d.getD f 0) (e.getD f iQ) _ _ N g (o c (by rw [a];simp)) (n c (by rw [a];simp)) (o f (by rw [a];simp)) (n f (by rw [a];simp)) (m c (by rw [a];simp)) (by have:=l c (by rw [a];simp);omega) (m f (by rw [a];simp)) (by have:=l f (by rw [a];simp);omega) (dZ A d k) _ (v _) (v _) w b3 p
   ·subst hxo;obtain ⟨c,f,a⟩:=pR (show (A.getD k []).length=2 by rw [s];rfl);rw [a] at g;have D:fM ck I e A q d k ⟨11,z,B,C,u⟩=cond (fB (e.getD c iQ).op) (gJ (e.getD c iQ).neg (d.getD f 0)) (cond (fB (e.getD f iQ).op) (gJ (e.getD f iQ).neg (d.getD c 0)) 3):=by
     unfold fM;dsimp only;rw [if_neg (by decide)];rw [if_neg (by decide)];rw [if_pos (by decide)];unfold Ey;rw [show eH A d k 0=d.getD c 0 by unfold eH;rw [a];rfl,show eH A d k 1=d.getD f 0 by unfold eH;rw [a];rfl,show rM e A k 0=e.getD c iQ by unfold rM;rw [a];rfl,show rM e A k 1=e.getD f iQ by unfold rM;rw [a];rfl]
    have Y:fB (e.getD c iQ).op=true→fB (e.getD f iQ).op=false:=by
     intro S;rcases tf (fB (e.getD f iQ).op) with h2|h2
     ·exfalso;have z0:=R c (l c (by rw [a];simp)) S;have z1:=R f (l f (by rw [a];simp)) h2;have:dZ A d k=0:=by unfold dZ;rw [a];show dX (dX 0 (d.getD c 0)) (d.getD f 0)=0;rw [z0,z1];rfl
      rw [this] at b3;exact absurd b3 (by decide)
     ·exact h2
    rw [D];exact aji K e H A q G d E i k J r M L _ t ⟨11,z,B,C,u⟩ _ c (d.getD c 0) (e.getD c iQ) _ _ f (d.getD f 0) (e.getD f iQ) _ _ N g (o c (by rw [a];simp)) (n c (by rw [a];simp)) (o f (by rw [a];simp)) (n f (by rw [a];simp)) (m c (by rw [a];simp)) (by have:=l c (by rw [a];simp);omega) (m f (by rw [a];simp)) (by have:=l f (by rw [a];simp);omega) (dZ A d k) _ (v _) (v _) w Y b3 p
   ·subst hxo;obtain ⟨c,f,a⟩:=pR (show (A.getD k []).length=2 by rw [s];rfl);rw [a] at g;have D:fM ck I e A q d k ⟨12,z,B,C,u⟩=cond (fB (e.getD f iQ).op) (cond (gz (e.getD f iQ).neg (e.getD f iQ).num (e.getD f iQ).den==((0:Nat):Int)) 3 (gJ (e.getD f iQ).neg (d.getD c 0))) 3:=by
     unfold fM;dsimp only;rw [if_neg (by decide)];rw [if_neg (by decide)];rw [if_neg (by decide)];rw [if_pos (by decide)];unfold Dv;rw [show eH A d k 0=d.getD c 0 by unfold eH;rw [a];rfl,show rM e A k 1=e.getD f iQ by unfold rM;rw [a];rfl]
    have csg_:=qM (e.getD f iQ).neg (e.getD f iQ).num (e.getD f iQ).den (P f).1 (P f).2;rw [D];exact ajj K e H A q G d E i k J r M L _ t ⟨12,z,B,C,u⟩ _ c (d.getD c 0) (e.getD c iQ) _ _ f (d.getD f 0) (e.getD f iQ) _ _ N g (o c (by rw [a];simp)) (n c (by rw [a];simp)) (o f (by rw [a];simp)) (n f (by rw [a];simp)) (m c (by rw [a];simp)) (by have:=l c (by rw [a];simp);omega) (m f (by rw [a];simp)) (by have:=l f (by rw [a];simp);omega) (dZ A d k) _ (v _) (v _) w csg_ b3 p
   ·subst hxo;obtain ⟨c,f,a⟩:=pR (show (A.getD k []).length=2 by rw [s];rfl);rw [a] at g;have D:fM ck I e A q d k ⟨13,z,B,C,u⟩=dZ A d k:=by
     unfold fM;dsimp only;rw [if_pos (by decide)]
    rw [D];exact ajk K e H A q G d E i k J r M L _ t ⟨13,z,B,C,u⟩ _ c (d.getD c 0) (e.getD c iQ) _ _ f (d.getD f 0) (e.getD f iQ) _ _ N g (o c (by rw [a];simp)) (n c (by rw [a];simp)) (o f (by rw [a];simp)) (n f (by rw [a];simp)) (m c (by rw [a];simp)) (by have:=l c (by rw [a];simp);omega) (m f (by rw [a];simp)) (by have:=l f (by rw [a];simp);omega) (dZ A d k) _ (v _) (v _) w b3 p
   ·subst hxo;obtain ⟨c,f,a⟩:=pR (show (A.getD k []).length=2 by rw [s];rfl);rw [a] at g;have D:fM ck I e A q d k ⟨14,z,B,C,u⟩=dZ A d k:=by
     unfold fM;dsimp only;rw [if_pos (by decide)]
    rw [D];exact ajl K e H A q G d E i k J r M L _ t ⟨14,z,B,C,u⟩ _ c (d.getD c 0) (e.getD c iQ) _ _ f (d.getD f 0) (e.getD f iQ) _ _ N g (o c (by rw [a];simp)) (n c (by rw [a];simp)) (o f (by rw [a];simp)) (n f (by rw [a];simp)) (m c (by rw [a];simp)) (by have:=l c (by rw [a];simp);omega) (m f (by rw [a];simp)) (by have:=l f (by rw [a];simp);omega) (dZ A d k) _ (v _) (v _) w b3 p
   ·subst hxo;obtain ⟨c,f,O,a⟩:=ace (show (A.getD k []).length=3 by rw [s];rfl);rw [a] at g;have D:fM ck I e A q d k ⟨15,z,B,C,u⟩=cond (((d.getD c 0:Nat):Int)==((0:Nat):Int)) (dX (d.getD f 0) (d.getD O 0)) 3:=by
     unfold fM;dsimp only;rw [if_neg (by decide)];rw [if_neg (by decide)];rw [if_neg (by decide)];rw [if_neg (by decide)];rw [if_pos (by decide)];unfold IB;rw [show eH A d k 0=d.getD c 0 by unfold eH;rw [a];rfl,show eH A d k 1=d.getD f 0 by unfold eH;rw [a];rfl,show eH A d k 2=d.getD O 0 by unfold eH;rw [a];rfl]
    rw [D];exact ajm K e H A q G d E i k J r M L _ t ⟨15,z,B,C,u⟩ _ c (d.getD c 0) (e.getD c iQ) _ _ f (d.getD f 0) (e.getD f iQ) _ _ O (d.getD O 0) (e.getD O iQ) _ _ N g (o c (by rw [a];simp)) (n c (by rw [a];simp)) (o f (by rw [a];simp)) (n f (by rw [a];simp)) (o O (by rw [a];simp)) (n O (by rw [a];simp)) (m c (by rw [a];simp)) (by have:=l c (by rw [a];simp);omega) (m f (by rw [a];simp)) (by have:=l f (by rw [a];simp);omega) (m O (by rw [a];simp)) (by have:=l O (by rw [a];simp);omega) (dZ A d k) _ (v _) (v _) w b3 p
   ·subst hxo;obtain ⟨c,f,a⟩:=pR (show (A.getD k []).length=2 by rw [s];rfl);rw [a] at g;have D:fM ck I e A q d k ⟨16,z,B,C,u⟩=3:=by
     unfold fM;dsimp only;rw [if_neg (by decide)];rw [if_neg (by decide)];rw [if_neg (by decide)];rw [if_neg (by decide)];rw [if_neg (by decide)];rw [if_neg (by decide)]
    rw [D];exact ajn K e H A q G d E i k J r M L _ t ⟨16,z,B,C,u⟩ _ c (d.getD c 0) (e.getD c iQ) _ _ f (d.getD f 0) (e.getD f iQ) _ _ N g (o c (by rw [a];simp)) (n c (by rw [a];simp)) (o f (by rw [a];simp)) (n f (by rw [a];simp)) (m c (by rw [a];simp)) (by have:=l c (by rw [a];simp);omega) (m f (by rw [a];simp)) (by have:=l f (by rw [a];simp);omega) (dZ A d k) _ (v _) (v _) w b3 p
   ·subst hxo;obtain ⟨c,f,a⟩:=pR (show (A.getD k []).length=2 by rw [s];rfl);rw [a] at g;have D:fM ck I e A q d k ⟨17,z,B,C,u⟩=3:=by
     unfold fM;dsimp only;rw [if_neg (by decide)];rw [if_neg (by decide)];rw [if_neg (by decide)];rw [if_neg (by decide)];rw [if_neg (by decide)];rw [if_neg (by decide)]
    rw [D];exact ajo K e H A q G d E i k J r M L _ t ⟨17,z,B,C,u⟩ _ c (d.getD c 0) (e.getD c iQ) _ _ f (d.getD f 0) (e.getD f iQ) _ _ N g (o c (by rw [a];simp)) (n c (by rw [a];simp)) (o f (by rw [a];simp)) (n f (by rw [a];simp)) (m c (by rw [a];simp)) (by have:=l c (by rw [a];simp);omega) (m f (by rw [a];simp)) (by have:=l f (by rw [a];simp);omega) (dZ A d k) _ (v _) (v _) w b3 p
   ·subst hxo;obtain ⟨c,f,a⟩:=pR (show (A.getD k []).length=2 by rw [s];rfl);rw [a] at g;have D:fM ck I e A q d k ⟨18,z,B,C,u⟩=3:=by
     unfold fM;dsimp only;rw [if_neg (by decide)];rw [if_neg (by decide)];rw [if_neg (by decide)];rw [if_neg (by decide)];rw [if_neg (by decide)];rw [if_neg (by decide)]
    rw [D];exact ajp K e H A q G d E i k J r M L _ t ⟨18,z,B,C,u⟩ _ c (d.getD c 0) (e.getD c iQ) _ _ f (d.getD f 0) (e.getD f iQ) _ _ N g (o c (by rw [a];simp)) (n c (by rw [a];simp)) (o f (by rw [a];simp)) (n f (by rw [a];simp)) (m c (by rw [a];simp)) (by have:=l c (by rw [a];simp);omega) (m f (by rw [a];simp)) (by have:=l f (by rw [a];simp);omega) (dZ A d k) _ (v _) (v _) w b3 p
   ·subst hxo;obtain ⟨c,f,a⟩:=pR (show (A.getD k []).length=2 by rw [s];rfl);rw [a] at g;have D:fM ck I e A q d k ⟨19,z,B,C,u⟩=3:=by
     unfold fM;dsimp only;rw [if_neg (by decide)];rw [if_neg (by decide)];rw [if_neg (by decide)];rw [if_neg (by decide)];rw [if_neg (by decide)];rw [if_neg (by decide)]
    rw [D];exact ajq K e H A q G d E i k J r M L _ t ⟨19,z,B,C,u⟩ _ c (d.getD c 0) (e.getD c iQ) _ _ f (d.getD f 0) (e.getD f iQ) _ _ N g (o c (by rw [a];simp)) (n c (by rw [a];simp)) (o f (by rw [a];simp)) (n f (by rw [a];simp)) (m c (by rw [a];simp)) (by have:=l c (by rw [a];simp);omega) (m f (by rw [a];simp)) (by have:=l f (by rw [a];simp);omega) (dZ A d k) _ (v _) (v _) w b3 p
   ·subst hxo;obtain ⟨c,a⟩:=Df (show (A.getD k []).length=1 by rw [s];rfl);rw [a] at g;have D:fM ck I e A q d k ⟨20,z,B,C,u⟩=3:=by
     unfold fM;dsimp only;rw [if_neg (by decide)];rw [if_neg (by decide)];rw [if_neg (by decide)];rw [if_neg (by decide)];rw [if_neg (by decide)];rw [if_neg (by decide)]
    rw [D];exact ajr K e H A q G d E i k J r M L _ t ⟨20,z,B,C,u⟩ _ c (d.getD c 0) (e.getD c iQ) _ _ N g (o c (by rw [a];simp)) (n c (by rw [a];simp)) (m c (by rw [a];simp)) (by have:=l c (by rw [a];simp);omega) (dZ A d k) _ (v _) (v _) w b3 p
   ·subst hxo;obtain ⟨c,a⟩:=Df (show (A.getD k []).length=1 by rw [s];rfl);rw [a] at g;have D:fM ck I e A q d k ⟨21,z,B,C,u⟩=dZ A d k:=by
     unfold fM;dsimp only;rw [if_pos (by decide)]
    rw [D];exact ajs K e H A q G d E i k J r M L _ t ⟨21,z,B,C,u⟩ _ c (d.getD c 0) (e.getD c iQ) _ _ N g (o c (by rw [a];simp)) (n c (by rw [a];simp)) (m c (by rw [a];simp)) (by have:=l c (by rw [a];simp);omega) (dZ A d k) _ (v _) (v _) w b3 p
   ·subst hxo;obtain ⟨c,a⟩:=Df (show (A.getD k []).length=1 by rw [s];rfl);rw [a] at g;have D:fM ck I e A q d k ⟨22,z,B,C,u⟩=dZ A d k:=by
     unfold fM;dsimp only;rw [if_pos (by decide)]
    rw [D];exact ajt K e H A q G d E i k J r M L _ t ⟨22,z,B,C,u⟩ _ c (d.getD c 0) (e.getD c iQ) _ _ N g (o c (by rw [a];simp)) (n c (by rw [a];simp)) (m c (by rw [a];simp)) (by have:=l c (by rw [a];simp);omega) (dZ A d k) _ (v _) (v _) w b3 p
   ·subst hxo;obtain ⟨c,a⟩:=Df (show (A.getD k []).length=1 by rw [s];rfl);rw [a] at g;have D:fM ck I e A q d k ⟨23,z,B,C,u⟩=dZ A d k:=by
     unfold fM;dsimp only;rw [if_pos (by decide)]
    rw [D];exact aju K e H A q G d E i k J r M L _ t ⟨23,z,B,C,u⟩ _ c (d.getD c 0) (e.getD c iQ) _ _ N g (o c (by rw [a];simp)) (n c (by rw [a];simp)) (m c (by rw [a];simp)) (by have:=l c (by rw [a];simp);omega) (dZ A d k) _ (v _) (v _) w b3 p
   ·subst hxo;obtain ⟨c,a⟩:=Df (show (A.getD k []).length=1 by rw [s];rfl);rw [a] at g;have D:fM ck I e A q d k ⟨24,z,B,C,u⟩=cond ((yQ ck I u q).getD false) (dZ A d k) 3:=by
     unfold fM;dsimp only;rw [if_neg (by decide)];rw [if_neg (by decide)];rw [if_neg (by decide)];rw [if_neg (by decide)];rw [if_neg (by decide)];rw [if_pos (by decide)];unfold Hw;rw [show eH A d k 0=d.getD c 0 by unfold eH;rw [a];rfl,EX];have T:dZ A d k=d.getD c 0:=by unfold dZ;rw [a];show dX 0 _=_;rfl
     rw [T];cases q.find? (fun x=>x.name==u) with
     |none=>rfl
     |some y=>show cond (ck y==0) (cond (I y) _ 3) 3=cond (ck y==0 && I y) _ 3;cases (ck y==0)<;>rfl
    rw [D];exact ajv K e H A q G d E i k J r M L _ t ⟨24,z,B,C,u⟩ _ c (d.getD c 0) (e.getD c iQ) _ _ N g (o c (by rw [a];simp)) (n c (by rw [a];simp)) (m c (by rw [a];simp)) (by have:=l c (by rw [a];simp);omega) (dZ A d k) _ (v _) (v _) w b3 p
theorem Gs {S:aU}:∀ (A:List (List Nat)) {vs:List Value},dD S (iI A) vs→dD S (bC A) vs
 | [],[],_=>by simp only [bC,List.map_nil,dD]
 | [],_::_,h=>by simp [iI,dD] at h
 |a::r,[],h=>by simp [iI,dD] at h
 | a::r,v::vs,h=>by
  simp only [iI,Xqf,dD] at h;simp only [bC,Xqf,dD];refine ⟨?_,Gs r h.2⟩;have d:=h.1;cases a with
  |nil=>simp only [J4,PR] at d;subst d;simp only [zt,PR];exact ⟨none,0,rfl,Θ _,.inl (by simp [ah])⟩
  |cons b l=>
   simp only [J4,PR] at d;obtain ⟨p,f,e,g,c⟩:=d;simp only [zt,PR];refine ⟨p,f,e,g,.inr ?_⟩;rcases c with ⟨_,c,_⟩|c
   ·cases c
   ·exact c
theorem xe (A:List (List Nat)):aZ (.sl (iI A) A.length true) (.sl (bC A) A.length true):=by
 intro g m S v h;simp only [VR,PR] at h ⊢;obtain ⟨p,f,e,j,d⟩:=h;refine ⟨p,f,e,j, ?_⟩;rcases d with ⟨l,d,i,a⟩|⟨b,c,vs,i,a,k⟩
 ·cases A with
  |nil=>exact .inl ⟨l,rfl,rfl,a⟩
  |cons x r=>cases d
 ·exact .inr ⟨b,c,vs,i,Gs A a,k⟩
theorem Hu (l:List Nd) (b:Bool) (a:∀ x ∈ l,x.sm) (c:eG l=0):CO 40 [.sl (aH l) l.length b] (.ret (.tup [.sl (iI (bU l)) (bU l).length true,.bool true])):=by
 rw [(nK c).1];exact Wq l b a c
theorem aeo (e:List Nd) (b:Bool) (A:List (List Nat)) (c:List Sc) (f:Bool) (h:List Nat) (g:Int) (a:List UInt8) (d:CO 40 [.sl (aH e) e.length b] (.ret (.tup [.nilS,.bool false]))):CO 15 [.sl (aH e) e.length b,.sl (bT c) c.length f,ω g,.str a] (.ret (ω ((3:Nat):Int))):=pK [] 3 7 (.n 3 .nil) (.c d .nil)
theorem aai (e:List Nd) (d:Bool) (A:List (List Nat)) (f:List Sc) (h:Bool) (i:List Nat) (a:Int) (b:List UInt8) (c:CO 40 [.sl (aH e) e.length d] (.ret (.tup [.sl (iI A) A.length true,.bool true]))) (j:a<5∨8<a):CO 15 [.sl (aH e) e.length d,.sl (bT f) f.length h,ω a,.str b] (.ret (ω ((3:Nat):Int))):=by
 rcases tf (decide (a<((5:Nat):Int))) with b0|b0
 ·exact pK [] 3 6 (.k 1 (aC b0) (.n 1 .nil)) (.v 21 (xe A) (.c c .nil))
 ·have g:(decide (((8:Nat):Int)<a))=true:=Yq0 (by have:=of_decide_eq_false b0;omega);exact pK [] 3 4 (.c (aC g) (.c (aB b0) (.n 1 .nil))) (.v 21 (xe A) (.c c .nil))
theorem aep (e:List Nd) (g:Bool) (A:List (List Nat)) (h:List Sc) (k:Bool) (d:List Nat) (b:Int) (a:List UInt8) (f s:Nat) (o:List AV) (l:CO 40 [.sl (aH e) e.length g] (.ret (.tup [.sl (iI A) A.length true,.bool true]))) (n:(decide (b<((5:Nat):Int)))=false) (m:(decide (((8:Nat):Int)<b))=false) (i:e.length=f+1) (c:e.length<2^40) (j:f<d.length) (hs:(ε ((0+(δ (f:Int)))*1) (ah d))= [ω (s:Int)]++o)
  (m0:Nat) (Z:List AV) (hm0:m0=δ (e.length:Int)) (hZ:Z=gp (δ (e.length:Int)) [ω 0])
  (l0:aI prog ap [] 282 (.block 0 (.loop (ae 0 (af f15)))) ⟨[(0,.sl (aH e) e.length g),(1,.sl (bT h) h.length k),(2,ω b),(3,.str a),(8,ω 0),(9,.sl (bC A) A.length true),(10,.bool true),(11,.ref 0 0 0 m0),(12,ω 0),(13,.dead),(14,.dead),(15,.dead),(16,.dead),(17,.dead),(32,.bool (decide (((8:Nat):Int)<b))),(39,.dead),(55,.dead),(65,.dead),(81,.dead),(111,.dead),(118,.dead),(147,.dead),(176,.dead),(216,.dead),(245,.dead),(271,.dead)],[(0,⟨Z,0,false,0,1,true⟩)],.dead,[]⟩ (.normal) ⟨[(0,.sl (aH e) e.length g),(11,.ref 0 0 0 d.length)],[(0,⟨(ah d),0,false,0,1,true⟩)],.dead,[]⟩):CO 15 [.sl (aH e) e.length g,.sl (bT h) h.length k,ω b,.str a] (.ret (ω (s:Int))):=by
 subst hm0 hZ;exact pK [0] 3 0 (.a (gU [.int .i64] hs rfl) (.c (aQ f) (.c (bJ j) (.c (aQ e.length) (.c (deq e.length) (.c (dle c) (.c (aB m) (.c (aB n) (.n 1 .nil))))))))) (.v 281 (.rd1 (.int .i64) hs rfl) (.v 279 (.eq (wkn i c)) (.l l0 (.v 21 (xe A) (.c l .nil)))))
theorem Tf {ck:Sc→Int} {i:Sc→Bool} {e:List Nd} {o:List Sc} {b:Int} {a:List UInt8} {d:List Nat} {k:Nat} {x:Nd} (f:eG e=0) (n:e[k]? =some x) (p:5≤b∧b≤8) (c:fB x.op=true):yX ck i e (bU e) o b a d k x=0:=by
 have m:x.op=1∨x.op=2∨x.op=3:=by
  unfold fB at c;simp only [Bool.or_eq_true,beq_iff_eq] at c;exact c
 have g:dZ (bU e) d k=0:=by
  have l:=((nK f).2 k x n).1;have j:(bU e).getD k []= []:=List.length_eq_zero_iff.1 (by rw [l];rcases m with h|h|h<;>rw [h]<;>rfl);unfold dZ;rw [j];rfl
 unfold yX;rw [show (x.op==b)=false from beq_eq_false_iff_ne.2 (by omega),g];rfl
theorem aaf {nt:Nat} (u:282≤nt) (e:List Nd) (k:Bool) (f:List Sc) (q:Bool) (ck:Sc→Int) (i:Sc→Bool) (d:Int) (a:List UInt8) (l:∀ y ∈ e,y.sm) (v:eG e=0) (C:5≤d∧d≤8) (t:e.length<2^40) (s:f.length<2^40) (B:∀ x ∈ f,CO 71 [.agg (xO x)] (.ret (ω (ck x)))∧(ck x=0→CO 72 [.agg (xO x)] (.ret (.bool (i x))))):∀ (r p:List Nd) (b:List Nat),p++r=e→b.length=e.length→(∀ j,p.length≤j→b.getD j 0=0)→(∀ j,j<p.length→fB (e.getD j iQ).op=true→b.getD j 0=0)→
  aF prog ap [] nt (ae 0 (af f15)) (fun _=> .exit 0) (eu e k (bU e) f q d a) (WL e k) (p.length,b) (tq ck i e (bU e) f d a r p.length b):=by
 intro r
 induction r with
 |nil=>
  intro p b hp g _ _;rw [Γ] at hp;rw [hp];exact .done (aen u e k (bU e) f q b d a)
 | cons x r ih=>
  intro p b hp g w c;have n:e[p.length]? =some x:=by rw [← hp];simp
  have A:e.getD p.length iQ=x:=by rw [ξ,n];rfl
  have z:p.length<b.length:=by rw [g,← hp];simp
  have h:=ih (p++ [x]) (b.set p.length (yX ck i e (bU e) f d a b p.length x)) (by rw [← hp];simp) (by rw [Xqk];exact g)
   (by intro j o;rw [θ,ο] at o;rw [uq (by omega)];exact w j (by omega))
   (by
    intro j o m;rw [θ,ο] at o;by_cases e1:j=p.length
    ·subst e1;rw [A] at m;rw [ry (by rw [Xqk];exact z),List.getElem_set_self,Tf v n C m]
    ·rw [uq e1];exact c j (by omega) m)
  rw [θ,ο] at h;exact .next (aag u e k f q b ck i d a p.length x l v n t g s (w _ (Θ _)) c B) h
theorem SS (e:List Nd) (d:Bool) (c:List Sc) (k:Bool) (ck:Sc→Int) (g:Sc→Bool) (b:Int) (a:List UInt8) (f:∀ y ∈ e,y.sm) (m:e.length<2^40) (q:c.length<2^40) (v:∀ x ∈ c,CO 71 [.agg (xO x)] (.ret (ω (ck x)))∧(ck x=0→CO 72 [.agg (xO x)] (.ret (.bool (g x))))) (o:eG e ≠ 0→CO 40 [.sl (aH e) e.length d] (.ret (.tup [.nilS,.bool false]))):
  CO 15 [.sl (aH e) e.length d,.sl (bT c) c.length k,ω b,.str a] (.ret (ω ((jF ck g e c b a:Nat):Int))):=by
 unfold jF;by_cases hq:eG e=0
 ·by_cases ho:5≤b∧b≤8
  ·rw [if_pos ⟨hq,ho⟩];have h0:e ≠ []:=by intro h;rw [h] at hq;exact absurd hq (by decide)
   obtain ⟨i,n⟩:∃ i,e.length=i+1:=⟨e.length - 1,by have:=List.length_pos_iff.2 h0;omega⟩
   have r:(tq ck g e (bU e) c b a e 0 (κ e.length 0)).length=e.length:=by rw [zY,Xq8]
   have p:∀ j,(κ e.length 0).getD j 0=0:=by intro j;rw [ξ,List.getElem?_replicate];split<;>rfl
   have h:∀ nt,282≤nt→aF prog ap [] nt (ae 0 (af f15)) (fun _=> .exit 0) (eu e d (bU e) c k b a) (WL e d) (0,κ e.length 0) (tq ck g e (bU e) c b a e 0 (κ e.length 0)):=fun nt s=>aaf s e d c k ck g b a f hq ho m q v e [] _ rfl (Xq8 ..) (fun j _=>p j) (fun j u=>by simp at u)
   generalize tq ck g e (bU e) c b a e 0 (κ e.length 0)=ss at*
   rw [show e.length - 1=i by omega];have l:i<ss.length:=by omega
   refine aep e d (bU e) c k ss b a i (ss.getD i 0) _ (Hu e d f hq) (Yq1 (by omega)) (Yq1 (by omega)) n m l (by rw [χ];exact kH l) (κ e.length 0).length (ah (κ e.length 0)) (by rw [Xq8,aA]) (by rw [aA,yO]) ?_;have t:(decide (((8:Nat):Int)<b))=false:=Yq1 (by omega);rw [t];exact aF.blk h (by simp) rfl (aJ.of ⟨rfl,rfl,rfl,rfl,rfl,rfl,rfl,trivial⟩) (aJ.of ⟨rfl,rfl,trivial⟩)
  ·rw [if_neg (fun h=>ho h.2)];exact aai e d (bU e) c k [] b a (Hu e d f hq) (by omega)
 ·rw [if_neg (fun h=>hq h.1)];exact aeo e d [] c k [] b a (o hq)
structure Br where
 fn:Bool
 fa:List UInt8
 fd:List UInt8
 rn:Bool
 ra:List UInt8
 rd:List UInt8
def xU (x:Br):List AV:= [.bool x.fn,.str x.fa,.str x.fd,.bool x.rn,.str x.ra,.str x.rd]
def bP (l:List Br):List AV:=l.flatMap xU
def Br.sm (x:Br):Prop:=(x.fa.length<2^33∧x.fd.length<2^33)∧(x.ra.length<2^33∧x.rd.length<2^33)
abbrev Np (x:Br):AV:= .agg [.bool x.fn,.str x.fa,.str x.fd]
abbrev brR (x:Br):AV:= .agg [.bool x.rn,.str x.ra,.str x.rd]
theorem jh {l:List Br} {k:Nat} (h:k<l.length):ε (δ (k:Int)*6) (bP l)=xU l[k]++bP (l.drop (k+1)):=by
 rw [aA]
 induction l generalizing k with
 |nil=>simp at h
 | cons x r ih=>
  cases k with
  |zero=>simp [bP]
  |succ k=>
   have a:k<r.length:=by simpa using h
   show ε ((k+1)*6) (xU x++bP r)=_;rw [show (k+1)*6=(xU x).length+k*6 by simp [xU];omega,List.drop_append,Nat.add_sub_cancel_left,ih a,Xxj (by omega)];rfl
def Gy (cmp:Br→Br→Int):Option Br→List Br→Bool
 |_,[]=>true
 |none,x::r=>cond (iR x.fn x.fa x.fd) (cond (iR x.rn x.ra x.rd) (cond (gz x.fn x.fa x.fd==((0:Nat):Int)) (Gy cmp (some x) r) false) false) false
 |some y,x::r=>cond (iR x.fn x.fa x.fd) (cond (iR x.rn x.ra x.rd) (cond (decide (((0:Nat):Int)≤cmp y x)) false (Gy cmp (some x) r)) false) false
def afN (nm:List UInt8) (u1 u2:Int) (l:List Br) (k:Nat):St:=⟨[(1,.ptr 0 0 0),(3,.sl (bP l) l.length false),(16,.sl (bP l) l.length false),(17,ω (l.length:Int)),(18,ω (k:Int))],[(0,⟨[.str nm,ω u1,ω u2,.sl (bP l) l.length false],0,false,0,0,true⟩)],.dead,[]⟩
def aa6 (l:List Br):Bool→St
 |true=> ⟨[(3,.sl (bP l) l.length false)],[],.dead,[]⟩
 |false=> ⟨[(2,.int .i64 11)],[],.dead,[]⟩
def bkE:Bool→bK
 |true=> .exit 1
 |false=> .ret
def tJ (f:Nat) (cmp:Br→Br→Int) (l:List Br):Prop:=∀ i y x,l[i]? =some y→l[i+1]? =some x→iR x.fn x.fa x.fd=true→iR x.rn x.ra x.rd=true→CO f [Np y,Np x] (.ret (ω (cmp y x)))
theorem X8 {nt:Nat} (e:60≤nt) (H:List UInt8) (u1 u2:Int) (l:List Br) (cmp:Br→Br→Int) (C:l.length<2^40) (z:∀ x ∈ l,x.sm) (F:tJ 129 cmp l):∀ (r p:List Br),p++r=l→
  aF prog ap [] nt (ae 1 (af f102)) bkE (afN H u1 u2 l) (aa6 l) p.length (Gy cmp p.getLast? r):=by
 intro r
 induction r with
 |nil=>
  intro p hp;rw [Γ] at hp;subst hp;have h0:(decide ((p.length:Int)<(p.length:Int)))=false:=Yq1 (by omega);rw [show Gy cmp p.getLast? []=true by cases p.getLast? <;>rfl];exact .done (pN 102 [] 1 0 (.c (aB h0) .nil) (.nil) e)
 | cons x r ih=>
  intro p hp;have E:p.length<l.length:=by rw [← hp];simp
  have n:l[p.length]=x:=by subst hp;simp
  have d:=jh E;rw [n] at d;have f:=ih (p++ [x]) (by rw [← hp];simp);rw [List.getLast?_append,List.getLast?_singleton,θ,ο] at f;simp only [Option.some_or] at f;have hs:=z x (by rw [← hp];simp);have a:CO 115 [Np x] (.ret (.bool (iR x.fn x.fa x.fd))):=uO x.fn x.fa x.fd (Xxo hs.1.1 (by decide)) (Xxo hs.1.2 (by decide));have c:CO 115 [brR x] (.ret (.bool (iR x.rn x.ra x.rd))):=uO x.rn x.ra x.rd (Xxo hs.2.1 (by decide)) (Xxo hs.2.2 (by decide));have D:CO 85 [Np x] (.ret (ω (gz x.fn x.fa x.fd))):=jO x.fn x.fa x.fd (Xxo hs.1.1 (by decide)) (Xxo hs.1.2 (by decide));cases j:p.getLast? with
  | none=>
   have u:p= []:=List.getLast?_eq_none_iff.1 j;subst u;generalize G:([]:List Br).length=k at*
   have w:k=0:=by rw [← G];rfl
   generalize bP (l.drop (k+1))=rB at d;have h0:(decide ((k:Int)<(l.length:Int)))=true:=Yq0 (by omega);have m:((k:Int)==((0:Nat):Int))=true:=by rw [w];rfl
   have s:(decide (((0:Nat):Int)<(k:Int)))=false:=Yq1 (by omega);have v:k<2^62:=by omega
   rcases tf (iR x.fn x.fa x.fd) with d0|d0
   ·rcases tf (iR x.rn x.ra x.rd) with d1|d1
    ·rcases tf ((gz x.fn x.fa x.fd)==((0:Nat):Int)) with d2|d2
     ·simp only [Gy,d0,d1,d2,cond_true,cond_false];exact .next (pN 102 [] 7 9 (.k 1 (aB s) (.c (aS d2) (.k 3 (aC m) (.c (aS d1) (.k 3 (aS d0) (.k 10 (aQ k) (.c h0 (.c (aC h0) .nil)))))))) (.v 57 (.eq (iL v)) (.c D (.c c (.c a (.v 21 (.ppt d) .nil))))) e) f
     ·simp only [Gy,d0,d1,d2,cond_true,cond_false];exact .done (pN 102 [] 6 57 (.k 1 (dK d2) (.k 3 (aC m) (.c (aS d1) (.k 3 (aS d0) (.k 10 (aQ k) (.c h0 (.c (aC h0) .nil))))))) (.c D (.c c (.c a (.v 21 (.ppt d) .nil)))) e)
    ·simp only [Gy,d0,d1,cond_true,cond_false];exact .done (pN 102 [] 3 5 (.c (dK d1) (.k 3 (aS d0) (.k 10 (aQ k) (.c h0 (.c (aC h0) .nil))))) (.c c (.c a (.v 21 (.ppt d) .nil))) e)
   ·simp only [Gy,d0,cond_true,cond_false];exact .done (pN 102 [] 3 7 (.k 1 (dK d0) (.k 10 (aQ k) (.c h0 (.c (aC h0) .nil)))) (.c a (.v 21 (.ppt d) .nil)) e)
  | some y=>
   obtain ⟨q,A⟩:∃ q,p=q++ [y]:=by
    obtain ⟨q,h⟩:=List.getLast?_eq_some_iff.1 j;exact ⟨q,h⟩
   have g:p.length=q.length+1:=by rw [A];simp
   have b:q.length<l.length:=by omega
   have t:=jh b;have o:l[q.length]=y:=by subst hp A;simp
   rw [o] at t;have B:=F q.length y x (by rw [π b,o]) (by rw [← g,π E,n]);clear A;generalize p.length=k at*
   generalize q.length=k1 at*
   generalize bP (l.drop (k+1))=rB at d;generalize bP (l.drop (k1+1))=rC at t;have h0:(decide ((k:Int)<(l.length:Int)))=true:=Yq0 (by omega);have m:((k:Int)==((0:Nat):Int))=false:=beq_eq_false_iff_ne.2 (by omega);have s:(decide (((0:Nat):Int)<(k:Int)))=true:=Yq0 (by omega);have v:k<2^62:=by omega
   have i:k<2^40:=by omega
   rcases tf (iR x.fn x.fa x.fd) with d0|d0
   ·rcases tf (iR x.rn x.ra x.rd) with d1|d1
    ·rcases tf (decide (((0:Nat):Int)≤(cmp y x))) with d2|d2
     ·simp only [Gy,d0,d1,d2,cond_true,cond_false];exact .done (pN 102 [] 7 97 (.c (aC d2) (.k 6 (aQ k1) (.c (bJ b) (.c (aC s) (.k 1 (aB m) (.c (aS d1) (.k 3 (aS d0) (.k 10 (aQ k) (.c h0 (.c (aC h0) .nil)))))))))) (.c (B d0 d1) (.v 48 (.ppt t) (.v 47 (.eq (wkn g i)) (.c c (.c a (.v 21 (.ppt d) .nil)))))) e)
     ·simp only [Gy,d0,d1,d2,cond_true,cond_false];exact .next (pN 102 [] 7 33 (.c (aB d2) (.k 6 (aQ k1) (.c (bJ b) (.c (aC s) (.k 1 (aB m) (.c (aS d1) (.k 3 (aS d0) (.k 10 (aQ k) (.c h0 (.c (aC h0) .nil)))))))))) (.v 57 (.eq (iL v)) (.c (B d0 d1) (.v 48 (.ppt t) (.v 47 (.eq (wkn g i)) (.c c (.c a (.v 21 (.ppt d) .nil))))))) e) f
    ·simp only [Gy,d0,d1,cond_true,cond_false];exact .done (pN 102 [] 3 5 (.c (dK d1) (.k 3 (aS d0) (.k 10 (aQ k) (.c h0 (.c (aC h0) .nil))))) (.c c (.c a (.v 21 (.ppt d) .nil))) e)
   ·simp only [Gy,d0,cond_true,cond_false];exact .done (pN 102 [] 3 7 (.k 1 (dK d0) (.k 10 (aQ k) (.c h0 (.c (aC h0) .nil)))) (.c a (.v 21 (.ppt d) .nil)) e)
def xA (P:Br→Bool):List Br→Nat→Option Nat
 | [],_=>none
 |x::r,i=>if P x then some i else xA P r (i+1)
theorem DW (P:Br→Bool):∀ (r:List Br) (i:Nat),(xA P r i).isSome=r.any P
 | [],_=>rfl
 |x::r,i=>by
  unfold xA;rw [Xz1];rcases tf (P x) with h|h
  ·rw [if_pos h,h];rfl
  ·rw [if_neg (by rw [h];decide),h,Xzd];exact DW P r (i+1)
def abj (l:List Br) (k:Nat):St:=⟨[(0,.sl (bP l) l.length false),(1,.fn 131 [] []),(7,ω (l.length:Int)),(8,ω (k:Int))],[],.dead,[]⟩
def Va (l:List Br):Option Nat→St
 |none=> ⟨[(0,.sl (bP l) l.length false)],[],.dead,[]⟩
 |some i=> ⟨[(4,.int .i64 (i:Int))],[],.dead,[]⟩
theorem Vd {nt:Nat} (c:19≤nt) (l:List Br) (P:Br→Bool) (f:l.length<2^40) (g:∀ x ∈ l,CO 131 [.agg (xU x)] (.ret (.bool (P x)))):∀ (r p:List Br),p++r=l→
  aF prog ap [] nt (ae 0 (af f159)) Ua (abj l) (Va l) p.length (xA P r p.length):=by
 intro r
 induction r with
 |nil=>
  intro p hp;rw [Γ] at hp;subst hp;have h0:(decide ((p.length:Int)<(p.length:Int)))=false:=Yq1 (by omega);exact .done (pN 159 [] 1 0 (.c (aB h0) .nil) (.nil) c)
 | cons x r ih=>
  intro p hp;have h:p.length<l.length:=by rw [← hp];simp
  have d:l[p.length]=x:=by subst hp;simp
  have b:=jh h;rw [d] at b;have a:=ih (p++ [x]) (by rw [← hp];simp);rw [θ,ο] at a;have e:=g x (by rw [← hp];simp);unfold xA;generalize p.length=k at*
  generalize bP (l.drop (k+1))=rB at b;have h0:(decide ((k:Int)<(l.length:Int)))=true:=Yq0 (by omega);have i:k<2^62:=by omega
  rcases tf (P x) with d0|d0
  ·rw [if_pos d0];exact .done (pN 159 [] 2 3 (.c (aC d0) (.k 6 (aQ k) (.c h0 (.c (aC h0) .nil)))) (.c e (.v 14 (.ppt b) .nil)) c)
  ·rw [if_neg (by rw [d0];decide)];exact .next (pN 159 [] 2 1 (.c (aB d0) (.k 6 (aQ k) (.c h0 (.c (aC h0) .nil)))) (.v 18 (.eq (iL i)) (.c e (.v 14 (.ppt b) .nil))) c) a
theorem acJ (l:List Br) (i:Nat) (a:aI prog ap [] 19 (.block 0 (.loop (ae 0 (af f159)))) ⟨[(0,.sl (bP l) l.length false),(1,.fn 131 [] []),(4,ω 0),(5,.dead),(7,ω (l.length:Int)),(8,ω 0),(9,.dead),(16,.dead)],[],.dead,[]⟩ (.ret) ⟨[(4,ω (i:Int))],[],.dead,[]⟩):CO 159 [.sl (bP l) l.length false,.fn 131 [] []] (.ret (ω (i:Int))):=pK [0] 0 0 .nil (.l a .nil)
theorem acG (l:List Br) (a:aI prog ap [] 19 (.block 0 (.loop (ae 0 (af f159)))) ⟨[(0,.sl (bP l) l.length false),(1,.fn 131 [] []),(4,ω 0),(5,.dead),(7,ω (l.length:Int)),(8,ω 0),(9,.dead),(16,.dead)],[],.dead,[]⟩ (.normal) ⟨[(0,.sl (bP l) l.length false)],[],.dead,[]⟩):CO 159 [.sl (bP l) l.length false,.fn 131 [] []] (.ret (ω (-1))):=pK [0] 0 0 .nil (.l a .nil)
theorem acB (l:List Br) (P:Br→Bool) (a:l.length<2^40) (c:∀ x ∈ l,CO 131 [.agg (xU x)] (.ret (.bool (P x)))):CO 159 [.sl (bP l) l.length false,.fn 131 [] []] (.ret (ω (ixI (xA P l 0)))):=by
 have h:∀ nt,19≤nt→aF prog ap [] nt (ae 0 (af f159)) Ua (abj l) (Va l) 0 (xA P l 0):=fun nt d=>Vd d l P a c l [] rfl
 cases b:xA P l 0 with
 |none=>
  rw [b] at h;exact acG l (aF.blk h (by simp [Ua]) rfl (aJ.of ⟨rfl,rfl,rfl,rfl,trivial⟩) (aJ.of ⟨rfl,trivial⟩))
 |some i=>
  rw [b] at h;exact acJ l i (aF.blk h (by simp [Ua]) rfl (aJ.of ⟨rfl,rfl,rfl,rfl,trivial⟩) (aJ.of ⟨rfl,trivial⟩))
theorem Yd (l:List Br) (a:Int) (b:CO 159 [.sl (bP l) l.length false,.fn 131 [] []] (.ret (ω a))):CO 130 [.sl (bP l) l.length false,.fn 131 [] []] (.ret (.bool (decide (((0:Nat):Int)≤a)))):=pK [] 0 0 .nil (.c b .nil)
theorem UD (l:List Br) (P:Br→Bool) (a:l.length<2^40) (c:∀ x ∈ l,CO 131 [.agg (xU x)] (.ret (.bool (P x)))):CO 130 [.sl (bP l) l.length false,.fn 131 [] []] (.ret (.bool (l.any P))):=by
 have h:=Yd l _ (acB l P a c);rw [← DW P l 0];cases b:xA P l 0 with
 |none=>rw [b] at h;exact h
 |some i=>
  rw [b] at h;rw [show (some i).isSome=decide (((0:Nat):Int)≤ixI (some i)) from (Yq0 (show ((0:Nat):Int)≤(i:Int) by omega)).symm];exact h
def abk (l:List Br) (k:Nat):St:=⟨[(0,.sl (bP l) l.length false),(1,.fn 160 [] []),(7,ω (l.length:Int)),(8,ω (k:Int))],[],.dead,[]⟩
def Vb (l:List Br):Option Nat→St
 |none=> ⟨[(0,.sl (bP l) l.length false)],[],.dead,[]⟩
 |some i=> ⟨[(4,.int .i64 (i:Int))],[],.dead,[]⟩
theorem Ve {nt:Nat} (c:19≤nt) (l:List Br) (P:Br→Bool) (f:l.length<2^40) (g:∀ x ∈ l,CO 160 [.agg (xU x)] (.ret (.bool (P x)))):∀ (r p:List Br),p++r=l→
  aF prog ap [] nt (ae 0 (af f159)) Ua (abk l) (Vb l) p.length (xA P r p.length):=by
 intro r
 induction r with
 |nil=>
  intro p hp;rw [Γ] at hp;subst hp;have h0:(decide ((p.length:Int)<(p.length:Int)))=false:=Yq1 (by omega);exact .done (pN 159 [] 1 0 (.c (aB h0) .nil) (.nil) c)
 | cons x r ih=>
  intro p hp;have h:p.length<l.length:=by rw [← hp];simp
  have d:l[p.length]=x:=by subst hp;simp
  have b:=jh h;rw [d] at b;have a:=ih (p++ [x]) (by rw [← hp];simp);rw [θ,ο] at a;have e:=g x (by rw [← hp];simp);unfold xA;generalize p.length=k at*
  generalize bP (l.drop (k+1))=rB at b;have h0:(decide ((k:Int)<(l.length:Int)))=true:=Yq0 (by omega);have i:k<2^62:=by omega
  rcases tf (P x) with d0|d0
  ·rw [if_pos d0];exact .done (pN 159 [] 2 3 (.c (aC d0) (.k 6 (aQ k) (.c h0 (.c (aC h0) .nil)))) (.c e (.v 14 (.ppt b) .nil)) c)
  ·rw [if_neg (by rw [d0];decide)];exact .next (pN 159 [] 2 1 (.c (aB d0) (.k 6 (aQ k) (.c h0 (.c (aC h0) .nil)))) (.v 18 (.eq (iL i)) (.c e (.v 14 (.ppt b) .nil))) c) a
theorem acK (l:List Br) (i:Nat) (a:aI prog ap [] 19 (.block 0 (.loop (ae 0 (af f159)))) ⟨[(0,.sl (bP l) l.length false),(1,.fn 160 [] []),(4,ω 0),(5,.dead),(7,ω (l.length:Int)),(8,ω 0),(9,.dead),(16,.dead)],[],.dead,[]⟩ (.ret) ⟨[(4,ω (i:Int))],[],.dead,[]⟩):CO 159 [.sl (bP l) l.length false,.fn 160 [] []] (.ret (ω (i:Int))):=pK [0] 0 0 .nil (.l a .nil)
theorem acH (l:List Br) (a:aI prog ap [] 19 (.block 0 (.loop (ae 0 (af f159)))) ⟨[(0,.sl (bP l) l.length false),(1,.fn 160 [] []),(4,ω 0),(5,.dead),(7,ω (l.length:Int)),(8,ω 0),(9,.dead),(16,.dead)],[],.dead,[]⟩ (.normal) ⟨[(0,.sl (bP l) l.length false)],[],.dead,[]⟩):CO 159 [.sl (bP l) l.length false,.fn 160 [] []] (.ret (ω (-1))):=pK [0] 0 0 .nil (.l a .nil)
theorem acC (l:List Br) (P:Br→Bool) (a:l.length<2^40) (c:∀ x ∈ l,CO 160 [.agg (xU x)] (.ret (.bool (P x)))):CO 159 [.sl (bP l) l.length false,.fn 160 [] []] (.ret (ω (ixI (xA P l 0)))):=by
 have h:∀ nt,19≤nt→aF prog ap [] nt (ae 0 (af f159)) Ua (abk l) (Vb l) 0 (xA P l 0):=fun nt d=>Ve d l P a c l [] rfl
 cases b:xA P l 0 with
 |none=>
  rw [b] at h;exact acH l (aF.blk h (by simp [Ua]) rfl (aJ.of ⟨rfl,rfl,rfl,rfl,trivial⟩) (aJ.of ⟨rfl,trivial⟩))
 |some i=>
  rw [b] at h;exact acK l i (aF.blk h (by simp [Ua]) rfl (aJ.of ⟨rfl,rfl,rfl,rfl,trivial⟩) (aJ.of ⟨rfl,trivial⟩))
theorem Ye (l:List Br) (a:Int) (b:CO 159 [.sl (bP l) l.length false,.fn 160 [] []] (.ret (ω a))):CO 130 [.sl (bP l) l.length false,.fn 160 [] []] (.ret (.bool (decide (((0:Nat):Int)≤a)))):=pK [] 0 0 .nil (.c b .nil)
theorem UE (l:List Br) (P:Br→Bool) (a:l.length<2^40) (c:∀ x ∈ l,CO 160 [.agg (xU x)] (.ret (.bool (P x)))):CO 130 [.sl (bP l) l.length false,.fn 160 [] []] (.ret (.bool (l.any P))):=by
 have h:=Ye l _ (acC l P a c);rw [← DW P l 0];cases b:xA P l 0 with
 |none=>rw [b] at h;exact h
 |some i=>
  rw [b] at h;rw [show (some i).isSome=decide (((0:Nat):Int)≤ixI (some i)) from (Yq0 (show ((0:Nat):Int)≤(i:Int) by omega)).symm];exact h
def Ir (x:Br):Bool:= !(jf x.fn x.fa x.fd)|| !(jf x.rn x.ra x.rd)
def sU (x:Br):Bool:=decide (gz x.rn x.ra x.rd<((0:Nat):Int))
theorem ab7 (x:Br) (hs:x.sm):CO 131 [.agg (xU x)] (.ret (.bool (Ir x))):=by
 rcases tf (jf x.fn x.fa x.fd) with b0|b0
 ·rw [show Ir x= !(jf x.rn x.ra x.rd) by unfold Ir;rw [b0];rfl];exact pK [] 1 0 (.k 3 (aS b0) (.n 3 .nil)) (.c (iP x.rn x.ra x.rd (Xxo hs.2.1 (by decide)) (Xxo hs.2.2 (by decide))) (.c (iP x.fn x.fa x.fd (Xxo hs.1.1 (by decide)) (Xxo hs.1.2 (by decide))) .nil))
 ·rw [show Ir x=true by unfold Ir;rw [b0];rfl];exact pK [] 1 1 (.c (dK b0) (.n 3 .nil)) (.c (iP x.fn x.fa x.fd (Xxo hs.1.1 (by decide)) (Xxo hs.1.2 (by decide))) .nil)
theorem YB (x:Br) (hs:x.sm):CO 160 [.agg (xU x)] (.ret (.bool (sU x))):=pK [] 0 0 (.n 3 .nil) (.c (jO x.rn x.ra x.rd (Xxo hs.2.1 (by decide)) (Xxo hs.2.2 (by decide))) .nil)
def ckQ (cmp:Br→Br→Int) (l:List Br):Int:=cond (decide (((8:Nat):Int)<(l.length:Int))) 2 (cond ((l.length:Int)==((0:Nat):Int)) 11 (cond (Gy cmp none l) (cond (l.any Ir) 3 0) 11))
theorem ak2 (b:List UInt8) (u1 u2:Int) (l:List Br) (a:Bool) (d:(decide (((8:Nat):Int)<(l.length:Int)))=false) (e:((l.length:Int)==((0:Nat):Int))=false) (c:CO 130 [.sl (bP l) l.length false,.fn 131 [] []] (.ret (.bool a)))
  (l0:aI prog ap [] 60 (.block 1 (.loop (ae 1 (af f102)))) ⟨[(0,.agg [.str b,ω u1,ω u2,.sl (bP l) l.length false]),(1,.ptr 0 0 0),(2,ω 0),(3,.sl (bP l) l.length false),(4,.dead),(5,.dead),(8,.bool (decide (((8:Nat):Int)<(l.length:Int)))),(12,.bool ((l.length:Int)==((0:Nat):Int))),(16,.sl (bP l) l.length false),(17,ω (l.length:Int)),(18,ω 0),(19,.dead),(32,.dead),(56,.dead),(59,.dead)],[(0,⟨[.str b,ω u1,ω u2,.sl (bP l) l.length false],0,false,0,0,true⟩)],.dead,[]⟩ (.normal) ⟨[(3,.sl (bP l) l.length false)],[],.dead,[]⟩):CO 102 [.agg [.str b,ω u1,ω u2,.sl (bP l) l.length false]] (.ret (ω (cond a 3 0))):=by
 rcases tf a with b2|b2
 ·rw [show (cond a 3 0:Int)=3 by rw [b2];rfl];exact pK [1] 3 4 (.c (aC b2) (.c (aB e) (.c (aB d) (.n 1 .nil)))) (.c c (.l l0 .nil))
 ·rw [show (cond a 3 0:Int)=0 by rw [b2];rfl];exact pK [1] 3 0 (.c (aB b2) (.c (aB e) (.c (aB d) (.n 1 .nil)))) (.c c (.l l0 .nil))
theorem ak1 (a:List UInt8) (u1 u2:Int) (l:List Br) (b:(decide (((8:Nat):Int)<(l.length:Int)))=false) (c:((l.length:Int)==((0:Nat):Int))=false)
  (l0:aI prog ap [] 60 (.block 1 (.loop (ae 1 (af f102)))) ⟨[(0,.agg [.str a,ω u1,ω u2,.sl (bP l) l.length false]),(1,.ptr 0 0 0),(2,ω 0),(3,.sl (bP l) l.length false),(4,.dead),(5,.dead),(8,.bool (decide (((8:Nat):Int)<(l.length:Int)))),(12,.bool ((l.length:Int)==((0:Nat):Int))),(16,.sl (bP l) l.length false),(17,ω (l.length:Int)),(18,ω 0),(19,.dead),(32,.dead),(56,.dead),(59,.dead)],[(0,⟨[.str a,ω u1,ω u2,.sl (bP l) l.length false],0,false,0,0,true⟩)],.dead,[]⟩ (.ret) ⟨[(2,ω 11)],[],.dead,[]⟩):CO 102 [.agg [.str a,ω u1,ω u2,.sl (bP l) l.length false]] (.ret (ω 11)):=pK [1] 2 0 (.c (aB c) (.c (aB b) (.n 1 .nil))) (.l l0 .nil)
theorem EZ (c:List UInt8) (u1 u2:Int) (l:List Br) (cmp:Br→Br→Int) (a:l.length<2^40) (b:∀ x ∈ l,x.sm) (f:tJ 129 cmp l):CO 102 [.agg [.str c,ω u1,ω u2,.sl (bP l) l.length false]] (.ret (ω (ckQ cmp l))):=by
 unfold ckQ;rcases tf (decide (((8:Nat):Int)<(l.length:Int))) with d0|d0
 ·rw [d0];exact pK [] 1 1 (.c (aC d0) (.n 1 .nil)) (.nil)
 ·rw [d0];rcases tf ((l.length:Int)==((0:Nat):Int)) with d1|d1
  ·rw [d1];exact pK [] 2 2 (.c (aC d1) (.c (aB d0) (.n 1 .nil))) (.nil)
  ·rw [d1];have h:∀ nt,60≤nt→aF prog ap [] nt (ae 1 (af f102)) bkE (afN c u1 u2 l) (aa6 l) 0 (Gy cmp none l):=fun nt e=>X8 e c u1 u2 l cmp a b f l [] rfl
   cases d:Gy cmp none l with
   |true=>
    rw [d] at h;exact ak2 c u1 u2 l _ d0 d1 (UD l Ir a fun x g=>ab7 x (b x g)) (aF.blk h (by simp [bkE]) rfl (aJ.of ⟨rfl,rfl,rfl,rfl,rfl,trivial⟩) (aJ.of ⟨rfl,trivial⟩))
   |false=>
    rw [d] at h;exact ak1 c u1 u2 l d0 d1 (aF.blk h (by simp [bkE]) rfl (aJ.of ⟨rfl,rfl,rfl,rfl,rfl,trivial⟩) (aJ.of ⟨rfl,trivial⟩))
theorem YC (c:List UInt8) (u1 u2:Int) (l:List Br) (a:Bool) (b:CO 130 [.sl (bP l) l.length false,.fn 160 [] []] (.ret (.bool a))):CO 132 [.agg [.str c,ω u1,ω u2,.sl (bP l) l.length false]] (.ret (.bool a)):=pK [] 0 0 (.n 1 .nil) (.c b .nil)
theorem UW (c:List UInt8) (u1 u2:Int) (l:List Br) (a:l.length<2^40) (b:∀ x ∈ l,x.sm):CO 132 [.agg [.str c,ω u1,ω u2,.sl (bP l) l.length false]] (.ret (.bool (l.any sU))):=YC c u1 u2 l _ (UE l sU a fun x d=>YB x (b x d))
theorem OB (c:List UInt8) (u1 u2:Int) (l:List Br) (a:Int) (b:Bool) (cK_:CO 102 [.agg [.str c,ω u1,ω u2,.sl (bP l) l.length false]] (.ret (ω a))) (d:CO 132 [.agg [.str c,ω u1,ω u2,.sl (bP l) l.length false]] (.ret (.bool b))):CO 103 [.agg [.str c,ω u1,ω u2,.sl (bP l) l.length false]] (.ret (.bool (a==((0:Nat):Int) && !b))):=by
 rcases tf (a==((0:Nat):Int)) with b0|b0
 ·rw [b0,Xxw];exact pK [] 1 1 (.k 4 (aC b0) (.n 4 .nil)) (.c d (.c cK_ .nil))
 ·rw [b0,Xxy];exact pK [] 1 0 (.c (aB b0) (.n 4 .nil)) (.c cK_ .nil)
theorem Gh (c:List UInt8) (u1 u2:Int) (l:List Br) (cmp:Br→Br→Int) (a:l.length<2^40) (b:∀ x ∈ l,x.sm) (d:tJ 129 cmp l):CO 103 [.agg [.str c,ω u1,ω u2,.sl (bP l) l.length false]] (.ret (.bool (ckQ cmp l==((0:Nat):Int) && !(l.any sU)))):=OB c u1 u2 l _ _ (EZ c u1 u2 l cmp a b d) (UW c u1 u2 l a b)
def j_ (x:Br):Bool:=iR x.fn x.fa x.fd && iR x.rn x.ra x.rd
def Str (nm:List UInt8) (u1 u2:Int) (l:List Br) (k:Nat):St:=⟨[(1,.ptr 0 0 0),(3,.sl (bP l) l.length false),(4,ω (k:Int))],[(0,⟨[.str nm,ω u1,ω u2,.sl (bP l) l.length false],0,false,0,0,true⟩)],.dead,[]⟩
def afw (l:List Br):Bool→St
 |true=> ⟨[(3,.sl (bP l) l.length false)],[],.dead,[]⟩
 |false=> ⟨[(2,.int .i64 11)],[],.dead,[]⟩
def Er:Bool→bK
 |true=> .exit 0
 |false=> .ret
theorem ahs {nt:Nat} (c:96≤nt) (j:List UInt8) (u1 u2:Int) (l:List Br) (h:l.length<2^40) (d:∀ x ∈ l,x.sm):∀ (r p:List Br),p++r=l→
  aF prog ap [] nt (ae 0 (af f71)) Er (Str j u1 u2 l) (afw l) p.length (r.all j_):=by
 intro r
 induction r with
 |nil=>
  intro p hp;rw [Γ] at hp;subst hp;have h0:(decide ((p.length:Int)<(p.length:Int)))=false:=Yq1 (by omega);exact .done (pN 71 [] 1 0 (.c (aB h0) .nil) (.nil) c)
 | cons x r ih=>
  intro p hp;have m:p.length<l.length:=by rw [← hp];simp
  have e:l[p.length]=x:=by subst hp;simp
  have a:=jh m;rw [e] at a;have b:=ih (p++ [x]) (by rw [← hp];simp);rw [θ,ο] at b;have hs:=d x (by rw [← hp];simp);have g:CO 104 [Np x] (.ret (.bool (iR x.fn x.fa x.fd))):=rQ x.fn x.fa x.fd hs.1.1 hs.1.2;have f:CO 104 [brR x] (.ret (.bool (iR x.rn x.ra x.rd))):=rQ x.rn x.ra x.rd hs.2.1 hs.2.2;generalize p.length=k at*
  generalize bP (l.drop (k+1))=rB at a;have h0:(decide ((k:Int)<(l.length:Int)))=true:=Yq0 (by omega);have i:k<2^62:=by omega
  rcases tf (iR x.fn x.fa x.fd) with d0|d0
  ·rcases tf (iR x.rn x.ra x.rd) with d1|d1
   ·simp only [Xx2,j_,d0,d1,Xxw,Xxy,Xzc,Xzr];exact .next (pN 71 [] 3 1 (.c (aS d1) (.c (aS d0) (.k 3 (aQ k) (.c h0 (.k 3 (aQ k) (.c h0 (.c (aC h0) .nil))))))) (.v 26 (.eq (iL i)) (.c f (.v 35 (.ppt a) (.c g (.v 29 (.ppt a) .nil))))) c) b
   ·simp only [Xx2,j_,d0,d1,Xxw,Xxy,Xzc,Xzr];exact .done (pN 71 [] 3 5 (.c (dK d1) (.c (aS d0) (.k 3 (aQ k) (.c h0 (.k 3 (aQ k) (.c h0 (.c (aC h0) .nil))))))) (.c f (.v 35 (.ppt a) (.c g (.v 29 (.ppt a) .nil)))) c)
  ·simp only [Xx2,j_,d0,Xxw,Xxy,Xzc,Xzr];exact .done (pN 71 [] 3 7 (.k 1 (dK d0) (.k 3 (aQ k) (.c h0 (.k 3 (aQ k) (.c h0 (.c (aC h0) .nil)))))) (.c f (.v 35 (.ppt a) (.c g (.v 29 (.ppt a) .nil)))) c)
def Aq (x:Br):Bool:=jf x.fn x.fa x.fd && jf x.rn x.ra x.rd
def Stf (l:List Br) (k:Nat):St:=⟨[(3,.sl (bP l) l.length false),(10,ω (k:Int))],[],.dead,[]⟩
def afv (l:List Br):Bool→St
 |true=> ⟨[(3,.sl (bP l) l.length false)],[],.dead,[]⟩
 |false=> ⟨[(2,.int .i64 3)],[],.dead,[]⟩
def Ef:Bool→bK
 |true=> .exit 4
 |false=> .ret
theorem ahr {nt:Nat} (c:96≤nt) (l:List Br) (h:l.length<2^40) (d:∀ x ∈ l,x.sm):∀ (r p:List Br),p++r=l→
  aF prog ap [] nt (ae 4 (af f71)) Ef (Stf l) (afv l) p.length (r.all Aq):=by
 intro r
 induction r with
 |nil=>
  intro p hp;rw [Γ] at hp;subst hp;have h0:(decide ((p.length:Int)<(p.length:Int)))=false:=Yq1 (by omega);exact .done (pN 71 [] 1 0 (.c (aB h0) .nil) (.nil) c)
 | cons x r ih=>
  intro p hp;have j:p.length<l.length:=by rw [← hp];simp
  have e:l[p.length]=x:=by subst hp;simp
  have a:=jh j;rw [e] at a;have b:=ih (p++ [x]) (by rw [← hp];simp);rw [θ,ο] at b;have hs:=d x (by rw [← hp];simp);have g:CO 105 [Np x] (.ret (.bool (jf x.fn x.fa x.fd))):=iK x.fn x.fa x.fd hs.1.1 hs.1.2;have f:CO 105 [brR x] (.ret (.bool (jf x.rn x.ra x.rd))):=iK x.rn x.ra x.rd hs.2.1 hs.2.2;generalize p.length=k at*
  generalize bP (l.drop (k+1))=rB at a;have h0:(decide ((k:Int)<(l.length:Int)))=true:=Yq0 (by omega);have i:k<2^62:=by omega
  rcases tf (jf x.fn x.fa x.fd) with d0|d0
  ·rcases tf (jf x.rn x.ra x.rd) with d1|d1
   ·simp only [Xx2,Aq,d0,d1,Xxw,Xxy,Xzc,Xzr];exact .next (pN 71 [] 3 1 (.c (aS d1) (.c (aS d0) (.k 3 (aQ k) (.c h0 (.k 3 (aQ k) (.c h0 (.c (aC h0) .nil))))))) (.v 77 (.eq (iL i)) (.c f (.v 86 (.ppt a) (.c g (.v 80 (.ppt a) .nil))))) c) b
   ·simp only [Xx2,Aq,d0,d1,Xxw,Xxy,Xzc,Xzr];exact .done (pN 71 [] 3 5 (.c (dK d1) (.c (aS d0) (.k 3 (aQ k) (.c h0 (.k 3 (aQ k) (.c h0 (.c (aC h0) .nil))))))) (.c f (.v 86 (.ppt a) (.c g (.v 80 (.ppt a) .nil)))) c)
  ·simp only [Xx2,Aq,d0,Xxw,Xxy,Xzc,Xzr];exact .done (pN 71 [] 3 7 (.k 1 (dK d0) (.k 3 (aQ k) (.c h0 (.k 3 (aQ k) (.c h0 (.c (aC h0) .nil)))))) (.c f (.v 86 (.ppt a) (.c g (.v 80 (.ppt a) .nil)))) c)
def Ik (cmp:Br→Br→Int):Br→List Br→Bool
 |_,[]=>true
 |y,x::r=>cond (decide (((0:Nat):Int)≤cmp y x)) false (Ik cmp x r)
def Sta (l:List Br) (k:Nat):St:=⟨[(3,.sl (bP l) l.length false),(8,ω (k:Int))],[],.dead,[]⟩
def aft (l:List Br):Bool→St
 |true=> ⟨[(3,.sl (bP l) l.length false)],[],.dead,[]⟩
 |false=> ⟨[(2,.int .i64 11)],[],.dead,[]⟩
def Ea:Bool→bK
 |true=> .exit 2
 |false=> .ret
theorem ahp {nt:Nat} (j:96≤nt) (l:List Br) (cmp:Br→Br→Int) (q:l.length<2^40) (t:∀ x ∈ l,j_ x=true) (u:tJ 24 cmp l):∀ (r p:List Br) (y:Br),(p++ [y])++r=l→
  aF prog ap [] nt (ae 2 (af f71)) Ea (Sta l) (aft l) (p.length+1) (Ik cmp y r):=by
 intro r
 induction r with
 |nil=>
  intro p y hp;rw [Γ] at hp;generalize m:p.length+1=k;have v:l.length=k:=by rw [← hp,← m];simp
  have h0:(decide ((k:Int)<(l.length:Int)))=false:=Yq1 (by omega);exact .done (pN 71 [] 1 0 (.c (aB h0) .nil) (.nil) j)
 | cons x r ih=>
  intro p y hp;have o:p.length+1<l.length:=by rw [← hp];simp
  have a:p.length<l.length:=by omega
  have g:l[p.length+1]=x:=by subst hp;simp
  have f:l[p.length]=y:=by subst hp;simp
  have i:=jh o;have h:=jh a;rw [g] at i;rw [f] at h;have e:=ih (p++ [y]) x (by rw [← hp];simp);rw [θ,ο] at e;have b:=t x (by rw [← hp];simp);unfold j_ at b;rw [σ] at b;have n:=u p.length y x (by rw [π a,f]) (by rw [π o,g]) b.1 b.2;unfold Ik;have c:p.length+1=p.length+1:=rfl;generalize m:p.length+1=k at*
  generalize w:p.length=k1 at*
  have c:k=k1+1:=m.symm;generalize bP (l.drop (k+1))=rB at i;generalize bP (l.drop k)=rC at h;have h0:(decide ((k:Int)<(l.length:Int)))=true:=Yq0 (by omega);have s:k<2^62:=by omega
  have d:k<2^40:=by omega
  rcases tf (decide (((0:Nat):Int)≤(cmp y x))) with d0|d0
  ·rw [d0];exact .done (pN 71 [] 2 3 (.c (aC d0) (.k 3 (aQ k) (.c h0 (.k 3 (aQ k1) (.c (bJ a) (.c (aC h0) .nil)))))) (.c n (.v 66 (.ppt i) (.v 61 (.ppt h) (.v 60 (.eq (wkn c d)) .nil)))) j)
  ·rw [d0];exact .next (pN 71 [] 2 1 (.c (aB d0) (.k 3 (aQ k) (.c h0 (.k 3 (aQ k1) (.c (bJ a) (.c (aC h0) .nil)))))) (.v 57 (.eq (iL s)) (.c n (.v 66 (.ppt i) (.v 61 (.ppt h) (.v 60 (.eq (wkn c d)) .nil))))) j) e
theorem apD (a:List UInt8) (u1 u2:Int) (l:List Br) (c:(decide (((8:Nat):Int)<(l.length:Int)))=false) (d:((l.length:Int)==((0:Nat):Int))=false) (b:aI prog ap [] 96 (.block 0 (.loop (ae 0 (af f71)))) ⟨[(0,.agg [.str a,ω u1,ω u2,.sl (bP l) l.length false]),(1,.ptr 0 0 0),(2,ω 0),(3,.sl (bP l) l.length false),(4,ω 0),(5,.dead),(6,.dead),(7,.dead),(8,.dead),(9,.dead),(10,.dead),(11,.dead),(12,.dead),(17,.bool (decide (((8:Nat):Int)<(l.length:Int)))),(20,.bool ((l.length:Int)==((0:Nat):Int))),(24,.dead),(44,.dead),(51,.dead),(55,.dead),(71,.dead),(75,.dead),(95,.dead)],[(0,⟨[.str a,ω u1,ω u2,.sl (bP l) l.length false],0,false,0,0,true⟩)],.dead,[]⟩ (.ret) ⟨[(2,ω 11)],[],.dead,[]⟩):CO 71 [.agg [.str a,ω u1,ω u2,.sl (bP l) l.length false]] (.ret (ω 11)):=pK [0,2,4] 2 0 (.c (aB d) (.c (aB c) (.n 1 .nil))) (.l b .nil)
theorem apI (d:List UInt8) (u1 u2:Int) (l:List Br) (g:(decide (((8:Nat):Int)<(l.length:Int)))=false) (i:((l.length:Int)==((0:Nat):Int))=false) (a:Br) (h:List AV) (c:ε 0 (bP l)=xU a++h) (b:(decide (((0:Nat):Int)<(l.length:Int)))=true) (f:CO 45 [Np a] (.ret (ω (gz a.fn a.fa a.fd)))) (z:((gz a.fn a.fa a.fd)==((0:Nat):Int))=false) (e:aI prog ap [] 96 (.block 0 (.loop (ae 0 (af f71)))) ⟨[(0,.agg [.str d,ω u1,ω u2,.sl (bP l) l.length false]),(1,.ptr 0 0 0),(2,ω 0),(3,.sl (bP l) l.length false),(4,ω 0),(5,.dead),(6,.dead),(7,.dead),(8,.dead),(9,.dead),(10,.dead),(11,.dead),(12,.dead),(17,.bool (decide (((8:Nat):Int)<(l.length:Int)))),(20,.bool ((l.length:Int)==((0:Nat):Int))),(24,.dead),(44,.dead),(51,.dead),(55,.dead),(71,.dead),(75,.dead),(95,.dead)],[(0,⟨[.str d,ω u1,ω u2,.sl (bP l) l.length false],0,false,0,0,true⟩)],.dead,[]⟩ (.normal) ⟨[(3,.sl (bP l) l.length false)],[],.dead,[]⟩):CO 71 [.agg [.str d,ω u1,ω u2,.sl (bP l) l.length false]] (.ret (ω 11)):=pK [0,2,4] 3 4 (.c (dK z) (.k 4 b (.c (aB i) (.c (aB g) (.n 1 .nil))))) (.c f (.v 46 (.ppt c) (.l e .nil)))
theorem apF (d:List UInt8) (u1 u2:Int) (l:List Br) (h:(decide (((8:Nat):Int)<(l.length:Int)))=false) (j:((l.length:Int)==((0:Nat):Int))=false) (a:Br) (i:List AV) (c:ε 0 (bP l)=xU a++i) (b:(decide (((0:Nat):Int)<(l.length:Int)))=true) (g:CO 45 [Np a] (.ret (ω (gz a.fn a.fa a.fd)))) (z:((gz a.fn a.fa a.fd)==((0:Nat):Int))=true) (e:aI prog ap [] 96 (.block 0 (.loop (ae 0 (af f71)))) ⟨[(0,.agg [.str d,ω u1,ω u2,.sl (bP l) l.length false]),(1,.ptr 0 0 0),(2,ω 0),(3,.sl (bP l) l.length false),(4,ω 0),(5,.dead),(6,.dead),(7,.dead),(8,.dead),(9,.dead),(10,.dead),(11,.dead),(12,.dead),(17,.bool (decide (((8:Nat):Int)<(l.length:Int)))),(20,.bool ((l.length:Int)==((0:Nat):Int))),(24,.dead),(44,.dead),(51,.dead),(55,.dead),(71,.dead),(75,.dead),(95,.dead)],[(0,⟨[.str d,ω u1,ω u2,.sl (bP l) l.length false],0,false,0,0,true⟩)],.dead,[]⟩ (.normal) ⟨[(3,.sl (bP l) l.length false)],[],.dead,[]⟩) (f:aI prog ap [] 96 (.block 2 (.loop (ae 2 (af f71)))) ⟨[(0,.dead),(1,.dead),(2,.dead),(3,.sl (bP l) l.length false),(4,.dead),(5,.dead),(6,.dead),(7,ω (gz a.fn a.fa a.fd)),(8,ω 1),(9,.dead),(10,.dead),(11,.dead),(12,.dead),(17,.dead),(20,.dead),(24,.dead),(44,.dead),(51,.bool (!((gz a.fn a.fa a.fd)==((0:Nat):Int)))),(55,.dead),(71,.dead),(75,.dead),(95,.dead)],[],.dead,[]⟩ (.ret) ⟨[(2,ω 11)],[],.dead,[]⟩):CO 71 [.agg [.str d,ω u1,ω u2,.sl (bP l) l.length false]] (.ret (ω 11)):=pK [0,2,4] 3 0 (.c (aS z) (.k 4 b (.c (aB j) (.c (aB h) (.n 1 .nil))))) (.l f (.c g (.v 46 (.ppt c) (.l e .nil))))
theorem apG (d:List UInt8) (u1 u2:Int) (l:List Br) (h:(decide (((8:Nat):Int)<(l.length:Int)))=false) (k:((l.length:Int)==((0:Nat):Int))=false) (a:Br) (i:List AV) (c:ε 0 (bP l)=xU a++i) (b:(decide (((0:Nat):Int)<(l.length:Int)))=true) (g:CO 45 [Np a] (.ret (ω (gz a.fn a.fa a.fd)))) (z:((gz a.fn a.fa a.fd)==((0:Nat):Int))=true) (e:aI prog ap [] 96 (.block 0 (.loop (ae 0 (af f71)))) ⟨[(0,.agg [.str d,ω u1,ω u2,.sl (bP l) l.length false]),(1,.ptr 0 0 0),(2,ω 0),(3,.sl (bP l) l.length false),(4,ω 0),(5,.dead),(6,.dead),(7,.dead),(8,.dead),(9,.dead),(10,.dead),(11,.dead),(12,.dead),(17,.bool (decide (((8:Nat):Int)<(l.length:Int)))),(20,.bool ((l.length:Int)==((0:Nat):Int))),(24,.dead),(44,.dead),(51,.dead),(55,.dead),(71,.dead),(75,.dead),(95,.dead)],[(0,⟨[.str d,ω u1,ω u2,.sl (bP l) l.length false],0,false,0,0,true⟩)],.dead,[]⟩ (.normal) ⟨[(3,.sl (bP l) l.length false)],[],.dead,[]⟩) (f:aI prog ap [] 96 (.block 2 (.loop (ae 2 (af f71)))) ⟨[(0,.dead),(1,.dead),(2,.dead),(3,.sl (bP l) l.length false),(4,.dead),(5,.dead),(6,.dead),(7,ω (gz a.fn a.fa a.fd)),(8,ω 1),(9,.dead),(10,.dead),(11,.dead),(12,.dead),(17,.dead),(20,.dead),(24,.dead),(44,.dead),(51,.bool (!((gz a.fn a.fa a.fd)==((0:Nat):Int)))),(55,.dead),(71,.dead),(75,.dead),(95,.dead)],[],.dead,[]⟩ (.normal) ⟨[(3,.sl (bP l) l.length false)],[],.dead,[]⟩) (j:aI prog ap [] 96 (.block 4 (.loop (ae 4 (af f71)))) ⟨[(0,.dead),(1,.dead),(2,.dead),(3,.sl (bP l) l.length false),(4,.dead),(5,.dead),(6,.dead),(7,.dead),(8,.dead),(9,.dead),(10,ω 0),(11,.dead),(12,.dead),(17,.dead),(20,.dead),(24,.dead),(44,.dead),(51,.dead),(55,.dead),(71,.dead),(75,.dead),(95,.dead)],[],.dead,[]⟩ (.ret) ⟨[(2,ω 3)],[],.dead,[]⟩):CO 71 [.agg [.str d,ω u1,ω u2,.sl (bP l) l.length false]] (.ret (ω 3)):=pK [0,2,4] 3 0 (.c (aS z) (.k 4 b (.c (aB k) (.c (aB h) (.n 1 .nil))))) (.l j (.l f (.c g (.v 46 (.ppt c) (.l e .nil)))))
theorem apJ (d:List UInt8) (u1 u2:Int) (l:List Br) (h:(decide (((8:Nat):Int)<(l.length:Int)))=false) (k:((l.length:Int)==((0:Nat):Int))=false) (a:Br) (i:List AV) (c:ε 0 (bP l)=xU a++i) (b:(decide (((0:Nat):Int)<(l.length:Int)))=true) (g:CO 45 [Np a] (.ret (ω (gz a.fn a.fa a.fd)))) (z:((gz a.fn a.fa a.fd)==((0:Nat):Int))=true) (e:aI prog ap [] 96 (.block 0 (.loop (ae 0 (af f71)))) ⟨[(0,.agg [.str d,ω u1,ω u2,.sl (bP l) l.length false]),(1,.ptr 0 0 0),(2,ω 0),(3,.sl (bP l) l.length false),(4,ω 0),(5,.dead),(6,.dead),(7,.dead),(8,.dead),(9,.dead),(10,.dead),(11,.dead),(12,.dead),(17,.bool (decide (((8:Nat):Int)<(l.length:Int)))),(20,.bool ((l.length:Int)==((0:Nat):Int))),(24,.dead),(44,.dead),(51,.dead),(55,.dead),(71,.dead),(75,.dead),(95,.dead)],[(0,⟨[.str d,ω u1,ω u2,.sl (bP l) l.length false],0,false,0,0,true⟩)],.dead,[]⟩ (.normal) ⟨[(3,.sl (bP l) l.length false)],[],.dead,[]⟩) (f:aI prog ap [] 96 (.block 2 (.loop (ae 2 (af f71)))) ⟨[(0,.dead),(1,.dead),(2,.dead),(3,.sl (bP l) l.length false),(4,.dead),(5,.dead),(6,.dead),(7,ω (gz a.fn a.fa a.fd)),(8,ω 1),(9,.dead),(10,.dead),(11,.dead),(12,.dead),(17,.dead),(20,.dead),(24,.dead),(44,.dead),(51,.bool (!((gz a.fn a.fa a.fd)==((0:Nat):Int)))),(55,.dead),(71,.dead),(75,.dead),(95,.dead)],[],.dead,[]⟩ (.normal) ⟨[(3,.sl (bP l) l.length false)],[],.dead,[]⟩) (j:aI prog ap [] 96 (.block 4 (.loop (ae 4 (af f71)))) ⟨[(0,.dead),(1,.dead),(2,.dead),(3,.sl (bP l) l.length false),(4,.dead),(5,.dead),(6,.dead),(7,.dead),(8,.dead),(9,.dead),(10,ω 0),(11,.dead),(12,.dead),(17,.dead),(20,.dead),(24,.dead),(44,.dead),(51,.dead),(55,.dead),(71,.dead),(75,.dead),(95,.dead)],[],.dead,[]⟩ (.normal) ⟨[(3,.sl (bP l) l.length false)],[],.dead,[]⟩):CO 71 [.agg [.str d,ω u1,ω u2,.sl (bP l) l.length false]] (.ret (ω 0)):=pK [0,2,4] 3 0 (.c (aS z) (.k 4 b (.c (aB k) (.c (aB h) (.n 1 .nil))))) (.l j (.l f (.c g (.v 46 (.ppt c) (.l e .nil)))))
theorem J7 (cmp:Br→Br→Int):∀ (r:List Br) (y:Br),Gy cmp (some y) r=(r.all j_ && Ik cmp y r)
 | [],_=>rfl
 |x::r,y=>by
  simp only [Gy,Xx2,Ik,j_,J7 cmp r x];cases iR x.fn x.fa x.fd<;>cases iR x.rn x.ra x.rd<;>cases decide (((0:Nat):Int)≤cmp y x)<;>cases r.all j_<;>simp
theorem Un (cmp:Br→Br→Int) (x:Br) (r:List Br):Gy cmp none (x::r)=((x::r).all j_ && ((gz x.fn x.fa x.fd==((0:Nat):Int)) && Ik cmp x r)):=by
 simp only [Gy,Xx2,j_,J7 cmp r x];cases iR x.fn x.fa x.fd<;>cases iR x.rn x.ra x.rd<;>cases (gz x.fn x.fa x.fd==((0:Nat):Int))<;>cases r.all j_<;>simp
theorem O9:∀ l:List Br,l.any Ir= !(l.all Aq)
 | []=>rfl
 |x::r=>by
  rw [Xz1,Xx2,O9 r];simp only [Ir,Aq];cases jf x.fn x.fa x.fd<;>cases jf x.rn x.ra x.rd<;>simp
theorem EO (e:List UInt8) (u1 u2:Int) (l:List Br) (cmp:Br→Br→Int) (c:l.length<2^40) (f:∀ x ∈ l,x.sm) (t:tJ 24 cmp l):CO 71 [.agg [.str e,ω u1,ω u2,.sl (bP l) l.length false]] (.ret (ω (ckQ cmp l))):=by
 unfold ckQ;rcases tf (decide (((8:Nat):Int)<(l.length:Int))) with d0|d0
 ·rw [d0];exact pK [] 1 1 (.c (aC d0) (.n 1 .nil)) (.nil)
 ·rw [d0];rcases tf ((l.length:Int)==((0:Nat):Int)) with d1|d1
  ·rw [d1];exact pK [] 2 2 (.c (aC d1) (.c (aB d0) (.n 1 .nil))) (.nil)
  ·rw [d1];have o:l ≠ []:=by intro h;subst h;exact absurd d1 (by decide)
   obtain ⟨a,r,j⟩:=List.exists_cons_of_ne_nil o;have b:(decide (((0:Nat):Int)<(l.length:Int)))=true:=Yq0 (by rw [j];simp only [ν];omega);have d:ε 0 (bP l)=xU a++bP r:=by rw [j];rfl
   have hs:=f a (by rw [j];simp);have m:CO 45 [Np a] (.ret (ω (gz a.fn a.fa a.fd))):=qM a.fn a.fa a.fd hs.1.1 hs.1.2;have u:Gy cmp none l=(l.all j_ && ((gz a.fn a.fa a.fd==((0:Nat):Int)) && Ik cmp a r)):=by rw [j];exact Un cmp a r
   have g:∀ nt,96≤nt→aF prog ap [] nt (ae 0 (af f71)) Er (Str e u1 u2 l) (afw l) 0 (l.all j_):=fun nt i=>ahs i e u1 u2 l c f l [] rfl
   have n:∀ nt,96≤nt→aF prog ap [] nt (ae 4 (af f71)) Ef (Stf l) (afv l) 0 (l.all Aq):=fun nt i=>ahr i l c f l [] rfl
   rw [u,O9];cases p:l.all j_ with
   |false=>
    rw [p] at g;rw [Xxy];exact apD e u1 u2 l d0 d1 (aF.blk g (by simp [Er]) rfl (aJ.of ⟨rfl,rfl,rfl,trivial⟩) (aJ.of ⟨rfl,trivial⟩))
   | true=>
    have k:∀ nt,96≤nt→aF prog ap [] nt (ae 2 (af f71)) Ea (Sta l) (aft l) 1 (Ik cmp a r):=fun nt i=>ahp i l cmp c (List.all_eq_true.1 p) t r [] a (by rw [j];rfl)
    rw [p] at g;rw [Xxw];rcases tf ((gz a.fn a.fa a.fd)==((0:Nat):Int)) with z|z
    ·rw [z,Xxw];cases s:Ik cmp a r with
     |false=>
      rw [s] at k;exact apF e u1 u2 l d0 d1 a _ d b m z (aF.blk g (by simp [Er]) rfl (aJ.of ⟨rfl,rfl,rfl,trivial⟩) (aJ.of ⟨rfl,trivial⟩)) (aF.blk k (by simp [Ea]) rfl (aJ.of ⟨rfl,rfl,trivial⟩) (aJ.of ⟨rfl,trivial⟩))
     | true=>
      rw [s] at k;cases q:l.all Aq with
      |false=>
       rw [q] at n;exact apG e u1 u2 l d0 d1 a _ d b m z (aF.blk g (by simp [Er]) rfl (aJ.of ⟨rfl,rfl,rfl,trivial⟩) (aJ.of ⟨rfl,trivial⟩)) (aF.blk k (by simp [Ea]) rfl (aJ.of ⟨rfl,rfl,trivial⟩) (aJ.of ⟨rfl,trivial⟩)) (aF.blk n (by simp [Ef]) rfl (aJ.of ⟨rfl,rfl,trivial⟩) (aJ.of ⟨rfl,trivial⟩))
      |true=>
       rw [q] at n;exact apJ e u1 u2 l d0 d1 a _ d b m z (aF.blk g (by simp [Er]) rfl (aJ.of ⟨rfl,rfl,rfl,trivial⟩) (aJ.of ⟨rfl,trivial⟩)) (aF.blk k (by simp [Ea]) rfl (aJ.of ⟨rfl,rfl,trivial⟩) (aJ.of ⟨rfl,trivial⟩)) (aF.blk n (by simp [Ef]) rfl (aJ.of ⟨rfl,rfl,trivial⟩) (aJ.of ⟨rfl,trivial⟩))
    ·rw [z,Xxy];exact apI e u1 u2 l d0 d1 a _ d b m z (aF.blk g (by simp [Er]) rfl (aJ.of ⟨rfl,rfl,rfl,trivial⟩) (aJ.of ⟨rfl,trivial⟩))
def Stb (nm:List UInt8) (u1 u2:Int) (l:List Br) (k:Nat):St:=⟨[(0,.agg [.str nm,ω u1,ω u2,.sl (bP l) l.length false]),(1,.ptr 0 0 0),(3,ω (k:Int))],[(0,⟨[.str nm,ω u1,ω u2,.sl (bP l) l.length false],0,false,0,0,true⟩)],.dead,[]⟩
def afu (nm:List UInt8) (u1 u2:Int) (l:List Br):Bool→St
 |false=> ⟨[(0,.agg [.str nm,.int .i64 u1,.int .i64 u2,.sl (bP l) l.length false])],[],.dead,[]⟩
 |true=> ⟨[(2,.bool true)],[],.dead,[]⟩
def Eb:Bool→bK
 |false=> .exit 0
 |true=> .ret
theorem ahq {nt:Nat} (c:19≤nt) (g:List UInt8) (u1 u2:Int) (l:List Br) (h:l.length<2^40) (d:∀ x ∈ l,x.sm):∀ (r p:List Br),p++r=l→
  aF prog ap [] nt (ae 0 (af f106)) Eb (Stb g u1 u2 l) (afu g u1 u2 l) p.length (r.any sU):=by
 intro r
 induction r with
 |nil=>
  intro p hp;rw [Γ] at hp;subst hp;have h0:(decide ((p.length:Int)<(p.length:Int)))=false:=Yq1 (by omega);exact .done (pN 106 [] 1 0 (.c (aB h0) (.n 1 .nil)) (.nil) c)
 | cons x r ih=>
  intro p hp;have j:p.length<l.length:=by rw [← hp];simp
  have e:l[p.length]=x:=by subst hp;simp
  have b:=jh j;rw [e] at b;have a:=ih (p++ [x]) (by rw [← hp];simp);rw [θ,ο] at a;have hs:=d x (by rw [← hp];simp);have f:CO 45 [brR x] (.ret (ω (gz x.rn x.ra x.rd))):=qM x.rn x.ra x.rd hs.2.1 hs.2.2;rw [Xz1];generalize p.length=k at*
  generalize bP (l.drop (k+1))=rB at b;have h0:(decide ((k:Int)<(l.length:Int)))=true:=Yq0 (by omega);have i:k<2^62:=by omega
  rcases tf (decide ((gz x.rn x.ra x.rd)<((0:Nat):Int))) with d0|d0
  ·rw [show sU x=true from d0,Xvb];exact .done (pN 106 [] 2 3 (.c (aC d0) (.k 3 (aQ k) (.c h0 (.k 1 (aC h0) (.n 1 .nil))))) (.c f (.v 14 (.ppt b) .nil)) c)
  ·rw [show sU x=false from d0,Xzd];exact .next (pN 106 [] 2 1 (.c (aB d0) (.k 3 (aQ k) (.c h0 (.k 1 (aC h0) (.n 1 .nil))))) (.v 10 (.eq (iL i)) (.c f (.v 14 (.ppt b) .nil))) c) a
theorem afL (a:List UInt8) (u1 u2:Int) (l:List Br) (b:aI prog ap [] 19 (.block 0 (.loop (ae 0 (af f106)))) ⟨[(0,.agg [.str a,ω u1,ω u2,.sl (bP l) l.length false]),(1,.ptr 0 0 0),(2,.bool false),(3,ω 0),(8,.dead),(18,.dead)],[(0,⟨[.str a,ω u1,ω u2,.sl (bP l) l.length false],0,false,0,0,true⟩)],.dead,[]⟩ (.ret) ⟨[(2,.bool true)],[],.dead,[]⟩):CO 106 [.agg [.str a,ω u1,ω u2,.sl (bP l) l.length false]] (.ret (.bool true)):=pK [0] 0 0 .nil (.l b .nil)
theorem afK (a:List UInt8) (u1 u2:Int) (l:List Br) (b:aI prog ap [] 19 (.block 0 (.loop (ae 0 (af f106)))) ⟨[(0,.agg [.str a,ω u1,ω u2,.sl (bP l) l.length false]),(1,.ptr 0 0 0),(2,.bool false),(3,ω 0),(8,.dead),(18,.dead)],[(0,⟨[.str a,ω u1,ω u2,.sl (bP l) l.length false],0,false,0,0,true⟩)],.dead,[]⟩ (.normal) ⟨[(0,.agg [.str a,ω u1,ω u2,.sl (bP l) l.length false])],[],.dead,[]⟩):CO 106 [.agg [.str a,ω u1,ω u2,.sl (bP l) l.length false]] (.ret (.bool false)):=pK [0] 0 0 .nil (.l b .nil)
theorem ab8 (a:List UInt8) (u1 u2:Int) (l:List Br) (b:l.length<2^40) (c:∀ x ∈ l,x.sm):CO 106 [.agg [.str a,ω u1,ω u2,.sl (bP l) l.length false]] (.ret (.bool (l.any sU))):=by
 have h:∀ nt,19≤nt→aF prog ap [] nt (ae 0 (af f106)) Eb (Stb a u1 u2 l) (afu a u1 u2 l) 0 (l.any sU):=fun nt e=>ahq e a u1 u2 l b c l [] rfl
 cases d:l.any sU with
 |true=>rw [d] at h;exact afL a u1 u2 l (aF.blk h (by simp [Eb]) rfl (aJ.of ⟨rfl,rfl,rfl,trivial⟩) (aJ.of ⟨rfl,trivial⟩))
 |false=>rw [d] at h;exact afK a u1 u2 l (aF.blk h (by simp [Eb]) rfl (aJ.of ⟨rfl,rfl,rfl,trivial⟩) (aJ.of ⟨rfl,trivial⟩))
theorem Ou (c:List UInt8) (u1 u2:Int) (l:List Br) (a:Int) (b:Bool) (cK_:CO 71 [.agg [.str c,ω u1,ω u2,.sl (bP l) l.length false]] (.ret (ω a))) (d:CO 106 [.agg [.str c,ω u1,ω u2,.sl (bP l) l.length false]] (.ret (.bool b))):CO 72 [.agg [.str c,ω u1,ω u2,.sl (bP l) l.length false]] (.ret (.bool (a==((0:Nat):Int) && !b))):=by
 rcases tf (a==((0:Nat):Int)) with b0|b0
 ·rw [b0,Xxw];exact pK [] 1 1 (.k 4 (aC b0) (.n 4 .nil)) (.c d (.c cK_ .nil))
 ·rw [b0,Xxy];exact pK [] 1 0 (.c (aB b0) (.n 4 .nil)) (.c cK_ .nil)
theorem Lp (c:List UInt8) (u1 u2:Int) (l:List Br) (cmp:Br→Br→Int) (a:l.length<2^40) (b:∀ x ∈ l,x.sm) (d:tJ 24 cmp l):CO 72 [.agg [.str c,ω u1,ω u2,.sl (bP l) l.length false]] (.ret (.bool (ckQ cmp l==((0:Nat):Int) && !(l.any sU)))):=Ou c u1 u2 l _ _ (EO c u1 u2 l cmp a b d) (ab8 c u1 u2 l a b)
structure Sq where
 nm:List UInt8
 u1:Int
 u2:Int
 l:List Br
def Sq.c (q:Sq):Sc:=⟨q.nm,q.u1,q.u2,bP q.l,q.l.length⟩
def Iw:List AV→List Br
 | .bool a::.str b::.str c::.bool d::.str e::.str f::r=> ⟨a,b,c,d,e,f⟩::Iw r
 |_=> []
theorem CY:∀ l:List Br,Iw (bP l)=l
 | []=>rfl
 |x::r=>by
  show Iw (xU x++bP r)=_;simp only [xU,Xq1,Xqc,Iw,CY r]
def MR (cmp:Br→Br→Int) (x:Sc):Int:=ckQ cmp (Iw x.bx)
def MS (cmp:Br→Br→Int) (x:Sc):Bool:=(ckQ cmp (Iw x.bx)==((0:Nat):Int)) && !((Iw x.bx).any sU)
def JX (f:Nat) (cmp:Br→Br→Int) (qs:List Sq):Prop:=∀ q ∈ qs,q.l.length<2^40∧(∀ x ∈ q.l,x.sm)∧tJ f cmp q.l
theorem dh (e:List Nd) (c:Bool) (qs:List Sq) (j:Bool) (cmp:Br→Br→Int) (d:Int) (a:List UInt8) (b:∀ y ∈ e,y.sm) (g:e.length<2^40) (i:qs.length<2^40) (n:JX 129 cmp qs):
  CO 14 [.sl (aH e) e.length c,.sl (bT (qs.map Sq.c)) qs.length j,ω d,.str a] (.ret (ω ((jF (MR cmp) (MS cmp) e (qs.map Sq.c) d a:Nat):Int))):=by
 have h:=WW e c (qs.map Sq.c) j (MR cmp) (MS cmp) d a b g (by rw [Xxd];exact i)
  (by
   intro x o;obtain ⟨q,f,rfl⟩:=List.mem_map.1 o;obtain ⟨l,k,m⟩:=n q f;unfold MR MS;rw [show Iw (Sq.c q).bx=q.l from CY q.l];exact ⟨EZ q.nm q.u1 q.u2 q.l cmp l k m,fun _=>Gh q.nm q.u1 q.u2 q.l cmp l k m⟩)
  (fun f=>afA e c (eG e) [] (by rw [show (eG e==((0:Nat):Int))=false from beq_eq_false_iff_ne.2 f];rfl) (Di e c b))
 rw [Xxd] at h;exact h
theorem LG (e:List Nd) (c:Bool) (qs:List Sq) (j:Bool) (cmp:Br→Br→Int) (d:Int) (a:List UInt8) (b:∀ y ∈ e,y.sm) (g:e.length<2^40) (i:qs.length<2^40) (n:JX 24 cmp qs):
  CO 15 [.sl (aH e) e.length c,.sl (bT (qs.map Sq.c)) qs.length j,ω d,.str a] (.ret (ω ((jF (MR cmp) (MS cmp) e (qs.map Sq.c) d a:Nat):Int))):=by
 have h:=SS e c (qs.map Sq.c) j (MR cmp) (MS cmp) d a b g (by rw [Xxd];exact i)
  (by
   intro x o;obtain ⟨q,f,rfl⟩:=List.mem_map.1 o;obtain ⟨l,k,m⟩:=n q f;unfold MR MS;rw [show Iw (Sq.c q).bx=q.l from CY q.l];exact ⟨EO q.nm q.u1 q.u2 q.l cmp l k m,fun _=>Lp q.nm q.u1 q.u2 q.l cmp l k m⟩)
  (fun f=>adk e c (eG e) [] 0 (by rw [show (eG e==((0:Nat):Int))=false from beq_eq_false_iff_ne.2 f];rfl) (Hy e c b))
 rw [Xxd] at h;exact h
def Z_ (so sp:List UInt8→Nat) (x:List UInt8):Bool:= !(decide (((1:Nat):Int)<((so x:Nat):Int))) && !(decide (((1:Nat):Int)<((sp x:Nat):Int)))
end Go.Proofs.Tryz
open Go AM Go.RowKit Go.Shelf
namespace Go.Proofs.Tryz
attribute [local go_sem] Oper.semAt_some
theorem nM {W W':World} (h:Below W.heap.size W W'):mY (dU W) (dU W'):=by
 intro k o v a;have b:=J_ a;rw [← a];unfold dU;rw [h.block k b,World.cell?_of_block (h.block k b)]
theorem uu {W W':World} (h:Below W.heap.size W W') (c:mi ap (dU W)):mi ap (dU W'):=by
 intro k e f;obtain ⟨vs,d,b⟩:=c k e f;exact ⟨vs,bM (nM h) _ d,fun j u a=> ⟨nM h _ _ _ (b j u a).1,(b j u a).2⟩⟩
theorem ajX {W:World} (a:mi ap (dU W)) (m:a_):cZ ap (bH []) m (dU W) W:=
 ⟨fun b c B B' h=>by simp [bH] at h,fun b B h=>by simp [bH] at h,fun k o v h=>h,fun b B h=>by simp [bH] at h,a⟩
theorem vN {f:Nat} {args:List AV} {d:IntKind} {x:Int} (m:CO f args (.ret (.int d x))) {W:World} (j:mi ap (dU W)) {cargs:List Value} (l:dD (dU W) args cargs) {n:Nat}:
  CallsIn Fence.wide n prog f cargs.toArray W fun e W'=>e= .returned (.int d x)∧Below W.heap.size W W':=by
 refine callsIn_wide.2 ?_;refine (m.calls (fun _=>(0,0)) (dU W) W cargs (ajX j _) (bY _ l)).mono ?_
 rintro e W' ⟨m',S',hF⟩
 obtain ⟨_,a,c⟩:=hF;obtain ⟨cv,rfl,g⟩:=c;simp only [xY,VR,PR] at g;subst g;exact ⟨rfl,a.os,a.tape,a.output,a.size,fun k i=>a.rest k i fun b B h=>by simp [bH] at h⟩
theorem DJ {W W':World} (h:Below W.heap.size W W') (a:Option Nat):W.grownBy W' a:=
 ⟨h.os,h.tape,h.output,h.size,fun k b _=>h.block k b⟩
def lg (f g:Nat→Int) (k:Nat):List Int:=(Xq2 k).flatMap fun j=> [f j,g j]
theorem sJ (f g:Nat→Int) (k:Nat):lg f g (k+1)=lg f g k++ [f k]++ [g k]:=by simp [lg,List.range_succ]
theorem sH (f g:Nat→Int) (k:Nat):(lg f g k).length=2*k:=by
 induction k with
 |zero=>rfl
 |succ k ih=>rw [sJ];simp [ih];omega
theorem TJ (f g:Nat→Int) {k n:Nat} (h:k≤n):lg f g k<+:lg f g n:=by
 induction n with
 |zero=>
  obtain rfl:k=0:=by omega
  exact Xk2 _
 |succ n ih=>
  by_cases hk:k=n+1
  ·subst hk;exact Xk2 _
  ·exact (ih (by omega)).trans (by rw [sJ,Ψ];exact Xvc _ _)
set_option maxRecDepth 100000 in
set_option maxHeartbeats 4000000 in
theorem OD (n:Nat) (hn:2≤n) (l kn ke ks n₀ b off len cap:Nat) (E SC:AV) (ue us:Value) (ns:Nat→List UInt8) (so sp:Nat→Int) (hreach:len*16≤140737488351232)
  (hso:∀ k,k<len→CO 14 [E,SC,.int .i64 6,.str (ns k)] (.ret (.int .i64 (so k)))) (hsp:∀ k,k<len→CO 14 [E,SC,.int .i64 8,.str (ns k)] (.ret (.int .i64 (sp k))))
  (J Jx:List Int→World→Prop) (W:World) (hAJ:AbidesFrom W.heap.size J)
  (hY:∀ pre x W1,J pre W1→pre.length<2*len→YieldAt Fence.wide (n - 1) prog l #[.int .i64 x] W1 fun e W'=>
   (e= .returned (.bool true)∧J (pre++ [x]) W'∧Below n₀ W1 W')∨(e= .returned (.bool false)∧Jx (pre++ [x]) W'))
  (hn0:n₀≤W.heap.size) (hbn:b<n₀) (hkn:kn<n₀) (hke:ke<n₀) (hks:ks<n₀)
  (w0:World) (hw0:w0.heap.size=n₀) (hW:Below n₀ w0 W) (hg:mi ap (dU w0)) (hpr:dD (dU w0) [E,SC] [ue,us])
  (cn:w0.cell? ⟨kn,0,none⟩=some (.slice (some ⟨b,off,none⟩) len cap)) (ce:w0.cell? ⟨ke,0,none⟩=some ue) (cs:w0.cell? ⟨ks,0,none⟩=some us)
  (hc:∀ j,j<len→w0.cell? ⟨b,off+j,none⟩=some (.string ⟨(ns j).toArray⟩)) (h0:J [] W):
  CallsIn Fence.wide n prog 73 #[.func (.yield l) #[] #[],.pointer (some ⟨kn,0,none⟩),.pointer (some ⟨ke,0,none⟩),.pointer (some ⟨ks,0,none⟩)] W fun e W'=>(∃ v,e= .returned v)∧
   ((∃ ys,ys=lg so sp len∧J ys W')∨(∃ pre,pre<+:lg so sp len∧Jx pre W')):=by
 have kee:∀ (w:World),Below n₀ w0 w→∀ (k j:Nat) (v:Value),k<n₀→w0.cell? ⟨k,j,none⟩=some v→w.cell? ⟨k,j,none⟩=some v:=fun w h k j v hk hv=>(Below.cell h (p:=⟨k,j,none⟩) hk).trans hv
 have cn':=kee _ hW _ _ _ hkn cn;refine callsIn_of_wp Tryz.func73 rfl trivial ?_ rfl;simp only [Tryz.ntmps73,Xx8,ν,Δ,Xw1,Xw2,Array.replicate_succ,Array.replicate_zero,Xz2,Xzn,Xqc,Xq1]
 gi_wp2
 gi_loopw [9] (fun i wr=> ∃ k:Nat,k≤len∧i= .int .i64 k∧J (lg so sp k) wr∧Below n₀ w0 wr∧W.heap.size≤wr.heap.size)
  (fun i _=>len - (intOf i).toNat)
 case atStart=>exact ⟨0,Xxq _,rfl,h0,hW,Θ _⟩
 case round=>
  obtain ⟨k,hk,rfl,hJs,hnx,hsz⟩:=hrel;have hcx:k<len→wr.cell? ⟨b,off+k,none⟩=some (.string ⟨(ns k).toArray⟩):=fun h=>kee _ hnx _ _ _ hbn (hc k h)
  have ce1:=kee _ hnx _ _ _ hke ce;have cs1:=kee _ hnx _ _ _ hks cs;by_cases hlt:k<len
  ·have hcx':=hcx hlt;have bW1:∀ (w:World),Below n₀ w0 w→Below w0.heap.size w0 w:=fun w h=>by rw [hw0];exact h
   have PR4:∀ (w:World) (op:Int),Below n₀ w0 w→dD (dU w) [E,SC,.int .i64 op,.str (ns k)] [ue,us,.int .i64 op,.string ⟨(ns k).toArray⟩]:=fun w op h=>by
    have h2:=bM (nM (bW1 w h)) _ hpr;simp only [dD,PR] at h2 ⊢;exact ⟨h2.1,h2.2.1,trivial,trivial,trivial⟩
   have LE1:lg so sp len=lg so sp k++ [so k]++ [sp k]++(lg so sp len).drop (2*(k+1)):=by
    rw [← sJ];obtain ⟨r,hr⟩:=TJ so sp (show k+1≤len by omega)
    conv=>rhs;rw [← hr]
    rw [List.drop_left' (sH ..)];exact hr.symm
   have hf14:Fence.wide.fn 14:=trivial;have h1n:1≤n:=by omega
   gi_wp2_with (gi_at_call 14;refine (vN (hso k hlt) (uu (bW1 _ hnx) hg) (PR4 _ 6 hnx)).mono ?_;rintro e W1 ⟨rfl,hb1⟩;have hJ1:=hAJ _ _ _ none hJs (DJ hb1 none) (fun r e=>by cases e);have hnx1:Below n₀ w0 W1:=hnx.trans (hb1.mono (by omega));obtain ⟨fn,tmps,assign,body,hy,hR⟩:=hY _ (so k) W1 hJ1 (by rw [sH];omega))
   refine hR.mono ?_
   rintro e W3 (⟨rfl,hJ3,hk3⟩|⟨rfl,hJx3⟩)
   ·have hnx3:=hnx1.trans hk3;have ce3:=kee _ hnx3 _ _ _ hke ce;have cs3:=kee _ hnx3 _ _ _ hks cs
    gi_wp2_with (gi_at_call 14;refine (vN (hsp k hlt) (uu (bW1 _ hnx3) hg) (PR4 _ 8 hnx3)).mono ?_;rintro e W4 ⟨rfl,hb4⟩;have hJ4:=hAJ _ _ _ none hJ3 (DJ hb4 none) (fun r e=>by cases e);have hnx4:Below n₀ w0 W4:=hnx3.trans (hb4.mono (by rw [← hw0];exact hnx3.size));obtain ⟨fn4,tmps4,assign4,body4,hy4,hR4⟩:=hY _ (sp k) W4 hJ4 (by rw [θ,sH,ο];omega))
    refine hR4.mono ?_
    rintro e W5 (⟨rfl,hJ5,hk5⟩|⟨rfl,hJx5⟩)
    ·gi_wp2
     go_roundw
     case rel=>exact ⟨k+1,by omega,by simp,by rw [sJ];exact hJ5,hnx4.trans hk5,by have:=hb1.size;have:=hk3.size;have:=hb4.size;have:=hk5.size;omega⟩
     case measure=>simp [intOf];omega
    ·gi_wp2
     refine bodyPost_ret (results_none rfl _ _ _) rfl ?_;exact ⟨⟨_,rfl⟩,.inr ⟨_,by rw [LE1];exact Xvc _ _,hJx5⟩⟩
   ·gi_wp2_with (refine ⟨fun _ _=>trivial, ?_⟩)
    refine bodyPost_ret (results_none rfl _ _ _) rfl ?_;exact ⟨⟨_,rfl⟩,.inr ⟨_,by rw [LE1,Ψ];exact Xvc _ _,hJx3⟩⟩
  ·obtain rfl:k=len:=by omega
   gi_wp2
   go_end0
   exact ⟨⟨_,rfl⟩,.inl ⟨_,rfl,hJs⟩⟩
attribute [local go_sem] Oper.semAt_some
theorem SY (a1 a2 a3:Option Addr) (l1 l2 l3 c1 c2 c3:Nat) (n:Nat) (w:World):
  CallsIn Fence.wide n prog 47 #[.slice a1 l1 c1,.slice a2 l2 c2,.slice a3 l3 c3] w fun e w'=>e= .returned (.func (.func 73) #[] #[.pointer (some ⟨w.heap.size+2,0,none⟩),.pointer (some ⟨w.heap.size,0,none⟩),.pointer (some ⟨w.heap.size+1,0,none⟩)])∧w'=((w.alloc (.cells #[.slice a1 l1 c1] 25)).alloc (.cells #[.slice a2 l2 c2] 27)).alloc (.cells #[.slice a3 l3 c3] 29):=by
 refine callsIn_of_wp Tryz.func47 rfl trivial ?_ rfl;simp only [Tryz.ntmps47,Xx8,ν,Δ,Xw1,Xw2,Array.replicate_succ,Array.replicate_zero,Xz2,Xzn,Xqc,Xq1]
 gi_wp2
 go_ret
 refine ⟨?_,rfl⟩;simp
theorem WA {w:World} {tmps:Array Value} {k:Nat} {b:Bool} (e:tmps.getD 6 undef= .pointer (some ⟨k,0,none⟩)) (f:w.cell? ⟨k,0,none⟩=some (.bool b)):(results f17 tmps).run prog w= .ok (.bool b) w:=by
 refine uT (vs:= [.bool b]) rfl ?_;intro i r v c a
 match i with
 | 0=>
  simp only [Xvo,Option.some.injEq] at a;subst a;have:r= .cell 6 4:=by
   have h0:f17.results.toList[0]? =some (.cell 6 4):=rfl;rw [h0] at c;exact (Option.some.inj c).symm
  subst this;have d:prog.underlying 4=some .bool:=by kernel_rfl
  simp only [H6,e];simp [asAddr,loadVar,d,f,go_sem]
 |n+1=>simp at a
theorem SN (E:AV) (x:Int) (hx:x ≠ 0) (hck:CO 21 [E] (.ret (.int .i64 x))) (n:Nat) (hn:3≤n) (ue us un:Value) (w:World) (hg:mi ap (dU w)) (hpr:dD (dU w) [E] [ue]):
  CallsIn Fence.wide n prog 17 #[ue,us,un] w fun e w'=>e= .returned (.bool false)∧Below w.heap.size w w':=by
 have h21:Fence.wide.fn 21:=trivial;have h1n:1≤n:=by omega
 have ha:Below w.heap.size w (w.alloc (.cells #[.bool false] 4)):=(Below.refl _ w).alloc (Θ _) _;have hx':decide (x=0)=false:=Yq1 hx;refine callsIn_of_wp_marks Tryz.func17 rfl trivial ?_ rfl;simp only [Tryz.ntmps17,Xx8,ν,Δ,Xw1,Xw2,Array.replicate_succ,Array.replicate_zero,Xz2,Xzn,Xqc,Xq1]
 gi_wp2_with (gi_at_call 21;refine (vN hck (uu ha hg) (bM (nM ha) _ hpr)).mono ?_;rintro e W1 ⟨rfl,hb1⟩;have hc1:=(hb1.cell (p:=⟨w.heap.size,0,none⟩) (by simp)).trans (show (w.alloc (.cells #[.bool false] 4)).cell? ⟨w.heap.size,0,none⟩=some (.bool false) by simp);have hf1:=(hb1.frozen (p:=⟨w.heap.size,0,none⟩) (by simp)).trans (show (w.alloc (.cells #[.bool false] 4)).frozen? ⟨w.heap.size,0,none⟩=false by simp))
 exact ⟨_,WA rfl (World.cell?_setCell_same' _ _ _ (by rw [hc1];rfl)),rfl,(ha.trans (hb1.mono (by simp))).setCell (p:=⟨w.heap.size,0,none⟩) (Θ _) _⟩
attribute [local go_sem] Oper.semAt_some
set_option maxRecDepth 100000 in
set_option maxHeartbeats 1000000 in
theorem LW (n:Nat) (l kn ke ks cap:Nat) (an:Option Addr) (so sp:Nat→Int) (J Jx:List Int→World→Prop) (W:World) (cn:W.cell? ⟨kn,0,none⟩=some (.slice an 0 cap)) (h0:J [] W):
  CallsIn Fence.wide n prog 73 #[.func (.yield l) #[] #[],.pointer (some ⟨kn,0,none⟩),.pointer (some ⟨ke,0,none⟩),.pointer (some ⟨ks,0,none⟩)] W fun e W'=>(∃ v,e= .returned v)∧
   ((∃ ys,ys=lg so sp 0∧J ys W')∨(∃ pre,pre<+:lg so sp 0∧Jx pre W')):=by
 refine callsIn_of_wp Tryz.func73 rfl trivial ?_ rfl;simp only [Tryz.ntmps73,Xx8,ν,Δ,Xw1,Xw2,Array.replicate_succ,Array.replicate_zero,Xz2,Xzn,Xqc,Xq1]
 gi_wp2
 gi_loopw [9] (fun i wr=>i= .int .i64 0∧J [] wr) (fun _ _=>0)
 case atStart=>exact ⟨rfl,h0⟩
 case round=>
  obtain ⟨rfl,hJs⟩:=hrel
  gi_wp2
  go_end0
  exact ⟨⟨_,rfl⟩,.inl ⟨_,rfl,hJs⟩⟩
theorem JA (n:Nat) (y:2≤n) (f g ks b c d:Nat) (u:Option Addr) (E SC:AV) (i m:Value) (a:List (List UInt8)) (q o:List UInt8→Int) (hreach:a.length*16≤140737488351232)
  (hso:∀ s ∈ a,CO 14 [E,SC,.int .i64 6,.str s] (.ret (.int .i64 (q s)))) (hsp:∀ s ∈ a,CO 14 [E,SC,.int .i64 8,.str s] (.ret (.int .i64 (o s))))
  (w:World) (hg:mi ap (dU w)) (hpr:dD (dU w) [E,SC] [i,m]) (hkn:f<w.heap.size) (hke:g<w.heap.size) (hks:ks<w.heap.size)
  (cn:w.cell? ⟨f,0,none⟩=some (.slice u a.length d)) (ce:w.cell? ⟨g,0,none⟩=some i) (cs:w.cell? ⟨ks,0,none⟩=some m)
  (hc:0<a.length→u=some ⟨b,c,none⟩∧b<w.heap.size∧∀ j,j<a.length→w.cell? ⟨b,c+j,none⟩=some (.string ⟨((a[j]?).getD []).toArray⟩)):
  SeqStopsK Fence.wide n prog 73 #[.pointer (some ⟨f,0,none⟩),.pointer (some ⟨g,0,none⟩),.pointer (some ⟨ks,0,none⟩)] (fun x:Int=> #[Value.int .i64 x]) (Below w.heap.size)
   (fun A=>A=lg (fun k=>q ((a[k]?).getD [])) (fun k=>o ((a[k]?).getD [])) a.length) (fun pre=>pre<+:lg (fun k=>q ((a[k]?).getD [])) (fun k=>o ((a[k]?).getD [])) a.length) (2*a.length) w:=by
 intro l J Jx W r z _ B h0;have v:∀ k,k<a.length→(a[k]?).getD [] ∈ a:=fun k e=>by rw [π e];exact Xjr e
 by_cases h:0<a.length
 ·obtain ⟨rfl,C,t⟩:=hc h;exact OD n y l f g ks w.heap.size b c a.length d E SC i m (fun k=>(a[k]?).getD []) _ _ hreach (fun k e=>hso _ (v k e)) (fun k e=>hsp _ (v k e)) J Jx W z B r.size C hkn hke hks w rfl r hg hpr cn ce cs t h0
 ·have D:a.length=0:=by omega
  rw [D] at cn ⊢;exact LW n l f g ks d u _ _ J Jx W ((r.cell (p:=⟨f,0,none⟩) hkn).trans cn) h0
set_option maxRecDepth 100000 in
set_option maxHeartbeats 2000000 in
theorem OA (E SC:AV) (hck:CO 21 [E] (.ret (.int .i64 0))) (ns:List (List UInt8)) (so sp:List UInt8→Int) (hreach:ns.length*16≤140737488351232)
  (hso:∀ s ∈ ns,CO 14 [E,SC,.int .i64 6,.str s] (.ret (.int .i64 (so s)))) (hsp:∀ s ∈ ns,CO 14 [E,SC,.int .i64 8,.str s] (.ret (.int .i64 (sp s)))) (n:Nat) (hn:4≤n)
  (a1 a2 an:Option Addr) (l1 l2 c1 c2 cap b off:Nat) (w:World) (hg:mi ap (dU w)) (hpr:dD (dU w) [E,SC] [.slice a1 l1 c1,.slice a2 l2 c2])
  (hc:0<ns.length→an=some ⟨b,off,none⟩∧∀ j,j<ns.length→w.cell? ⟨b,off+j,none⟩=some (.string ⟨((ns[j]?).getD []).toArray⟩)):
  CallsIn Fence.wide n prog 17 #[.slice a1 l1 c1,.slice a2 l2 c2,.slice an ns.length cap] w fun e w'=>e= .returned (.bool ((lg (fun k=>so ((ns[k]?).getD [])) (fun k=>sp ((ns[k]?).getD [])) ns.length).all fun x=>decide (x≤1)))∧Below w.heap.size w w':=by
 have h21:Fence.wide.fn 21:=trivial;have h47:Fence.wide.fn 47:=trivial;have h1n:1≤n:=by omega
 have ha:Below w.heap.size w (w.alloc (.cells #[.bool false] 4)):=(Below.refl _ w).alloc (Θ _) _;have hpe:dD (dU w) [E] [.slice a1 l1 c1]:=by simp only [dD] at hpr ⊢;exact ⟨hpr.1,trivial⟩
 refine callsIn_of_wp_marks Tryz.func17 rfl trivial ?_ rfl;simp only [Tryz.ntmps17,Xx8,ν,Δ,Xw1,Xw2,Array.replicate_succ,Array.replicate_zero,Xz2,Xzn,Xqc,Xq1]
 gi_wp2_with (first
  |(gi_at_call 21;refine (vN hck (uu ha hg) (bM (nM ha) _ hpe)).mono ?_;rintro e W1 ⟨rfl,hb1⟩)
  |(gi_at_call 47;refine (SY a1 a2 an l1 l2 ns.length c1 c2 cap _ _).mono ?_;rintro e W2 ⟨rfl,rfl⟩)
  |gi_in)
 obtain ⟨W3,hW3⟩:∃ W3,((W1.alloc (.cells #[.slice a1 l1 c1] 25)).alloc (.cells #[.slice a2 l2 c2] 27)).alloc (.cells #[.slice an ns.length cap] 29)=W3:=⟨_,rfl⟩
 rw [hW3];have hs3:W3.heap.size=W1.heap.size+3:=by rw [← hW3];simp
 have hb3:Below W1.heap.size W1 W3:=by rw [← hW3];exact (((Below.refl _ W1).alloc (Θ _) _).alloc (by simp) _).alloc (by simp;omega) _
 have hs1:w.heap.size+1≤W1.heap.size:=by have:=hb1.size;simpa using this
 have hwW1:Below w.heap.size w W1:=ha.trans (hb1.mono (by simp));have hw3:Below w.heap.size w W3:=hwW1.trans (hb3.mono (by omega));have k1:W3.cell? ⟨W1.heap.size,0,none⟩=some (.slice a1 l1 c1):=by rw [← hW3];exact (((Boxed.new W1 25 (.slice a1 l1 c1)).alloc _).alloc _).cell
 have k2:W3.cell? ⟨W1.heap.size+1,0,none⟩=some (.slice a2 l2 c2):=by
  have:=((Boxed.new (W1.alloc (.cells #[.slice a1 l1 c1] 25)) 27 (.slice a2 l2 c2)).alloc (.cells #[.slice an ns.length cap] 29)).cell;rw [World.size_alloc] at this;rw [← hW3];exact this
 have k3:W3.cell? ⟨W1.heap.size+2,0,none⟩=some (.slice an ns.length cap):=by
  have:=(Boxed.new ((W1.alloc (.cells #[.slice a1 l1 c1] 25)).alloc (.cells #[.slice a2 l2 c2] 27)) 29 (.slice an ns.length cap)).cell;rw [World.size_alloc,World.size_alloc] at this;rw [← hW3];exact this
 have kc:W3.cell? ⟨w.heap.size,0,none⟩=some (.bool false):=((hb3.cell (p:=⟨w.heap.size,0,none⟩) hs1).trans (hb1.cell (p:=⟨w.heap.size,0,none⟩) (by simp))).trans (Boxed.new w 4 (.bool false)).cell;have kf:W3.frozen? ⟨w.heap.size,0,none⟩=false:=((hb3.frozen (p:=⟨w.heap.size,0,none⟩) hs1).trans (hb1.frozen (p:=⟨w.heap.size,0,none⟩) (by simp))).trans (Boxed.new w 4 (.bool false)).frozen;have hc3:0<ns.length→an=some ⟨b,off,none⟩∧b<W3.heap.size∧∀ j,j<ns.length→W3.cell? ⟨b,off+j,none⟩=some (.string ⟨((ns[j]?).getD []).toArray⟩):=by
  intro h;obtain ⟨h1,h2⟩:=hc h;have hbl:b<w.heap.size:=World.block_lt_of_cell? w ⟨b,off+0,none⟩ (h2 0 h);exact ⟨h1,by omega,fun j hj=>(hw3.cell (p:=⟨b,off+j,none⟩) hbl).trans (h2 j hj)⟩
 have oB:∀ {A B:World} {row:Option Nat},Below w.heap.size w A→A.grownBy B row→(∀ r,row=some r→W3.heap.size≤r∧∃ o:Obj,A.heap[r]? =some o∧o.isCells=false)→Below w.heap.size w B:=
  fun h hg hr=>ownFrom_below (β:=Unit) (n₀:=w.heap.size) (B:=W3.heap.size) (w₀:=w) (Θ _) hw3.size () _ _ _ h hg hr
 have oC:∀ {A:World} {D:Nat} {o:Obj} {v:Value},W3.heap.size≤D→A.cell? ⟨w.heap.size,0,none⟩=some v→(A.putObj D o).cell? ⟨w.heap.size,0,none⟩=some v:=
  fun {A D o v} hD hv=>(World.cell?_of_block (World.putObj_heap_other (show w.heap.size ≠ D by omega))).trans hv
 have pB:∀ {A:World} {D:Nat} {o:Obj},W3.heap.size≤D→Below w.heap.size w A→Below w.heap.size w (A.putObj D o):=
  fun {A D o} hD h=>h.trans ((Below.refl _ A).grown (grownBy_putObj' A D o) h.size (fun k e=>by cases e;omega))
 refine wpIn_rangeFunc_ownF rfl h1n (gf:=73) (lb:=#[.pointer (some ⟨W1.heap.size+2,0,none⟩),.pointer (some ⟨W1.heap.size,0,none⟩),.pointer (some ⟨W1.heap.size+1,0,none⟩)]) rfl trivial (enters_of Tryz.func73 (by kernel_rfl) rfl)
  (JA (n - 1) (by omega) (W1.heap.size+2) W1.heap.size (W1.heap.size+1) b off cap an E SC _ _ ns so sp hreach hso hsp W3 (uu hw3 hg) (bM (nM hw3) _ hpr) (by omega) (by omega) (by omega) k3 k1 k2 hc3)
  (fun h k=>h.trans k) (fun W l o o' hl h hc hw=>belowK_b (Θ _) W l o o' hl h hc hw) (Below.refl _ _) (fun _=>rfl)
  (fun pre W=>(∀ x ∈ pre,x≤1)∧W.cell? ⟨w.heap.size,0,none⟩=some (.bool false)∧W.frozen? ⟨w.heap.size,0,none⟩=false∧Below w.heap.size w W)
  (fun c pre W=>c= .ret∧(∃ x ∈ pre,¬ x≤1)∧W.cell? ⟨w.heap.size,0,none⟩=some (.bool false)∧Below w.heap.size w W)
  (fun s A B row hs hg hr=> ⟨hs.1,cell_kept hs.2.1 hg (fun r e=>(hr r e).2),(frozen_kept hs.2.1 hg (fun r e=>(hr r e).2)).trans hs.2.2.1,oB hs.2.2.2 hg hr⟩)
  (fun c s A B row hs hg hr=> ⟨hs.1,hs.2.1,cell_kept hs.2.2.1 hg (fun r e=>(hr r e).2),oB hs.2.2.2 hg hr⟩)
  ⟨by simp,kc,kf,hw3⟩
  (fun x=> {tmps:=#[.slice a1 l1 c1,.slice a2 l2 c2,.slice an ns.length cap,undef,undef,undef,.pointer (some ⟨w.heap.size,0,none⟩),.int .i64 x,.slice a1 l1 c1,.int .i64 0,.bool false,.slice a1 l1 c1,.slice a2 l2 c2,.slice an ns.length cap,.func (.func 73) #[] #[.pointer (some ⟨W1.heap.size+2,0,none⟩),.pointer (some ⟨W1.heap.size,0,none⟩),.pointer (some ⟨W1.heap.size+1,0,none⟩)],.int .i64 x,undef,undef],defers:= []}) ?assign ?body ?done ?stop
 case assign=>
  intro l x W K hK
  gi_wp2
  exact hK
 case body=>
  rintro l pre x W ⟨hp,hcW,hfW,hbW⟩ _
  by_cases hx:x≤1
  ·have hx1:¬ (1<x):=by omega
   gi_wp2
   exact ⟨KeepsOthers.refl _,Below.refl _ _,(fun y hy=>by rcases List.mem_append.1 hy with h|h;exact hp y h;rw [List.mem_singleton.1 h];exact hx),hcW,hfW,hbW⟩
  ·have hx1:1<x:=by omega
   gi_wp2
   exact ⟨KeepsOthers.setCell _ _ _,rfl,⟨x,by simp,hx⟩,World.cell?_setCell_same' _ _ _ (by rw [hcW];rfl),hbW.setCell (p:=⟨w.heap.size,0,none⟩) (Θ _) _⟩
 case done=>
  rintro D xs W hD rfl ⟨hp,hcW,hfW,hbW⟩ hK
  gi_wp2
  have hK':(W.setCell ⟨w.heap.size,0,none⟩ (.bool true)).heap[D]? =some (.deferred (some [])):=(Below.heap_setCell W ⟨w.heap.size,0,none⟩ (.bool true) D (by show D ≠ w.heap.size;omega)).trans hK;refine ⟨by simp,.inl ⟨_,_,rfl,run_takeDeferred hK', ?_⟩⟩;refine ⟨_,WA rfl (oC hD (World.cell?_setCell_same' _ _ _ (by rw [hcW];rfl))), ?_,pB hD (hbW.setCell (p:=⟨w.heap.size,0,none⟩) (Θ _) _)⟩;congr 2;exact (List.all_eq_true.2 fun x hx=>Yq0 (hp x hx)).symm
 case stop=>
  rintro D c pre W hD hSp ⟨rfl,⟨x,hx,hx1⟩,hcW,hbW⟩ hK
  gi_wp2
  refine ⟨by simp,.inl ⟨_,_,rfl,run_takeDeferred hK, ?_⟩⟩;refine ⟨_,WA rfl (oC hD hcW), ?_,pB hD hbW⟩;congr 2;obtain ⟨r,hr⟩:=hSp;symm;rw [Bool.eq_false_iff];intro h;rw [← hr] at h;have h2:=of_decide_eq_true (List.all_eq_true.1 h x (List.mem_append.2 (.inl hx)));omega
def YK (x:AV):Prop:=x= .nilS∨∃ l n b,x= .sl l n b
theorem YK.val {S:aU} {x:AV} {v:Value} (h:YK x) (d:PR S x v):∃ a l c,v= .slice a l c:=by
 rcases h with rfl|⟨l,n,b,rfl⟩
 ·simp only [PR] at d;exact ⟨_,_,_,d⟩
 ·simp only [PR] at d;obtain ⟨a,e,rfl,_⟩:=d;exact ⟨_,_,_,rfl⟩
def Xd (ns:List (List UInt8)) (b:Bool):AV:= .sl (ns.map .str) ns.length b
theorem Xe {S:aU} {e:List (List UInt8)} {b:Bool} {v:Value} (f:PR S (Xd e b) v):∃ an d k c,v= .slice an e.length d∧(0<e.length→an=some ⟨k,c,none⟩∧∀ j,j<e.length→S k (c+j)=some (.string ⟨((e[j]?).getD []).toArray⟩)):=by
 simp only [Xd,PR] at f;obtain ⟨a,d,rfl,_,h⟩:=f;rcases h with ⟨_,_,h,_⟩|⟨k,c,vs,rfl,m,l⟩
 ·exact ⟨a,d,0,0,rfl,fun n=>absurd h (by omega)⟩
 ·refine ⟨_,d,k,c,rfl,fun _=> ⟨rfl,fun j i=> ?_⟩⟩;obtain ⟨u,g,hp⟩:=O5 m j (x:= .str ((e[j]?).getD [])) (by rw [List.getElem?_map,π i];rfl);simp only [PR] at hp;rw [← hp];exact (l j u g).1
theorem agt:zn prog 17:=enters_of Tryz.func17 (by kernel_rfl) rfl
theorem EY {args:List AV} {b:Bool} (h:∀ w cargs,mi ap (dU w)→dD (dU w) args cargs→CallsIn Fence.wide 9 prog 17 cargs.toArray w fun e w'=>e= .returned (.bool b)∧Below w.heap.size w w'):CO 17 args (.ret (.bool b)):=by
 refine ⟨Θ _,agt, ?_⟩;intro m S w cargs d n;have a:mY S (dU w):=fun k o v c=>d.sealed k o v c
 have l:mi ap (dU w):=by
  intro k i c;obtain ⟨vs,p,g⟩:=d.glob k i c;exact ⟨vs,bM a _ p,fun j u f=> ⟨a _ _ _ (g j u f).1,(g j u f).2⟩⟩
 refine (callsIn_wide.1 (h w cargs l (bM a _ (kD (m:=m) _ n)))).mono ?_
 rintro e w' ⟨rfl,hb⟩
 refine ⟨m,S, ?_, ?_,⟨_,rfl, ?_⟩⟩
 ·exact ⟨fun b q B B' h=>by simp [bH,kX,jZ] at h,fun b B h=>by simp [bH,kX,jZ] at h,fun k o v h=>nM hb k o v (a k o v h),fun b B h=>by simp [bH,kX,jZ] at h,d.glob⟩
 ·exact ⟨Ge.refl _ _,mY.refl S,hb.os,hb.tape,hb.output,hb.size,fun k c _=>hb.block k c,fun _ B h=>by simp [bH,kX,jZ] at h,fun _ _ _ h=> .inl h⟩
 ·simp only [xY,VR,PR]
theorem WC (E SC NM:AV) (x:Int) (d:x ≠ 0) (b:CO 21 [E] (.ret (ω x))):CO 17 [E,SC,NM] (.ret (.bool false)):=by
 refine EY fun w cargs c a=> ?_
 match cargs,a with
 | [ue,us,un],a=>
  simp only [dD] at a;exact SN E x d b 9 (by omega) ue us un w c (by simp only [dD];exact ⟨a.1,trivial⟩)
theorem WE (E SC:AV) (b:Bool) (D:YK E) (o:YK SC) (p:CO 21 [E] (.ret (ω 0))) (a:List (List UInt8)) (d c:List UInt8→Int) (hreach:a.length*16≤140737488351232)
  (hso:∀ s ∈ a,CO 14 [E,SC,ω 6,.str s] (.ret (ω (d s)))) (hsp:∀ s ∈ a,CO 14 [E,SC,ω 8,.str s] (.ret (ω (c s)))):
  CO 17 [E,SC,Xd a b] (.ret (.bool (a.all fun s=>decide (d s≤1) && decide (c s≤1)))):=by
 have e:(a.all fun s=>decide (d s≤1) && decide (c s≤1))=(lg (fun k=>d ((a[k]?).getD [])) (fun k=>c ((a[k]?).getD [])) a.length).all fun x=>decide (x≤1):=by
  have:a=(Xq2 a.length).map fun k=>(a[k]?).getD []:=by
   apply List.ext_getElem
   ·simp
   ·intro i g m;simp [π g]
  conv=>lhs;rw [this]
  simp [lg,List.all_flatMap,List.all_map,Function.comp_def]
 rw [e];refine EY fun w cargs A f=> ?_
 match cargs,f with
 | [ue,us,un],f=>
  simp only [dD] at f;obtain ⟨g,m,v,_⟩:=f;obtain ⟨B,F,r,rfl⟩:=D.val g;obtain ⟨z,y,t,rfl⟩:=o.val m;obtain ⟨C,n,k,l,rfl,q⟩:=Xe v;exact OA E SC p a d c hreach hso hsp 9 (by omega) B z C F y r t n k l w A (by simp only [dD];exact ⟨g,m,trivial⟩) fun h=> ⟨(q h).1,fun j u=>vG ((q h).2 j u) rfl⟩
theorem aab (b a:List UInt8→Nat) (x:List UInt8):Z_ b a x=(decide (((b x:Nat):Int)≤1) && decide (((a x:Nat):Int)≤1)):=by
 unfold Z_;congr 1
 ·by_cases h:((b x:Nat):Int)≤1
  ·rw [Yq0 h,Yq1 (by omega)];rfl
  ·rw [Yq1 h,Yq0 (by omega)];rfl
 ·by_cases h:((a x:Nat):Int)≤1
  ·rw [Yq0 h,Yq1 (by omega)];rfl
  ·rw [Yq1 h,Yq0 (by omega)];rfl
def Qu (cmp:Br→Br→Int) (e:List Nd) (qs:List Sq) (nl:List (List UInt8)):Bool:=
 (eG e==((0:Nat):Int)) && nl.all (Z_ (fun x=>jF (MR cmp) (MS cmp) e (qs.map Sq.c) 6 x) (fun x=>jF (MR cmp) (MS cmp) e (qs.map Sq.c) 8 x))
theorem lL (e:List Nd) (c:Bool) (qs:List Sq) (g:Bool) (cmp:Br→Br→Int) (b:List (List UInt8)) (i:Bool) (a:∀ y ∈ e,y.sm) (f:e.length<2^40) (d:qs.length<2^40) (j:JX 129 cmp qs) (k:b.length<2^40):
  CO 17 [.sl (aH e) e.length c,.sl (bT (qs.map Sq.c)) qs.length g,.sl (List.map AV.str b) b.length i] (.ret (.bool (Qu cmp e qs b))):=by
 have ck:=Di e c a;unfold Qu;by_cases hq:eG e=0
 ·rw [hq] at ck;have h:=WE (.sl (aH e) e.length c) (.sl (bT (qs.map Sq.c)) qs.length g) i (.inr ⟨_,_,_,rfl⟩) (.inr ⟨_,_,_,rfl⟩) ck b
   (fun x=>((jF (MR cmp) (MS cmp) e (qs.map Sq.c) 6 x:Nat):Int)) (fun x=>((jF (MR cmp) (MS cmp) e (qs.map Sq.c) 8 x:Nat):Int)) (by omega)
   (fun x _=>dh e c qs g cmp 6 x a f d j) (fun x _=>dh e c qs g cmp 8 x a f d j)
  rw [hq,show ((0:Int)==((0:Nat):Int))=true from rfl,Xxw];rw [show b.all (Z_ (fun x=>jF (MR cmp) (MS cmp) e (qs.map Sq.c) 6 x) (fun x=>jF (MR cmp) (MS cmp) e (qs.map Sq.c) 8 x))=b.all fun s=>decide (((jF (MR cmp) (MS cmp) e (qs.map Sq.c) 6 s:Nat):Int)≤1) && decide (((jF (MR cmp) (MS cmp) e (qs.map Sq.c) 8 s:Nat):Int)≤1) from by congr 1;funext x;exact aab _ _ x];exact h
 ·rw [show (eG e==((0:Nat):Int))=false from beq_eq_false_iff_ne.2 hq,Xxy];exact WC _ _ _ (eG e) hq ck
theorem wd1 {k:Nat} (h:k<2^62):ω (γ .i64 ((k:Int)+((1:Nat):Int)))= ω ((k+1:Nat):Int):=by
 have e:γ .i64 ((k:Int)+((1:Nat):Int))=((k+1:Nat):Int):=by rw [dL]<;>omega
 rw [e]
theorem oz (k:Nat):decide (((0:Nat):Int)≤(k:Int))=true:=Yq0 (by omega)
theorem dO {k n:Nat} (h:k<n):decide ((k:Int)<(n:Int))=true:=Yq0 (by omega)
theorem Rf {k n:Nat} (h:k≤n):decide ((k:Int)≤(n:Int))=true:=Yq0 (by omega)
def qV (w:List UInt8):List UInt8→Nat
 | []=>0
 |c::r=>if w.any (fun b=>c==b) then qV w r+1 else 0
theorem Iu (w:List UInt8):∀ s,qV w s≤s.length
 | []=>Θ _
 |c::r=>by
  unfold qV;split
  ·have:=Iu w r;simp only [ν];omega
  ·exact Xxq _
theorem aa5 (a b:UInt8):((a.toNat:Int)==(b.toNat:Int))=(a==b):=by
 by_cases h:a=b
 ·subst h;simp
 ·have:a.toNat ≠ b.toNat:=fun e=>h (UInt8.toNat_inj.1 e)
  rw [beq_eq_false_iff_ne.2 h,beq_eq_false_iff_ne.2 (by omega)]
def wia (s w:List UInt8) (bg:Int) (bd:Bool) (n:Nat) (p:Nat × Bool):St:=⟨[(0,.ptr 0 0 0),(1,.str w),(5,ω (n:Int)),(6,.bool p.2),(7,ω (p.1:Int))],[(0,⟨[.str s,.nilS,ω bg,.bool bd],0,false,0,0,true⟩)],.dead,[]⟩
def woa (s w:List UInt8) (bg:Int) (bd:Bool) (n:Nat) (inn:Bool):St:=⟨[(0,.ptr 0 0 0),(1,.str w),(5,ω (n:Int)),(6,.bool inn)],[(0,⟨[.str s,.nilS,ω bg,.bool bd],0,false,0,0,true⟩)],.dead,[]⟩
theorem wla {nt:Nat} (f:55≤nt) (s w:List UInt8) (j:Int) (h:Bool) (n:Nat) (i:n<s.length) (g:w.length<2^40):∀ (d k:Nat) (a:Bool),k+d=w.length→
  aF prog ap [⟨[.str s,.nilS,ω j,.bool h],0,false,0,0,true⟩] nt (ae 2 (af f92)) (fun _=> .exit 2) (wia s w j h n) (woa s w j h n) (k,a) (a||(w.drop k).any (fun b=>s.getD n 0==b)):=by
 intro d
 induction d with
 |zero=>
  intro k a o;have e:(decide ((k:Int)<(((ζ w):Nat):Int)))=false:=Yq1 (by omega);rw [Xxj (by omega),Yxm,Yq6];exact .done (pN 92 [] 1 0 (.c (aB e) .nil) (.nil) f)
 | succ d ih=>
  intro k a o;have e:(decide ((k:Int)<(((ζ w):Nat):Int)))=true:=Yq0 (by omega);have c:k<w.length:=by omega
  have g:k<2^62:=by omega
  have m:(w.drop k).any (fun b=>s.getD n 0==b)=(s.getD n 0==w.getD k 0||(w.drop (k+1)).any (fun b=>s.getD n 0==b)):=by
   rw [Xxb c,Xz1,ξ,ξ (l:=w),π c];rfl
  rw [m];rcases tf a with b1|b1
  ·have:=ih (k+1) true (by omega);rw [Xvb] at this;rw [show (a||(s.getD n 0==w.getD k 0||(w.drop (k+1)).any (fun b=>s.getD n 0==b)))=true by rw [b1,Xvb]];exact .next (pN 92 [] 2 3 (.c (aC b1) (.c (aC e) .nil)) (.v 7 (.eq (wd1 g)) .nil) f) this
  ·have:=ih (k+1) (s.getD n 0==w.getD k 0) (by omega);rw [show (a||(s.getD n 0==w.getD k 0||(w.drop (k+1)).any (fun b=>s.getD n 0==b)))=(s.getD n 0==w.getD k 0||(w.drop (k+1)).any (fun b=>s.getD n 0==b)) by rw [b1,Xzd]];rw [← aa5 (s.getD n 0) (w.getD k 0)] at this ⊢;exact .next (pN 92 [] 2 1 (.c (oz k) (.c (dO c) (.c (oz n) (.c (dO i) (.k 1 (aB b1) (.c (aC e) .nil)))))) (.v 7 (.eq (wd1 g)) .nil) f) this
def wsa (s w:List UInt8) (bg:Int) (bd:Bool) (n:Nat):St:=⟨[(0,.ptr 0 0 0),(1,.str w),(5,ω (n:Int))],[(0,⟨[.str s,.nilS,ω bg,.bool bd],0,false,0,0,true⟩)],.dead,[]⟩
def wra (s w:List UInt8) (bg:Int) (bd:Bool) (n:Nat):St:=⟨[(0,.ptr 0 0 0),(5,ω (n:Int))],[(0,⟨[.str s,.nilS,ω bg,.bool bd],0,false,0,0,true⟩)],.dead,[]⟩
theorem wma {nt:Nat} (g:55≤nt) (s w:List UInt8) (d:Int) (a:Bool) (hs:s.length<2^40) (l:w.length<2^40):∀ (r p:List UInt8),p++r=s→
  aF prog ap [⟨[.str s,.nilS,ω d,.bool a],0,false,0,0,true⟩] nt (ae 0 (af f92)) (fun _=> .exit 0) (wsa s w d a) (wra s w d a) p.length (p.length+qV w r):=by
 intro r
 induction r with
 |nil=>
  intro p hp;have o:p.length=s.length:=by rw [← hp];simp
  generalize p.length=n at*
  have k:(decide ((n:Int)<(((ζ s):Nat):Int)))=false:=Yq1 (by omega);exact .done (pN 92 [2] 1 0 (.c (aB k) (.n 1 .nil)) (.nil) g)
 | cons c r ih=>
  intro p hp;have o:p.length<s.length:=by rw [← hp];simp
  have q:s.getD p.length 0=c:=by rw [← hp,ξ];simp
  have i:=ih (p++ [c]) (by rw [← hp];simp);rw [θ,ο] at i;unfold qV;generalize p.length=n at*
  have k:(decide ((n:Int)<(((ζ s):Nat):Int)))=true:=Yq0 (by omega);have m:n<2^62:=by omega
  have f:∀ e,e=w.any (fun b=>c==b)→aI prog ap [⟨[.str s,.nilS,ω d,.bool a],0,false,0,0,true⟩] 55 (.block 2 (.loop (ae 2 (af f92)))) ⟨[(0,.ptr 0 0 0),(1,.str w),(4,.dead),(5,ω (n:Int)),(6,.bool false),(7,ω 0),(8,.dead),(15,.bool (decide ((n:Int)<(((ζ s):Nat):Int)))),(19,.dead),(36,.dead)],[(0,⟨[.str s,.nilS,ω d,.bool a],0,false,0,0,true⟩)],.dead,[]⟩ (.normal) ⟨[(0,.ptr 0 0 0),(1,.str w),(5,ω (n:Int)),(6,.bool e)],[(0,⟨[.str s,.nilS,ω d,.bool a],0,false,0,0,true⟩)],.dead,[]⟩:=by
   intro e j;have h:∀ nt,55≤nt→aF prog ap [⟨[.str s,.nilS,ω d,.bool a],0,false,0,0,true⟩] nt (ae 2 (af f92)) (fun _=> .exit 2) (wia s w d a n) (woa s w d a n) (0,false) e:=by
    intro nt g;have:=wla g s w d a n o l w.length 0 false (χ _);rw [Xx7,q,Xzd,← j] at this;exact this
   exact aF.blk h (by simp) rfl (aJ.of ⟨rfl,rfl,rfl,rfl,rfl,trivial⟩) (aJ.of ⟨rfl,rfl,rfl,rfl,trivial⟩)
  rcases tf (w.any (fun b=>c==b)) with b1|b1
  ·rw [if_pos b1];have j:(true:Bool)=w.any (fun b=>c==b):=b1.symm;have f:=f true j;rw [show n+(qV w r+1)=n+1+qV w r by omega];have l:=m;exact .next (pN 92 [2] 2 1 (.k 1 (aC k) (.n 1 .nil)) (.v 38 (.eq (wd1 l)) (.l f .nil)) g) i
  ·rw [if_neg (by rw [b1];decide)];have j:(false:Bool)=w.any (fun b=>c==b):=b1.symm;have f:=f false j;exact .done (pN 92 [2] 2 3 (.k 1 (aC k) (.n 1 .nil)) (.l f .nil) g)
theorem wfa (s w:List UInt8) (c:Int) (a:Bool) (n:Nat) (b:n≤s.length) (d:aI prog ap [⟨[.str s,.nilS,ω c,.bool a],0,false,0,0,true⟩] 55 (.block 0 (.loop (ae 0 (af f92)))) ⟨[(0,.ptr 0 0 0),(1,.str w),(4,.str []),(5,ω 0),(6,.dead),(7,.dead),(8,.dead),(15,.dead),(19,.dead),(36,.dead)],[(0,⟨[.str s,.nilS,ω c,.bool a],0,false,0,0,true⟩)],.dead,[]⟩ (.normal) ⟨[(0,.ptr 0 0 0),(5,ω (n:Int))],[(0,⟨[.str s,.nilS,ω c,.bool a],0,false,0,0,true⟩)],.dead,[]⟩):ax prog ap 92 [.ptr 0 0 0,.str w] [⟨[.str s,.nilS,ω c,.bool a],0,false,0,0,true⟩] (.ret (.str (ε 0 (μ (δ (n:Int)) s)))) [⟨[.str (ε (δ (n:Int)) (μ (δ (((ζ s):Nat):Int)) s)),.nilS,ω c,.bool a],0,false,0,0,true⟩]:=pK [0] 0 0 (.k 1 (oz n) (.c (Rf b) (.c (Rf (Θ s.length)) (.k 2 (oz n) (.c (Rf b) (.n 1 .nil)))))) (.l d .nil)
theorem fV (s w:List UInt8) (b:Int) (a:Bool) (hs:s.length<2^40) (d:w.length<2^40):ax prog ap 92 [.ptr 0 0 0,.str w] [⟨[.str s,.nilS,ω b,.bool a],0,false,0,0,true⟩] (.ret (.str (ε 0 (μ (δ ((qV w s:Nat):Int)) s)))) [⟨[.str (ε (δ ((qV w s:Nat):Int)) (μ (δ (((ζ s):Nat):Int)) s)),.nilS,ω b,.bool a],0,false,0,0,true⟩]:=by
 have h:∀ nt,55≤nt→aF prog ap [⟨[.str s,.nilS,ω b,.bool a],0,false,0,0,true⟩] nt (ae 0 (af f92)) (fun _=> .exit 0) (wsa s w b a) (wra s w b a) 0 (qV w s):=by
  intro nt c;have:=wma c s w b a hs d s [] rfl;rw [Δ,χ] at this;exact this
 exact wfa s w b a (qV w s) (Iu w s) (aF.blk h (by simp) rfl (aJ.of ⟨rfl,rfl,rfl,trivial⟩) (aJ.of ⟨rfl,rfl,trivial⟩))
def wib (s w:List UInt8) (bg:Int) (bd:Bool) (m:Nat) (os:List AV) (n:Nat) (p:Nat × Bool):St:=⟨[(0,.ptr 0 0 0),(1,.str w),(5,ω (n:Int)),(6,.bool p.2),(7,ω (p.1:Int))],[(0,⟨[.str s,.ref 1 0 0 m,ω bg,.bool bd],0,false,0,0,false⟩),(1,⟨os,0,false,0,5,true⟩)],.dead,[]⟩
def wob (s w:List UInt8) (bg:Int) (bd:Bool) (m:Nat) (os:List AV) (n:Nat) (inn:Bool):St:=⟨[(0,.ptr 0 0 0),(1,.str w),(5,ω (n:Int)),(6,.bool inn)],[(0,⟨[.str s,.ref 1 0 0 m,ω bg,.bool bd],0,false,0,0,false⟩),(1,⟨os,0,false,0,5,true⟩)],.dead,[]⟩
theorem wlb {nt:Nat} (f:55≤nt) (s w:List UInt8) (o:Int) (i:Bool) (m:Nat) (h:List AV) (n:Nat) (j:n<s.length) (g:w.length<2^40):∀ (d k:Nat) (a:Bool),k+d=w.length→
  aF prog ap [⟨[.str s,.ref 1 0 0 m,ω o,.bool i],0,false,0,0,false⟩,⟨h,0,false,0,5,true⟩] nt (ae 2 (af f92)) (fun _=> .exit 2) (wib s w o i m h n) (wob s w o i m h n) (k,a) (a||(w.drop k).any (fun b=>s.getD n 0==b)):=by
 intro d
 induction d with
 |zero=>
  intro k a q;have e:(decide ((k:Int)<(((ζ w):Nat):Int)))=false:=Yq1 (by omega);rw [Xxj (by omega),Yxm,Yq6];exact .done (pN 92 [] 1 0 (.c (aB e) .nil) (.nil) f)
 | succ d ih=>
  intro k a q;have e:(decide ((k:Int)<(((ζ w):Nat):Int)))=true:=Yq0 (by omega);have c:k<w.length:=by omega
  have g:k<2^62:=by omega
  have p:(w.drop k).any (fun b=>s.getD n 0==b)=(s.getD n 0==w.getD k 0||(w.drop (k+1)).any (fun b=>s.getD n 0==b)):=by
   rw [Xxb c,Xz1,ξ,ξ (l:=w),π c];rfl
  rw [p];rcases tf a with b1|b1
  ·have:=ih (k+1) true (by omega);rw [Xvb] at this;rw [show (a||(s.getD n 0==w.getD k 0||(w.drop (k+1)).any (fun b=>s.getD n 0==b)))=true by rw [b1,Xvb]];exact .next (pN 92 [] 2 3 (.c (aC b1) (.c (aC e) .nil)) (.v 7 (.eq (wd1 g)) .nil) f) this
  ·have:=ih (k+1) (s.getD n 0==w.getD k 0) (by omega);rw [show (a||(s.getD n 0==w.getD k 0||(w.drop (k+1)).any (fun b=>s.getD n 0==b)))=(s.getD n 0==w.getD k 0||(w.drop (k+1)).any (fun b=>s.getD n 0==b)) by rw [b1,Xzd]];rw [← aa5 (s.getD n 0) (w.getD k 0)] at this ⊢;exact .next (pN 92 [] 2 1 (.c (oz k) (.c (dO c) (.c (oz n) (.c (dO j) (.k 1 (aB b1) (.c (aC e) .nil)))))) (.v 7 (.eq (wd1 g)) .nil) f) this
def wsb (s w:List UInt8) (bg:Int) (bd:Bool) (m:Nat) (os:List AV) (n:Nat):St:=⟨[(0,.ptr 0 0 0),(1,.str w),(5,ω (n:Int))],[(0,⟨[.str s,.ref 1 0 0 m,ω bg,.bool bd],0,false,0,0,false⟩),(1,⟨os,0,false,0,5,true⟩)],.dead,[]⟩
def wrb (s w:List UInt8) (bg:Int) (bd:Bool) (m:Nat) (os:List AV) (n:Nat):St:=⟨[(0,.ptr 0 0 0),(5,ω (n:Int))],[(0,⟨[.str s,.ref 1 0 0 m,ω bg,.bool bd],0,false,0,0,false⟩),(1,⟨os,0,false,0,5,true⟩)],.dead,[]⟩
theorem wmb {nt:Nat} (i:55≤nt) (s w:List UInt8) (e:Int) (d:Bool) (m:Nat) (a:List AV) (hs:s.length<2^40) (o:w.length<2^40):∀ (r p:List UInt8),p++r=s→
  aF prog ap [⟨[.str s,.ref 1 0 0 m,ω e,.bool d],0,false,0,0,false⟩,⟨a,0,false,0,5,true⟩] nt (ae 0 (af f92)) (fun _=> .exit 0) (wsb s w e d m a) (wrb s w e d m a) p.length (p.length+qV w r):=by
 intro r
 induction r with
 |nil=>
  intro p hp;have t:p.length=s.length:=by rw [← hp];simp
  generalize p.length=n at*
  have l:(decide ((n:Int)<(((ζ s):Nat):Int)))=false:=Yq1 (by omega);exact .done (pN 92 [2] 1 0 (.c (aB l) (.n 1 .nil)) (.nil) i)
 | cons c r ih=>
  intro p hp;have t:p.length<s.length:=by rw [← hp];simp
  have u:s.getD p.length 0=c:=by rw [← hp,ξ];simp
  have j:=ih (p++ [c]) (by rw [← hp];simp);rw [θ,ο] at j;unfold qV;generalize p.length=n at*
  have l:(decide ((n:Int)<(((ζ s):Nat):Int)))=true:=Yq0 (by omega);have q:n<2^62:=by omega
  have g:∀ f,f=w.any (fun b=>c==b)→aI prog ap [⟨[.str s,.ref 1 0 0 m,ω e,.bool d],0,false,0,0,false⟩,⟨a,0,false,0,5,true⟩] 55 (.block 2 (.loop (ae 2 (af f92)))) ⟨[(0,.ptr 0 0 0),(1,.str w),(4,.dead),(5,ω (n:Int)),(6,.bool false),(7,ω 0),(8,.dead),(15,.bool (decide ((n:Int)<(((ζ s):Nat):Int)))),(19,.dead),(36,.dead)],[(0,⟨[.str s,.ref 1 0 0 m,ω e,.bool d],0,false,0,0,false⟩),(1,⟨a,0,false,0,5,true⟩)],.dead,[]⟩ (.normal) ⟨[(0,.ptr 0 0 0),(1,.str w),(5,ω (n:Int)),(6,.bool f)],[(0,⟨[.str s,.ref 1 0 0 m,ω e,.bool d],0,false,0,0,false⟩),(1,⟨a,0,false,0,5,true⟩)],.dead,[]⟩:=by
   intro f k;have h:∀ nt,55≤nt→aF prog ap [⟨[.str s,.ref 1 0 0 m,ω e,.bool d],0,false,0,0,false⟩,⟨a,0,false,0,5,true⟩] nt (ae 2 (af f92)) (fun _=> .exit 2) (wib s w e d m a n) (wob s w e d m a n) (0,false) f:=by
    intro nt i;have:=wlb i s w e d m a n t o w.length 0 false (χ _);rw [Xx7,u,Xzd,← k] at this;exact this
   exact aF.blk h (by simp) rfl (aJ.of ⟨rfl,rfl,rfl,rfl,rfl,trivial⟩) (aJ.of ⟨rfl,rfl,rfl,rfl,trivial⟩)
  rcases tf (w.any (fun b=>c==b)) with b1|b1
  ·rw [if_pos b1];have k:(true:Bool)=w.any (fun b=>c==b):=b1.symm;have g:=g true k;rw [show n+(qV w r+1)=n+1+qV w r by omega];have o:=q;exact .next (pN 92 [2] 2 1 (.k 1 (aC l) (.n 1 .nil)) (.v 38 (.eq (wd1 o)) (.l g .nil)) i) j
  ·rw [if_neg (by rw [b1];decide)];have k:(false:Bool)=w.any (fun b=>c==b):=b1.symm;have g:=g false k;exact .done (pN 92 [2] 2 3 (.k 1 (aC l) (.n 1 .nil)) (.l g .nil) i)
theorem wfb (s w:List UInt8) (c:Int) (a:Bool) (m:Nat) (d:List AV) (n:Nat) (b:n≤s.length) (e:aI prog ap [⟨[.str s,.ref 1 0 0 m,ω c,.bool a],0,false,0,0,false⟩,⟨d,0,false,0,5,true⟩] 55 (.block 0 (.loop (ae 0 (af f92)))) ⟨[(0,.ptr 0 0 0),(1,.str w),(4,.str []),(5,ω 0),(6,.dead),(7,.dead),(8,.dead),(15,.dead),(19,.dead),(36,.dead)],[(0,⟨[.str s,.ref 1 0 0 m,ω c,.bool a],0,false,0,0,false⟩),(1,⟨d,0,false,0,5,true⟩)],.dead,[]⟩ (.normal) ⟨[(0,.ptr 0 0 0),(5,ω (n:Int))],[(0,⟨[.str s,.ref 1 0 0 m,ω c,.bool a],0,false,0,0,false⟩),(1,⟨d,0,false,0,5,true⟩)],.dead,[]⟩):ax prog ap 92 [.ptr 0 0 0,.str w] [⟨[.str s,.ref 1 0 0 m,ω c,.bool a],0,false,0,0,false⟩,⟨d,0,false,0,5,true⟩] (.ret (.str (ε 0 (μ (δ (n:Int)) s)))) [⟨[.str (ε (δ (n:Int)) (μ (δ (((ζ s):Nat):Int)) s)),.ref 1 0 0 m,ω c,.bool a],0,false,0,0,false⟩,⟨d,0,false,0,5,true⟩]:=pK [0] 0 0 (.k 1 (oz n) (.c (Rf b) (.c (Rf (Θ s.length)) (.k 2 (oz n) (.c (Rf b) (.n 1 .nil)))))) (.l e .nil)
theorem jG (s w:List UInt8) (b:Int) (a:Bool) (m:Nat) (c:List AV) (hs:s.length<2^40) (e:w.length<2^40):ax prog ap 92 [.ptr 0 0 0,.str w] [⟨[.str s,.ref 1 0 0 m,ω b,.bool a],0,false,0,0,false⟩,⟨c,0,false,0,5,true⟩] (.ret (.str (ε 0 (μ (δ ((qV w s:Nat):Int)) s)))) [⟨[.str (ε (δ ((qV w s:Nat):Int)) (μ (δ (((ζ s):Nat):Int)) s)),.ref 1 0 0 m,ω b,.bool a],0,false,0,0,false⟩,⟨c,0,false,0,5,true⟩]:=by
 have h:∀ nt,55≤nt→aF prog ap [⟨[.str s,.ref 1 0 0 m,ω b,.bool a],0,false,0,0,false⟩,⟨c,0,false,0,5,true⟩] nt (ae 0 (af f92)) (fun _=> .exit 0) (wsb s w b a m c) (wrb s w b a m c) 0 (qV w s):=by
  intro nt d;have:=wmb d s w b a m c hs e s [] rfl;rw [Δ,χ] at this;exact this
 exact wfb s w b a m c (qV w s) (Iu w s) (aF.blk h (by simp) rfl (aJ.of ⟨rfl,rfl,rfl,trivial⟩) (aJ.of ⟨rfl,rfl,trivial⟩))
theorem aeN (a b w:List Nat) (d e:Bool) (c z:Nat) (k:(Ξ (((0+(δ (a.length:Int)))*1)+1) (ζ (ak w)))=true) (h:(decide (((0:Nat):Int)≤(a.length:Int)))=true) (j:(decide ((a.length:Int)<(w.length:Int)))=true) (f:(decide (((0:Nat):Int)≤(γ .i64 ((a.length:Int)+((1:Nat):Int)))))=true) (i:(decide ((γ .i64 ((a.length:Int)+((1:Nat):Int)))=(γ .i64 ((a.length:Int)+((1:Nat):Int)))))=true) (m:(decide ((γ .i64 ((a.length:Int)+((1:Nat):Int)))≤((1099511627776:Nat):Int)))=true) (n:(decide ((a.length:Int)<(b.length:Int)))=false) (l:CO 161 [.sl (μ (w.length*1) (μ ((0+(δ (a.length:Int)))*1) (ak w)++ [.int .u32 (γ .u32 (c:Int))]++ε (((0+(δ (a.length:Int)))*1)+1) (ak w))) w.length true] (.ret (.sl (ak (digs z)) (digs z).length true))) (g:aI prog ap [] 59 (.block 0 (.loop (ae 0 (af f135)))) ⟨[(0,.sl (ak a) a.length d),(1,.sl (ak b) b.length e),(4,.nilS),(5,.ref 0 0 0 (δ (γ .i64 ((a.length:Int)+((1:Nat):Int))))),(6,.int .u64 0),(7,.dead),(8,.dead),(13,.bool (decide ((a.length:Int)<(b.length:Int)))),(21,ω (a.length:Int)),(22,ω 0),(23,.dead),(35,.dead)],[(0,⟨(gp (δ (γ .i64 ((a.length:Int)+((1:Nat):Int)))) [.int .u32 0]),0,false,0,1,true⟩)],.dead,[]⟩ (.normal) ⟨[(0,.sl (ak a) a.length d),(1,.sl (ak b) b.length e),(5,.ref 0 0 0 w.length),(6,.int .u64 (c:Int))],[(0,⟨(ak w),0,false,0,1,true⟩)],.dead,[]⟩):CO 135 [.sl (ak a) a.length d,.sl (ak b) b.length e] (.ret (.sl (ak (digs z)) (digs z).length true)):=pK [0] 1 0 (.c k (.c h (.c j (.c f (.c i (.c m (.c (aB n) .nil))))))) (.c l (.l g .nil))
theorem aeO (a b w:List Nat) (d e:Bool) (c z:Nat) (k:(Ξ (((0+(δ (b.length:Int)))*1)+1) (ζ (ak w)))=true) (h:(decide (((0:Nat):Int)≤(b.length:Int)))=true) (j:(decide ((b.length:Int)<(w.length:Int)))=true) (f:(decide (((0:Nat):Int)≤(γ .i64 ((b.length:Int)+((1:Nat):Int)))))=true) (i:(decide ((γ .i64 ((b.length:Int)+((1:Nat):Int)))=(γ .i64 ((b.length:Int)+((1:Nat):Int)))))=true) (m:(decide ((γ .i64 ((b.length:Int)+((1:Nat):Int)))≤((1099511627776:Nat):Int)))=true) (n:(decide ((a.length:Int)<(b.length:Int)))=true) (l:CO 161 [.sl (μ (w.length*1) (μ ((0+(δ (b.length:Int)))*1) (ak w)++ [.int .u32 (γ .u32 (c:Int))]++ε (((0+(δ (b.length:Int)))*1)+1) (ak w))) w.length true] (.ret (.sl (ak (digs z)) (digs z).length true))) (g:aI prog ap [] 59 (.block 0 (.loop (ae 0 (af f135)))) ⟨[(0,.sl (ak b) b.length e),(1,.sl (ak a) a.length d),(4,.nilS),(5,.ref 0 0 0 (δ (γ .i64 ((b.length:Int)+((1:Nat):Int))))),(6,.int .u64 0),(7,.dead),(8,.dead),(13,.bool (decide ((a.length:Int)<(b.length:Int)))),(21,ω (b.length:Int)),(22,ω 0),(23,.dead),(35,.dead)],[(0,⟨(gp (δ (γ .i64 ((b.length:Int)+((1:Nat):Int)))) [.int .u32 0]),0,false,0,1,true⟩)],.dead,[]⟩ (.normal) ⟨[(0,.sl (ak b) b.length e),(1,.sl (ak a) a.length d),(5,.ref 0 0 0 w.length),(6,.int .u64 (c:Int))],[(0,⟨(ak w),0,false,0,1,true⟩)],.dead,[]⟩):CO 135 [.sl (ak a) a.length d,.sl (ak b) b.length e] (.ret (.sl (ak (digs z)) (digs z).length true)):=pK [0] 1 1 (.c k (.c h (.c j (.c f (.c i (.c m (.c (aC n) .nil))))))) (.c l (.l g .nil))
theorem Y1 (a b w:List Nat) (d e:Bool) (c z:Nat) (i:(decide (((0:Nat):Int)≤(a.length:Int)))=true) (g:(decide ((a.length:Int)=(a.length:Int)))=true) (h:(decide ((a.length:Int)≤((1099511627776:Nat):Int)))=true) (j:CO 161 [.sl (μ (w.length*1) (ak w)) w.length true] (.ret (.sl (ak (digs z)) (digs z).length true))) (f:aI prog ap [] 45 (.block 0 (.loop (ae 0 (af f204)))) ⟨[(0,.sl (ak a) a.length d),(1,.sl (ak b) b.length e),(4,.nilS),(5,.ref 0 0 0 (δ (a.length:Int))),(6,.int .u64 0),(7,.dead),(8,.dead),(13,ω (a.length:Int)),(14,ω 0),(15,.dead),(27,.dead)],[(0,⟨(gp (δ (a.length:Int)) [.int .u32 0]),0,false,0,1,true⟩)],.dead,[]⟩ (.normal) ⟨[(0,.sl (ak a) a.length d),(1,.sl (ak b) b.length e),(5,.ref 0 0 0 w.length),(6,.int .u64 (c:Int))],[(0,⟨(ak w),0,false,0,1,true⟩)],.dead,[]⟩):CO 204 [.sl (ak a) a.length d,.sl (ak b) b.length e] (.ret (.sl (ak (digs z)) (digs z).length true)):=pK [0] 0 0 (.c i (.c g (.c h .nil))) (.c j (.l f .nil))
theorem abP (s t:List UInt8) (z:Nat) (d:CO 136 [.str s] (.ret (.sl (ak (digs (ag s))) (digs (ag s)).length true))) (a:CO 136 [.str t] (.ret (.sl (ak (digs (ag t))) (digs (ag t)).length true))) (c:CO 135 [.sl (ak (digs (ag s))) (digs (ag s)).length true,.sl (ak (digs (ag t))) (digs (ag t)).length true] (.ret (.sl (ak (digs z)) (digs z).length true))) (b:CO 134 [.sl (ak (digs z)) (digs z).length true] (.ret (.str (ai z)))):CO 113 [.str s,.str t] (.ret (.str (ai z))):=pK [] 0 0 .nil (.c b (.c c (.c a (.c d .nil))))
theorem aeK (s t:List UInt8) (z:Nat) (c:(decide ((lU (ag s) (ag t))<((0:Nat):Int)))=true) (d:CO 136 [.str s] (.ret (.sl (ak (digs (ag s))) (digs (ag s)).length true))) (a:CO 136 [.str t] (.ret (.sl (ak (digs (ag t))) (digs (ag t)).length true))) (b:CO 183 [.sl (ak (digs (ag s))) (digs (ag s)).length true,.sl (ak (digs (ag t))) (digs (ag t)).length true] (.ret (ω (lU (ag s) (ag t))))):CO 188 [.str s,.str t] (.ret (.tup [.str [],.bool false])):=pK [] 1 1 (.c (aC c) .nil) (.c b (.c a (.c d .nil)))
theorem aeL (s t:List UInt8) (z:Nat) (d:(decide ((lU (ag s) (ag t))<((0:Nat):Int)))=false) (e:CO 136 [.str s] (.ret (.sl (ak (digs (ag s))) (digs (ag s)).length true))) (a:CO 136 [.str t] (.ret (.sl (ak (digs (ag t))) (digs (ag t)).length true))) (c:CO 183 [.sl (ak (digs (ag s))) (digs (ag s)).length true,.sl (ak (digs (ag t))) (digs (ag t)).length true] (.ret (ω (lU (ag s) (ag t))))) (b:CO 204 [.sl (ak (digs (ag s))) (digs (ag s)).length true,.sl (ak (digs (ag t))) (digs (ag t)).length true] (.ret (.sl (ak (digs z)) (digs z).length true))) (f:CO 134 [.sl (ak (digs z)) (digs z).length true] (.ret (.str (ai z)))):CO 188 [.str s,.str t] (.ret (.tup [.str (ai z),.bool true])):=pK [] 1 0 (.c (aB d) .nil) (.c f (.c b (.c c (.c a (.c e .nil)))))
theorem acZ (s t:List UInt8) (z:Nat) (d:CO 136 [.str s] (.ret (.sl (ak (digs (ag s))) (digs (ag s)).length true))) (a:CO 136 [.str t] (.ret (.sl (ak (digs (ag t))) (digs (ag t)).length true))) (c:CO 189 [.sl (ak (digs (ag s))) (digs (ag s)).length true,.sl (ak (digs (ag t))) (digs (ag t)).length true] (.ret (.sl (ak (digs z)) (digs z).length true))) (b:CO 134 [.sl (ak (digs z)) (digs z).length true] (.ret (.str (ai z)))):CO 175 [.str s,.str t] (.ret (.str (ai z))):=pK [] 0 0 .nil (.c b (.c c (.c a (.c d .nil))))
theorem aba:∀ (l m:List Nat) (c:Nat),bZ l→bZ m→c≤1→(cy B_ z_ l m c).2≤1
 | [],_,_,_,_,h=>h
 |x::l,m,c,hl,hm,h=>by
  simp only [cy];exact aba l m.tail _ hl.tail hm.tl (OJ hl.head hm.hd h)
theorem Mc {a b:List Nat} (j k:Bool) (e:bZ a) (f:bZ b) (i:b.length≤a.length) (o:a.length<2^39):∃ (p:List Nat) (c:Nat),c≤1∧p.length=a.length∧bZ (p++ [c])∧aK (p++ [c])=aK a+aK b∧∀ nt,59≤nt→
  aF prog ap [] nt (ae 0 (af f135)) (fun _=> .exit 0) (OL a b j k) (LZ a b j k) (0,κ (a.length+1) 0,0) (p++ [0],c):=by
 have n:=aba a b 0 e f (by omega);have l:=Xc a b 0 i;have d:=NC B_ z_ a b 0;have g:=ND (fd:=B_) (fc:=z_) (fun x y c=>Xqw _ (by omega)) a b 0;refine ⟨(cy B_ z_ a b 0).1,(cy B_ z_ a b 0).2,n,d,g.app (bZ.cons (by omega) bZ.nil), ?_,fun nt m=> ?_⟩
 ·rw [mg,d];simp only [aK,Nat.mul_zero,Nat.add_zero] at l ⊢;exact l
 ·have h:=aat m a b j k e f (by omega) [0] a [] [] [] b 0 (by omega) rfl rfl rfl (.inl rfl);rw [Xqc,Xqc,← List.replicate_succ'] at h;exact h
theorem QB {p:List Nat} {c n:Nat} (a:c≤1) (hp:p.length=n):μ ((0+(δ (n:Int)))*1) (ak (p++ [0]))++ [Xxr .u32 (γ .u32 (c:Int))]++ε (((0+(δ (n:Int)))*1)+1) (ak (p++ [0]))=ak (p++ [c]):=by
 subst hp;rw [qP,φ (by omega)];exact zg (p:=p) (s:= []) (x:=0) (y:=c)
theorem aeP (a b:List Nat) (d e:Bool) (j:bZ a) (k:bZ b) (u:a.length<2^38) (v:b.length<2^38):CO 135 [.sl (ak a) a.length d,.sl (ak b) b.length e] (.ret (.sl (ak (digs (aK a+aK b))) (digs (aK a+aK b)).length true)):=by
 have t:∀ n:Nat,n<2^38→γ .i64 ((n:Int)+((1:Nat):Int))=((n+1:Nat):Int):=fun n l=>by rw [bW,aX (by omega)]
 have hs:∀ (a b:List Nat) (d e:Bool) (p:List Nat) (c:Nat),(∀ nt,59≤nt→aF prog ap [] nt (ae 0 (af f135)) (fun _=> .exit 0) (OL a b d e) (LZ a b d e) (0,κ (a.length+1) 0,0) (p++ [0],c))→
   aI prog ap [] 59 (.block 0 (.loop (ae 0 (af f135)))) ⟨[(0,.sl (ak a) a.length d),(1,.sl (ak b) b.length e),(5,.ref 0 0 0 (a.length+1)),(6,.int .u64 ((0:Nat):Int)),(21,ω (a.length:Int)),(22,ω ((0:Nat):Int))],[(0,⟨ak (κ (a.length+1) 0),0,false,0,1,true⟩)],.dead,[]⟩ .normal (LZ a b d e (p++ [0],c)):=by
  intro a b d e p c i;have h:=aF.blk (s:=OL a b d e (0,κ (a.length+1) 0,0)) (s':=LZ a b d e (p++ [0],c)) (id:=0) i (by simp) rfl (aJ.refl _) (aJ.refl _);unfold OL at h;simp only [Xq8] at h;exact h
 rcases Xq9 a.length b.length with hlt|hge
 ·obtain ⟨p,c,r,hp,g,q,i⟩:=Mc e d k j (Nat.le_of_lt hlt) (by omega);have f:=aeO a b (p++ [0]) d e c (aK a+aK b);have o:=hs b a e d p c i;rw [t b.length v,aA (b.length+1),pz,QB r hp] at f;have m:(p++ [0]).length=b.length+1:=by rw [θ,hp];rfl
  exact f (by rw [Xqn,aA];unfold ak;rw [Xxd];omega) (Yq0 (by omega)) (Yq0 (by omega)) (Yq0 (by omega)) (Yq0 rfl) (Yq0 (by omega)) (Yq0 (by omega))
   (A_ (p++ [c]) _ _ (by simp) (by rw [jR g,q,Xx9]) (by omega)) fun nt l=>(o nt l).weak (aJ.of ⟨rfl,rfl,rfl,rfl,rfl,rfl,trivial⟩) (aJ.refl _)
 ·obtain ⟨p,c,r,hp,g,q,i⟩:=Mc d e j k hge (by omega);have f:=aeN a b (p++ [0]) d e c (aK a+aK b);have o:=hs a b d e p c i;rw [t a.length u,aA (a.length+1),pz,QB r hp] at f;have m:(p++ [0]).length=a.length+1:=by rw [θ,hp];rfl
  exact f (by rw [Xqn,aA];unfold ak;rw [Xxd];omega) (Yq0 (by omega)) (Yq0 (by omega)) (Yq0 (by omega)) (Yq0 rfl) (Yq0 (by omega)) (Yq1 (by omega))
   (A_ (p++ [c]) _ _ (by simp) (by rw [jR g,q]) (by omega)) fun nt l=>(o nt l).weak (aJ.of ⟨rfl,rfl,rfl,rfl,rfl,rfl,trivial⟩) (aJ.refl _)
theorem RI {a b:List Nat} (j k:Bool) (f:bZ a) (g:bZ b) (i:b.length≤a.length) (n:aK b≤aK a) (q:a.length<2^39):∃ (p:List Nat) (c:Nat),p.length=a.length∧bZ p∧aK p=aK a - aK b∧∀ nt,45≤nt→
  aF prog ap [] nt (ae 0 (af f204)) (fun _=> .exit 0) (RJ a b j k) (VG a b j k) (0,κ a.length 0,0) (p,c):=by
 have o:=VH a b 0 f g (by omega) i;have e:=NC AB xC a b 0;have d:=ND (fd:=AB) (fc:=xC) (fun x y c=>Xqw _ (by omega)) a b 0;have l:=pG d;rw [e] at l;refine ⟨(cy AB xC a b 0).1,(cy AB xC a b 0).2,e,d, ?_,fun nt m=> ?_⟩
 ·have h0:(cy AB xC a b 0).2=0:=by
   rcases Nat.eq_zero_or_pos (cy AB xC a b 0).2 with h|h
   ·exact h
   ·have:=Nat.mul_le_mul_left (4294967296^a.length) h;omega
  rw [h0] at o;omega
 ·have h:=Y5 m a b j k f g (by omega) [] a [] [] [] b 0 (by omega) rfl rfl rfl (.inl rfl);rw [Xqc,Xqc,Γ,Γ] at h;exact h
theorem Y2 (a b:List Nat) (e g:Bool) (j:bZ a) (k:bZ b) (i:b.length≤a.length) (l:aK b≤aK a) (r:a.length<2^38):CO 204 [.sl (ak a) a.length e,.sl (ak b) b.length g] (.ret (.sl (ak (digs (aK a - aK b))) (digs (aK a - aK b)).length true)):=by
 obtain ⟨p,c,hp,d,q,o⟩:=RI e g j k i l (by omega);have f:=Y1 a b p e g c (aK a - aK b);have h:=aF.blk (s:=RJ a b e g (0,κ a.length 0,0)) (s':=VG a b e g (p,c)) (id:=0) o (by simp) rfl (aJ.refl _) (aJ.refl _);unfold RJ at h;simp only [Xq8] at h;rw [aA,pz] at f;have n:μ (p.length*1) (ak p)=ak p:=by rw [υ,oh,Xqy]
 exact f (Yq0 (by omega)) (Yq0 rfl) (Yq0 (by omega)) (A_ p _ _ rfl (by rw [jR d,q]) (by omega)) fun nt m=>(h nt m).weak (aJ.of ⟨rfl,rfl,rfl,rfl,rfl,rfl,trivial⟩) (aJ.refl _)
theorem qp {s:List UInt8} {n:Nat} (hs:s.length≤4*n):(digs (ag s)).length≤n:=by
 have h:=wu s;refine jL (Xqg h ?_);rw [show (256:Nat)=2^8 from rfl,← Xja];exact Xqj (by omega) (by omega)
theorem PG {x y:Nat} (h:y≤x):(digs y).length≤(digs x).length:=by
 refine jL (Xq7 h ?_);rw [Xja];exact m_ x
theorem Q_ {x y m n:Nat} (d:(digs x).length≤m) (a:(digs y).length≤n):(digs (x*y)).length≤m+n:=by
 refine jL ?_;have c:=Xqg (m_ x) (Xqj (by omega) d);have b:=Xqg (m_ y) (Xqj (by omega) a);rw [Xxa,Nat.pow_add,Xja,Xja];exact Nat.mul_lt_mul'' c b
theorem Q9 {x y n:Nat} (b:(digs x).length≤n) (a:(digs y).length≤n):(digs (x+y)).length≤n+1:=by
 refine jL ?_;have d:=Xqg (m_ x) (Xqj (by omega) b);have c:=Xqg (m_ y) (Xqj (by omega) a);rw [Xja,Xq3];have:(2:Nat)^32=4294967296:=by decide
 rw [this];generalize 4294967296^n=P at*
 omega
theorem Zb (s t:List UInt8) (hs:s.length<2^36) (d:t.length<2^36):CO 113 [.str s,.str t] (.ret (.str (ai (ag s+ag t)))):=by
 have b:=qp (s:=s) (n:=2^34) (by omega);have a:=qp (s:=t) (n:=2^34) (by omega);have c:=Q9 b a;have h:=aeP (digs (ag s)) (digs (ag t)) true true (bZ.digs _) (bZ.digs _) (by omega) (by omega);rw [fO,fO] at h;exact abP s t _ (uJ s (by omega)) (uJ t (by omega)) h (qK _ _ true (v_ _) (by omega) (by omega))
theorem Px (s t:List UInt8) (hs:s.length<2^36):CO 183 [.sl (ak (digs (ag s))) (digs (ag s)).length true,.sl (ak (digs (ag t))) (digs (ag t)).length true] (.ret (ω (lU (ag s) (ag t)))):=by
 have h:=xh (digs (ag s)) (digs (ag t)) true true (Du (by omega));rw [zx] at h;exact h
theorem Qx (x y:Nat):decide (lU x y<((0:Nat):Int))=decide (x<y):=by
 unfold lU;by_cases h:x<y
 ·rw [if_pos h,Yq0 h];rfl
 ·rw [if_neg h,Yq1 h];split<;>rfl
theorem Zl (s t:List UInt8) (hs:s.length<2^36) (a:t.length<2^36) (h:ag s<ag t):CO 188 [.str s,.str t] (.ret (.tup [.str [],.bool false])):=
 aeK s t 0 (by rw [Qx];exact Yq0 h) (uJ s (by omega)) (uJ t (by omega)) (Px s t hs)
theorem Zm (s t:List UInt8) (hs:s.length<2^36) (b:t.length<2^36) (h:ag t≤ag s):CO 188 [.str s,.str t] (.ret (.tup [.str (ai (ag s - ag t)),.bool true])):=by
 have c:=qp (s:=s) (n:=2^34) (by omega);have a:=PG (Nat.sub_le (ag s) (ag t));have f:=Y2 (digs (ag s)) (digs (ag t)) true true (bZ.digs _) (bZ.digs _) (PG h) (by rw [fO,fO];exact h) (by omega);rw [fO,fO] at f;exact aeL s t _ (by rw [Qx];exact Yq1 (by omega)) (uJ s (by omega)) (uJ t (by omega)) (Px s t hs) f (qK _ _ true (v_ _) (by omega) (by omega))
theorem ce0:CO 76 [.str [0,0,0,0,0,0,0,1]] (.ret (.str [1])):=cK (.nil)
theorem ce1:CO 49 [ω 1] (.ret (.str [1])):=cK (.c ce0 .nil)
theorem ce2:CO 76 [.str [0,0,0,0,0,0,0,100]] (.ret (.str [100])):=cK (.nil)
theorem ce3:CO 49 [ω 100] (.ret (.str [100])):=cK (.c ce2 .nil)
theorem Bh {k n:Nat} (h:n≤k):decide ((k:Int)<(n:Int))=false:=Yq1 (by omega)
theorem api {nt:Nat} (s:92≤nt) (u v o:List Nat) (i j c a x y:Nat) (f:ω (τ (η (ε ((0+(δ (((i+j):Nat):Int)))*1) (ah o)) .dead))= ω (x:Int)) (p:ω (τ (η (ε ((δ (i:Int))*1) (ah u)) .dead))= ω (a:Int)) (m:ω (τ (η (ε ((δ (j:Int))*1) (ah v)) .dead))= ω (y:Int)) (e:ω (γ .i64 ((a:Int)*(y:Int)))= ω (((a*y):Nat):Int)) (g:ω (γ .i64 ((x:Int)+(((a*y):Nat):Int)))= ω (((x+a*y):Nat):Int)) (h:ω (γ .i64 ((((x+a*y):Nat):Int)+(c:Int)))= ω (((x+a*y+c):Nat):Int)) (b:ω (γ .i64 ((i:Int)+(j:Int)))= ω (((i+j):Nat):Int)) (l:ω (Int.tmod (((x+a*y+c):Nat):Int) ((16777216:Nat):Int))= ω ((((x+a*y+c) % 16777216):Nat):Int)) (n:ω (γ .i64 (Int.tdiv (((x+a*y+c):Nat):Int) ((16777216:Nat):Int)))= ω ((((x+a*y+c) / 16777216):Nat):Int)) (k:ω (γ .i64 ((j:Int)+((1:Nat):Int)))= ω (((j+1):Nat):Int)) (w:(Ξ (((0+(δ (((i+j):Nat):Int)))*1)+1) (ζ (ah o)))=true) (q:(decide (((0:Nat):Int)≤(((i+j):Nat):Int)))=true) (r:(decide ((((i+j):Nat):Int)<(o.length:Int)))=true) (A:(chk (.int .i64) (η (ε ((δ (j:Int))*1) (ah v)) .dead))=true) (C:(decide (((0:Nat):Int)≤(j:Int)))=true) (z:(chk (.int .i64) (η (ε ((δ (i:Int))*1) (ah u)) .dead))=true) (B:(decide (((0:Nat):Int)≤(i:Int)))=true) (t:(decide ((i:Int)<(u.length:Int)))=true) (D:(chk (.int .i64) (η (ε ((0+(δ (((i+j):Nat):Int)))*1) (ah o)) .dead))=true) (d:(decide ((j:Int)<(v.length:Int)))=true):aj prog ap [] nt (ae 2 (af f50)) ⟨[(9,.sl (ah u) u.length false),(10,.sl (ah v) v.length false),(11,.ref 0 0 0 o.length),(12,ω (i:Int)),(13,ω (c:Int)),(14,ω (j:Int))],[(0,⟨(ah o),0,false,0,1,true⟩)],.dead,[]⟩ (.normal) ⟨[(9,.sl (ah u) u.length false),(10,.sl (ah v) v.length false),(11,.ref 0 0 0 o.length),(12,ω (i:Int)),(13,ω ((((x+a*y+c) / 16777216):Nat):Int)),(14,ω (((j+1):Nat):Int))],[(0,⟨(μ ((0+(δ (((i+j):Nat):Int)))*1) (ah o)++ [ω ((((x+a*y+c) % 16777216):Nat):Int)]++ε (((0+(δ (((i+j):Nat):Int)))*1)+1) (ah o)),0,false,0,1,true⟩)],.dead,[]⟩:=pN 50 [] 1 1 (.k 1 w (.c q (.c r (.k 1 A (.c C (.c d (.c z (.c B (.c t (.c D (.c q (.c r (.c (aC d) .nil))))))))))))) (.v 55 (.eq k) (.v 82 (.eq n) (.v 79 (.eq l) (.v 77 (.eq b) (.v 73 (.eq h) (.v 71 (.eq g) (.v 70 (.eq e) (.v 69 (.eq m) (.v 65 (.eq p) (.v 61 (.eq f) (.v 59 (.eq b) .nil))))))))))) s
theorem apj {nt:Nat} (b:92≤nt) (u v o:List Nat) (i j c a x y:Nat) (d:(decide ((j:Int)<(v.length:Int)))=false):aj prog ap [] nt (ae 2 (af f50)) ⟨[(9,.sl (ah u) u.length false),(10,.sl (ah v) v.length false),(11,.ref 0 0 0 o.length),(12,ω (i:Int)),(13,ω (c:Int)),(14,ω (j:Int))],[(0,⟨(ah o),0,false,0,1,true⟩)],.dead,[]⟩ (.exit 2) ⟨[(9,.sl (ah u) u.length false),(10,.sl (ah v) v.length false),(11,.ref 0 0 0 o.length),(12,ω (i:Int)),(13,ω (c:Int))],[(0,⟨(ah o),0,false,0,1,true⟩)],.dead,[]⟩:=pN 50 [] 1 0 (.c (aB d) .nil) (.nil) b
theorem apk {nt:Nat} (f:92≤nt) (u v o a:List Nat) (i d:Nat) (c:ω (γ .i64 ((i:Int)+(v.length:Int)))= ω (((i+v.length):Nat):Int)) (b:ω (γ .i64 ((i:Int)+((1:Nat):Int)))= ω (((i+1):Nat):Int)) (j:(Ξ (((0+(δ (((i+v.length):Nat):Int)))*1)+1) (ζ (ah a)))=true) (h:(decide (((0:Nat):Int)≤(((i+v.length):Nat):Int)))=true) (k:(decide ((((i+v.length):Nat):Int)<(a.length:Int)))=true) (e:(decide ((i:Int)<(u.length:Int)))=true) (g:aI prog ap [] 92 (.block 2 (.loop (ae 2 (af f50)))) ⟨[(0,.dead),(1,.dead),(4,.dead),(5,.dead),(6,.dead),(7,.dead),(8,.dead),(9,.sl (ah u) u.length false),(10,.sl (ah v) v.length false),(11,.ref 0 0 0 o.length),(12,ω (i:Int)),(13,ω 0),(14,ω 0),(15,.dead),(29,.dead),(47,.bool (decide ((i:Int)<(u.length:Int)))),(53,.dead)],[(0,⟨(ah o),0,false,0,1,true⟩)],.dead,[]⟩ (.normal) ⟨[(9,.sl (ah u) u.length false),(10,.sl (ah v) v.length false),(11,.ref 0 0 0 a.length),(12,ω (i:Int)),(13,ω (d:Int))],[(0,⟨(ah a),0,false,0,1,true⟩)],.dead,[]⟩):ψ nt f50 ⟨[(9,.sl (ah u) u.length false),(10,.sl (ah v) v.length false),(11,.ref 0 0 0 o.length),(12,ω (i:Int))],[(0,⟨(ah o),0,false,0,1,true⟩)],.dead,[]⟩ (.normal) ⟨[(9,.sl (ah u) u.length false),(10,.sl (ah v) v.length false),(11,.ref 0 0 0 a.length),(12,ω (((i+1):Nat):Int))],[(0,⟨(μ ((0+(δ (((i+v.length):Nat):Int)))*1) (ah a)++ [ω (d:Int)]++ε (((0+(δ (((i+v.length):Nat):Int)))*1)+1) (ah a)),0,false,0,1,true⟩)],.dead,[]⟩:=pN 50 [2] 1 1 (.c j (.c h (.c k (.c (aC e) .nil)))) (.v 49 (.eq b) (.v 87 (.eq c) (.l g .nil))) f
theorem apl {nt:Nat} (a:92≤nt) (u v o c:List Nat) (i d:Nat) (b:(decide ((i:Int)<(u.length:Int)))=false):ψ nt f50 ⟨[(9,.sl (ah u) u.length false),(10,.sl (ah v) v.length false),(11,.ref 0 0 0 o.length),(12,ω (i:Int))],[(0,⟨(ah o),0,false,0,1,true⟩)],.dead,[]⟩ (.exit 0) ⟨[(11,.ref 0 0 0 o.length)],[(0,⟨(ah o),0,false,0,1,true⟩)],.dead,[]⟩:=pN 50 [] 1 0 (.c (aB b) .nil) (.nil) a
theorem apf (s t:List UInt8) (x y z:Nat) (a:List Nat) (h:(decide (((0:Nat):Int)≤(γ .i64 ((((ay (ag s)).length:Nat):Int)+(((ay (ag t)).length:Nat):Int)))))=true) (d:(decide ((γ .i64 ((((ay (ag s)).length:Nat):Int)+(((ay (ag t)).length:Nat):Int)))=(γ .i64 ((((ay (ag s)).length:Nat):Int)+(((ay (ag t)).length:Nat):Int)))))=true) (j:(decide ((γ .i64 ((((ay (ag s)).length:Nat):Int)+(((ay (ag t)).length:Nat):Int)))≤((1099511627776:Nat):Int)))=true) (b:CO 77 [.str s,ω 3] (.ret (.tup [ω (x:Int),.bool true]))) (f:CO 77 [.str t,ω 4] (.ret (.tup [ω (y:Int),.bool false]))) (i:CO 78 [.str s] (.ret (.sl (ah (ay (ag s))) (ay (ag s)).length false))) (g:CO 78 [.str t] (.ret (.sl (ah (ay (ag t))) (ay (ag t)).length false))) (e:CO 79 [.sl (μ (a.length*1) (ah a)) a.length true] (.ret (.str (ai z)))) (c:aI prog ap [] 92 (.block 0 (.loop (ae 0 (af f50)))) ⟨[(0,.str s),(1,.str t),(4,.str []),(5,ω (x:Int)),(6,.bool true),(7,ω (y:Int)),(8,.bool false),(9,.sl (ah (ay (ag s))) (ay (ag s)).length false),(10,.sl (ah (ay (ag t))) (ay (ag t)).length false),(11,.ref 0 0 0 (δ (γ .i64 ((((ay (ag s)).length:Nat):Int)+(((ay (ag t)).length:Nat):Int))))),(12,ω 0),(13,.dead),(14,.dead),(15,.dead),(29,.bool false),(47,.dead),(53,.dead)],[(0,⟨(gp (δ (γ .i64 ((((ay (ag s)).length:Nat):Int)+(((ay (ag t)).length:Nat):Int)))) [ω 0]),0,false,0,1,true⟩)],.dead,[]⟩ (.normal) ⟨[(11,.ref 0 0 0 a.length)],[(0,⟨(ah a),0,false,0,1,true⟩)],.dead,[]⟩):CO 50 [.str s,.str t] (.ret (.str (ai z))):=pK [0] 2 1 (.c h (.c d (.c j (.n 2 .nil)))) (.c e (.l c (.c g (.c i (.c f (.c b .nil))))))
theorem apg (s t:List UInt8) (x y z:Nat) (a:List Nat) (h:(decide (((0:Nat):Int)≤(γ .i64 ((((ay (ag s)).length:Nat):Int)+(((ay (ag t)).length:Nat):Int)))))=true) (d:(decide ((γ .i64 ((((ay (ag s)).length:Nat):Int)+(((ay (ag t)).length:Nat):Int)))=(γ .i64 ((((ay (ag s)).length:Nat):Int)+(((ay (ag t)).length:Nat):Int)))))=true) (j:(decide ((γ .i64 ((((ay (ag s)).length:Nat):Int)+(((ay (ag t)).length:Nat):Int)))≤((1099511627776:Nat):Int)))=true) (b:CO 77 [.str s,ω 3] (.ret (.tup [ω (x:Int),.bool false]))) (f:CO 77 [.str t,ω 4] (.ret (.tup [ω (y:Int),.bool true]))) (i:CO 78 [.str s] (.ret (.sl (ah (ay (ag s))) (ay (ag s)).length false))) (g:CO 78 [.str t] (.ret (.sl (ah (ay (ag t))) (ay (ag t)).length false))) (e:CO 79 [.sl (μ (a.length*1) (ah a)) a.length true] (.ret (.str (ai z)))) (c:aI prog ap [] 92 (.block 0 (.loop (ae 0 (af f50)))) ⟨[(0,.str s),(1,.str t),(4,.str []),(5,ω (x:Int)),(6,.bool false),(7,ω (y:Int)),(8,.bool true),(9,.sl (ah (ay (ag s))) (ay (ag s)).length false),(10,.sl (ah (ay (ag t))) (ay (ag t)).length false),(11,.ref 0 0 0 (δ (γ .i64 ((((ay (ag s)).length:Nat):Int)+(((ay (ag t)).length:Nat):Int))))),(12,ω 0),(13,.dead),(14,.dead),(15,.dead),(29,.bool false),(47,.dead),(53,.dead)],[(0,⟨(gp (δ (γ .i64 ((((ay (ag s)).length:Nat):Int)+(((ay (ag t)).length:Nat):Int)))) [ω 0]),0,false,0,1,true⟩)],.dead,[]⟩ (.normal) ⟨[(11,.ref 0 0 0 a.length)],[(0,⟨(ah a),0,false,0,1,true⟩)],.dead,[]⟩):CO 50 [.str s,.str t] (.ret (.str (ai z))):=pK [0] 2 0 (.c h (.c d (.c j (.n 2 .nil)))) (.c e (.l c (.c g (.c i (.c f (.c b .nil))))))
theorem aph (s t:List UInt8) (x y z:Nat) (a:List Nat) (h:(decide (((0:Nat):Int)≤(γ .i64 ((((ay (ag s)).length:Nat):Int)+(((ay (ag t)).length:Nat):Int)))))=true) (d:(decide ((γ .i64 ((((ay (ag s)).length:Nat):Int)+(((ay (ag t)).length:Nat):Int)))=(γ .i64 ((((ay (ag s)).length:Nat):Int)+(((ay (ag t)).length:Nat):Int)))))=true) (j:(decide ((γ .i64 ((((ay (ag s)).length:Nat):Int)+(((ay (ag t)).length:Nat):Int)))≤((1099511627776:Nat):Int)))=true) (b:CO 77 [.str s,ω 3] (.ret (.tup [ω (x:Int),.bool false]))) (f:CO 77 [.str t,ω 4] (.ret (.tup [ω (y:Int),.bool false]))) (i:CO 78 [.str s] (.ret (.sl (ah (ay (ag s))) (ay (ag s)).length false))) (g:CO 78 [.str t] (.ret (.sl (ah (ay (ag t))) (ay (ag t)).length false))) (e:CO 79 [.sl (μ (a.length*1) (ah a)) a.length true] (.ret (.str (ai z)))) (c:aI prog ap [] 92 (.block 0 (.loop (ae 0 (af f50)))) ⟨[(0,.str s),(1,.str t),(4,.str []),(5,ω (x:Int)),(6,.bool false),(7,ω (y:Int)),(8,.bool false),(9,.sl (ah (ay (ag s))) (ay (ag s)).length false),(10,.sl (ah (ay (ag t))) (ay (ag t)).length false),(11,.ref 0 0 0 (δ (γ .i64 ((((ay (ag s)).length:Nat):Int)+(((ay (ag t)).length:Nat):Int))))),(12,ω 0),(13,.dead),(14,.dead),(15,.dead),(29,.bool false),(47,.dead),(53,.dead)],[(0,⟨(gp (δ (γ .i64 ((((ay (ag s)).length:Nat):Int)+(((ay (ag t)).length:Nat):Int)))) [ω 0]),0,false,0,1,true⟩)],.dead,[]⟩ (.normal) ⟨[(11,.ref 0 0 0 a.length)],[(0,⟨(ah a),0,false,0,1,true⟩)],.dead,[]⟩):CO 50 [.str s,.str t] (.ret (.str (ai z))):=pK [0] 2 0 (.c h (.c d (.c j (.n 2 .nil)))) (.c e (.l c (.c g (.c i (.c f (.c b .nil))))))
def FY (a:Nat):List Nat→List Nat→Nat→List Nat × Nat
 |x::m,y::v,c=>((x+a*y+c) % 16777216::(FY a m v ((x+a*y+c) / 16777216)).1,(FY a m v ((x+a*y+c) / 16777216)).2)
 |_,_,c=>([],c)
theorem KZ {a x y c:Nat} (d:a<16777216) (e:x<16777216) (b:y<16777216) (f:c<16777216):a*y<281474976710656∧x+a*y+c<281474976710656∧(x+a*y+c) / 16777216<16777216:=by
 have g:a*y≤16777215*16777215:=Xwr (by omega) (by omega);omega
theorem Jf {a:Nat} (b:a<16777216):∀ (m v:List Nat) (c:Nat),m.length=v.length→c<16777216→bz m→bz v→(FY a m v c).2<16777216∧bz (FY a m v c).1∧(FY a m v c).1.length=v.length∧dA (FY a m v c).1+16777216^v.length*(FY a m v c).2=dA m+a*dA v+c
 | [],[],c,_,hc,_,_=> ⟨hc,bz.nil,rfl,by simp [FY,dA]⟩
 |x::m,y::v,c,hl,hc,hm,hv=>by
  obtain ⟨_,_,e⟩:=KZ b hm.head hv.head hc;obtain ⟨g,d,f,i⟩:=Jf b m v _ (by simpa using hl) e hm.tail hv.tail;simp only [FY];refine ⟨g,bz.cons (Xqw _ (by omega)) d,by simp [f], ?_⟩;simp only [dA,ν,Xq3];rw [Xqa (16777216^v.length),Xqp,Xxa,Xwl a];omega
 | [],_::_,_,h,_,_,_=>by simp at h
 |_::_,[],_,h,_,_,_=>by simp at h
def Ud (v:List Nat):List Nat→List Nat→List Nat
 | [],m=>m
 |a::u,m=>((FY a m v 0).1++ [(FY a m v 0).2]).headD 0::Ud v u ((FY a m v 0).1++ [(FY a m v 0).2]).tail
theorem IW (l:List Nat) (y:Nat):∃ z m,l++ [y]=z::m∧m.length=l.length:=by
 cases l with
 |nil=>exact ⟨y,[],rfl,rfl⟩
 |cons b l=>exact ⟨b,l++ [y],rfl,by simp⟩
theorem P9 {v:List Nat} (e:bz v):∀ (u m:List Nat),bz u→bz m→m.length=v.length→bz (Ud v u m)∧(Ud v u m).length=u.length+v.length∧dA (Ud v u m)=dA m+dA u*dA v
 | [],m,_,hm,hl=> ⟨hm,by simp [Ud,hl],by simp [Ud,dA]⟩
 | a::u,m,hu,hm,hl=>by
  obtain ⟨k,j,l,n⟩:=Jf hu.head m v 0 hl (by omega) hm e;obtain ⟨z,c,b,o⟩:=IW (FY a m v 0).1 (FY a m v 0).2;have d:bz (z::c):=by rw [← b];exact bz.app j (bz.cons k bz.nil)
  have f:dA (z::c)=dA m+a*dA v:=by
   rw [← b,zh,l];simp only [dA];omega
  simp only [Ud,b,Xje,Xzf];obtain ⟨h,i,g⟩:=P9 e u c hu.tail d.tail (by omega);refine ⟨bz.cons d.head h,by simp [i];omega, ?_⟩;simp only [dA] at f ⊢;rw [g,Xxp,Xxa,Xqp];omega
def ahy (u v:List Nat) (i:Nat) (p:Nat × List Nat × Nat):St:=⟨[(9,.sl (ah u) u.length false),(10,.sl (ah v) v.length false),(11,.ref 0 0 0 p.2.1.length),(12,ω (i:Int)),(13,ω (p.2.2:Int)),(14,ω (p.1:Int))],[(0,⟨ah p.2.1,0,false,0,1,true⟩)],.dead,[]⟩
def apm (u v:List Nat) (i:Nat) (p:List Nat × Nat):St:=⟨[(9,.sl (ah u) u.length false),(10,.sl (ah v) v.length false),(11,.ref 0 0 0 p.1.length),(12,ω (i:Int)),(13,ω (p.2:Int))],[(0,⟨ah p.1,0,false,0,1,true⟩)],.dead,[]⟩
theorem WY {p s:List Nat} {x y k:Nat} (h:k=p.length):μ ((0+(δ (k:Int)))*1) (ah (p++x::s))++ [ω (y:Int)]++ε (((0+(δ (k:Int)))*1)+1) (ah (p++x::s))=ah (p++y::s):=by
 rw [χ,υ,aA,PV (by rw [h];simp)];subst h;simp
theorem acy {p s:List Nat} {x k:Nat} (h:k=p.length):(η (ε ((0+(δ (k:Int)))*1) (ah (p++x::s))) .dead)= ω (x:Int):=by
 rw [χ,υ,aA];exact PU h
theorem PO {p s:List Nat} {x k:Nat} (h:k=p.length):(η (ε ((δ (k:Int))*1) (ah (p++x::s))) .dead)= ω (x:Int):=by
 rw [υ,aA];exact PU h
theorem QL {a b:Nat} (h:a+b<9223372036854775808):ω (γ .i64 ((a:Int)+(b:Int)))= ω ((a+b:Nat):Int):=by
 rw [bW,aX h]
theorem YI {nt:Nat} (n:92≤nt) (u u1 u2 v:List Nat) (a:Nat) (o:u=u1++a::u2) (L:a<16777216) (M:bz v) (G:u.length<2^36) (Q:v.length<2^36):∀ (w m b d pp z:List Nat) (c:Nat),b++w=v→m.length=w.length→d.length=b.length→pp.length=u1.length→bz m→c<16777216→
  aF prog ap [] nt (ae 2 (af f50)) (fun _=> .exit 2) (ahy u v u1.length) (apm u v u1.length) (b.length,pp++d++m++z,c) (pp++d++(FY a m w c).1++z,(FY a m w c).2):=by
 intro w
 induction w with
 |nil=>
  intro m b d pp z c f g t A k q;have C:m= []:=List.length_eq_zero_iff.1 (by simpa using g);subst C;have j:b=v:=by simpa using f
  simp only [FY];exact .done (apj n u v _ _ _ _ 0 0 0 (by rw [j];exact Yq1 (by omega)))
 | cons y w ih=>
  intro m b d pp z c f g t A k q;cases m with
  |nil=>simp at g
  | cons x m=>
   have P:b.length+(w.length+1)=v.length:=by rw [← f];simp
   have N:u1.length+(u2.length+1)=u.length:=by rw [o];simp
   have S:y<16777216:=M y (by rw [← f];simp);obtain ⟨W,X,O⟩:=KZ L k.head S q;have e:=ih m (b++ [y]) (d++ [(x+a*y+c) % 16777216]) pp z ((x+a*y+c) / 16777216) (by simp [f]) (by simpa using g) (by simp [t]) A k.tail O;simp only [FY];rw [θ,ο] at e;have V:pp++d++x::m++z=(pp++d)++x::(m++z):=by simp
   have I:pp++(d++ [(x+a*y+c) % 16777216])++m++z=(pp++d)++(x+a*y+c) % 16777216::(m++z):=by simp
   have T:pp++(d++ [(x+a*y+c) % 16777216])++(FY a m w ((x+a*y+c) / 16777216)).1++z=pp++d++(x+a*y+c) % 16777216::(FY a m w ((x+a*y+c) / 16777216)).1++z:=by simp
   rw [T] at e;refine .next ?_ e
   have B:u1.length+b.length=(pp++d).length:=by rw [θ];omega
   have r:((pp++d)++x::(m++z)).length=(pp++d).length+(m++z).length+1:=by simp;omega
   have hlen2:((pp++d)++(x+a*y+c) % 16777216::(m++z)).length=((pp++d)++x::(m++z)).length:=by simp
   have D:=acy (p:=pp++d) (s:=m++z) (x:=x) B;have R:(η (ε ((δ (u1.length:Int))*1) (ah u)) .dead)= ω (a:Int):=by rw [o];exact PO rfl
   have J:(η (ε ((δ (b.length:Int))*1) (ah v)) .dead)= ω (y:Int):=by rw [← f];exact PO rfl
   have E:=WY (p:=pp++d) (s:=m++z) (x:=x) (y:=(x+a*y+c) % 16777216) B;unfold ahy;simp only [V,I,hlen2];have hs:=api n u v ((pp++d)++x::(m++z)) u1.length b.length c a x y;rw [E,D,R,J] at hs;have l:u1.length<u.length:=by omega
   have i:b.length<v.length:=by omega
   have h:u1.length+b.length<((pp++d)++x::(m++z)).length:=by omega
   have H:ω (Int.tmod (((x+a*y+c):Nat):Int) ((16777216:Nat):Int))= ω ((((x+a*y+c) % 16777216):Nat):Int):=by rw [xg]
   have K:ω (γ .i64 (Int.tdiv (((x+a*y+c):Nat):Int) ((16777216:Nat):Int)))= ω ((((x+a*y+c) / 16777216):Nat):Int):=by rw [pO,aX (by omega)]
   have F:ω (γ .i64 ((a:Int)*(y:Int)))= ω ((a*y:Nat):Int):=by rw [QK (by omega)]
   have U:Ξ (((0+(δ (((u1.length+b.length):Nat):Int)))*1)+1) (ζ (ah ((pp++d)++x::(m++z))))=true:=by
    rw [Xqn,aA,bQ];omega
   apply hs<;>first|exact rfl|exact QL (by omega)|exact H|exact K|exact F|exact U|exact oz _|exact dO l|exact dO i|exact dO h
def VL (u v:List Nat) (p:Nat × List Nat):St:=⟨[(9,.sl (ah u) u.length false),(10,.sl (ah v) v.length false),(11,.ref 0 0 0 p.2.length),(12,ω (p.1:Int))],[(0,⟨ah p.2,0,false,0,1,true⟩)],.dead,[]⟩
def ac0 (o:List Nat):St:=⟨[(11,.ref 0 0 0 o.length)],[(0,⟨ah o,0,false,0,1,true⟩)],.dead,[]⟩
theorem We {nt:Nat} (g:92≤nt) (u v:List Nat) (d:bz u) (A:bz v) (i:u.length<2^36) (o:v.length<2^36):∀ (u2 u1 m pp:List Nat),u1++u2=u→m.length=v.length→pp.length=u1.length→bz m→
  aF prog ap [] nt (ae 0 (af f50)) (fun _=> .exit 0) (VL u v) ac0 (u1.length,pp++m++κ u2.length 0) (pp++Ud v u2 m):=by
 intro u2
 induction u2 with
 |nil=>
  intro u1 m pp c k n q;have l:u1=u:=by simpa using c
  simp only [Ud,Δ,Xwa,Γ];exact .done (apl g u v _ [] _ 0 (by rw [l];exact Yq1 (by omega)))
 | cons a u2 ih=>
  intro u1 m pp c k n q;have F:u1.length+(u2.length+1)=u.length:=by rw [← c];simp
  have B:a<16777216:=d a (by rw [← c];simp);obtain ⟨H,L,N,O⟩:=Jf B m v 0 k (by omega) q A;have j:=fun nt (g:92≤nt)=>YI g u u1 u2 v a c.symm B A i o v m [] [] pp (κ (u2.length+1) 0) 0 rfl k rfl n q (by omega)
  simp only [Ud];generalize FY a m v 0=r at*
  obtain ⟨z,f,t,M⟩:=IW r.1 r.2;have C:bz (z::f):=by rw [← t];exact bz.app L (bz.cons H bz.nil)
  have b:=ih (u1++ [a]) f (pp++ [z]) (by simp [c]) (by omega) (by simp [n]) C.tail;simp only [t,Xje,Xzf];rw [θ,ο] at b;have I:pp++ [z]++Ud v u2 f=pp++z::Ud v u2 f:=by simp
  rw [I] at b;refine .next ?_ b
  rw [Γ] at j;have G:u1.length+v.length=(pp++r.1).length:=by rw [θ];omega
  have K:pp++r.1++κ (u2.length+1) 0=(pp++r.1)++0::κ u2.length 0:=by rw [Xxe]
  have E:pp++ [z]++f++κ u2.length 0=(pp++r.1)++r.2::κ u2.length 0:=by
   rw [Ψ pp,Xxg,← t];simp
  have D:=WY (p:=pp++r.1) (s:=κ u2.length 0) (x:=0) (y:=r.2) G;rw [K] at j;have e:((pp++r.1)++0::κ u2.length 0).length=((pp++r.1)++r.2::κ u2.length 0).length:=by simp
  have hlen2:((pp++r.1)++0::κ u2.length 0).length=(pp++r.1).length+u2.length+1:=by simp;omega
  have hs:=apk g u v (pp++m++κ (u2.length+1) 0) ((pp++r.1)++0::κ u2.length 0) u1.length r.2;rw [D] at hs;have w:u1.length<u.length:=by omega
  have h:u1.length+v.length<((pp++r.1)++0::κ u2.length 0).length:=by omega
  have J:Ξ (((0+(δ (((u1.length+v.length):Nat):Int)))*1)+1) (ζ (ah ((pp++r.1)++0::κ u2.length 0)))=true:=by
   rw [Xqn,aA,bQ];omega
  unfold VL;simp only [E,ν];rw [← e];apply hs<;>first|exact QL (by omega)|exact J|exact oz _|exact dO w|exact dO h|skip
  exact aF.blk j (by simp) rfl (aJ.of ⟨rfl,rfl,rfl,rfl,rfl,rfl,trivial⟩) (aJ.refl _)
theorem xu {s:List UInt8} (h:s.length<2^35):(ay (ag s)).length<2^35:=by
 have a:(ay (ag s)).length≤s.length:=qY (Xqg (jS s) (by rw [Xja];exact Nat.pow_le_pow_left (by decide) _));omega
theorem RV (s t:List UInt8) (hs:s.length<2^35) (c:t.length<2^35):∃ o3:List Nat,o3.length<2^36∧bz o3∧dA o3=ag s*ag t∧∀ nt,92≤nt→aF prog ap [] nt (ae 0 (af f50)) (fun _=> .exit 0) (VL (ay (ag s)) (ay (ag t))) ac0 (0,κ ((ay (ag s)).length+(ay (ag t)).length) 0) o3:=by
 have g:=xu hs;have f:=xu c;obtain ⟨d,e,b⟩:=P9 (bz.dig (ag t)) (ay (ag s)) (κ (ay (ag t)).length 0) (bz.dig _) (bz.zeros _) (by simp);refine ⟨_,by rw [e];omega,d, ?_,fun nt a=> ?_⟩
 ·rw [b,O1,fF,fF,χ]
 ·have:=We a (ay (ag s)) (ay (ag t)) (bz.dig _) (bz.dig _) (by omega) (by omega) (ay (ag s)) [] (κ (ay (ag t)).length 0) [] rfl (by simp) rfl (bz.zeros _);rw [Xqc,Xqc,Xwp,Xx9] at this;exact this
theorem VK (s t:List UInt8) (hs:s.length<2^35) (r:t.length<2^35):CO 50 [.str s,.str t] (.ret (.str (ai (ag s*ag t)))):=by
 obtain ⟨a,z,y,A,w⟩:=RV s t hs r;have C:=xu hs;have B:=xu r;have l:=A7 s (by omega);have k:=A7 t (by omega);have f:=uI a true z y;rw [A] at f;have g:μ (a.length*1) (ah a)=ah a:=by rw [υ,dC,Xqy]
 rw [← g] at f;have v:γ .i64 ((((ay (ag s)).length:Nat):Int)+(((ay (ag t)).length:Nat):Int))=(((ay (ag s)).length+(ay (ag t)).length:Nat):Int):=by
  rw [bW,aX (by omega)]
 have o:=apf s t (ag s) 0 (ag s*ag t) a;have n:=apg s t 0 (ag t) (ag s*ag t) a;have u:=aph s t 0 0 (ag s*ag t) a;rw [v,aA,yO] at o n u;have i:=Yq0 (p:=((0:Nat):Int)≤(((ay (ag s)).length+(ay (ag t)).length:Nat):Int)) (by omega);have h:=Yq0 (p:=(((ay (ag s)).length+(ay (ag t)).length:Nat):Int)=(((ay (ag s)).length+(ay (ag t)).length:Nat):Int)) rfl;have j:=Yq0 (p:=(((ay (ag s)).length+(ay (ag t)).length:Nat):Int)≤((1099511627776:Nat):Int)) (by omega);have c:=aF.blk (s:=VL (ay (ag s)) (ay (ag t)) (0,κ ((ay (ag s)).length+(ay (ag t)).length) 0)) (s':=ac0 a) (id:=0) w (by simp) rfl (aJ.refl _) (aJ.refl _);have x:((ay (ag s)).length+(ay (ag t)).length)=(κ ((ay (ag s)).length+(ay (ag t)).length) 0).length:=by rw [Xq8]
 unfold VL at c;simp only [← x] at c;rcases Xq9 (ag s) (2^(8*3)) with c1|c1
 ·have e:=jP s 3 (by omega) (by omega) c1;rcases Xq9 (ag t) (2^(8*4)) with c2|c2
  ·have b:=jP t 4 (by omega) (by omega) c2;have m:ag s*ag t<9223372036854775808:=Xq7 (Xwr (show ag s≤16777215 by omega) (show ag t≤4294967295 by omega)) (by omega);have q:=ku (ag s*ag t) m;rw [← QK m] at q;exact aew s t _ _ _ e b q
  ·have b:=kZ t 4 (by omega) c2;exact o i h j e b l k f fun nt d=>(c nt d).weak (aJ.of ⟨rfl,rfl,rfl,rfl,trivial⟩) (aJ.refl _)
 ·have e:=kZ s 3 (by omega) c1;rcases Xq9 (ag t) (2^(8*4)) with c2|c2
  ·have b:=jP t 4 (by omega) (by omega) c2;exact n i h j e b l k f fun nt d=>(c nt d).weak (aJ.of ⟨rfl,rfl,rfl,rfl,trivial⟩) (aJ.refl _)
  ·have b:=kZ t 4 (by omega) c2;exact u i h j e b l k f fun nt d=>(c nt d).weak (aJ.of ⟨rfl,rfl,rfl,rfl,trivial⟩) (aJ.refl _)
theorem apr {nt:Nat} (A:68≤nt) (u v o:List Nat) (w d:Bool) (i j c a x y:Nat) (k:Xxr .u32 (τ (η (ε ((δ (j:Int))*1) (ak v)) .dead))= .int .u32 (y:Int)) (e:Xxr .u64 (γ .u64 (a:Int))= .int .u64 (a:Int)) (g:Xxr .u64 (γ .u64 (y:Int))= .int .u64 (y:Int)) (l:Xxr .u64 (γ .u64 ((a:Int)*(y:Int)))= .int .u64 (((a*y):Nat):Int)) (p:Xxr .u32 (τ (η (ε ((0+(δ (((i+j):Nat):Int)))*1) (ak o)) .dead))= .int .u32 (x:Int)) (r:Xxr .u64 (γ .u64 (x:Int))= .int .u64 (x:Int)) (h:Xxr .u64 (γ .u64 ((((a*y):Nat):Int)+(x:Int)))= .int .u64 (((a*y+x):Nat):Int)) (f:Xxr .u64 (γ .u64 ((((a*y+x):Nat):Int)+(c:Int)))= .int .u64 (((a*y+x+c):Nat):Int)) (b:ω (γ .i64 ((i:Int)+(j:Int)))= ω (((i+j):Nat):Int)) (n:Xxr .u32 (γ .u32 (((a*y+x+c):Nat):Int))= .int .u32 ((((a*y+x+c) % 4294967296):Nat):Int)) (q:Xxr .u64 (Int.fdiv (((a*y+x+c):Nat):Int) (2^(min 32 64)))= .int .u64 ((((a*y+x+c) / 4294967296):Nat):Int)) (m:ω (γ .i64 ((j:Int)+((1:Nat):Int)))= ω (((j+1):Nat):Int)) (B:(Ξ (((0+(δ (((i+j):Nat):Int)))*1)+1) (ζ (ak o)))=true) (s:(decide (((0:Nat):Int)≤(((i+j):Nat):Int)))=true) (t:(decide ((((i+j):Nat):Int)<(o.length:Int)))=true) (C:(chk (.int .u32) (η (ε ((0+(δ (((i+j):Nat):Int)))*1) (ak o)) .dead))=true) (E:(chk (.int .u32) (η (ε ((δ (j:Int))*1) (ak v)) .dead))=true) (D:(decide (((0:Nat):Int)≤(j:Int)))=true) (z:(decide ((j:Int)<(v.length:Int)))=true):aj prog ap [] nt (ae 2 (af f189)) ⟨[(1,.sl (ak v) v.length d),(5,.ref 0 0 0 o.length),(6,ω (i:Int)),(7,.int .u32 (a:Int)),(8,.int .u64 (c:Int)),(18,.sl (ak u) u.length w),(19,ω (u.length:Int)),(20,ω (i:Int)),(25,.sl (ak v) v.length d),(26,ω (v.length:Int)),(27,ω (j:Int))],[(0,⟨(ak o),0,false,0,1,true⟩)],.dead,[]⟩ (.normal) ⟨[(1,.sl (ak v) v.length d),(5,.ref 0 0 0 o.length),(6,ω (i:Int)),(7,.int .u32 (a:Int)),(8,.int .u64 ((((a*y+x+c) / 4294967296):Nat):Int)),(18,.sl (ak u) u.length w),(19,ω (u.length:Int)),(20,ω (i:Int)),(25,.sl (ak v) v.length d),(26,ω (v.length:Int)),(27,ω (((j+1):Nat):Int))],[(0,⟨(μ ((0+(δ (((i+j):Nat):Int)))*1) (ak o)++ [.int .u32 ((((a*y+x+c) % 4294967296):Nat):Int)]++ε (((0+(δ (((i+j):Nat):Int)))*1)+1) (ak o)),0,false,0,1,true⟩)],.dead,[]⟩:=pN 189 [] 1 1 (.c B (.c s (.c t (.k 1 C (.c s (.c t (.c E (.c D (.c z (.c (aC z) .nil)))))))))) (.v 56 (.eq m) (.v 54 (.eq q) (.v 52 (.eq n) (.v 50 (.eq b) (.v 46 (.eq f) (.v 44 (.eq h) (.v 43 (.eq r) (.v 42 (.eq p) (.v 40 (.eq b) (.v 36 (.eq l) (.v 35 (.eq g) (.v 33 (.eq e) (.v 31 (.eq k) .nil))))))))))))) A
theorem aps {nt:Nat} (e:68≤nt) (u v o:List Nat) (d b:Bool) (i j c a x y:Nat) (f:(decide ((j:Int)<(v.length:Int)))=false):aj prog ap [] nt (ae 2 (af f189)) ⟨[(1,.sl (ak v) v.length b),(5,.ref 0 0 0 o.length),(6,ω (i:Int)),(7,.int .u32 (a:Int)),(8,.int .u64 (c:Int)),(18,.sl (ak u) u.length d),(19,ω (u.length:Int)),(20,ω (i:Int)),(25,.sl (ak v) v.length b),(26,ω (v.length:Int)),(27,ω (j:Int))],[(0,⟨(ak o),0,false,0,1,true⟩)],.dead,[]⟩ (.exit 2) ⟨[(1,.sl (ak v) v.length b),(5,.ref 0 0 0 o.length),(6,ω (i:Int)),(8,.int .u64 (c:Int)),(18,.sl (ak u) u.length d),(19,ω (u.length:Int)),(20,ω (i:Int))],[(0,⟨(ak o),0,false,0,1,true⟩)],.dead,[]⟩:=pN 189 [] 1 0 (.c (aB f) .nil) (.nil) e
theorem apt {nt:Nat} (l:68≤nt) (u v o b:List Nat) (e c:Bool) (i a d:Nat) (h:Xxr .u32 (τ (η (ε ((δ (i:Int))*1) (ak u)) .dead))= .int .u32 (a:Int)) (g:ω (γ .i64 ((i:Int)+(v.length:Int)))= ω (((i+v.length):Nat):Int)) (f:Xxr .u32 (γ .u32 (d:Int))= .int .u32 (d:Int)) (j:ω (γ .i64 ((i:Int)+((1:Nat):Int)))= ω (((i+1):Nat):Int)) (n:(Ξ (((0+(δ (((i+v.length):Nat):Int)))*1)+1) (ζ (ak b)))=true) (m:(decide (((0:Nat):Int)≤(((i+v.length):Nat):Int)))=true) (p:(decide ((((i+v.length):Nat):Int)<(b.length:Int)))=true) (q:(chk (.int .u32) (η (ε ((δ (i:Int))*1) (ak u)) .dead))=true) (s:(decide (((0:Nat):Int)≤(i:Int)))=true) (k:(decide ((i:Int)<(u.length:Int)))=true) (r:aI prog ap [] 68 (.block 2 (.loop (ae 2 (af f189)))) ⟨[(0,.dead),(1,.sl (ak v) v.length c),(4,.dead),(5,.ref 0 0 0 o.length),(6,ω (i:Int)),(7,.int .u32 (a:Int)),(8,.int .u64 0),(9,.dead),(10,.dead),(11,.dead),(18,.sl (ak u) u.length e),(19,ω (u.length:Int)),(20,ω (i:Int)),(21,.bool (decide ((i:Int)<(u.length:Int)))),(25,.sl (ak v) v.length c),(26,ω (v.length:Int)),(27,ω 0),(28,.dead)],[(0,⟨(ak o),0,false,0,1,true⟩)],.dead,[]⟩ (.normal) ⟨[(1,.sl (ak v) v.length c),(5,.ref 0 0 0 b.length),(6,ω (i:Int)),(8,.int .u64 (d:Int)),(18,.sl (ak u) u.length e),(19,ω (u.length:Int)),(20,ω (i:Int))],[(0,⟨(ak b),0,false,0,1,true⟩)],.dead,[]⟩):ψ nt f189 ⟨[(1,.sl (ak v) v.length c),(5,.ref 0 0 0 o.length),(18,.sl (ak u) u.length e),(19,ω (u.length:Int)),(20,ω (i:Int))],[(0,⟨(ak o),0,false,0,1,true⟩)],.dead,[]⟩ (.normal) ⟨[(1,.sl (ak v) v.length c),(5,.ref 0 0 0 b.length),(18,.sl (ak u) u.length e),(19,ω (u.length:Int)),(20,ω (((i+1):Nat):Int))],[(0,⟨(μ ((0+(δ (((i+v.length):Nat):Int)))*1) (ak b)++ [.int .u32 (d:Int)]++ε (((0+(δ (((i+v.length):Nat):Int)))*1)+1) (ak b)),0,false,0,1,true⟩)],.dead,[]⟩:=pN 189 [2] 1 1 (.c n (.c m (.c p (.c q (.c s (.c k (.c (aC k) .nil))))))) (.v 65 (.eq j) (.v 63 (.eq f) (.v 61 (.eq g) (.l r (.v 24 (.eq h) .nil))))) l
theorem apu {nt:Nat} (b:68≤nt) (u v o f:List Nat) (c d:Bool) (i a g:Nat) (e:(decide ((i:Int)<(u.length:Int)))=false):ψ nt f189 ⟨[(1,.sl (ak v) v.length d),(5,.ref 0 0 0 o.length),(18,.sl (ak u) u.length c),(19,ω (u.length:Int)),(20,ω (i:Int))],[(0,⟨(ak o),0,false,0,1,true⟩)],.dead,[]⟩ (.exit 0) ⟨[(5,.ref 0 0 0 o.length)],[(0,⟨(ak o),0,false,0,1,true⟩)],.dead,[]⟩:=pN 189 [] 1 0 (.c (aB e) .nil) (.nil) b
theorem Zz (a b w:List Nat) (c d:Bool) (z:Nat) (h:(decide (((0:Nat):Int)≤(γ .i64 ((a.length:Int)+(b.length:Int)))))=true) (f:(decide ((γ .i64 ((a.length:Int)+(b.length:Int)))=(γ .i64 ((a.length:Int)+(b.length:Int)))))=true) (g:(decide ((γ .i64 ((a.length:Int)+(b.length:Int)))≤((1099511627776:Nat):Int)))=true) (i:CO 161 [.sl (μ (w.length*1) (ak w)) w.length true] (.ret (.sl (ak (digs z)) (digs z).length true))) (e:aI prog ap [] 68 (.block 0 (.loop (ae 0 (af f189)))) ⟨[(0,.sl (ak a) a.length c),(1,.sl (ak b) b.length d),(4,.nilS),(5,.ref 0 0 0 (δ (γ .i64 ((a.length:Int)+(b.length:Int))))),(6,.dead),(7,.dead),(8,.dead),(9,.dead),(10,.dead),(11,.dead),(18,.sl (ak a) a.length c),(19,ω (a.length:Int)),(20,ω 0),(21,.dead),(25,.dead),(26,.dead),(27,.dead),(28,.dead)],[(0,⟨(gp (δ (γ .i64 ((a.length:Int)+(b.length:Int)))) [.int .u32 0]),0,false,0,1,true⟩)],.dead,[]⟩ (.normal) ⟨[(5,.ref 0 0 0 w.length)],[(0,⟨(ak w),0,false,0,1,true⟩)],.dead,[]⟩):CO 189 [.sl (ak a) a.length c,.sl (ak b) b.length d] (.ret (.sl (ak (digs z)) (digs z).length true)):=pK [0] 0 0 (.c h (.c f (.c g .nil))) (.c i (.l e .nil))
def prI (u v:List Nat) (na nb:Bool) (i a:Nat) (p:Nat × List Nat × Nat):St:=⟨[(1,.sl (ak v) v.length nb),(5,.ref 0 0 0 p.2.1.length),(6,ω (i:Int)),(7,.int .u32 (a:Int)),(8,.int .u64 (p.2.2:Int)),(18,.sl (ak u) u.length na),(19,ω (u.length:Int)),(20,ω (i:Int)),(25,.sl (ak v) v.length nb),(26,ω (v.length:Int)),(27,ω (p.1:Int))],[(0,⟨(ak p.2.1),0,false,0,1,true⟩)],.dead,[]⟩
def prJ (u v:List Nat) (na nb:Bool) (i:Nat) (p:List Nat × Nat):St:=⟨[(1,.sl (ak v) v.length nb),(5,.ref 0 0 0 p.1.length),(6,ω (i:Int)),(8,.int .u64 (p.2:Int)),(18,.sl (ak u) u.length na),(19,ω (u.length:Int)),(20,ω (i:Int))],[(0,⟨(ak p.1),0,false,0,1,true⟩)],.dead,[]⟩
def prO (u v:List Nat) (na nb:Bool) (p:Nat × List Nat):St:=⟨[(1,.sl (ak v) v.length nb),(5,.ref 0 0 0 p.2.length),(18,.sl (ak u) u.length na),(19,ω (u.length:Int)),(20,ω (p.1:Int))],[(0,⟨(ak p.2),0,false,0,1,true⟩)],.dead,[]⟩
def prR (o:List Nat):St:=⟨[(5,.ref 0 0 0 o.length)],[(0,⟨(ak o),0,false,0,1,true⟩)],.dead,[]⟩
def FZ (a:Nat):List Nat→List Nat→Nat→List Nat × Nat
 |x::m,y::v,c=>((a*y+x+c) % 4294967296::(FZ a m v ((a*y+x+c) / 4294967296)).1,(FZ a m v ((a*y+x+c) / 4294967296)).2)
 |_,_,c=>([],c)
theorem Ll {a x y c:Nat} (d:a<4294967296) (e:x<4294967296) (b:y<4294967296) (f:c<4294967296):a*y<18446744073709551616∧a*y+x+c<18446744073709551616∧(a*y+x+c) / 4294967296<4294967296:=by
 have g:a*y≤4294967295*4294967295:=Xwr (by omega) (by omega);omega
theorem Jq {a:Nat} (b:a<4294967296):∀ (m v:List Nat) (c:Nat),m.length=v.length→c<4294967296→bZ m→bZ v→(FZ a m v c).2<4294967296∧bZ (FZ a m v c).1∧(FZ a m v c).1.length=v.length∧aK (FZ a m v c).1+4294967296^v.length*(FZ a m v c).2=aK m+a*aK v+c
 | [],[],c,_,hc,_,_=> ⟨hc,bZ.nil,rfl,by simp [FZ,aK]⟩
 |x::m,y::v,c,hl,hc,hm,hv=>by
  obtain ⟨_,_,e⟩:=Ll b hm.head hv.head hc;obtain ⟨g,d,f,i⟩:=Jq b m v _ (by simpa using hl) e hm.tail hv.tail;simp only [FZ];refine ⟨g,bZ.cons (Xqw _ (by omega)) d,by simp [f], ?_⟩;simp only [aK,ν,Xq3];rw [Xqa (4294967296^v.length),Xqp,Xxa,Xwl a];omega
 | [],_::_,_,h,_,_,_=>by simp at h
 |_::_,[],_,h,_,_,_=>by simp at h
def Qj (v:List Nat):List Nat→List Nat→List Nat
 | [],m=>m
 |a::u,m=>((FZ a m v 0).1++ [(FZ a m v 0).2]).headD 0::Qj v u ((FZ a m v 0).1++ [(FZ a m v 0).2]).tail
theorem Qk {v:List Nat} (e:bZ v):∀ (u m:List Nat),bZ u→bZ m→m.length=v.length→bZ (Qj v u m)∧(Qj v u m).length=u.length+v.length∧aK (Qj v u m)=aK m+aK u*aK v
 | [],m,_,hm,hl=> ⟨hm,by simp [Qj,hl],by simp [Qj,aK]⟩
 | a::u,m,hu,hm,hl=>by
  obtain ⟨k,j,l,n⟩:=Jq hu.head m v 0 hl (by omega) hm e;obtain ⟨z,c,b,o⟩:=IW (FZ a m v 0).1 (FZ a m v 0).2;have d:bZ (z::c):=by rw [← b];exact bZ.app j (bZ.cons k bZ.nil)
  have f:aK (z::c)=aK m+a*aK v:=by
   rw [← b,mg,l];simp only [aK];omega
  simp only [Qj,b,Xje,Xzf];obtain ⟨h,i,g⟩:=Qk e u c hu.tail d.tail (by omega);refine ⟨bZ.cons d.head h,by simp [i];omega, ?_⟩;simp only [aK] at f ⊢;rw [g,Xxp,Xxa,Xqp];omega
theorem WZ {p s:List Nat} {x y k:Nat} (h:k=p.length):μ ((0+(δ (k:Int)))*1) (ak (p++x::s))++ [Xxr .u32 (y:Int)]++ε (((0+(δ (k:Int)))*1)+1) (ak (p++x::s))=ak (p++y::s):=by
 subst h;exact zg
theorem IR {p s:List Nat} {x k:Nat} (h:k=p.length):(η (ε ((δ (k:Int))*1) (ak (p++x::s))) .dead)= .int .u32 (x:Int):=by
 subst h;rw [y_];rfl
theorem acz {p s:List Nat} {x k:Nat} (h:k=p.length):(η (ε ((0+(δ (k:Int)))*1) (ak (p++x::s))) .dead)= .int .u32 (x:Int):=by
 rw [χ];exact IR h
theorem wdp {a b:Nat} (h:a+b<9223372036854775808):ω (γ .i64 ((a:Int)+(b:Int)))= ω ((a+b:Nat):Int):=by
 rw [bW,aX h]
theorem ap6 {a b:Nat} (h:a+b<18446744073709551616):Xxr .u64 (γ .u64 ((a:Int)+(b:Int)))= .int .u64 ((a+b:Nat):Int):=by
 rw [bW,oK,φ h]
theorem ap5 {a:Nat} (h:a<18446744073709551616):Xxr .u64 (γ .u64 (a:Int))= .int .u64 (a:Int):=by
 rw [oK,φ h]
theorem ap4 {a:Nat} (h:a<4294967296):Xxr .u32 (γ .u32 (a:Int))= .int .u32 (a:Int):=by
 rw [qP,φ h]
theorem YJ {nt:Nat} (q:68≤nt) (u u1 u2 v:List Nat) (g j:Bool) (a:Nat) (D:u=u1++a::u2) (O:a<4294967296) (P:bZ v) (J:u.length<2^38) (T:v.length<2^38):∀ (w m b d pp z:List Nat) (c:Nat),b++w=v→m.length=w.length→d.length=b.length→pp.length=u1.length→bZ m→c<4294967296→
  aF prog ap [] nt (ae 2 (af f189)) (fun _=> .exit 2) (prI u v g j u1.length a) (prJ u v g j u1.length) (b.length,pp++d++m++z,c) (pp++d++(FZ a m w c).1++z,(FZ a m w c).2):=by
 intro w
 induction w with
 |nil=>
  intro m b d pp z c f h A B i r;have E:m= []:=List.length_eq_zero_iff.1 (by simpa using h);subst E;have o:b=v:=by simpa using f
  simp only [FZ];exact .done (aps q u v _ g j _ _ _ a 0 0 (by rw [o];exact Yq1 (by omega)))
 | cons y w ih=>
  intro m b d pp z c f h A B i r;cases m with
  |nil=>simp at h
  | cons x m=>
   have S:b.length+(w.length+1)=v.length:=by rw [← f];simp
   have Q:u1.length+(u2.length+1)=u.length:=by rw [D];simp
   have U:y<4294967296:=P y (by rw [← f];simp);have hx:=i.head;obtain ⟨F,Y,R⟩:=Ll O i.head U r;have e:=ih m (b++ [y]) (d++ [(a*y+x+c) % 4294967296]) pp z ((a*y+x+c) / 4294967296) (by simp [f]) (by simpa using h) (by simp [A]) B i.tail R;simp only [FZ];rw [θ,ο] at e;have X:pp++d++x::m++z=(pp++d)++x::(m++z):=by simp
   have L:pp++(d++ [(a*y+x+c) % 4294967296])++m++z=(pp++d)++(a*y+x+c) % 4294967296::(m++z):=by simp
   have V:pp++(d++ [(a*y+x+c) % 4294967296])++(FZ a m w ((a*y+x+c) / 4294967296)).1++z=pp++d++(a*y+x+c) % 4294967296::(FZ a m w ((a*y+x+c) / 4294967296)).1++z:=by simp
   rw [V] at e;refine .next ?_ e
   have C:u1.length+b.length=(pp++d).length:=by rw [θ];omega
   have t:((pp++d)++x::(m++z)).length=(pp++d).length+(m++z).length+1:=by simp;omega
   have hlen2:((pp++d)++(a*y+x+c) % 4294967296::(m++z)).length=((pp++d)++x::(m++z)).length:=by simp
   have G:=acz (p:=pp++d) (s:=m++z) (x:=x) C;have M:(η (ε ((δ (b.length:Int))*1) (ak v)) .dead)= .int .u32 (y:Int):=by rw [← f];exact IR rfl
   have H:=WZ (p:=pp++d) (s:=m++z) (x:=x) (y:=(a*y+x+c) % 4294967296) C;unfold prI;simp only [X,L,hlen2];have hs:=apr q u v ((pp++d)++x::(m++z)) g j u1.length b.length c a x y;rw [H,G,M] at hs;have l:u1.length<u.length:=by omega
   have n:b.length<v.length:=by omega
   have k:u1.length+b.length<((pp++d)++x::(m++z)).length:=by omega
   have K:Xxr .u32 (γ .u32 (((a*y+x+c):Nat):Int))= .int .u32 ((((a*y+x+c) % 4294967296):Nat):Int):=by rw [qP]
   have N:Xxr .u64 (Int.fdiv (((a*y+x+c):Nat):Int) (2^(min 32 64)))= .int .u64 ((((a*y+x+c) / 4294967296):Nat):Int):=by rw [show min 32 64=32 from rfl,lm]
   have I:Xxr .u64 (γ .u64 ((a:Int)*(y:Int)))= .int .u64 ((a*y:Nat):Int):=by rw [← Int.natCast_mul,oK,φ F]
   have W:Ξ (((0+(δ (((u1.length+b.length):Nat):Int)))*1)+1) (ζ (ak ((pp++d)++x::(m++z))))=true:=by
    rw [Xqn,aA,au];omega
   have Z:a*y+x<18446744073709551616:=by omega
   apply hs<;>first|exact rfl|exact wdp (by omega)|exact ap6 (by omega)|exact K|exact N|exact I|exact ap5 (by omega)|exact W|exact oz _|exact dO l|exact dO n|exact dO k
theorem Wh {nt:Nat} (g:68≤nt) (u v:List Nat) (h i:Bool) (d:bZ u) (C:bZ v) (k:u.length<2^38) (t:v.length<2^38):∀ (u2 u1 m pp:List Nat),u1++u2=u→m.length=v.length→pp.length=u1.length→bZ m→
  aF prog ap [] nt (ae 0 (af f189)) (fun _=> .exit 0) (prO u v h i) prR (u1.length,pp++m++κ u2.length 0) (pp++Qj v u2 m):=by
 intro u2
 induction u2 with
 |nil=>
  intro u1 m pp c n q w;have o:u1=u:=by simpa using c
  simp only [Qj,Δ,Xwa,Γ];exact .done (apu g u v _ [] h i _ 0 0 (by rw [o];exact Yq1 (by omega)))
 | cons a u2 ih=>
  intro u1 m pp c n q w;have I:u1.length+(u2.length+1)=u.length:=by rw [← c];simp
  have D:a<4294967296:=d a (by rw [← c];simp);obtain ⟨K,O,Q,R⟩:=Jq D m v 0 n (by omega) w C;have l:=fun nt (g:68≤nt)=>YJ g u u1 u2 v h i a c.symm D C k t v m [] [] pp (κ (u2.length+1) 0) 0 rfl n rfl q w (by omega)
  simp only [Qj];generalize FZ a m v 0=r at*
  obtain ⟨z,f,A,P⟩:=IW r.1 r.2;have E:bZ (z::f):=by rw [← A];exact bZ.app O (bZ.cons K bZ.nil)
  have b:=ih (u1++ [a]) f (pp++ [z]) (by simp [c]) (by omega) (by simp [q]) E.tail;simp only [A,Xje,Xzf];rw [θ,ο] at b;have L:pp++ [z]++Qj v u2 f=pp++z::Qj v u2 f:=by simp
  rw [L] at b;refine .next ?_ b
  rw [Γ] at l;have J:u1.length+v.length=(pp++r.1).length:=by rw [θ];omega
  have N:pp++r.1++κ (u2.length+1) 0=(pp++r.1)++0::κ u2.length 0:=by rw [Xxe]
  have G:pp++ [z]++f++κ u2.length 0=(pp++r.1)++r.2::κ u2.length 0:=by
   rw [Ψ pp,Xxg,← A];simp
  have H:(η (ε ((δ (u1.length:Int))*1) (ak u)) .dead)= .int .u32 (a:Int):=by rw [← c];exact IR rfl
  have F:=WZ (p:=pp++r.1) (s:=κ u2.length 0) (x:=0) (y:=r.2) J;rw [N] at l;have e:((pp++r.1)++0::κ u2.length 0).length=((pp++r.1)++r.2::κ u2.length 0).length:=by simp
  have hlen2:((pp++r.1)++0::κ u2.length 0).length=(pp++r.1).length+u2.length+1:=by simp;omega
  have hs:=apt g u v (pp++m++κ (u2.length+1) 0) ((pp++r.1)++0::κ u2.length 0) h i u1.length a r.2;rw [F,H] at hs;have B:u1.length<u.length:=by omega
  have j:u1.length+v.length<((pp++r.1)++0::κ u2.length 0).length:=by omega
  have M:Ξ (((0+(δ (((u1.length+v.length):Nat):Int)))*1)+1) (ζ (ak ((pp++r.1)++0::κ u2.length 0)))=true:=by
   rw [Xqn,aA,au];omega
  unfold prO;simp only [G,ν];rw [← e];apply hs<;>first|exact rfl|exact wdp (by omega)|exact ap4 (by omega)|exact M|exact oz _|exact dO B|exact dO j|skip
  exact aF.blk l (by simp) rfl (aJ.of ⟨rfl,rfl,rfl,rfl,rfl,rfl,rfl,rfl,rfl,rfl,rfl,trivial⟩) (aJ.refl _)
theorem ZA (a b:List Nat) (e g:Bool) (c:bZ a) (d:bZ b) (r:a.length<2^37) (t:b.length<2^37):CO 189 [.sl (ak a) a.length e,.sl (ak b) b.length g] (.ret (.sl (ak (digs (aK a*aK b))) (digs (aK a*aK b)).length true)):=by
 obtain ⟨p,q,k⟩:=Qk d a (κ b.length 0) c (fun x j=>by rw [(List.mem_replicate.1 j).2];omega) (by simp);have o:aK (κ b.length 0)=0:=by
  generalize b.length=n
  induction n with
  |zero=>rfl
  |succ n ih=>rw [Xxe];simp only [aK,ih]
 rw [o,χ] at k;have l:∀ nt,68≤nt→aF prog ap [] nt (ae 0 (af f189)) (fun _=> .exit 0) (prO a b e g) prR (0,κ (a.length+b.length) 0) (Qj b a (κ b.length 0)):=fun nt i=>by
  have:=Wh i a b e g c d (by omega) (by omega) a [] (κ b.length 0) [] rfl (by simp) rfl (fun x j=>by rw [(List.mem_replicate.1 j).2];omega);rw [Xqc,Xqc,Xwp,Xx9] at this;exact this
 generalize Qj b a (κ b.length 0)=w at*
 have f:=Zz a b w e g (aK a*aK b);have m:γ .i64 ((a.length:Int)+(b.length:Int))=((a.length+b.length:Nat):Int):=by rw [bW,aX (by omega)]
 rw [m,aA,pz] at f;have h:=aF.blk (s:=prO a b e g (0,κ (a.length+b.length) 0)) (s':=prR w) (id:=0) l (by simp) rfl (aJ.refl _) (aJ.refl _);unfold prO at h;simp only [Xq8] at h;exact f (Yq0 (by omega)) (Yq0 rfl) (Yq0 (by omega)) (A_ w _ _ rfl (by rw [jR p,k]) (by omega)) fun nt i=>(h nt i).weak (aJ.of ⟨rfl,rfl,rfl,rfl,rfl,trivial⟩) (aJ.refl _)
theorem Zk (s t:List UInt8) (hs:s.length<2^36) (d:t.length<2^36):CO 175 [.str s,.str t] (.ret (.str (ai (ag s*ag t)))):=by
 have b:=qp (s:=s) (n:=2^34) (by omega);have a:=qp (s:=t) (n:=2^34) (by omega);have c:=Q_ b a;have h:=ZA (digs (ag s)) (digs (ag t)) true true (bZ.digs _) (bZ.digs _) (by omega) (by omega);rw [fO,fO] at h;exact acZ s t _ (uJ s (by omega)) (uJ t (by omega)) h (qK _ _ true (v_ _) (by omega) (by omega))
end Go.Proofs.Tryz
