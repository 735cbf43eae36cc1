/- Contracts of functions; joined by a program of mine. -/
import Derived.Test.YtcpedihclbogjaaGreatDoorC2
import Derived.Test.YtcpedihclbogjaaGreatDoorC1
import Derived.RangeFuncBox
import Derived.RangeFuncCalls
import Derived.RangeFuncLeaves
import Derived.Shelf.Abstract
import Derived.WalkKit
import Derived.OwnWalkIn
import Derived.TacticsInMore
import Derived.LoopNIn
import Derived.LoopIn
import Derived.Test.YtcpedihclbogjaaGreatDoorM5
set_option linter.unusedSimpArgs false
set_option linter.unusedVariables false
set_option maxRecDepth 100000
open Go AM
open List renaming drop->ε,getD_eq_getElem?_getD->μ,getElem?_eq_getElem->ν,length_take->Xq7,getElem_mem->Xxv,take->τ,map_append->Xq5,map_cons->Xqf,append_assoc->Xqe,length->θ,length_set->Xxl,length_append->ξ,length_singleton->Δ,length_cons->ο,getElem?_cons_zero->Xxf,replicate->ζ,append_nil->Xqd,length_replicate->Xq9,flatMap_cons->Xxw,drop_drop->Xjq,drop_left->Xv0,all->Xz9,cons_append->Xqu,find?_append->Xj7,mem_singleton->Xwh,all_eq_true->Xzk,length_map->Xqp,length_eq_zero_iff->Xkd,take_of_length_le->Xqa,flatMap_append->Xji,getLastD_eq_getLast?->Xwv,getLast?_eq_getElem?->Xv1,map->Xz0,zip_cons_cons->Xzj,length_zip->Xzg,any_cons->Xvk,eq_nil_or_concat->Xzb,range->Xqm,prefix_refl->Xww,prefix_append->Xvy,size_toArray->Xxg,length_nil->Ξ,push_toArray->Xx9,append_toArray->Xxz,nil_append->Xqb,drop_left'->Xkr,map_nil->Xjc,replicate_succ->Xxa,replicate_zero->Xzt
open Int renaming toNat->δ,pow_zero->Yjb,mul_one->Yjq,toNat_natCast->Xv5,natAbs_natCast->Xz4
open Nat renaming zero_add->Ψ,ble->Xqr,ble_eq->Xjk,lt_trans->Xzf,succ_mul->Xvx,add_comm->Xja,le_of_ble_eq_true->Xze,lt_of_le_of_lt->φ,le_refl->κ,lt_or_ge->Xjg,ble_eq_true_of_le->Xqc,zero_or->Yjr,reduceAdd->Xj8,reduceSub->Xj9,zero_le->Xqo,min_eq_left->Xjp,sub_self->Xz7
open IntKind renaming wrap->γ,bits->Φ
open Bool renaming and_eq_true->π,and_true->Xwo,eq_iff_iff->Xzv,false_eq_true->Xqy,true_and->Xx0,false_and->Xx4,false_ne_true->Xxt,or_eq_false_iff->Xvj,true_or->Xj4,false_or->Xx2,or_true->Xzq,or_false->Xj1,not_true->Xxi,not_false->Xq6
open Option renaming getD->Xwb,isSome->Xz3,getD_some->Xzy
open AV renaming tup->Yq8,bool->Yq5,sl->Xke
open BitVec renaming toNat->Xxd,ofInt->Xqg
namespace Go.Proofs.Tryz
abbrev zcc3_0 : List AV := [ω 9,ω 13,ω 14,ω 21,ω 22,ω 23,ω 10,ω 11,ω 12,ω 15,ω 24]
def gu:Nd:=⟨0,false,[],[],[]⟩
def jK (op:Int):Bool:=(op==1)||((op==2)||(op==3))
def qv (e:List Nd) (A:List (List Nat)) (k i:Nat):Nd:=e.getD ((A.getD k []).getD i 0) gu
theorem EA {e:List Nd} {j:Nat} (h:j<e.length):ε (δ (j:Int)*5) (aO e)=oP (e.getD j gu)++aO (e.drop (j+1)):=by
 have a:e=e.take j++e[j]::e.drop (j+1):=by simp
 have b:e.getD j gu=e[j]:=by rw [μ,ν h];rfl
 rw [b]
 conv=>lhs;rw [a]
 exact xd (by rw [Xq7];omega)
theorem fM {A:List (List Nat)} {k i m:Nat} (a:∀ j ∈ A.getD k [],j<m) (h:i<(A.getD k []).length):(A.getD k []).getD i 0<m:=by rw [CD h];exact a _ (Xxv h)
theorem ZC (e:List Nd) (m:Bool) (A:List (List Nat)) (n:List Sc) (o:Bool) (ss:List Nat) (k i:Nat) (a:List Nat) (q:List AV) (j:Nat) (r:List AV) (x:Nd) (p:List AV) (h:k<A.length) (b:(ε ((δ (k:Int))*1) (aZ A))= [B6 a]++q) (f:i<a.length) (d:(ε ((δ (i:Int))*1) (aA a))= [ω (j:Int)]++r) (c:j<e.length) (g:(ε ((δ (j:Int))*5) (aO e))=oP x++p):
  az prog ap 136 [.ptr 0 0 0,ω (k:Int),ω (i:Int)] (wH e m A n o ss) (.ret (.tup [.agg [.bool x.neg,.str x.num,.str x.den],.bool (jK x.op)])) (wH e m A n o ss):=by
 rcases tf (x.op==((1:Nat):Int)) with b0|b0
 .rw [show jK x.op=true from by unfold jK;rw [show (x.op==1)=true from b0];rfl];exact pK [] 2 3 (.k 5 (ax b0) (.k 10 (jc j) (.c (ql c) (.k 1 (jc i) (.c (ql f) (.k 1 (jc k) (.c (ql h) (.n 2 .nil)))))))) (.v 23 (.ppt g) (.v 21 (.ppt d) (.v 18 (.ppt b) .nil)))
 .rcases tf (x.op==((2:Nat):Int)) with b1|b1
  .rw [show jK x.op=true from by unfold jK;rw [show (x.op==1)=false from b0,show (x.op==2)=true from b1];rfl];exact pK [] 2 2 (.k 4 (ax b1) (.k 1 (aw b0) (.k 10 (jc j) (.c (ql c) (.k 1 (jc i) (.c (ql f) (.k 1 (jc k) (.c (ql h) (.n 2 .nil))))))))) (.v 23 (.ppt g) (.v 21 (.ppt d) (.v 18 (.ppt b) .nil)))
  .rw [show jK x.op=(x.op==((3:Nat):Int)) from by unfold jK;rw [show (x.op==1)=false from b0,show (x.op==2)=false from b1];rfl];exact pK [] 2 0 (.k 5 (aw b1) (.k 1 (aw b0) (.k 10 (jc j) (.c (ql c) (.k 1 (jc i) (.c (ql f) (.k 1 (jc k) (.c (ql h) (.n 2 .nil))))))))) (.v 23 (.ppt g) (.v 21 (.ppt d) (.v 18 (.ppt b) .nil)))
theorem pE (e:List Nd) (c:Bool) (A:List (List Nat)) (a:List Sc) (b:Bool) (ss:List Nat) (k i:Nat) (g:k<A.length) (d:i<(A.getD k []).length) (f:(A.getD k []).getD i 0<e.length):
  az prog ap 136 [.ptr 0 0 0,ω (k:Int),ω (i:Int)] (wH e c A a b ss) (.ret (.tup [.agg [.bool (qv e A k i).neg,.str (qv e A k i).num,.str (qv e A k i).den],.bool (jK (qv e A k i).op)])) (wH e c A a b ss):=
 ZC e c A a b ss k i _ _ _ _ _ _ g (nI g) d (qp d) f (EA f)
def pY (neg:Bool) (s:Nat):Nat:=cond neg (fS s) s
theorem Hc (e:List Nd) (c:Bool) (A:List (List Nat)) (a:List Sc) (b:Bool) (ss:List Nat) (k i:Nat) (x:Nd) (g:k<A.length) (d:i<(A.getD k []).length) (f:(A.getD k []).getD i 0<ss.length):
  az prog ap 137 [.ptr 0 0 0,ω (k:Int),ω (i:Int),.agg [.bool x.neg,.str x.num,.str x.den]] (wH e c A a b ss) (.ret (ω ((pY x.neg (eI A ss k i):Nat):Int))) (wH e c A a b ss):=by
 rcases tf x.neg with b0|b0
 .rw [show pY x.neg (eI A ss k i)=fS (eI A ss k i) by unfold pY;rw [b0];rfl];exact pK [] 1 1 (.c (ax b0) (.n 1 .nil)) (.c (Jh (eI A ss k i)) (.c (nW e c A a b ss k i g d f) .nil))
 .rw [show pY x.neg (eI A ss k i)=eI A ss k i by unfold pY;rw [b0];rfl];exact pK [] 1 0 (.c (aw b0) (.n 1 .nil)) (.c (nW e c A a b ss k i g d f) .nil)
def wC (e:List Nd) (A:List (List Nat)) (ss:List Nat) (k:Nat):Nat:=cond (jK (qv e A k 0).op) (pY (qv e A k 0).neg (eI A ss k 1)) (cond (jK (qv e A k 1).op) (pY (qv e A k 1).neg (eI A ss k 0)) 3)
def xW (e:List Nd) (A:List (List Nat)) (ss:List Nat) (k:Nat):Nat:=cond (jK (qv e A k 1).op) (cond (ml (qv e A k 1).neg (qv e A k 1).num (qv e A k 1).den==((0:Nat):Int)) 3 (pY (qv e A k 1).neg (eI A ss k 0))) 3
def Cj (A:List (List Nat)) (ss:List Nat) (k:Nat):Nat:=cond (((eI A ss k 0:Nat):Int)==((0:Nat):Int)) (cL (eI A ss k 1) (eI A ss k 2)) 3
theorem WF (e:List Nd) (c:Bool) (A:List (List Nat)) (a:List Sc) (b:Bool) (ss:List Nat) (k:Nat) (d:k<A.length) (hs:∀ j ∈ A.getD k [],j<ss.length) (g:∀ j ∈ A.getD k [],j<e.length) (h0:0<(A.getD k []).length) (f:1<(A.getD k []).length):
  az prog ap 98 [.ptr 0 0 0,ω (k:Int)] (wH e c A a b ss) (.ret (ω ((wC e A ss k:Nat):Int))) (wH e c A a b ss):=by
 rcases tf (jK (qv e A k 0).op) with b0|b0
 .rw [show wC e A ss k=pY (qv e A k 0).neg (eI A ss k 1) by unfold wC;rw [b0];rfl];exact pK [] 1 1 (.k 3 (ax b0) (.n 1 .nil)) (.c (Hc e c A a b ss k 1 (qv e A k 0) d f (fM hs f)) (.c (pE e c A a b ss k 0 d h0 (fM g h0)) .nil))
 .rcases tf (jK (qv e A k 1).op) with b1|b1
  .rw [show wC e A ss k=pY (qv e A k 1).neg (eI A ss k 0) by unfold wC;rw [b0,b1];rfl];exact pK [] 2 2 (.k 3 (ax b1) (.k 1 (aw b0) (.n 1 .nil))) (.c (Hc e c A a b ss k 0 (qv e A k 1) d h0 (fM hs h0)) (.c (pE e c A a b ss k 1 d f (fM g f)) (.c (pE e c A a b ss k 0 d h0 (fM g h0)) .nil)))
  .rw [show wC e A ss k=3 by unfold wC;rw [b0,b1];rfl];exact pK [] 2 0 (.c (aw b1) (.k 1 (aw b0) (.n 1 .nil))) (.c (pE e c A a b ss k 1 d f (fM g f)) (.c (pE e c A a b ss k 0 d h0 (fM g h0)) .nil))
theorem Vt (e:List Nd) (d:Bool) (A:List (List Nat)) (b:List Sc) (c:Bool) (ss:List Nat) (k:Nat) (f:k<A.length) (hs:∀ j ∈ A.getD k [],j<ss.length) (h:∀ j ∈ A.getD k [],j<e.length) (h0:0<(A.getD k []).length) (a:1<(A.getD k []).length) (g:(qv e A k 1).num.length<2^36/\(qv e A k 1).den.length<2^36):
  az prog ap 99 [.ptr 0 0 0,ω (k:Int)] (wH e d A b c ss) (.ret (ω ((xW e A ss k:Nat):Int))) (wH e d A b c ss):=by
 rcases tf (jK (qv e A k 1).op) with b0|b0
 .rcases tf ((ml (qv e A k 1).neg (qv e A k 1).num (qv e A k 1).den)==((0:Nat):Int)) with b1|b1
  .rw [show xW e A ss k=3 by unfold xW;rw [b0,b1];rfl];exact pK [] 2 1 (.c (aI b1) (.k 3 (ax b0) (.n 1 .nil))) (.c (gF (qv e A k 1).neg (qv e A k 1).num (qv e A k 1).den g.1 g.2) (.c (pE e d A b c ss k 1 f a (fM h a)) .nil))
  .rw [show xW e A ss k=pY (qv e A k 1).neg (eI A ss k 0) by unfold xW;rw [b0,b1];rfl];exact pK [] 2 3 (.k 3 (bu b1) (.k 3 (ax b0) (.n 1 .nil))) (.c (Hc e d A b c ss k 0 (qv e A k 1) f h0 (fM hs h0)) (.c (gF (qv e A k 1).neg (qv e A k 1).num (qv e A k 1).den g.1 g.2) (.c (pE e d A b c ss k 1 f a (fM h a)) .nil)))
 .rw [show xW e A ss k=3 by unfold xW;rw [b0];rfl];exact pK [] 2 0 (.k 1 (aw b0) (.n 1 .nil)) (.c (pE e d A b c ss k 1 f a (fM h a)) .nil)
theorem Vl (e:List Nd) (c:Bool) (A:List (List Nat)) (a:List Sc) (b:Bool) (ss:List Nat) (k:Nat) (d:k<A.length) (hs:∀ j ∈ A.getD k [],j<ss.length) (h:∀ j ∈ A.getD k [],j<e.length) (h0:0<(A.getD k []).length) (f:1<(A.getD k []).length) (g:2<(A.getD k []).length):
  az prog ap 100 [.ptr 0 0 0,ω (k:Int)] (wH e c A a b ss) (.ret (ω ((Cj A ss k:Nat):Int))) (wH e c A a b ss):=by
 rcases tf ((((eI A ss k 0):Nat):Int)==((0:Nat):Int)) with b0|b0
 .rw [show Cj A ss k=cL (eI A ss k 1) (eI A ss k 2) by unfold Cj;rw [b0];rfl];exact pK [] 1 0 (.c (aI b0) .nil) (.c (CK (eI A ss k 1) (eI A ss k 2)) (.c (nW e c A a b ss k 2 d g (fM hs g)) (.c (nW e c A a b ss k 1 d f (fM hs f)) (.c (nW e c A a b ss k 0 d h0 (fM hs h0)) .nil))))
 .rw [show Cj A ss k=3 by unfold Cj;rw [b0];rfl];exact pK [] 1 1 (.c (bu b0) .nil) (.c (nW e c A a b ss k 0 d h0 (fM hs h0)) .nil)
theorem XI (e:List Nd) (c:Bool) (A:List (List Nat)) (a:List Sc) (b:Bool) (ss:List Nat) (k:Nat) (f:k<A.length) (hs:∀ j ∈ A.getD k [],j<ss.length) (g:∀ j ∈ A.getD k [],j<e.length) (h0:0<(A.getD k []).length) (d:1<(A.getD k []).length):
  az prog ap 97 [.ptr 0 0 0,ω (k:Int)] (wH e c A a b ss) (.ret (ω ((cL (eI A ss k 0) (fS (eI A ss k 1)):Nat):Int))) (wH e c A a b ss):=by
 exact pK [] 0 0 .nil (.c (CK (eI A ss k 0) (fS (eI A ss k 1))) (.c (Jh (eI A ss k 1)) (.c (nW e c A a b ss k 1 f d (fM hs d)) (.c (nW e c A a b ss k 0 f h0 (fM hs h0)) .nil))))
abbrev rH (e:List Nd) (ne:Bool) (A:List (List Nat)) (sc:List Sc) (ns:Bool) (ss:List Nat) (k:Nat):List aM:= [⟨[.ptr 2 0 0],0,false,0,0,false⟩,⟨[ω (k:Int)],0,false,0,0,true⟩,⟨[.sl (aO e) e.length ne,.sl (aZ A) A.length true,.sl (iq sc) sc.length ns,.ref 3 0 0 ss.length],0,false,0,0,false⟩,⟨(aA ss),0,false,0,1,true⟩]
def acM (e:List Nd) (ne:Bool) (A:List (List Nat)) (sc:List Sc) (ns:Bool) (ss:List Nat) (k:Nat) (p:Nat × Unit):St:=⟨[(0,.sl (iq sc) sc.length ns),(1,.fn 139 [] [.ptr 0 0 0,.ptr 1 0 0]),(7,ω (sc.length:Int)),(8,ω (p.1:Int))],[(0,⟨[.ptr 2 0 0],0,false,0,0,false⟩),(1,⟨[ω (k:Int)],0,false,0,0,true⟩),(2,⟨[.sl (aO e) e.length ne,.sl (aZ A) A.length true,.sl (iq sc) sc.length ns,.ref 3 0 0 ss.length],0,false,0,0,false⟩),(3,⟨(aA ss),0,false,0,1,true⟩)],.dead,[]⟩
def Zy (e:List Nd) (ne:Bool) (A:List (List Nat)) (sc:List Sc) (ns:Bool) (ss:List Nat) (k:Nat):Option Nat->St
 |none=>(UB (.sl (iq sc) sc.length ns) [.int .i64 (k:Int)] [.sl (aO e) e.length ne,.sl (aZ A) A.length true,.sl (iq sc) sc.length ns,.ref 3 0 0 ss.length] (aA ss))
 |some i=> ⟨[(4,.int .i64 (i:Int))],[(0,⟨[.ptr 2 0 0],0,false,0,0,false⟩),(1,⟨[.int .i64 (k:Int)],0,false,0,0,true⟩),(2,⟨[.sl (aO e) e.length ne,.sl (aZ A) A.length true,.sl (iq sc) sc.length ns,.ref 3 0 0 ss.length],0,false,0,0,false⟩),(3,⟨(aA ss),0,false,0,1,true⟩)],.dead,[]⟩
def ixE:Option Nat->a_
 |none=> .exit 0
 |some _=> .ret
theorem Wl {nt:Nat} (c:19<=nt) (e:List Nd) (b:Bool) (A:List (List Nat)) (a:Bool) (ss:List Nat) (k:Nat):aB prog ap (rH e b A [] a ss k) nt (af 0 (am f138)) ixE (acM e b A [] a ss k) (Zy e b A [] a ss k) (0,()) none:= .done (pN 138 [] 1 0 (.n 1 .nil) (.nil) c)
theorem Zz (e:List Nd) (c:Bool) (A:List (List Nat)) (a:List Sc) (b:Bool) (ss:List Nat) (k:Nat) (d:gk prog ap (rH e c A a b ss k) 19 (.block 0 (.loop (af 0 (am f138)))) ⟨[(0,.sl (iq a) a.length b),(1,.fn 139 [] [.ptr 0 0 0,.ptr 1 0 0]),(4,ω 0),(5,.dead),(7,ω (a.length:Int)),(8,ω 0),(9,.dead),(16,.dead)],[(0,⟨[.ptr 2 0 0],0,false,0,0,false⟩),(1,⟨[ω (k:Int)],0,false,0,0,true⟩),(2,⟨[.sl (aO e) e.length c,.sl (aZ A) A.length true,.sl (iq a) a.length b,.ref 3 0 0 ss.length],0,false,0,0,false⟩),(3,⟨(aA ss),0,false,0,1,true⟩)],.dead,[]⟩ (.normal) (UB (.sl (iq a) a.length b) [ω (k:Int)] [.sl (aO e) e.length c,.sl (aZ A) A.length true,.sl (iq a) a.length b,.ref 3 0 0 ss.length] (aA ss))):
  az prog ap 138 [.sl (iq a) a.length b,(.fn 139 [] [.ptr 0 0 0,.ptr 1 0 0])] (rH e c A a b ss k) (.ret (ω (-1))) (rH e c A a b ss k):=pK [0] 0 0 .nil (.l d .nil)
def EK (ck:Sc->Int) (up:Sc->Bool) (nm:List UInt8) (sc:List Sc) (s:Nat):Nat:=match sc.find? (λx=>x.name==nm) with
 |none=>3
 |some x=>cond (ck x==0) (cond (up x) s 3) 3
theorem WT (e:List Nd) (c:Bool) (A:List (List Nat)) (a:List Sc) (b:Bool) (ss:List Nat) (k:Nat) (d:az prog ap 138 [.sl (iq a) a.length b,(.fn 139 [] [.ptr 0 0 0,.ptr 1 0 0])] (rH e c A a b ss k) (.ret (ω (-1))) (rH e c A a b ss k)):
  az prog ap 101 [.ptr 0 0 0,ω (k:Int)] (wH e c A a b ss) (.ret (ω ((3:Nat):Int))) (wH e c A a b ss):=pK [] 3 7 (.n 5 .nil) (.c d .nil)
theorem Sg (e:List Nd) (b:Bool) (A:List (List Nat)) (c:List Sc) (a:Bool) (ss:List Nat) (ck:Sc->Int) (f:Sc->Bool) (k:Nat) (d:c= []):
  az prog ap 101 [.ptr 0 0 0,ω (k:Int)] (wH e b A c a ss) (.ret (ω ((EK ck f (e.getD k gu).name c (eI A ss k 0):Nat):Int))) (wH e b A c a ss):=by
 subst d;exact WT e b A [] a ss k (Zz e b A [] a ss k (aB.blk (λnt g=>Wl g e b A a ss k) (by simp [ixE]) rfl (aD.of ⟨rfl,rfl,rfl,rfl,trivial⟩) (aD.of ⟨rfl,trivial⟩)))
def dL (e:List Nd) (ne:Bool) (A:List (List Nat)) (sc:List Sc) (ns:Bool) (op:Int) (name:List UInt8) (p:Nat × List Nat):St:=⟨[(0,.sl (aO e) e.length ne),(2,ω op),(3,.str name),(11,.ptr 0 0 0),(12,.mp zcc3_0 [.fn 61 [] [],.fn 61 [] [],.fn 61 [] [],.fn 61 [] [],.fn 61 [] [],.fn 61 [] [],.fn 97 [] [],.fn 98 [] [],.fn 99 [] [],.fn 100 [] [],.fn 101 [] []]),(41,.sl (aO e) e.length ne),(42,ω (e.length:Int)),(43,ω (p.1:Int))],[(0,⟨[.sl (aO e) e.length ne,.sl (aZ A) A.length true,.sl (iq sc) sc.length ns,.ref 1 0 0 p.2.length],0,false,0,0,false⟩),(1,⟨(aA p.2),0,false,0,1,true⟩)],.dead,[]⟩
def OZ (e:List Nd) (ne:Bool) (A:List (List Nat)) (sc:List Sc) (ns:Bool) (ss:List Nat):St:=⟨[(0,.sl (aO e) e.length ne),(11,.ptr 0 0 0)],[(0,⟨[.sl (aO e) e.length ne,.sl (aZ A) A.length true,.sl (iq sc) sc.length ns,.ref 1 0 0 ss.length],0,false,0,0,false⟩),(1,⟨(aA ss),0,false,0,1,true⟩)],.dead,[]⟩
def eL (ck:Sc->Int) (up:Sc->Bool) (e:List Nd) (A:List (List Nat)) (sc:List Sc) (ss:List Nat) (k:Nat) (x:Nd):Nat:=
 if x.op=9\/x.op=13\/x.op=14\/x.op=21\/x.op=22\/x.op=23 then d_ A ss k else if x.op=10 then cL (eI A ss k 0) (fS (eI A ss k 1)) else if x.op=11 then wC e A ss k else if x.op=12 then xW e A ss k else if x.op=15 then Cj A ss k else if x.op=24 then EK ck up x.name sc (eI A ss k 0) else 3
def kX (ck:Sc->Int) (up:Sc->Bool) (e:List Nd) (A:List (List Nat)) (sc:List Sc) (op:Int) (name:List UInt8) (ss:List Nat) (k:Nat) (x:Nd):Nat:=
 cond (x.op==op && x.name==name) 1 (cond (((d_ A ss k:Nat):Int)==((0:Nat):Int)) 0 (eL ck up e A sc ss k x))
theorem uH (e:List Nd) (c:Bool) (A:List (List Nat)) (a:List Sc) (b:Bool) (ss:List Nat):([some ⟨[.sl (aO e) e.length c,.sl (aZ A) A.length true,.sl (iq a) a.length b,.ref 2 0 0 ss.length],0,false,0,0,false⟩,some (sB ss)]:List (Option aM))= [some ⟨[.sl (aO e) e.length c,.sl (aZ A) A.length true,.sl (iq a) a.length b,.ref 2 0 0 ss.length],0,false,0,0,false⟩,some (sB ss)]:=rfl
abbrev yK (o:Int):AV:=Ep true (b_ zcc3_0 [.fn 61 [] [],.fn 61 [] [],.fn 61 [] [],.fn 61 [] [],.fn 61 [] [],.fn 61 [] [],.fn 97 [] [],.fn 98 [] [],.fn 99 [] [],.fn 100 [] [],.fn 101 [] []] (ω o)) .nilF
theorem f_ {ss:List Nat} {k v:Nat} (h:k<ss.length):τ ((0+(δ (k:Int)))*1) (aA ss)++ [ω (v:Int)]++ε (((0+(δ (k:Int)))*1)+1) (aA ss)=aA (ss.set k v):=by
 rw [aF,Ψ,Nat.mul_one];unfold aA;rw [<- List.map_take,<- List.map_drop,List.set_eq_take_append_cons_drop,if_pos h,Xq5,Xqf,Xqe];rfl
theorem Ni {x:Nd} (h:x.op=9\/x.op=13\/x.op=14\/x.op=21\/x.op=22\/x.op=23):yK x.op= .tup [.fn 61 [] [],.bool true]:=by rcases x with ⟨o,b,n,d,a⟩;dsimp only at h ⊢;rcases h with h|h|h|h|h|h<;>subst h<;>rfl
theorem Nn {x:Nd} (h:x.op=10):yK x.op= .tup [.fn 97 [] [],.bool true]:=by rcases x with ⟨o,b,n,d,a⟩;dsimp only at h ⊢;subst h;rfl
theorem Nl {x:Nd} (h:x.op=11):yK x.op= .tup [.fn 98 [] [],.bool true]:=by rcases x with ⟨o,b,n,d,a⟩;dsimp only at h ⊢;subst h;rfl
theorem Nk {x:Nd} (h:x.op=12):yK x.op= .tup [.fn 99 [] [],.bool true]:=by rcases x with ⟨o,b,n,d,a⟩;dsimp only at h ⊢;subst h;rfl
theorem Nj {x:Nd} (h:x.op=15):yK x.op= .tup [.fn 100 [] [],.bool true]:=by rcases x with ⟨o,b,n,d,a⟩;dsimp only at h ⊢;subst h;rfl
theorem Ia {x:Nd} (h:x.op=24):yK x.op= .tup [.fn 101 [] [],.bool true]:=by rcases x with ⟨o,b,n,d,a⟩;dsimp only at h ⊢;subst h;rfl
theorem Nm {x:Nd} (h:¬ ((x.op=9\/x.op=13\/x.op=14\/x.op=21\/x.op=22\/x.op=23)\/(x.op=10)\/(x.op=11)\/(x.op=12)\/(x.op=15)\/(x.op=24))):yK x.op= .tup [.nilF,.bool false]:=by
 rcases x with ⟨o,b,n,d,f⟩
 dsimp only at h ⊢;have a:∀ c:Int,o ≠ c->(o==c)=false:=λc e=>beq_eq_false_iff_ne.2 e
 simp only [yK,b_,oJ];rw [a 9 (by intro q;exact h (by omega)),a 13 (by intro q;exact h (by omega)),a 14 (by intro q;exact h (by omega)),a 21 (by intro q;exact h (by omega)),a 22 (by intro q;exact h (by omega)),a 23 (by intro q;exact h (by omega)),a 10 (by intro q;exact h (by omega)),a 11 (by intro q;exact h (by omega)),a 12 (by intro q;exact h (by omega)),a 15 (by intro q;exact h (by omega)),a 24 (by intro q;exact h (by omega))];rfl
theorem abQ {nt:Nat} (q:111<=nt) (e:List Nd) (f:Bool) (A:List (List Nat)) (g:List Sc) (h:Bool) (ss:List Nat) (c:Int) (a:List UInt8) (k:Nat) (x:Nd) (i:List AV) (u:e.getD k gu=x) (o:(ε ((δ (k:Int))*5) (aO e))=oP x++i) (t:k<e.length) (j:e.length<2^40) (s:A.length=e.length) (v:ss.length=e.length) (d:yK x.op= .tup [.nilF,.bool false]) (r:(x.op==c)=true) (n:(x.name==a)=true):ψ nt f28 (dL e f A g h c a (k,ss)) .normal (dL e f A g h c a (k+1,ss.set k 1)):=by
 have b:k<ss.length:=by omega
 have m:k<2^62:=by omega
 have h0:(decide ((k:Int)<(e.length:Int)))=true:=Yq0 (by omega);have p:Xqr (((0+(δ (k:Int)))*1)+1) (θ (aA ss))=true:=by rw [Xjk,aF];simp [aA];omega
 unfold dL;dsimp only;rw [Xxl,<- f_ b];exact pN 28 [] 3 7 (.c p (.c (jc k) (.c (ql b) (.k 1 (ax n) (.k 1 (ax r) (.k 10 (jc k) (.c h0 (.c (ax h0) .nil)))))))) (.v 101 (.eq (sC m)) (.v 52 (.eq d) (.v 46 (.ppt o) .nil))) q
theorem abS {nt:Nat} (r:111<=nt) (e:List Nd) (c:Bool) (A:List (List Nat)) (d:List Sc) (f:Bool) (ss:List Nat) (g:Int) (a:List UInt8) (k:Nat) (x:Nd) (i:List AV) (v:e.getD k gu=x) (p:(ε ((δ (k:Int))*5) (aO e))=oP x++i) (u:k<e.length) (j:e.length<2^40) (t:A.length=e.length) (w:ss.length=e.length) (h:yK x.op= .tup [.nilF,.bool false]) (s:(x.op==g)=true) (o:(x.name==a)=false) (n:((((d_ A ss k):Nat):Int)==((0:Nat):Int))=true) (call_:az prog ap 61 [.ptr 0 0 0,ω (k:Int)] (wH e c A d f ss) (.ret (ω ((d_ A ss k:Nat):Int))) (wH e c A d f ss)):ψ nt f28 (dL e c A d f g a (k,ss)) .normal (dL e c A d f g a (k+1,ss.set k 0)):=by
 have b:k<ss.length:=by omega
 have m:k<2^62:=by omega
 have h0:(decide ((k:Int)<(e.length:Int)))=true:=Yq0 (by omega);have q:Xqr (((0+(δ (k:Int)))*1)+1) (θ (aA ss))=true:=by rw [Xjk,aF];simp [aA];omega
 unfold dL;dsimp only;rw [Xxl,<- f_ b];exact pN 28 [] 4 11 (.c q (.c (jc k) (.c (ql b) (.k 1 (ax n) (.c (aw o) (.k 1 (ax s) (.k 10 (jc k) (.c h0 (.c (ax h0) .nil))))))))) (.v 101 (.eq (sC m)) (.c call_ (.v 52 (.eq h) (.v 46 (.ppt p) .nil)))) r
theorem abU {nt:Nat} (q:111<=nt) (e:List Nd) (c:Bool) (A:List (List Nat)) (d:List Sc) (f:Bool) (ss:List Nat) (g:Int) (a:List UInt8) (k:Nat) (x:Nd) (i:List AV) (u:e.getD k gu=x) (o:(ε ((δ (k:Int))*5) (aO e))=oP x++i) (t:k<e.length) (j:e.length<2^40) (s:A.length=e.length) (v:ss.length=e.length) (h:yK x.op= .tup [.nilF,.bool false]) (r:(x.op==g)=false) (n:((((d_ A ss k):Nat):Int)==((0:Nat):Int))=true) (call_:az prog ap 61 [.ptr 0 0 0,ω (k:Int)] (wH e c A d f ss) (.ret (ω ((d_ A ss k:Nat):Int))) (wH e c A d f ss)):ψ nt f28 (dL e c A d f g a (k,ss)) .normal (dL e c A d f g a (k+1,ss.set k 0)):=by
 have b:k<ss.length:=by omega
 have m:k<2^62:=by omega
 have h0:(decide ((k:Int)<(e.length:Int)))=true:=Yq0 (by omega);have p:Xqr (((0+(δ (k:Int)))*1)+1) (θ (aA ss))=true:=by rw [Xjk,aF];simp [aA];omega
 unfold dL;dsimp only;rw [Xxl,<- f_ b];exact pN 28 [] 4 9 (.c p (.c (jc k) (.c (ql b) (.k 1 (ax n) (.k 1 (aw r) (.k 10 (jc k) (.c h0 (.c (ax h0) .nil)))))))) (.v 101 (.eq (sC m)) (.c call_ (.v 52 (.eq h) (.v 46 (.ppt o) .nil)))) q
theorem abP {nt:Nat} (r:111<=nt) (e:List Nd) (g:Bool) (A:List (List Nat)) (h:List Sc) (i:Bool) (ss:List Nat) (c:Int) (a:List UInt8) (k:Nat) (x:Nd) (j:List AV) (v:e.getD k gu=x) (p:(ε ((δ (k:Int))*5) (aO e))=oP x++j) (u:k<e.length) (m:e.length<2^40) (t:A.length=e.length) (w:ss.length=e.length) (f:Nat) (d:yK x.op= .tup [.fn f [] [],.bool true]) (s:(x.op==c)=true) (o:(x.name==a)=true):ψ nt f28 (dL e g A h i c a (k,ss)) .normal (dL e g A h i c a (k+1,ss.set k 1)):=by
 have b:k<ss.length:=by omega
 have n:k<2^62:=by omega
 have h0:(decide ((k:Int)<(e.length:Int)))=true:=Yq0 (by omega);have q:Xqr (((0+(δ (k:Int)))*1)+1) (θ (aA ss))=true:=by rw [Xjk,aF];simp [aA];omega
 unfold dL;dsimp only;rw [Xxl,<- f_ b];exact pN 28 [] 3 7 (.c q (.c (jc k) (.c (ql b) (.k 1 (ax o) (.k 1 (ax s) (.k 10 (jc k) (.c h0 (.c (ax h0) .nil)))))))) (.v 101 (.eq (sC n)) (.v 52 (.eq d) (.v 46 (.ppt p) .nil))) r
theorem abR {nt:Nat} (s:111<=nt) (e:List Nd) (c:Bool) (A:List (List Nat)) (d:List Sc) (g:Bool) (ss:List Nat) (h:Int) (a:List UInt8) (k:Nat) (x:Nd) (j:List AV) (w:e.getD k gu=x) (q:(ε ((δ (k:Int))*5) (aO e))=oP x++j) (v:k<e.length) (m:e.length<2^40) (u:A.length=e.length) (y:ss.length=e.length) (f:Nat) (i:yK x.op= .tup [.fn f [] [],.bool true]) (t:(x.op==h)=true) (p:(x.name==a)=false) (o:((((d_ A ss k):Nat):Int)==((0:Nat):Int))=true) (call_:az prog ap 61 [.ptr 0 0 0,ω (k:Int)] (wH e c A d g ss) (.ret (ω ((d_ A ss k:Nat):Int))) (wH e c A d g ss)):ψ nt f28 (dL e c A d g h a (k,ss)) .normal (dL e c A d g h a (k+1,ss.set k 0)):=by
 have b:k<ss.length:=by omega
 have n:k<2^62:=by omega
 have h0:(decide ((k:Int)<(e.length:Int)))=true:=Yq0 (by omega);have r:Xqr (((0+(δ (k:Int)))*1)+1) (θ (aA ss))=true:=by rw [Xjk,aF];simp [aA];omega
 unfold dL;dsimp only;rw [Xxl,<- f_ b];exact pN 28 [] 4 11 (.c r (.c (jc k) (.c (ql b) (.k 1 (ax o) (.c (aw p) (.k 1 (ax t) (.k 10 (jc k) (.c h0 (.c (ax h0) .nil))))))))) (.v 101 (.eq (sC n)) (.c call_ (.v 52 (.eq i) (.v 46 (.ppt q) .nil)))) s
theorem abT {nt:Nat} (r:111<=nt) (e:List Nd) (c:Bool) (A:List (List Nat)) (d:List Sc) (g:Bool) (ss:List Nat) (h:Int) (a:List UInt8) (k:Nat) (x:Nd) (j:List AV) (v:e.getD k gu=x) (p:(ε ((δ (k:Int))*5) (aO e))=oP x++j) (u:k<e.length) (m:e.length<2^40) (t:A.length=e.length) (w:ss.length=e.length) (f:Nat) (i:yK x.op= .tup [.fn f [] [],.bool true]) (s:(x.op==h)=false) (o:((((d_ A ss k):Nat):Int)==((0:Nat):Int))=true) (call_:az prog ap 61 [.ptr 0 0 0,ω (k:Int)] (wH e c A d g ss) (.ret (ω ((d_ A ss k:Nat):Int))) (wH e c A d g ss)):ψ nt f28 (dL e c A d g h a (k,ss)) .normal (dL e c A d g h a (k+1,ss.set k 0)):=by
 have b:k<ss.length:=by omega
 have n:k<2^62:=by omega
 have h0:(decide ((k:Int)<(e.length:Int)))=true:=Yq0 (by omega);have q:Xqr (((0+(δ (k:Int)))*1)+1) (θ (aA ss))=true:=by rw [Xjk,aF];simp [aA];omega
 unfold dL;dsimp only;rw [Xxl,<- f_ b];exact pN 28 [] 4 9 (.c q (.c (jc k) (.c (ql b) (.k 1 (ax o) (.k 1 (aw s) (.k 10 (jc k) (.c h0 (.c (ax h0) .nil)))))))) (.v 101 (.eq (sC n)) (.c call_ (.v 52 (.eq i) (.v 46 (.ppt p) .nil)))) r
theorem Xx {nt:Nat} (p:111<=nt) (e:List Nd) (d:Bool) (A:List (List Nat)) (f:List Sc) (i:Bool) (ss:List Nat) (g:Int) (a:List UInt8) (k:Nat) (x:Nd) (q:List AV) (v:e.getD k gu=x) (n:(ε ((δ (k:Int))*5) (aO e))=oP x++q) (u:k<e.length) (r:e.length<2^40) (t:A.length=e.length) (w:ss.length=e.length) (c:yK x.op= .tup [.nilF,.bool false]) (hit:(x.op==g)=false\/(x.name==a)=false) (m:((((d_ A ss k):Nat):Int)==((0:Nat):Int))=false) (call_:az prog ap 61 [.ptr 0 0 0,ω (k:Int)] (wH e d A f i ss) (.ret (ω ((d_ A ss k:Nat):Int))) (wH e d A f i ss)):ψ nt f28 (dL e d A f i g a (k,ss)) .normal (dL e d A f i g a (k+1,ss.set k (3))):=by
 have b:k<ss.length:=by omega
 have j:k<2^62:=by omega
 have h0:(decide ((k:Int)<(e.length:Int)))=true:=Yq0 (by omega);have o:Xqr (((0+(δ (k:Int)))*1)+1) (θ (aA ss))=true:=by rw [Xjk,aF];simp [aA];omega
 unfold dL;dsimp only;rw [Xxl,<- f_ b];rcases tf (x.op==g) with b1|b1
 .have s:(x.name==a)=false:=by rcases hit with h|h;rw [h] at b1;cases b1;exact h
  exact pN 28 [] 5 3 (.c o (.c (jc k) (.c (ql b) (.k 2 (aw m) (.c (aw s) (.k 1 (ax b1) (.k 10 (jc k) (.c h0 (.c (ax h0) .nil))))))))) (.v 101 (.eq (sC j)) (.c call_ (.v 52 (.eq c) (.v 46 (.ppt n) .nil)))) p
 .exact pN 28 [] 5 1 (.c o (.c (jc k) (.c (ql b) (.k 2 (aw m) (.k 1 (aw b1) (.k 10 (jc k) (.c h0 (.c (ax h0) .nil)))))))) (.v 101 (.eq (sC j)) (.c call_ (.v 52 (.eq c) (.v 46 (.ppt n) .nil)))) p
theorem Xs {nt:Nat} (p:111<=nt) (e:List Nd) (c:Bool) (A:List (List Nat)) (d:List Sc) (f:Bool) (ss:List Nat) (i:Int) (a:List UInt8) (k:Nat) (x:Nd) (q:List AV) (v:e.getD k gu=x) (n:(ε ((δ (k:Int))*5) (aO e))=oP x++q) (u:k<e.length) (r:e.length<2^40) (t:A.length=e.length) (w:ss.length=e.length) (g:yK x.op= .tup [.fn 61 [] [],.bool true]) (hit:(x.op==i)=false\/(x.name==a)=false) (m:((((d_ A ss k):Nat):Int)==((0:Nat):Int))=false) (call_:az prog ap 61 [.ptr 0 0 0,ω (k:Int)] (wH e c A d f ss) (.ret (ω ((d_ A ss k:Nat):Int))) (wH e c A d f ss)):ψ nt f28 (dL e c A d f i a (k,ss)) .normal (dL e c A d f i a (k+1,ss.set k (d_ A ss k))):=by
 have b:k<ss.length:=by omega
 have j:k<2^62:=by omega
 have h0:(decide ((k:Int)<(e.length:Int)))=true:=Yq0 (by omega);have o:Xqr (((0+(δ (k:Int)))*1)+1) (θ (aA ss))=true:=by rw [Xjk,aF];simp [aA];omega
 unfold dL;dsimp only;rw [Xxl,<- f_ b];rcases tf (x.op==i) with b1|b1
 .have s:(x.name==a)=false:=by rcases hit with h|h;rw [h] at b1;cases b1;exact h
  exact pN 28 [] 5 19 (.c o (.c (jc k) (.c (ql b) (.k 2 (aw m) (.c (aw s) (.k 1 (ax b1) (.k 10 (jc k) (.c h0 (.c (ax h0) .nil))))))))) (.v 101 (.eq (sC j)) (.u 99 (uH e c A d f ss) (.c call_ (.c call_ (.v 52 (.eq g) (.v 46 (.ppt n) .nil)))))) p
 .exact pN 28 [] 5 17 (.c o (.c (jc k) (.c (ql b) (.k 2 (aw m) (.k 1 (aw b1) (.k 10 (jc k) (.c h0 (.c (ax h0) .nil)))))))) (.v 101 (.eq (sC j)) (.u 99 (uH e c A d f ss) (.c call_ (.c call_ (.v 52 (.eq g) (.v 46 (.ppt n) .nil)))))) p
theorem Xy {nt:Nat} (p:111<=nt) (e:List Nd) (b:Bool) (A:List (List Nat)) (c:List Sc) (d:Bool) (ss:List Nat) (i:Int) (a:List UInt8) (k:Nat) (x:Nd) (q:List AV) (v:e.getD k gu=x) (n:(ε ((δ (k:Int))*5) (aO e))=oP x++q) (u:k<e.length) (r:e.length<2^40) (t:A.length=e.length) (w:ss.length=e.length) (g:yK x.op= .tup [.fn 97 [] [],.bool true]) (hit:(x.op==i)=false\/(x.name==a)=false) (m:((((d_ A ss k):Nat):Int)==((0:Nat):Int))=false) (call_:az prog ap 61 [.ptr 0 0 0,ω (k:Int)] (wH e b A c d ss) (.ret (ω ((d_ A ss k:Nat):Int))) (wH e b A c d ss)) (crule:az prog ap 97 [.ptr 0 0 0,ω (k:Int)] (wH e b A c d ss) (.ret (ω (((cL (eI A ss k 0) (fS (eI A ss k 1))):Nat):Int))) (wH e b A c d ss)):ψ nt f28 (dL e b A c d i a (k,ss)) .normal (dL e b A c d i a (k+1,ss.set k (cL (eI A ss k 0) (fS (eI A ss k 1))))):=by
 have f:k<ss.length:=by omega
 have j:k<2^62:=by omega
 have h0:(decide ((k:Int)<(e.length:Int)))=true:=Yq0 (by omega);have o:Xqr (((0+(δ (k:Int)))*1)+1) (θ (aA ss))=true:=by rw [Xjk,aF];simp [aA];omega
 unfold dL;dsimp only;rw [Xxl,<- f_ f];rcases tf (x.op==i) with b1|b1
 .have s:(x.name==a)=false:=by rcases hit with h|h;rw [h] at b1;cases b1;exact h
  exact pN 28 [] 5 19 (.c o (.c (jc k) (.c (ql f) (.k 2 (aw m) (.c (aw s) (.k 1 (ax b1) (.k 10 (jc k) (.c h0 (.c (ax h0) .nil))))))))) (.v 101 (.eq (sC j)) (.u 99 (uH e b A c d ss) (.c crule (.c call_ (.v 52 (.eq g) (.v 46 (.ppt n) .nil)))))) p
 .exact pN 28 [] 5 17 (.c o (.c (jc k) (.c (ql f) (.k 2 (aw m) (.k 1 (aw b1) (.k 10 (jc k) (.c h0 (.c (ax h0) .nil)))))))) (.v 101 (.eq (sC j)) (.u 99 (uH e b A c d ss) (.c crule (.c call_ (.v 52 (.eq g) (.v 46 (.ppt n) .nil)))))) p
theorem Xw {nt:Nat} (p:111<=nt) (e:List Nd) (b:Bool) (A:List (List Nat)) (c:List Sc) (d:Bool) (ss:List Nat) (i:Int) (a:List UInt8) (k:Nat) (x:Nd) (q:List AV) (v:e.getD k gu=x) (n:(ε ((δ (k:Int))*5) (aO e))=oP x++q) (u:k<e.length) (r:e.length<2^40) (t:A.length=e.length) (w:ss.length=e.length) (g:yK x.op= .tup [.fn 98 [] [],.bool true]) (hit:(x.op==i)=false\/(x.name==a)=false) (m:((((d_ A ss k):Nat):Int)==((0:Nat):Int))=false) (call_:az prog ap 61 [.ptr 0 0 0,ω (k:Int)] (wH e b A c d ss) (.ret (ω ((d_ A ss k:Nat):Int))) (wH e b A c d ss)) (crule:az prog ap 98 [.ptr 0 0 0,ω (k:Int)] (wH e b A c d ss) (.ret (ω (((wC e A ss k):Nat):Int))) (wH e b A c d ss)):ψ nt f28 (dL e b A c d i a (k,ss)) .normal (dL e b A c d i a (k+1,ss.set k (wC e A ss k))):=by
 have f:k<ss.length:=by omega
 have j:k<2^62:=by omega
 have h0:(decide ((k:Int)<(e.length:Int)))=true:=Yq0 (by omega);have o:Xqr (((0+(δ (k:Int)))*1)+1) (θ (aA ss))=true:=by rw [Xjk,aF];simp [aA];omega
 unfold dL;dsimp only;rw [Xxl,<- f_ f];rcases tf (x.op==i) with b1|b1
 .have s:(x.name==a)=false:=by rcases hit with h|h;rw [h] at b1;cases b1;exact h
  exact pN 28 [] 5 19 (.c o (.c (jc k) (.c (ql f) (.k 2 (aw m) (.c (aw s) (.k 1 (ax b1) (.k 10 (jc k) (.c h0 (.c (ax h0) .nil))))))))) (.v 101 (.eq (sC j)) (.u 99 (uH e b A c d ss) (.c crule (.c call_ (.v 52 (.eq g) (.v 46 (.ppt n) .nil)))))) p
 .exact pN 28 [] 5 17 (.c o (.c (jc k) (.c (ql f) (.k 2 (aw m) (.k 1 (aw b1) (.k 10 (jc k) (.c h0 (.c (ax h0) .nil)))))))) (.v 101 (.eq (sC j)) (.u 99 (uH e b A c d ss) (.c crule (.c call_ (.v 52 (.eq g) (.v 46 (.ppt n) .nil)))))) p
theorem Xu {nt:Nat} (p:111<=nt) (e:List Nd) (b:Bool) (A:List (List Nat)) (c:List Sc) (d:Bool) (ss:List Nat) (i:Int) (a:List UInt8) (k:Nat) (x:Nd) (q:List AV) (v:e.getD k gu=x) (n:(ε ((δ (k:Int))*5) (aO e))=oP x++q) (u:k<e.length) (r:e.length<2^40) (t:A.length=e.length) (w:ss.length=e.length) (g:yK x.op= .tup [.fn 99 [] [],.bool true]) (hit:(x.op==i)=false\/(x.name==a)=false) (m:((((d_ A ss k):Nat):Int)==((0:Nat):Int))=false) (call_:az prog ap 61 [.ptr 0 0 0,ω (k:Int)] (wH e b A c d ss) (.ret (ω ((d_ A ss k:Nat):Int))) (wH e b A c d ss)) (crule:az prog ap 99 [.ptr 0 0 0,ω (k:Int)] (wH e b A c d ss) (.ret (ω (((xW e A ss k):Nat):Int))) (wH e b A c d ss)):ψ nt f28 (dL e b A c d i a (k,ss)) .normal (dL e b A c d i a (k+1,ss.set k (xW e A ss k))):=by
 have f:k<ss.length:=by omega
 have j:k<2^62:=by omega
 have h0:(decide ((k:Int)<(e.length:Int)))=true:=Yq0 (by omega);have o:Xqr (((0+(δ (k:Int)))*1)+1) (θ (aA ss))=true:=by rw [Xjk,aF];simp [aA];omega
 unfold dL;dsimp only;rw [Xxl,<- f_ f];rcases tf (x.op==i) with b1|b1
 .have s:(x.name==a)=false:=by rcases hit with h|h;rw [h] at b1;cases b1;exact h
  exact pN 28 [] 5 19 (.c o (.c (jc k) (.c (ql f) (.k 2 (aw m) (.c (aw s) (.k 1 (ax b1) (.k 10 (jc k) (.c h0 (.c (ax h0) .nil))))))))) (.v 101 (.eq (sC j)) (.u 99 (uH e b A c d ss) (.c crule (.c call_ (.v 52 (.eq g) (.v 46 (.ppt n) .nil)))))) p
 .exact pN 28 [] 5 17 (.c o (.c (jc k) (.c (ql f) (.k 2 (aw m) (.k 1 (aw b1) (.k 10 (jc k) (.c h0 (.c (ax h0) .nil)))))))) (.v 101 (.eq (sC j)) (.u 99 (uH e b A c d ss) (.c crule (.c call_ (.v 52 (.eq g) (.v 46 (.ppt n) .nil)))))) p
theorem Xt {nt:Nat} (p:111<=nt) (e:List Nd) (b:Bool) (A:List (List Nat)) (c:List Sc) (d:Bool) (ss:List Nat) (i:Int) (a:List UInt8) (k:Nat) (x:Nd) (q:List AV) (v:e.getD k gu=x) (n:(ε ((δ (k:Int))*5) (aO e))=oP x++q) (u:k<e.length) (r:e.length<2^40) (t:A.length=e.length) (w:ss.length=e.length) (g:yK x.op= .tup [.fn 100 [] [],.bool true]) (hit:(x.op==i)=false\/(x.name==a)=false) (m:((((d_ A ss k):Nat):Int)==((0:Nat):Int))=false) (call_:az prog ap 61 [.ptr 0 0 0,ω (k:Int)] (wH e b A c d ss) (.ret (ω ((d_ A ss k:Nat):Int))) (wH e b A c d ss)) (crule:az prog ap 100 [.ptr 0 0 0,ω (k:Int)] (wH e b A c d ss) (.ret (ω (((Cj A ss k):Nat):Int))) (wH e b A c d ss)):ψ nt f28 (dL e b A c d i a (k,ss)) .normal (dL e b A c d i a (k+1,ss.set k (Cj A ss k))):=by
 have f:k<ss.length:=by omega
 have j:k<2^62:=by omega
 have h0:(decide ((k:Int)<(e.length:Int)))=true:=Yq0 (by omega);have o:Xqr (((0+(δ (k:Int)))*1)+1) (θ (aA ss))=true:=by rw [Xjk,aF];simp [aA];omega
 unfold dL;dsimp only;rw [Xxl,<- f_ f];rcases tf (x.op==i) with b1|b1
 .have s:(x.name==a)=false:=by rcases hit with h|h;rw [h] at b1;cases b1;exact h
  exact pN 28 [] 5 19 (.c o (.c (jc k) (.c (ql f) (.k 2 (aw m) (.c (aw s) (.k 1 (ax b1) (.k 10 (jc k) (.c h0 (.c (ax h0) .nil))))))))) (.v 101 (.eq (sC j)) (.u 99 (uH e b A c d ss) (.c crule (.c call_ (.v 52 (.eq g) (.v 46 (.ppt n) .nil)))))) p
 .exact pN 28 [] 5 17 (.c o (.c (jc k) (.c (ql f) (.k 2 (aw m) (.k 1 (aw b1) (.k 10 (jc k) (.c h0 (.c (ax h0) .nil)))))))) (.v 101 (.eq (sC j)) (.u 99 (uH e b A c d ss) (.c crule (.c call_ (.v 52 (.eq g) (.v 46 (.ppt n) .nil)))))) p
theorem SQ {nt:Nat} (q:111<=nt) (e:List Nd) (c:Bool) (A:List (List Nat)) (b:List Sc) (d:Bool) (ss:List Nat) (i:Int) (a:List UInt8) (k:Nat) (x:Nd) (r:List AV) (w:e.getD k gu=x) (o:(ε ((δ (k:Int))*5) (aO e))=oP x++r) (v:k<e.length) (s:e.length<2^40) (u:A.length=e.length) (y:ss.length=e.length) (ck:Sc->Int) (j:Sc->Bool) (g:yK x.op= .tup [.fn 101 [] [],.bool true]) (hit:(x.op==i)=false\/(x.name==a)=false) (n:((((d_ A ss k):Nat):Int)==((0:Nat):Int))=false) (call_:az prog ap 61 [.ptr 0 0 0,ω (k:Int)] (wH e c A b d ss) (.ret (ω ((d_ A ss k:Nat):Int))) (wH e c A b d ss)) (crule:az prog ap 101 [.ptr 0 0 0,ω (k:Int)] (wH e c A b d ss) (.ret (ω (((EK ck j x.name b (eI A ss k 0)):Nat):Int))) (wH e c A b d ss)):ψ nt f28 (dL e c A b d i a (k,ss)) .normal (dL e c A b d i a (k+1,ss.set k (EK ck j x.name b (eI A ss k 0)))):=by
 have f:k<ss.length:=by omega
 have m:k<2^62:=by omega
 have h0:(decide ((k:Int)<(e.length:Int)))=true:=Yq0 (by omega);have p:Xqr (((0+(δ (k:Int)))*1)+1) (θ (aA ss))=true:=by rw [Xjk,aF];simp [aA];omega
 unfold dL;dsimp only;rw [Xxl,<- f_ f];rcases tf (x.op==i) with b1|b1
 .have t:(x.name==a)=false:=by rcases hit with h|h;rw [h] at b1;cases b1;exact h
  exact pN 28 [] 5 19 (.c p (.c (jc k) (.c (ql f) (.k 2 (aw n) (.c (aw t) (.k 1 (ax b1) (.k 10 (jc k) (.c h0 (.c (ax h0) .nil))))))))) (.v 101 (.eq (sC m)) (.u 99 (uH e c A b d ss) (.c crule (.c call_ (.v 52 (.eq g) (.v 46 (.ppt o) .nil)))))) q
 .exact pN 28 [] 5 17 (.c p (.c (jc k) (.c (ql f) (.k 2 (aw n) (.k 1 (aw b1) (.k 10 (jc k) (.c h0 (.c (ax h0) .nil)))))))) (.v 101 (.eq (sC m)) (.u 99 (uH e c A b d ss) (.c crule (.c call_ (.v 52 (.eq g) (.v 46 (.ppt o) .nil)))))) q
theorem Xv {nt:Nat} (f:111<=nt) (e:List Nd) (d:Bool) (A:List (List Nat)) (b:List Sc) (c:Bool) (ss:List Nat) (g:Int) (a:List UInt8):ψ nt f28 (dL e d A b c g a (e.length,ss)) (.exit 0) (OZ e d A b c ss):=by
 have h0:(decide ((e.length:Int)<(e.length:Int)))=false:=Yq1 (by omega);exact pN 28 [] 1 0 (.c (aw h0) .nil) (.nil) f
theorem AK:∀ (r:List Nd) (k:Nat) (a:List Nat),(∀ j ∈ a,j<k)->(∃ e,jQ r a.length= .inl e)->(uq r k a).length=r.length/\∀ i x,r[i]? =some x->((uq r k a).getD i []).length=gb x.op/\∀ j ∈ (uq r k a).getD i [],j<k+i
 | [],k,a,_,_=> ⟨rfl,λi x h=>by simp at h⟩
 | x ::r,k,a,hst,⟨e,he⟩=>by
  simp only [jQ] at he;split at he
  .split at he
   .cases he
   .rename_i m n;have g:(a.take (a.length - gb x.op)++ [k]).length=a.length - gb x.op+1:=by rw [ξ,Xq7,Δ];omega
    have d:=AK r (k+1) (a.take (a.length - gb x.op)++ [k]) (by
     intro j b;rcases List.mem_append.1 b with b|b
     .have:=hst j (List.mem_of_mem_take b);omega
     .rw [List.mem_singleton.1 b];omega) ⟨e,by rw [g];exact he⟩
    refine ⟨by simp only [uq,ο,d.1], ?_⟩;intro i y c;cases i with
    |zero=>
     simp only [Xxf,Option.some.injEq] at c;subst c;simp only [uq,List.getD_cons_zero];refine ⟨by rw [List.length_drop];omega,λj b=> ?_⟩;have:=hst j (List.mem_of_mem_drop b);omega
    |succ i=>
     simp only [List.getElem?_cons_succ] at c;obtain ⟨f,h5⟩:=d.2 i y c;simp only [uq,List.getD_cons_succ];exact ⟨f,λj b=>by have:=h5 j b;omega⟩
  .cases he
theorem Ch:∀ (r:List Nd) (d:Nat) (w:Int),jQ r d= .inr w->w ≠ 0
 | [],d,w,h=>by simp [jQ] at h
 | x::r,d,w,h=>by
  simp only [jQ] at h;split at h
  .split at h
   .cases h;decide
   .exact Ch r _ w h
  .rename_i a;cases h;exact a
theorem kC {e:List Nd} (a:bO e=0):(bt e).length=e.length/\∀ i x,e[i]? =some x->((bt e).getD i []).length=gb x.op/\∀ j ∈ (bt e).getD i [],j<i:=by
 have h:∃ d,jQ e ([]:List Nat).length= .inl d:=by
  unfold bO at a;split at a
  .cases a
  .split at a
   .rename_i d hd;exact ⟨d,hd⟩
   .rename_i w f;exact absurd a (Ch _ _ _ f)
 obtain ⟨b,c⟩:=AK e 0 [] (by simp) h;exact ⟨b,λi x g=>by have:=c i x g;rw [Ψ] at this;exact this⟩
theorem wkn {n a:Nat} (h:n=a+1) (b:n<2^40):ω (γ .i64 ((n:Int) - ((1:Nat):Int)))= ω (a:Int):=by rw [cf]<;>first|(congr 1;omega)|omega
theorem deq (n:Nat):decide ((n:Int)=(n:Int))=true:=Yq0 rfl
theorem dle {n:Nat} (h:n<2^40):decide ((n:Int)<=((1099511627776:Nat):Int))=true:=Yq0 (by omega)
theorem OK:CO 60 [] (.ret (.mp zcc3_0 [.fn 61 [] [],.fn 61 [] [],.fn 61 [] [],.fn 61 [] [],.fn 61 [] [],.fn 61 [] [],.fn 97 [] [],.fn 98 [] [],.fn 99 [] [],.fn 100 [] [],.fn 101 [] []])):=cK .nil
theorem xJ (l:List Nd) (b:Bool) (a:∀ x ∈ l,x.sm) (c:bO l=0):CO 59 [.sl (aO l) l.length b] (.ret (.tup [.sl (aZ (bt l)) (bt l).length true,.bool true])):=by
 rw [(kC c).1];exact P7 l b a c
theorem abV (e:List Nd) (c:Bool) (A:List (List Nat)) (b:List Sc) (d:Bool) (ss:List Nat) (f:Int) (a:List UInt8) (g:CO 59 (VaO e c) (.ret (.tup [.nilS,.bool false]))):CO 28 [.sl (aO e) e.length c,.sl (iq b) b.length d,ω f,.str a] (.ret (ω ((3:Nat):Int))):=pK [] 3 7 (.n 3 .nil) (.c g .nil)
theorem Xz (e:List Nd) (d:Bool) (A:List (List Nat)) (c:List Sc) (g:Bool) (ss:List Nat) (b:Int) (a:List UInt8) (f:CO 59 [.sl (aO e) e.length d] (.ret (.tup [.sl (aZ A) A.length true,.bool true]))) (i:b<5\/8<b):CO 28 [.sl (aO e) e.length d,.sl (iq c) c.length g,ω b,.str a] (.ret (ω ((3:Nat):Int))):=by
 rcases tf (decide (b<((5:Nat):Int))) with b0|b0
 .exact pK [] 3 6 (.k 1 (ax b0) (.n 1 .nil)) (.c f .nil)
 .have h:(decide (((8:Nat):Int)<b))=true:=Yq0 (by have:=of_decide_eq_false b0;omega);exact pK [] 3 4 (.c (ax h) (.c (aw b0) (.n 1 .nil))) (.c f .nil)
theorem abW (e:List Nd) (c:Bool) (A:List (List Nat)) (b:List Sc) (g:Bool) (ss:List Nat) (f:Int) (a:List UInt8) (h s:Nat) (k:List AV) (o:CO 59 [.sl (aO e) e.length c] (.ret (.tup [.sl (aZ A) A.length true,.bool true]))) (m:(decide (f<((5:Nat):Int)))=false) (n:(decide (((8:Nat):Int)<f))=false) (j:e.length=h+1) (d:e.length<2^40) (i:h<ss.length) (hs:(ε ((0+(δ (h:Int)))*1) (aA ss))= [ω (s:Int)]++k)
  (m0:Nat) (Z:List AV) (hm0:m0=δ (e.length:Int)) (hZ:Z=dA (δ (e.length:Int)) [ω 0])
  (l0:LB 111 0 f28 ⟨[(0,.sl (aO e) e.length c),(1,.sl (iq b) b.length g),(2,ω f),(3,.str a),(8,ω 0),(9,.sl (aZ A) A.length true),(10,.bool true),(11,.ptr 0 0 0),(12,.mp zcc3_0 [.fn 61 [] [],.fn 61 [] [],.fn 61 [] [],.fn 61 [] [],.fn 61 [] [],.fn 61 [] [],.fn 97 [] [],.fn 98 [] [],.fn 99 [] [],.fn 100 [] [],.fn 101 [] []]),(13,.dead),(14,.dead),(15,.dead),(16,.dead),(31,.bool (decide (((8:Nat):Int)<f))),(41,.sl (aO e) e.length c),(42,ω (e.length:Int)),(43,ω 0),(44,.dead),(61,.dead),(78,.dead),(89,.dead)],[(0,⟨[.sl (aO e) e.length c,.sl (aZ A) A.length true,.sl (iq b) b.length g,.ref 1 0 0 m0],0,false,0,0,false⟩),(1,⟨Z,0,false,0,1,true⟩)],.dead,[]⟩ (.normal) ⟨[(0,.sl (aO e) e.length c),(11,.ptr 0 0 0)],[(0,⟨[.sl (aO e) e.length c,.sl (aZ A) A.length true,.sl (iq b) b.length g,.ref 1 0 0 ss.length],0,false,0,0,false⟩),(1,⟨(aA ss),0,false,0,1,true⟩)],.dead,[]⟩):CO 28 [.sl (aO e) e.length c,.sl (iq b) b.length g,ω f,.str a] (.ret (ω (s:Int))):=by
 subst hm0 hZ;exact pK [0] 3 0 (.a (nL [.int .i64] hs rfl) (.c (jc h) (.c (ql i) (.k 1 (jc e.length) (.c (deq e.length) (.c (dle d) (.c (aw n) (.c (aw m) (.n 1 .nil))))))))) (.v 110 (.rd1 (.int .i64) hs rfl) (.v 108 (.eq (wkn j d)) (.l l0 (.c OK (.c o .nil)))))
def ry (ck:Sc->Int) (up:Sc->Bool) (e:List Nd) (A:List (List Nat)) (sc:List Sc) (op:Int) (name:List UInt8):List Nd->Nat->List Nat->List Nat
 | [],_,ss=>ss
 |x::r,k,ss=>ry ck up e A sc op name r (k+1) (ss.set k (kX ck up e A sc op name ss k x))
theorem BF (ck:Sc->Int) (c:Sc->Bool) (e:List Nd) (A:List (List Nat)) (b:List Sc) (d:Int) (a:List UInt8):∀ (r:List Nd) (k:Nat) (ss:List Nat),(ry ck c e A b d a r k ss).length=ss.length
 | [],_,_=>rfl
 |x::r,k,ss=>by simp only [ry,BF ck c e A b d a r,Xxl]
def dF (ck:Sc->Int) (up:Sc->Bool) (e:List Nd) (sc:List Sc) (op:Int) (name:List UInt8):Nat:=
 if bO e=0/\5<=op/\op<=8 then (ry ck up e (bt e) sc op name e 0 (ζ e.length 0)).getD (e.length - 1) 0 else 3
theorem SR {nt:Nat} (q:111<=nt) (e:List Nd) (m:Bool) (g:List Sc) (o:Bool) (ss:List Nat) (ck:Sc->Int) (J:Sc->Bool) (p:Int) (a:List UInt8) (k:Nat) (x:Nd) (M:∀ y ∈ e,y.sm) (X:bO e=0) (N:e[k]? =some x) (c:e.length<2^40) (v:ss.length=e.length) (R:g.length<2^40) (S:g= []):
  ψ nt f28 (dL e m (bt e) g o p a (k,ss)) .normal (dL e m (bt e) g o p a (k+1,ss.set k (kX ck J e (bt e) g p a ss k x))):=by
 obtain ⟨t,K⟩:=kC X;obtain ⟨F,G⟩:=K k x N;obtain ⟨r,U⟩:=List.getElem?_eq_some_iff.1 N;have b:e.getD k gu=x:=by rw [μ,N];rfl
 generalize V:bt e=A at*
 have z:k<A.length:=by omega
 have w:∀ j ∈ A.getD k [],j<ss.length:=λj D=>by have:=G j D;omega
 have B:∀ j ∈ A.getD k [],j<e.length:=λj D=>by have:=G j D;omega
 have I:(A.getD k []).length<2^40:=by rw [F];unfold gb;split<;>(try split)<;>(try split)<;>omega
 have u:(ε ((δ (k:Int))*5) (aO e))=oP x++aO (e.drop (k+1)):=by rw [EA r,b]
 have call_:=U_ e m A g o ss k z I w;have L:∀ j,(e.getD j gu).num.length<2^36/\(e.getD j gu).den.length<2^36:=by
  intro j;by_cases D:j<e.length
  .have W:e.getD j gu ∈ e:=by rw [μ,ν D];exact Xxv D
   have:=M _ W;exact ⟨Xzf this.1 (by decide),Xzf this.2 (by decide)⟩
  .rw [μ,List.getElem?_eq_none (by omega)];decide
 have C:(yK x.op= .tup [.nilF,.bool false])\/∃ f,yK x.op= .tup [.fn f [] [],.bool true]:=by
  by_cases h1:(x.op=9\/x.op=13\/x.op=14\/x.op=21\/x.op=22\/x.op=23)\/(x.op=10)\/(x.op=11)\/(x.op=12)\/(x.op=15)\/(x.op=24)
  .rcases h1 with h|h|h|h|h|h
   .exact .inr ⟨_,Ni h⟩
   .exact .inr ⟨_,Nn h⟩
   .exact .inr ⟨_,Nl h⟩
   .exact .inr ⟨_,Nk h⟩
   .exact .inr ⟨_,Nj h⟩
   .exact .inr ⟨_,Ia h⟩
  .exact .inl (Nm h1)
 unfold kX;by_cases hit:(x.op==p && x.name==a)=true
 .rw [hit];rw [π] at hit;rcases C with h|⟨f,h⟩
  .exact abQ q e m A g o ss p a k x _ b u r c t v h hit.1 hit.2
  .exact abP q e m A g o ss p a k x _ b u r c t v f h hit.1 hit.2
 .rw [Bool.not_eq_true] at hit;rw [hit];have d:(x.op==p)=false\/(x.name==a)=false:=Bool.and_eq_false_iff.1 hit;rcases tf ((((d_ A ss k):Nat):Int)==((0:Nat):Int)) with b3|b3
  .rw [b3];rcases tf (x.op==p) with b1|b1
   .have Q:(x.name==a)=false:=by rcases d with h|h;rw [h] at b1;cases b1;exact h
    rcases C with h|⟨f,h⟩
    .exact abS q e m A g o ss p a k x _ b u r c t v h b1 Q b3 call_
    .exact abR q e m A g o ss p a k x _ b u r c t v f h b1 Q b3 call_
   .rcases C with h|⟨f,h⟩
    .exact abU q e m A g o ss p a k x _ b u r c t v h b1 b3 call_
    .exact abT q e m A g o ss p a k x _ b u r c t v f h b1 b3 call_
  .rw [b3];dsimp only [cond];unfold eL;have H:∀ n,gb x.op=n->∀ i,i<n->i<(A.getD k []).length:=λn q i T=>by rw [F,q];exact T
   by_cases g1:x.op=9\/x.op=13\/x.op=14\/x.op=21\/x.op=22\/x.op=23
   .rw [if_pos g1];exact Xs q e m A g o ss p a k x _ b u r c t v (Ni g1) d b3 call_
   rw [if_neg g1];by_cases g2:x.op=10
   .rw [if_pos g2];have s:=H 2 (by rw [g2];rfl);exact Xy q e m A g o ss p a k x _ b u r c t v (Nn g2) d b3 call_ (XI e m A g o ss k z w B (s 0 (by omega)) (s 1 (by omega)))
   rw [if_neg g2];by_cases g3:x.op=11
   .rw [if_pos g3];have s:=H 2 (by rw [g3];rfl);exact Xw q e m A g o ss p a k x _ b u r c t v (Nl g3) d b3 call_ (WF e m A g o ss k z w B (s 0 (by omega)) (s 1 (by omega)))
   rw [if_neg g3];by_cases g4:x.op=12
   .rw [if_pos g4];have s:=H 2 (by rw [g4];rfl);exact Xu q e m A g o ss p a k x _ b u r c t v (Nk g4) d b3 call_ (Vt e m A g o ss k z w B (s 0 (by omega)) (s 1 (by omega)) (L _))
   rw [if_neg g4];by_cases g5:x.op=15
   .rw [if_pos g5];have s:=H 3 (by rw [g5];rfl);exact Xt q e m A g o ss p a k x _ b u r c t v (Nj g5) d b3 call_ (Vl e m A g o ss k z w B (s 0 (by omega)) (s 1 (by omega)) (s 2 (by omega)))
   rw [if_neg g5];by_cases g6:x.op=24
   .rw [if_pos g6];have s:=H 1 (by rw [g6];rfl);have O:=Sg e m A g o ss ck J k S;rw [b] at O;exact SQ q e m A g o ss p a k x _ b u r c t v ck J (Ia g6) d b3 call_ O
   rw [if_neg g6];exact Xx q e m A g o ss p a k x _ b u r c t v (Nm (by rintro (h|h|h|h|h|h);exact g1 h;exact g2 h;exact g3 h;exact g4 h;exact g5 h;exact g6 h)) d b3 call_
theorem SP {nt:Nat} (n:111<=nt) (e:List Nd) (d:Bool) (b:List Sc) (f:Bool) (ck:Sc->Int) (k:Sc->Bool) (c:Int) (a:List UInt8) (i:∀ y ∈ e,y.sm) (s:bO e=0) (j:e.length<2^40) (g:b.length<2^40) (q:b= []):∀ (r p:List Nd) (ss:List Nat),p++r=e->ss.length=e.length->
  aB prog ap [] nt (af 0 (am f28)) (λ_=> .exit 0) (dL e d (bt e) b f c a) (OZ e d (bt e) b f) (p.length,ss) (ry ck k e (bt e) b c a r p.length ss):=by
 intro r
 induction r with
 |nil=>
  intro p ss hp m;rw [Xqd] at hp;rw [hp];exact .done (Xv n e d (bt e) b f ss c a)
 |cons x r ih=>
  intro p ss hp m;have o:e[p.length]? =some x:=by rw [<- hp];simp
  have h:=ih (p++ [x]) (ss.set p.length (kX ck k e (bt e) b c a ss p.length x)) (by rw [<- hp];simp) (by rw [Xxl];exact m);rw [ξ,Δ] at h;exact .next (SR n e d b f ss ck k c a p.length x i s o j m g q) h
theorem O0 (e:List Nd) (d:Bool) (b:List Sc) (g:Bool) (ck:Sc->Int) (m:Sc->Bool) (c:Int) (a:List UInt8) (f:∀ y ∈ e,y.sm) (k:e.length<2^40) (n:b.length<2^40) (r:b= []) (p:bO e ≠ 0->CO 59 [.sl (aO e) e.length d] (.ret (.tup [.nilS,.bool false]))):
  CO 28 [.sl (aO e) e.length d,.sl (iq b) b.length g,ω c,.str a] (.ret (ω ((dF ck m e b c a:Nat):Int))):=by
 unfold dF;by_cases hq:bO e=0
 .by_cases ho:5<=c/\c<=8
  .rw [if_pos ⟨hq,ho⟩];have h0:e ≠ []:=by intro h;rw [h] at hq;exact absurd hq (by decide)
   obtain ⟨i,o⟩:∃ i,e.length=i+1:=⟨e.length - 1,by have:=List.length_pos_iff.2 h0;omega⟩
   have q:(ry ck m e (bt e) b c a e 0 (ζ e.length 0)).length=e.length:=by rw [BF,Xq9]
   have h:∀ nt,111<=nt->aB prog ap [] nt (af 0 (am f28)) (λ_=> .exit 0) (dL e d (bt e) b g c a) (OZ e d (bt e) b g) (0,ζ e.length 0) (ry ck m e (bt e) b c a e 0 (ζ e.length 0)):=λnt t=>SP t e d b g ck m c a f hq k n r e [] _ rfl (Xq9 ..)
   generalize ry ck m e (bt e) b c a e 0 (ζ e.length 0)=ss at*
   rw [show e.length - 1=i by omega];have j:i<ss.length:=by omega
   refine abW e d (bt e) b g ss c a i (ss.getD i 0) _ (xJ e d f hq) (Yq1 (by omega)) (Yq1 (by omega)) o k j (by rw [Ψ];exact qp j) (ζ e.length 0).length (aA (ζ e.length 0)) (by rw [Xq9,aF]) (by rw [aF,Sn]) ?_;have s:(decide (((8:Nat):Int)<c))=false:=Yq1 (by omega);rw [s];exact aB.blk h (by simp) rfl (aD.of ⟨rfl,rfl,rfl,rfl,rfl,rfl,rfl,rfl,trivial⟩) (aD.of ⟨rfl,rfl,trivial⟩)
  .rw [if_neg (λh=>ho h.2)];exact Xz e d (bt e) b g [] c a (xJ e d f hq) (by omega)
 .rw [if_neg (λh=>hq h.1)];exact abV e d [] b g [] c a (p hq)
structure Br where
 fn:Bool
 fa:List UInt8
 fd:List UInt8
 rn:Bool
 ra:List UInt8
 rd:List UInt8
def brC (x:Br):List AV:= [.bool x.fn,.str x.fa,.str x.fd,.bool x.rn,.str x.ra,.str x.rd]
def brL (l:List Br):List AV:=l.flatMap brC
abbrev brF (x:Br):AV:= .agg [.bool x.fn,.str x.fa,.str x.fd]
def bkL (cmp:Br->Br->Int):Option Br->List Br->Bool
 |_,[]=>true
 |none,x::r=>cond (gM x.fn x.fa x.fd) (cond (gM x.rn x.ra x.rd) (cond (ml x.fn x.fa x.fd==((0:Nat):Int)) (bkL cmp (some x) r) false) false) false
 |some y,x::r=>cond (gM x.fn x.fa x.fd) (cond (gM x.rn x.ra x.rd) (cond (decide (((0:Nat):Int)<=cmp y x)) false (bkL cmp (some x) r)) false) false
def Lq (f:Nat) (cmp:Br->Br->Int) (l:List Br):Prop:=∀ i y x,l[i]? =some y->l[i+1]? =some x->gM x.fn x.fa x.fd=true->gM x.rn x.ra x.rd=true->CO f [brF y,brF x] (.ret (ω (cmp y x)))
def acx (x:Br):Bool:= !(cT x.fn x.fa x.fd)|| !(cT x.rn x.ra x.rd)
def Zf (x:Br):Bool:=decide (ml x.rn x.ra x.rd<((0:Nat):Int))
def ckQ (cmp:Br->Br->Int) (l:List Br):Int:=cond (decide (((8:Nat):Int)<(l.length:Int))) 2 (cond ((l.length:Int)==((0:Nat):Int)) 11 (cond (bkL cmp none l) (cond (l.any acx) 3 0) 11))
theorem CB {α:Type} (f:α->List AV) (m:Nat) (b:∀ a,(f a).length=m):∀ {l:List α} {k:Nat} (h:k<l.length),ε (k*m) (l.flatMap f)=f l[k]++(l.drop (k+1)).flatMap f
 | [],_,h=>by simp at h
 |x::r,0,_=>by simp
 |x::r,k+1,h=>by
  have c:k<r.length:=by simpa using h
  have:=CB f m b c;rw [Xxw,Xvx,Xja,<- Xjq];have e:ε m (f x++r.flatMap f)=r.flatMap f:=by rw [<- b x];exact Xv0
  rw [e,this];simp
theorem MQ {α:Type} (f:α->List AV) (m:Nat) (b:∀ a,(f a).length=m):∀ l:List α,(l.flatMap f).length=l.length*m
 | []=>by simp
 |x::r=>by rw [Xxw,ξ,b,MQ f m b r,ο,Xvx,Xja]
structure RtL (l:List (RQ × RQ)):Prop where
 len:l.length<=8
 pos:0<l.length
 ok:∀ b ∈ l,b.1.ok/\b.2.ok
 fit:∀ b ∈ l,jx b.1=true/\jx b.2=true
 srt:Ts l
section
variable (nm:List UInt8) (u1 u2:Int) {l:List (RQ × RQ)} (hR:RtL l) {x:RQ} (hx:x.ok) (fx:jx x=true)
include hR hx fx
omit fx in
end
structure Lk where
 op:Int
 nm:List UInt8
 n:Bool
 a:List UInt8
 d:List UInt8
 e:Int
def Wq (x:Lk):List AV:= [ω x.op,.str x.nm,.bool x.n,.str x.a,.str x.d,ω x.e]
def bP (l:List Lk):List AV:=l.flatMap Wq
abbrev CY (ls:List Lk) (cs:List Sc) (nl ns:Bool) (a b c d:List AV):Hp:= [(0,⟨[.sl (bP ls) ls.length nl,.sl (iq cs) cs.length ns],0,false,0,0,true⟩),(1,⟨[.mp [] [],.mp [] []],0,false,0,0,true⟩),(2,⟨[.mr 3 0,.mr 4 0],0,false,0,0,false⟩),(3,⟨[.agg a,.agg b],0,false,0,4611686018427387904,true⟩),(4,⟨[.agg c,.agg d],0,false,0,4611686018427387904,true⟩)]
abbrev Vaa (a:Oq):List AV:=[.bool a.n,.str a.a,.str a.d,ω a.e]
theorem QG (a:Oq) (d f w1 c:Bool) (g k b:List UInt8) (ks vs i h:List AV) (h0:lit true (!c)=true) (e:Va1 a w1 c) (j:CO 119 [ω 13] Va7):CO 193 [.agg [.mp ks vs,.mp i h],.agg [ω 20,.bool d,.str g,.str k,.str b],.sl (Vaa a) 1 f] Va7:=pK [] 2 3 (.k 5 h0 (.n 11 .nil)) (.c j (.c e .nil))
theorem QH (a o:Oq) (d f w1 c:Bool) (g k b:List UInt8) (ks vs i h:List AV) (h0:lit false (!c)=true) (e:Va1 a w1 c) (j:CO 216 [.bool (!w1)] (Vad o)):CO 193 [.agg [.mp ks vs,.mp i h],.agg [ω 20,.bool d,.str g,.str k,.str b],.sl (Vaa a) 1 f] (Vad o):=pK [] 2 1 (.k 5 h0 (.n 11 .nil)) (.c j (.c e .nil))
theorem QI (a o:Oq) (q c:RQ) (e:Bool) (b:List UInt8) (ks vs g f:List AV) (d:CO 74 [.agg (Vac a),qA c] (Vak q)) (h:CO 215 [qA q] (Vad o)):CO 193 [.agg [.mp ks vs,.mp g f],.agg [ω 21,.bool c.neg,.str (ae c.n),.str (ae c.d),.str b],.sl (Vaa a) 1 e] (Vad o):=pK [] 3 4 (.n 25 .nil) (.c h (.c d .nil))
theorem QJ (a o:Oq) (q c:RQ) (e:Bool) (b:List UInt8) (ks vs g f:List AV) (d:CO 220 [.agg (Vac a),qA c] (Vak q)) (h:CO 215 [qA q] (Vad o)):CO 193 [.agg [.mp ks vs,.mp g f],.agg [ω 22,.bool c.neg,.str (ae c.n),.str (ae c.d),.str b],.sl (Vaa a) 1 e] (Vad o):=pK [] 4 8 (.n 26 .nil) (.c h (.c d .nil))
theorem QK (a o:Oq) (q c:RQ) (e:Bool) (b:List UInt8) (ks vs g f:List AV) (d:CO 218 [.agg (Vac a),qA c] (Vak q)) (h:CO 215 [qA q] (Vad o)):CO 193 [.agg [.mp ks vs,.mp g f],.agg [ω 23,.bool c.neg,.str (ae c.n),.str (ae c.d),.str b],.sl (Vaa a) 1 e] (Vad o):=pK [] 4 0 (.n 26 .nil) (.c h (.c d .nil))
theorem QL (b:Oq) (j i lb:Bool) (m f a n:List UInt8) (u1 u2:Int) (ks vs c d o:List AV) (e:Nat) (k:bC (.tup [(Xwb (b_ c d (.str a)) (.agg [.str [],ω 0,ω 0,.nilS])),.bool (Xz3 (b_ c d (.str a)))]) (.tup [.agg [.str n,ω u1,ω u2,.sl o e false],.bool lb])) (h0:lit true (!lb)=true) (h:(Xz9 c (FC 9))=true) (g:CO 119 [ω 12] VaF):CO 193 [.agg [.mp ks vs,.mp c d],.agg [ω 24,.bool j,.str m,.str f,.str a],.sl (Vaa b) 1 i] VaF:=pK [] 3 6 (.k 5 h0 (.k 2 h (.n 11 .nil))) (.c g (.v 43 k .nil))
abbrev Vab (a:Nat):Prop:=ω (γ .i64 ((a:Int)+((1:Nat):Int)))=ω ((a+1:Nat):Int)
abbrev Vax (a:List Lk) (b:Bool) (c:Nat) (d:List Sc) (e:Bool) (f:List AV) (g:List AV):St:=⟨[(1,.ptr 0 0 0),(2,.ptr 1 0 0),(3,.ptr 2 0 0),(17,.sl (bP a) a.length b),(18,ω (a.length:Int)),(19,ω (c:Int))],(CY a d b e f g [] []),.dead,[]⟩
theorem Y2 (ks vs:List AV) (k:Nat) (a:List Lk) (cs:List Sc) (x:Lk) (b e d:Bool) (p:List AV) (c f:Oq) {nt:Nat} (q:68<=nt) (r:(ε ((δ (k:Int))*6) (bP a))=Wq x++p) (o:Yq8 [(Xwb (b_ ks vs (.agg [ω x.op,.str x.nm])) VaN),.bool (Xz3 (b_ ks vs (.agg [ω x.op,.str x.nm])))]=Yq8 [dE f,.bool d]) (j:Vab k) (h0:(Xz9 ks (FC 222))=true) (h:lit true (!d)=true) (i:Va3 k) (m:(decide ((k:Int)<(a.length:Int)))=true) (n:lit true (decide ((k:Int)<(a.length:Int)))=true) (g:CO 188 [.agg [.bool x.n,.str x.a,.str x.d,ω x.e]] (Vad c)):ψ nt f165 (Vax a b k cs e ks vs) (.normal) ⟨[(1,.ptr 0 0 0),(2,.ptr 1 0 0),(3,.ptr 2 0 0),(17,.sl (bP a) a.length b),(18,ω (a.length:Int)),(19,ω ((k+1:Nat):Int))],(CY a cs b e (nY ks (.agg [ω x.op,.str x.nm])) (jD ks vs (.agg [ω x.op,.str x.nm]) (dE c)) [] []),.dead,[]⟩:=pN 165 [] 2 3 (.k 1 h0 (.k 7 h (.k 2 h0 (.k 13 i (.c m (.c n .nil)))))) (.v 43 (.eq j) (.c g (.v 32 (.eq o) (.v 21 (.ppt r) .nil)))) q
theorem Y3 (ks vs:List AV) (k:Nat) (a:List Lk) (cs:List Sc) (x:Lk) (b d c:Bool) (n:List AV) (e:Oq) {nt:Nat} (o:68<=nt) (p:(ε ((δ (k:Int))*6) (bP a))=Wq x++n) (m:Yq8 [(Xwb (b_ ks vs (.agg [ω x.op,.str x.nm])) VaN),.bool (Xz3 (b_ ks vs (.agg [ω x.op,.str x.nm])))]=Yq8 [dE e,.bool c]) (h:Vab k) (h0:lit false (!c)=true) (f:(Xz9 ks (FC 222))=true) (g:Va3 k) (i:(decide ((k:Int)<(a.length:Int)))=true) (j:lit true (decide ((k:Int)<(a.length:Int)))=true):ψ nt f165 (Vax a b k cs d ks vs) (.normal) ⟨[(1,.ptr 0 0 0),(2,.ptr 1 0 0),(3,.ptr 2 0 0),(17,.sl (bP a) a.length b),(18,ω (a.length:Int)),(19,ω ((k+1:Nat):Int))],(CY a cs b d ks vs [] []),.dead,[]⟩:=pN 165 [] 2 1 (.c h0 (.k 2 f (.k 13 g (.c i (.c j .nil))))) (.v 43 (.eq h) (.v 32 (.eq m) (.v 21 (.ppt p) .nil))) o
theorem Y4 (ks vs:List AV) (k:Nat) (a:List Lk) (cs:List Sc) (b c:Bool) {nt:Nat} (d:68<=nt) (h0:lit false (decide ((k:Int)<(a.length:Int)))=true):ψ nt f165 (Vax a b k cs c ks vs) (.exit 0) ⟨[(1,.ptr 0 0 0),(2,.ptr 1 0 0),(3,.ptr 2 0 0)],(CY a cs b c ks vs [] []),.dead,[]⟩:=pN 165 [] 1 0 (.c h0 .nil) (.nil) d
abbrev VaB (a:List Sc) (b:Bool) (c:Nat):List (Nat × AV):=[(1,.ptr 0 0 0),(2,.ptr 1 0 0),(3,.ptr 2 0 0),(45,.sl (iq a) a.length b),(46,ω (a.length:Int)),(47,ω (c:Int))]
theorem Y5 (t:List UInt8) (u1 u2:Int) (ks vs a b u:List AV) (h k:Nat) (e:List Lk) (cs:List Sc) (c:Sc) (g d f:Bool) (r:List AV) {nt:Nat} (s:68<=nt) (i:(ε ((δ (k:Int))*4) (iq cs))=OW c++r) (q:bC (.tup [(Xwb (b_ a b (.str c.name)) (.agg [.str [],ω 0,ω 0,.nilS])),.bool (Xz3 (b_ a b (.str c.name)))]) (.tup [.agg [.str t,ω u1,ω u2,.sl u h false],.bool f])) (n:Vab k) (h0:(Xz9 a (FC 9))=true) (j:lit true (!f)=true) (m:Va3 k) (o:(decide ((k:Int)<(cs.length:Int)))=true) (p:lit true (decide ((k:Int)<(cs.length:Int)))=true):ag prog ap [] nt (af 2 (am f165)) ⟨(VaB cs d k),(CY e cs g d ks vs a b),.dead,[]⟩ (.normal) ⟨[(1,.ptr 0 0 0),(2,.ptr 1 0 0),(3,.ptr 2 0 0),(45,.sl (iq cs) cs.length d),(46,ω (cs.length:Int)),(47,ω ((k+1:Nat):Int))],(CY e cs g d ks vs (nY a (.str c.name)) (jD a b (.str c.name) (.agg [.str c.name,ω c.u1,ω c.u2,.sl c.bx c.bn false]))),.dead,[]⟩:=pN 165 [] 2 3 (.k 1 h0 (.k 6 j (.k 2 h0 (.k 7 m (.c o (.c p .nil)))))) (.v 66 (.eq n) (.v 56 q (.v 49 (.ppt i) .nil))) s
theorem Y6 (t:List UInt8) (u1 u2:Int) (ks vs a b u:List AV) (h k:Nat) (e:List Lk) (cs:List Sc) (c:Sc) (g d f:Bool) (r:List AV) {nt:Nat} (s:68<=nt) (i:(ε ((δ (k:Int))*4) (iq cs))=OW c++r) (q:bC (.tup [(Xwb (b_ a b (.str c.name)) (.agg [.str [],ω 0,ω 0,.nilS])),.bool (Xz3 (b_ a b (.str c.name)))]) (.tup [.agg [.str t,ω u1,ω u2,.sl u h false],.bool f])) (n:Vab k) (h0:lit false (!f)=true) (j:(Xz9 a (FC 9))=true) (m:Va3 k) (o:(decide ((k:Int)<(cs.length:Int)))=true) (p:lit true (decide ((k:Int)<(cs.length:Int)))=true):ag prog ap [] nt (af 2 (am f165)) ⟨(VaB cs d k),(CY e cs g d ks vs a b),.dead,[]⟩ (.normal) ⟨[(1,.ptr 0 0 0),(2,.ptr 1 0 0),(3,.ptr 2 0 0),(45,.sl (iq cs) cs.length d),(46,ω (cs.length:Int)),(47,ω ((k+1:Nat):Int))],(CY e cs g d ks vs a b),.dead,[]⟩:=pN 165 [] 2 1 (.c h0 (.k 2 j (.k 7 m (.c o (.c p .nil))))) (.v 66 (.eq n) (.v 56 q (.v 49 (.ppt i) .nil))) s
theorem Y7 (ks vs e c:List AV) (k:Nat) (d:List Lk) (cs:List Sc) (b a:Bool) {nt:Nat} (f:68<=nt) (h0:lit false (decide ((k:Int)<(cs.length:Int)))=true):ag prog ap [] nt (af 2 (am f165)) ⟨(VaB cs a k),(CY d cs b a ks vs e c),.dead,[]⟩ (.exit 2) ⟨[(1,.ptr 0 0 0),(2,.ptr 1 0 0),(3,.ptr 2 0 0)],(CY d cs b a ks vs e c),.dead,[]⟩:=pN 165 [] 1 0 (.c h0 .nil) (.nil) f
theorem VO (ks vs e d:List AV) (a:List Lk) (cs:List Sc) (b c:Bool) (g:LB 68 0 f165 ⟨[(0,.agg [.sl (bP a) a.length b,.sl (iq cs) cs.length c]),(1,.ptr 0 0 0),(2,.ptr 1 0 0),(3,.ptr 2 0 0),(5,.dead),(6,.dead),(8,.dead),(10,.dead),(12,.dead),(17,.sl (bP a) a.length b),(18,ω (a.length:Int)),(19,ω 0),(20,.dead),(36,.dead),(45,.dead),(46,.dead),(47,.dead),(48,.dead),(60,.dead)],(CY a cs b c [] [] [] []),.dead,[]⟩ (.normal) ⟨[(1,.ptr 0 0 0),(2,.ptr 1 0 0),(3,.ptr 2 0 0)],(CY a cs b c ks vs [] []),.dead,[]⟩) (f:LB 68 2 f165 ⟨[(0,.dead),(1,.ptr 0 0 0),(2,.ptr 1 0 0),(3,.ptr 2 0 0),(5,.dead),(6,.dead),(8,.dead),(10,.dead),(12,.dead),(17,.dead),(18,.dead),(19,.dead),(20,.dead),(36,.dead),(45,.sl (iq cs) cs.length c),(46,ω (cs.length:Int)),(47,ω 0),(48,.dead),(60,.dead)],(CY a cs b c ks vs [] []),.dead,[]⟩ (.normal) ⟨[(1,.ptr 0 0 0),(2,.ptr 1 0 0),(3,.ptr 2 0 0)],(CY a cs b c ks vs e d),.dead,[]⟩):CO 165 [.agg [.sl (bP a) a.length b,.sl (iq cs) cs.length c]] (.ret (.agg [.mp ks vs,.mp e d])):=pK [0,2] 0 0 (.n 8 .nil) (.l f (.l g .nil))
theorem VG (o:Oq) (c d:Bool) (e h a:List UInt8) (b:Int) (ks vs g f:List AV) (h0:lit true (decide (b<=((4:Nat):Int)))=true) (i:CO 190 [.agg [.mp ks vs,.mp g f],.agg [ω b,.bool c,.str e,.str h,.str a],.sl [] 0 d] (Vad o)):CO 166 [.agg [.mp ks vs,.mp g f],.agg [ω b,.bool c,.str e,.str h,.str a],.sl [] 0 d] (Vad o):=pK [] 2 1 (.k 13 h0 (.n 3 .nil)) (.c i .nil)
abbrev Vaq (a:Int):Prop:=lit false (decide (a<=((4:Nat):Int)))=true
theorem VH (o:Oq) (c d:Bool) (e h a:List UInt8) (b:Int) (ks vs g f:List AV) (h0:lit true (decide (b<=((8:Nat):Int)))=true) (i:Vaq b) (j:CO 191 [.agg [.mp ks vs,.mp g f],.agg [ω b,.bool c,.str e,.str h,.str a],.sl [] 0 d] (Vad o)):CO 166 [.agg [.mp ks vs,.mp g f],.agg [ω b,.bool c,.str e,.str h,.str a],.sl [] 0 d] (Vad o):=pK [] 3 2 (.k 13 h0 (.k 1 i (.n 3 .nil))) (.c j .nil)
abbrev Vay (a:Int):Prop:=lit false (decide (a<=((8:Nat):Int)))=true
theorem VI (a:Oq) (d f:Bool) (g k b:List UInt8) (c:Int) (ks vs j h:List AV) (h0:lit true (!(a.e==((0:Nat):Int)))=true) (e:lit false (c==((15:Nat):Int))=true) (i:Vay c) (m:Vaq c):CO 166 [.agg [.mp ks vs,.mp j h],.agg [ω c,.bool d,.str g,.str k,.str b],.sl (Vaa a) 1 f] (Vad a):=pK [] 6 56 (.k 9 h0 (.k 12 e (.k 1 i (.k 1 m (.n 3 .nil))))) (.nil)
theorem VJ (a o:Oq) (d e:Bool) (f i b:List UInt8) (c:Int) (ks vs h g:List AV) (h0:lit false (!(a.e==((0:Nat):Int)))=true) (j:lit false (c==((15:Nat):Int))=true) (m:Vay c) (n:Vaq c) (k:CO 193 [.agg [.mp ks vs,.mp h g],.agg [ω c,.bool d,.str f,.str i,.str b],.sl (Vaa a) 1 e] (Vad o)):CO 166 [.agg [.mp ks vs,.mp h g],.agg [ω c,.bool d,.str f,.str i,.str b],.sl (Vaa a) 1 e] (Vad o):=pK [] 7 24 (.k 11 h0 (.k 12 j (.k 1 m (.k 1 n (.n 3 .nil))))) (.c k .nil)
theorem VK (a c:Oq) (e g:Bool) (h m b:List UInt8) (d:Int) (ks vs k i:List AV) (h0:lit true (!(a.e==((0:Nat):Int)))=true) (f:lit false (d==((15:Nat):Int))=true) (j:Vay d) (n:Vaq d):CO 166 [.agg [.mp ks vs,.mp k i],.agg [ω d,.bool e,.str h,.str m,.str b],.sl (Va2 a c) 2 g] (Vad a):=pK [] 6 48 (.k 9 h0 (.k 10 f (.k 1 j (.k 1 n (.n 3 .nil))))) (.nil)
theorem VL (c a:Oq) (e g:Bool) (h n b:List UInt8) (d:Int) (ks vs m i:List AV) (h0:lit true (!(a.e==((0:Nat):Int)))=true) (f:lit false (!(c.e==((0:Nat):Int)))=true) (j:lit false (d==((15:Nat):Int))=true) (o:Vay d) (k:Vaq d):CO 166 [.agg [.mp ks vs,.mp m i],.agg [ω d,.bool e,.str h,.str n,.str b],.sl (Va2 c a) 2 g] (Vad a):=pK [] 8 208 (.k 9 h0 (.k 9 f (.k 10 j (.k 1 o (.k 1 k (.n 3 .nil)))))) (.nil)
theorem VM (b a o:Oq) (h f:Bool) (i e c:List UInt8) (d:Int) (ks vs j g:List AV) (h0:lit false (!(a.e==((0:Nat):Int)))=true) (m:lit false (!(b.e==((0:Nat):Int)))=true) (n:lit false (d==((15:Nat):Int))=true) (p:Vay d) (q:Vaq d) (k:CO 189 [.agg [.mp ks vs,.mp j g],.agg [ω d,.bool h,.str i,.str e,.str c],.sl (Va2 b a) 2 f] (Vad o)):CO 166 [.agg [.mp ks vs,.mp j g],.agg [ω d,.bool h,.str i,.str e,.str c],.sl (Va2 b a) 2 f] (Vad o):=pK [] 9 80 (.k 11 h0 (.k 9 m (.k 10 n (.k 1 p (.k 1 q (.n 3 .nil)))))) (.c k .nil)
theorem VN (d b c o:Oq) (f g:Bool) (h k a:List UInt8) (e:Int) (ks vs j i:List AV) (h0:lit true (e==((15:Nat):Int))=true) (m:Vay e) (p:Vaq e) (n:CO 192 (Va4 ks vs j i e f h k a d b c g) (Vad o)):CO 166 (Va4 ks vs j i e f h k a d b c g) (Vad o):=pK [] 3 4 (.k 12 h0 (.k 1 m (.k 1 p (.n 3 .nil)))) (.c n .nil)
def Al (m:List AV × List AV) (k v:AV):List AV × List AV:=if (b_ m.1 m.2 k).isSome then m else (nY m.1 k,jD m.1 m.2 k v)
theorem yg (k v q:AV):∀ (ks vs:List AV),ks.length=vs.length->b_ (ks++ [k]) (vs++ [v]) q=(b_ ks vs q).or (if oJ q k then some v else none)
 | [],[],_=>by simp [b_];cases oJ q k<;>rfl
 |a::ks,b::vs,h=>by
  simp only [Xqu,b_];cases oJ q a with
  |true=>rfl
  |false=>exact yg k v q ks vs (by simpa using h)
 | [],_::_,h=>by simp at h
 |_::_,[],h=>by simp at h
theorem A1 (q v:AV):∀ (ks vs:List AV),ks.length=vs.length->b_ ks vs q=none->ks.any (oJ q)=false/\jD ks vs q v=vs++ [v]
 | [],[],_,_=> ⟨rfl,rfl⟩
 | a::ks,b::vs,h,hf=>by
  simp only [b_] at hf;cases c:oJ q a with
  |true=>rw [c] at hf;cases hf
  |false=>
   rw [c] at hf;obtain ⟨d,e⟩:=A1 q v ks vs (by simpa using h) hf;exact ⟨by simp [c,d],by simp [jD,c,e]⟩
 | [],_::_,h,_=>by simp at h
 |_::_,[],h,_=>by simp at h
structure Jo {α:Type} (kf vf:α->AV) (p:List α) (m:List AV × List AV):Prop where
 len:m.1.length=m.2.length
 find:∀ y,b_ m.1 m.2 (kf y)=(p.find? λx=>oJ (kf y) (kf x)).map vf
 keys:∀ k ∈ m.1,∃ x,k=kf x
theorem Jo.step {α:Type} {a vf:α->AV} (i:∀ x y,oJ (a x) (a y)=true->a x=a y) {p:List α} {m:List AV × List AV} (h:Jo a vf p m) (x:α):Jo a vf (p++ [x]) (Al m (a x) (vf x)):=by
 unfold Al;cases hs:b_ m.1 m.2 (a x) with
 | some v=>
  rw [if_pos (by rfl)];refine ⟨h.len,λy=> ?_,h.keys⟩;rw [h.find y,Xj7];cases hp:p.find? (λx=>oJ (a y) (a x)) with
  |some z=>rfl
  | none=>
   have d:=h.find x;rw [hs] at d;cases c:oJ (a y) (a x) with
   |false=>simp [c]
   |true=>
    rw [<- i y x c,hp] at d;cases d
 | none=>
  obtain ⟨f,g⟩:=A1 (a x) (vf x) m.1 m.2 h.len hs;have e:nY m.1 (a x)=m.1++ [a x]:=by unfold nY;rw [f]
  rw [if_neg (by simp),e,g];refine ⟨by simp [h.len],λy=> ?_,λk b=> ?_⟩
  .rw [yg _ _ _ _ _ h.len,h.find y,Xj7];cases hp:p.find? (λx=>oJ (a y) (a x)) with
   |some z=>rfl
   |none=>cases c:oJ (a y) (a x)<;>simp [c]
  .rcases List.mem_append.1 b with b|b
   .exact h.keys k b
   .rw [Xwh] at b;exact ⟨x,b⟩
def Au {α:Type} (kf vf:α->AV) (p:List α):List AV × List AV:=p.foldl (λm x=>Al m (kf x) (vf x)) ([],[])
theorem uN {α:Type} (a vf:α->AV) (p:List α) (x:α):Au a vf (p++ [x])=Al (Au a vf p) (a x) (vf x):=by unfold Au;rw [List.foldl_append];rfl
theorem yP {α:Type} {a vf:α->AV} (b:∀ x y,oJ (a x) (a y)=true->a x=a y) (l:List α):Jo a vf l (Au a vf l):=by
 have key:∀ (r p:List α),Jo a vf p (Au a vf p)->Jo a vf (p++r) (Au a vf (p++r)):=by
  intro r
  induction r with
  |nil=>intro p h;simpa using h
  |cons x r ih=>
   intro p h;have c:=h.step b x;rw [<- uN] at c;have:=ih (p++ [x]) c;simpa using this
 exact key l [] ⟨rfl,λy=>rfl,λk b=>by simp [Au] at b⟩
def Ln (x:Lk):AV:= .agg [ω x.op,.str x.nm]
def Ws (x:Lk):Oq:=oM x.n x.a x.d x.e
def uG (ls:List Lk):List AV × List AV:=Au Ln (λx=>dE (Ws x)) ls
theorem H_ (x y:Lk) (h:oJ (Ln x) (Ln y)=true):Ln x=Ln y:=by
 simp only [Ln,oJ,Ap,wy,Xwo,π,beq_iff_eq] at h;unfold Ln;rw [h.1,h.2]
def OX (c:Sc):AV:= .str c.name
def xj (cs:List Sc):List AV × List AV:=Au OX (λc=> .agg (OW c)) cs
theorem IP (x y:Sc) (h:oJ (OX x) (OX y)=true):OX x=OX y:=by
 simp only [OX,oJ,beq_iff_eq] at h;unfold OX;rw [h]
def Dy (ls:List Lk) (op:Int) (nm:List UInt8):Option Oq:=(ls.find? λy=>(op==y.op) && (nm==y.nm)).map Ws
def scO (cs:List Sc) (nm:List UInt8):Option Sc:=cs.find? λc=>nm==c.name
theorem Eo (a:List Lk) (b:Int) (c:List UInt8):b_ (uG a).1 (uG a).2 (.agg [ω b,.str c])=(Dy a b c).map (λo=>dE o):=by
 have h:=(yP (vf:=λx=>dE (Ws x)) H_ a).find ⟨b,c,false,[],[],0⟩;unfold uG Dy;rw [Option.map_map];refine h.trans ?_;congr 1;congr 1;funext y;simp [Ln,oJ,Ap,wy]
theorem E2 (cs:List Sc) (a:List UInt8):b_ (xj cs).1 (xj cs).2 (.str a)=(scO cs a).map (λc=> .agg (OW c)):=by
 have h:=(yP (vf:=λc=>AV.agg (OW c)) IP cs).find ⟨a,0,0,[],0⟩;exact h
theorem Tw {α:Type} {a vf:α->AV} (d:∀ x y,oJ (a x) (a y)=true->a x=a y) (t:Nat) (c:∀ x,FC t (a x)=true) (l:List α):Xz9 (Au a vf l).1 (FC t)=true:=by
 rw [Xzk];intro k b;obtain ⟨x,rfl⟩:=(yP (vf:=vf) d l).keys k b;exact c x
theorem Wm (x:Lk):FC 222 (Ln x)=true:=by kernel_rfl
theorem Wn (c:Sc):FC 9 (OX c)=true:=by kernel_rfl
theorem w_ (a:List Lk):Xz9 (uG a).1 (FC 222)=true:=Tw H_ 222 Wm a
theorem Df (cs:List Sc):Xz9 (xj cs).1 (FC 9)=true:=Tw IP 9 Wn cs
def zO:Oq:= .val ⟨false,0,0⟩
theorem adD:dE zO= .agg [.bool false,.str [],.str [],ω 0]:=by
 show AV.agg [.bool false,.str (ae 0),.str (ae 0),ω 0]=_;rw [cF]
theorem TS (a:List Lk) (b:Int) (c:List UInt8):Yq8 [(Xwb (b_ (uG a).1 (uG a).2 (.agg [ω b,.str c])) (.agg [.bool false,.str [],.str [],ω 0])),.bool (Xz3 (b_ (uG a).1 (uG a).2 (.agg [ω b,.str c])))]=Yq8 [dE ((Dy a b c).getD zO),.bool (Dy a b c).isSome]:=by
 rw [Eo];cases Dy a b c with
 |none=>simp only [Option.map_none,Option.getD_none,Option.isSome_none];rw [adD]
 |some x=>rfl
theorem Nh {l:List Lk} {k:Nat} (h:k<l.length):ε (δ (k:Int)*6) (bP l)=Wq l[k]++bP (l.drop (k+1)):=by
 rw [aF];exact CB Wq 6 (λ_=>rfl) h
theorem bC.tupL {l r:List AV} (h:fA l r):bC (.tup l) (.tup r):=by
 intro g m S v a;simp only [VR] at a ⊢;obtain ⟨vs,e,a⟩:=a;exact ⟨vs,e,h g m S vs a⟩
theorem bC.zsc:bC (.tup [.agg [.str [],ω 0,ω 0,.nilS],.bool false]) (.tup [.agg [.str [],ω 0,ω 0,.sl [] 0 false],.bool false]):=
 bC.tupL (fA.cons (bC.agg (fA.cons (bC.refl _) (fA.cons (bC.refl _) (fA.cons (bC.refl _) (fA.cons (bC.nilS false rfl) (fA.refl _)))))) (fA.refl _))
abbrev acT (ls:List Lk) (cs:List Sc) (nl ns:Bool) (p:Nat × (List AV × List AV)):St:=⟨[(1,.ptr 0 0 0),(2,.ptr 1 0 0),(3,.ptr 2 0 0),(17,.sl (bP ls) ls.length nl),(18,ω (ls.length:Int)),(19,ω (p.1:Int))],CY ls cs nl ns p.2.1 p.2.2 [] [],.dead,[]⟩
abbrev opO (ls:List Lk) (cs:List Sc) (nl ns:Bool) (a b:List AV × List AV):St:=⟨[(1,.ptr 0 0 0),(2,.ptr 1 0 0),(3,.ptr 2 0 0)],CY ls cs nl ns a.1 a.2 b.1 b.2,.dead,[]⟩
abbrev acU (ls:List Lk) (cs:List Sc) (nl ns:Bool) (a:List AV × List AV) (p:Nat × (List AV × List AV)):St:=⟨[(1,.ptr 0 0 0),(2,.ptr 1 0 0),(3,.ptr 2 0 0),(45,.sl (iq cs) cs.length ns),(46,ω (cs.length:Int)),(47,ω (p.1:Int))],CY ls cs nl ns a.1 a.2 p.2.1 p.2.2,.dead,[]⟩
theorem Lz {m:List AV × List AV} {k v:AV} (h:(b_ m.1 m.2 k).isSome=true):Al m k v=m:=by unfold Al;rw [if_pos h]
theorem Ly {m:List AV × List AV} {k v:AV} (h:(b_ m.1 m.2 k).isSome=false):Al m k v=(nY m.1 k,jD m.1 m.2 k v):=by unfold Al;rw [if_neg (by rw [h];simp)]
theorem RY {nt:Nat} (m:68<=nt) (a:List Lk) (cs:List Sc) (d f:Bool) (t:a.length<2^60) (hs:∀ x ∈ a,x.a.length<2^36/\x.d.length<2^36):∀ (r p:List Lk),a=p++r->
  aB prog ap [] nt (af 0 (am f165)) (λ_=> .exit 0) (acT a cs d f) (λq:List AV × List AV=>opO a cs d f q ([],[])) (p.length,uG p) (uG a):=by
 intro r
 induction r with
 |nil=>
  intro p hp;rw [Xqd] at hp;subst hp;exact .done (Y4 _ _ _ a cs d f m (aw (Yq1 (by omega))))
 | cons x r ih=>
  intro p hp;have j:p.length<a.length:=by rw [hp];simp
  have n:=Nh j;rw [show a[p.length]=x by subst hp;simp] at n;have b:=ih (p++ [x]) (by rw [hp];simp);rw [ξ,Δ] at b;have e:uG (p++ [x])=Al (uG p) (Ln x) (dE (Ws x)):=uN _ _ p x;rw [e] at b;have h:=TS p x.op x.nm;have c:=congrArg Xz3 (Eo p x.op x.nm);rw [Option.isSome_map] at c;have s:decide (((0:Nat):Int)<=(p.length:Int))=true:=Yq0 (by omega);have i:decide ((p.length:Int)<(a.length:Int))=true:=Yq0 (by omega);have g:=hs x (by rw [hp];simp);cases o:(Dy p x.op x.nm).isSome with
  |true=>
   rw [o] at h c;rw [Lz (k:=Ln x) c] at b;exact .next (Y3 _ _ p.length a cs x d f true _ _ m n h (sC (by omega)) rfl (w_ p) s i (ax i)) b
  |false=>
   rw [o] at h c;rw [Ly (k:=Ln x) c] at b;exact .next (Y2 _ _ p.length a cs x d f false _ (Ws x) _ m n h (sC (by omega)) (w_ p) rfl s i (ax i) (BG x.n x.a x.d x.e g.1 g.2)) b
theorem R1 {nt:Nat} (m:68<=nt) (h:List Lk) (cs:List Sc) (f g:Bool) (a:List AV × List AV) (t:cs.length<2^60):∀ (r p:List Sc),cs=p++r->
  aB prog ap [] nt (af 2 (am f165)) (λ_=> .exit 2) (acU h cs f g a) (λq:List AV × List AV=>opO h cs f g a q) (p.length,xj p) (xj cs):=by
 intro r
 induction r with
 |nil=>
  intro p hp;rw [Xqd] at hp;subst hp;exact .done (Y7 _ _ _ _ _ h cs f g m (aw (Yq1 (by omega))))
 | cons x r ih=>
  intro p hp;have j:p.length<cs.length:=by rw [hp];simp
  have n:=OY j;rw [show cs[p.length]=x by subst hp;simp] at n;have d:=ih (p++ [x]) (by rw [hp];simp);rw [ξ,Δ] at d;have e:xj (p++ [x])=Al (xj p) (OX x) (.agg (OW x)):=uN _ _ p x;rw [e] at d;have b:=E2 p x.name;have s:decide (((0:Nat):Int)<=(p.length:Int))=true:=Yq0 (by omega);have i:decide ((p.length:Int)<(cs.length:Int))=true:=Yq0 (by omega);cases o:scO p x.name with
  |some c=>
   rw [o] at b;rw [Lz (k:=OX x) (show (b_ (xj p).1 (xj p).2 (.str x.name)).isSome=true by rw [b];rfl)] at d;exact .next (Y6 _ _ _ a.1 a.2 _ _ _ _ p.length h cs x f g true _ m n (by rw [b];exact bC.refl _) (sC (by omega)) rfl (Df p) s i (ax i)) d
  |none=>
   rw [o] at b;rw [Ly (k:=OX x) (show (b_ (xj p).1 (xj p).2 (.str x.name)).isSome=false by rw [b];rfl)] at d;exact .next (Y5 [] 0 0 a.1 a.2 _ _ [] 0 p.length h cs x f g false _ m n (by rw [b];exact bC.zsc) (sC (by omega)) (Df p) rfl s i (ax i)) d
theorem Mk (a:List Lk) (cs:List Sc) (c b:Bool) (f:a.length<2^60) (e:cs.length<2^60) (hs:∀ x ∈ a,x.a.length<2^36/\x.d.length<2^36):CO 165 [.agg [.sl (bP a) a.length c,.sl (iq cs) cs.length b]] (.ret (.agg [.mp (uG a).1 (uG a).2,.mp (xj cs).1 (xj cs).2])):=
 VO _ _ _ _ a cs c b
  (aB.blk (id:=0) (e':= .normal) (s:=⟨_,_,_,_⟩) (s':=opO a cs c b (uG a) ([],[])) (λnt d=>RY d a cs c b f hs a [] rfl) (by simp) rfl (aD.of ⟨rfl,rfl,rfl,rfl,rfl,rfl,trivial⟩) (aD.refl _))
  (aB.blk (id:=2) (e':= .normal) (s:=⟨_,_,_,_⟩) (s':=opO a cs c b (uG a) (xj cs)) (λnt d=>R1 d a cs c b (uG a) e cs [] rfl) (by simp) rfl (aD.of ⟨rfl,rfl,rfl,rfl,rfl,rfl,trivial⟩) (aD.refl _))
structure Sq where
 nm:List UInt8
 u1:Int
 u2:Int
 l:List Br
def Sq.c (q:Sq):Sc:=⟨q.nm,q.u1,q.u2,brL q.l,q.l.length⟩
def Qb:List AV->List Br
 | .bool a::.str b::.str c::.bool d::.str e::.str f::r=> ⟨a,b,c,d,e,f⟩::Qb r
 |_=> []
def mn (cmp:Br->Br->Int) (x:Sc):Int:=ckQ cmp (Qb x.bx)
def mz (cmp:Br->Br->Int) (x:Sc):Bool:=(ckQ cmp (Qb x.bx)==((0:Nat):Int)) && !((Qb x.bx).any Zf)
theorem nT (e:List Nd) (c:Bool) (qs:List Sq) (g:Bool) (cmp:Br->Br->Int) (f:Int) (a:List UInt8) (b:∀ y ∈ e,y.sm) (d:e.length<2^40) (i:qs= []):
  CO 28 [.sl (aO e) e.length c,.sl (iq (qs.map Sq.c)) qs.length g,ω f,.str a] (.ret (ω ((dF (mn cmp) (mz cmp) e (qs.map Sq.c) f a:Nat):Int))):=by
 subst i;have h:=O0 e c ([].map Sq.c) g (mn cmp) (mz cmp) f a b d (by decide) rfl
  (λj=>Tu e c (bO e) [] (by rw [show (bO e==((0:Nat):Int))=false from beq_eq_false_iff_ne.2 j];rfl) (oW e c b))
 rw [Xqp] at h;exact h
theorem jI {p q:Prop} (h:p) (e:p=q):q:=e ▸ h
theorem Dj {a:List Nd} (h:a.all (λx=>Xqr (x.num.length+1) 8589934592 && Xqr (x.den.length+1) 8589934592)=true):∀ x ∈ a,x.sm:=by
 intro x b;have:=List.all_eq_true.1 h x b;rw [π] at this;exact ⟨Xze this.1,Xze this.2⟩
def bY (y x:Br):Int:=ep (vQ y.fn y.fa y.fd) (vQ x.fn x.fa x.fd)
theorem BN {n:Bool} {a d:List UInt8} (h:gM n a d=true):vQ n a d=⟨n,aj a,aj d⟩:=by unfold vQ;rw [if_pos h]
structure fE where
 ls:List Lk
 qs:List Sq
abbrev abO (E:fE):AV:= .agg [.mp (uG E.ls).1 (uG E.ls).2,.mp (xj (E.qs.map Sq.c)).1 (xj (E.qs.map Sq.c)).2]
def KW (qs:List Sq) (op:Int) (nm:List UInt8) (st:RQ) (a:Oq):Oq:=
 if op=20 then (if a.bit then Fv (!a.one) else .err 13)
 else if op=24 then .err 12
 else if op=21 then nB (gS a.q st) else if op=22 then nB (La a.q st) else nB (Kq a.q st)
def fg (E:fE) (x:Nd) (l:List Oq):Oq:=
 if x.op<=4 then oM x.neg x.num x.den 0 else if x.op<=8 then (Dy E.ls x.op x.name).getD (.err 12)
 else match l with
 | [a]=>if a.e=0 then KW E.qs x.op x.name (vQ x.neg x.num x.den) a else a
 | [a,b]=>if a.e=0 then (if b.e=0 then lN x.op a b else b) else a
 | [a,b,c]=>F3 a b c
 |_=> .err 11
def Pn (x:Nd):Prop:=21<=x.op->x.op<=23->cT x.neg x.num x.den=true/\0<ml x.neg x.num x.den
theorem GP {a s:RQ} (b:jx a=true) (d:jx s=true):qU 10000 (Kq a s)/\qU 10000 (La a s)/\qU 10000 (gS a s):=by
 have sd:=Co b d;have e:qU 51 s:=cP d;have c:=Hm sd (e.mono (show 51<=208 by decide));refine ⟨?_, ?_,sd.mono (by decide)⟩
 .unfold Kq;split
  .exact c.mono (by decide)
  .exact sd.mono (by decide)
 .unfold La;split
  .exact qU.mono (L:=51) (cP b) (by decide)
  .exact c.mono (by decide)
theorem Dr {a s:RQ} (b:a.ok) (hs:s.ok):(La a s).ok/\(Kq a s).ok:=by
 constructor
 .unfold La;split
  .exact b
  .exact eP (eS hs) hs
 .unfold Kq;split
  .exact eP (eS hs) hs
  .exact eS hs
theorem Gi (E:fE) (x:Nd) (D:Bool) (a:Oq) (s:20<=x.op/\x.op<=24) (k:Pn x) (I:a.ok) (G:a.e=0) (t:E.qs= []):
  CO 193 [abO E,.agg (oP x),.sl (EF a) 1 D] (.ret (dE (KW E.qs x.op x.name (vQ x.neg x.num x.den) a))):=by
 obtain ⟨q,rfl,i,g⟩:=uj I G;obtain ⟨f,w,A,v,u⟩:=x;unfold KW;simp only at s k ⊢;have step:21<=f->f<=23->∃ b:RQ,vQ w A v=b/\b.ok/\jx b=true/\0<fQ b/\A=ae b.n/\v=ae b.d/\w=b.neg:=by
  intro m o;obtain ⟨F,H⟩:=k m o;obtain ⟨h,B⟩:=jz F;refine ⟨_,rfl,cV _ _ _,by rw [BN h];exact B,by rw [<- sn];exact H, ?_, ?_, ?_⟩
  .rw [BN h];exact (ja h).1.symm
  .rw [BN h];exact (ja h).2.symm
  .rw [BN h]
 have n:∀ {r:RQ},qU 10000 r->r.ok->CO 215 [qA r] (.ret (dE (nB r))):=λm o=>mP o (φ m.1 (by decide)) (φ m.2 (by decide))
 have h5:f=20\/f=21\/f=22\/f=23\/f=24:=by omega
 rcases h5 with rfl|rfl|rfl|rfl|rfl
 .rw [if_pos rfl];have y:=jY (.val q);generalize Oq.bit (.val q)=w2 at*
  generalize Oq.one (.val q)=w1 at*
  cases w2 with
  |false=>exact QG (.val q) _ _ _ _ _ _ _ _ _ _ _ rfl y (gL 13)
  |true=>exact QH (.val q) _ _ _ _ _ _ _ _ _ _ _ _ rfl y (iZ _)
 .obtain ⟨b,e,c,d,j,rfl,rfl,rfl⟩:=step (by decide) (by decide);rw [e,if_neg (by decide),if_neg (by decide),if_pos rfl];exact QI (.val q) _ _ b _ _ _ _ _ _ (sV i g c d j) (n (GP g d).2.2 (eS c))
 .obtain ⟨b,e,c,d,j,rfl,rfl,rfl⟩:=step (by decide) (by decide);rw [e,if_neg (by decide),if_neg (by decide),if_neg (by decide),if_pos rfl];exact QJ (.val q) _ _ b _ _ _ _ _ _ (V4 i g c d j) (n (GP g d).2.1 (Dr i c).1)
 .obtain ⟨b,e,c,d,j,rfl,rfl,rfl⟩:=step (by decide) (by decide);rw [e,if_neg (by decide),if_neg (by decide),if_neg (by decide),if_neg (by decide)];exact QK (.val q) _ _ b _ _ _ _ _ _ (Mi i g c d j) (n (GP g d).1 (Dr i c).2)
 .rw [if_neg (by decide),if_pos rfl];obtain ⟨C,p⟩:=E;have t:p= []:=t;subst t;have z:=E2 (([]:List Sq).map Sq.c) u;rw [show scO (([]:List Sq).map Sq.c) u=none from rfl] at z;exact QL (.val q) _ _ false _ _ u [] 0 0 _ _ _ _ [] 0 (by rw [z];exact bC.zsc) rfl (Df _) (gL 12)
def ld (l:List Oq):List AV:=l.flatMap EF
theorem Mj (E:fE) (x:Nd) (i:Bool) (l:List Oq) (h0:1<=x.op) (t:x.op<=24) (q:Pn x) (n:l.length=gb x.op) (w:∀ o ∈ l,o.ok) (s:x.sm) (B:E.qs= []):
  CO 166 [abO E,.agg (oP x),.sl (ld l) l.length i] (.ret (dE (fg E x l))):=by
 obtain ⟨d,f,j,g,e⟩:=x;unfold fg;simp only at h0 t q n ⊢;have k:∀ {p:Prop} [Decidable p],¬ p->lit false (decide p)=true:=λh=>aw (Yq1 h)
 have v:∀ o:Oq,o.e=0->lit false (!(o.e==((0:Nat):Int)))=true:=λo h=>by rw [h];rfl
 have y:∀ o:Oq,¬ o.e=0->lit true (!(o.e==((0:Nat):Int)))=true:=λo h=>by rw [show (o.e==((0:Nat):Int))=false from beq_eq_false_iff_ne.2 h];rfl
 by_cases h4:d<=4
 .rw [if_pos h4];have:gb d=0:=by unfold gb;rw [if_neg (by omega),if_neg (by omega),if_neg (by omega)]
  rw [this,Xkd] at n;subst n;exact VG _ f i j g e d _ _ _ _ (ax (Yq0 h4)) (VD f i j g e d _ _ _ _ _ [] 0 (D7 f j g (Xzf s.1 (by decide)) (Xzf s.2 (by decide))))
 .rw [if_neg h4];by_cases h8:d<=8
  .rw [if_pos h8];have:gb d=0:=by unfold gb;rw [if_neg (by omega),if_neg (by omega),if_neg (by omega)]
   rw [this,Xkd] at n;subst n;refine VH _ f i j g e d _ _ _ _ (ax (Yq0 h8)) (k h4) ?_;have u:=TS E.ls d e;cases r:Dy E.ls d e with
   |none=>
    rw [r] at u;exact VE f i false j g e d _ _ _ _ _ [] 0 u rfl (w_ _) (gL 12)
   |some o=>
    rw [r] at u;exact VF f i true j g e d o _ _ _ _ [] 0 u rfl (w_ _)
  .rw [if_neg h8];by_cases h15:d=15
   .have:gb d=3:=by unfold gb;rw [if_pos h15]
    rw [this] at n
    match l,n with
    | [a,b,c],_=>
     exact VN a b c _ f i j g e d _ _ _ _ (ax (by rw [h15];rfl)) (k h8) (k h4) (Gb d f i j g e _ _ _ _ a b c)
   .have m:lit false (d==((15:Nat):Int))=true:=by rw [show (d==((15:Nat):Int))=false from beq_eq_false_iff_ne.2 h15];rfl
    by_cases h19:d<=19
    .have:gb d=2:=by unfold gb;rw [if_neg (by omega),if_pos (by omega)]
     rw [this] at n
     match l,n with
     | [a,b],_=>
      have z:=w a (by simp);have A:=w b (by simp);simp only;by_cases za:a.e=0
      .rw [if_pos za];by_cases zb:b.e=0
       .rw [if_pos zb];exact VM a b _ f i j g e d _ _ _ _ (v b zb) (v a za) m (k h8) (k h4) (Ml d f i j g e _ _ _ _ a b (by omega) z za A zb)
       .rw [if_neg zb];exact VL a b f i j g e d _ _ _ _ (y b zb) (v a za) m (k h8) (k h4)
      .rw [if_neg za];exact VK a b f i j g e d _ _ _ _ (y a za) m (k h8) (k h4)
    .have:gb d=1:=by unfold gb;rw [if_neg (by omega),if_neg (by omega),if_pos (by omega)]
     rw [this] at n
     match l,n with
     | [a],_=>
      have z:=w a (by simp);simp only;by_cases za:a.e=0
      .rw [if_pos za];exact VJ a _ f i j g e d _ _ _ _ (v a za) m (k h8) (k h4) (Gi E ⟨d,f,j,g,e⟩ i a ⟨by show 20<=d;omega,t⟩ q z za B)
      .rw [if_neg za];exact VI a f i j g e d _ _ _ _ (y a za) m (k h8) (k h4)
theorem N_ {g:Int} {a b:Oq} (f:a.ok) (e:b.ok) (i:a.e=0) (j:b.e=0):(lN g a b).ok:=by
 obtain ⟨q,rfl,c,k⟩:=uj f i;obtain ⟨r,rfl,d,m⟩:=uj e j;unfold lN
 repeat' split
 all_goals first|exact ox (eP c d)|exact ox (tZ c d)|exact ox (tF c d)|exact (by decide:(13:Int) ≠ 0)|exact e|exact f|exact xn _|exact (by decide:(16:Int) ≠ 0)|(rename_i h;exact ox (jT c (Nat.pos_of_ne_zero h)))
theorem ST {qs:List Sq} {e:Int} {f:List UInt8} {c:RQ} {a:Oq} (ks:c.ok) (g:a.ok) (d:a.e=0):(KW qs e f c a).ok:=by
 obtain ⟨q,rfl,b,h⟩:=uj g d;unfold KW
 repeat' split
 all_goals first|exact xn _|exact (by decide:(13:Int) ≠ 0)|exact (by decide:(12:Int) ≠ 0)|exact ox (eS ks)|exact ox (Dr b ks).1|exact ox (Dr b ks).2
theorem Wu {a:List Lk} {b:Int} {c:List UInt8}:((Dy a b c).getD (.err 12)).ok:=by
 unfold Dy;cases a.find? _ with
 |none=>exact (by decide:(12:Int) ≠ 0)
 |some x=>exact Dh _ _ _ _
theorem y_ {E:fE} {x:Nd} {l:List Oq} (d:∀ o ∈ l,o.ok):(fg E x l).ok:=by
 unfold fg;split
 .exact Dh _ _ _ _
 .split
  .exact Wu
  .split
   .rename_i a;split
    .exact ST (cV _ _ _) (d a (by simp)) (by assumption)
    .exact d a (by simp)
   .rename_i a b;split
    .split
     .exact N_ (d a (by simp)) (d b (by simp)) (by assumption) (by assumption)
     .exact d b (by simp)
    .exact d a (by simp)
   .rename_i a b c;unfold F3
    repeat' split
    all_goals first|exact (by decide:(13:Int) ≠ 0)|exact d _ (by simp)
   .exact (by decide:(11:Int) ≠ 0)
abbrev Fp (ls:List Lk) (cs:List Sc) (nl ns:Bool) (k1 v1 k2 v2:List AV):Hp:= [(0,⟨[.sl (bP ls) ls.length nl,.sl (iq cs) cs.length ns],0,false,0,0,true⟩),(1,⟨[.mp k1 v1,.mp k2 v2],0,false,0,0,true⟩)]
abbrev Vao (a:Nat) (b:List Nd):Bool:=decide ((a:Int)<(b.length:Int))
abbrev VaR (a:Nat) (b:List (List Nat)):Prop:=(decide ((a:Int)<(b.length:Int)))=true
theorem QN (x:Nd) (o:Oq) (d i h g:Bool) (k:Nat) (a v1 c b q t:List AV) (e:List Nd) (A:List (List Nat)) (f:List Lk) (cs:List Sc) {nt:Nat} (u:56<=nt) (v:(ε ((δ (k:Int))*5) (aO e))=oP x++q) (j:(ε ((δ (k:Int))*1) (aZ A))= [.sl [] 0 false]++t) (r:Vab k) (h0:Va3 k) (n:VaR k A) (p:(Vao k e)=true) (s:lit true (Vao k e)=true) (m:CO 166 [.agg [.mp a v1,.mp c b],.agg [ω x.op,.bool x.neg,.str x.num,.str x.den,.str x.name],.nilS] (Vad o)):ψ nt f118 ⟨[(3,.ptr 0 0 0),(5,.sl (aZ A) A.length g),(7,.ptr 1 0 0),(8,.nilS),(23,.sl (aO e) e.length d),(24,ω (e.length:Int)),(25,ω (k:Int))],(Fp f cs i h a v1 c b),.dead,[]⟩ (.normal) ⟨[(3,.ptr 0 0 0),(5,.sl (aZ A) A.length g),(7,.ptr 1 0 0),(8,.ref 2 0 0 1),(23,.sl (aO e) e.length d),(24,ω (e.length:Int)),(25,ω ((k+1:Nat):Int))],(Fp f cs i h a v1 c b++ [(2,⟨(Vaa o),0,false,0,4,true⟩)]),.dead,[]⟩:=pN 118 [] 3 1 (.k 12 h0 (.c n (.k 6 h0 (.c p (.c s .nil))))) (.v 54 (.eq r) (.c m (.v 32 (.ppt j) (.v 28 (.ppt v) .nil)))) u
theorem QO (g d c a:Bool) (k:Nat) (b v1 j f:List AV) (e:List Nd) (A:List (List Nat)) (h:List Lk) (cs:List Sc) {nt:Nat} (i:56<=nt) (h0:lit false (Vao k e)=true):ψ nt f118 ⟨[(3,.ptr 0 0 0),(5,.sl (aZ A) A.length a),(7,.ptr 1 0 0),(8,.nilS),(23,.sl (aO e) e.length g),(24,ω (e.length:Int)),(25,ω (k:Int))],(Fp h cs d c b v1 j f),.dead,[]⟩ (.exit 0) ⟨[(8,.nilS)],[],.dead,[]⟩:=pN 118 [] 1 0 (.c h0 .nil) (.nil) i
abbrev Va5 (a:List (List Nat)) (b:Bool) (c:List Oq) (d:List Nd) (e:Bool) (f:Nat) (g:List Lk) (h:List Sc) (i:Bool) (j:Bool) (k:List AV) (l:List AV) (m:List AV) (n:List AV):St:=⟨[(3,.ptr 0 0 0),(5,.sl (aZ a) a.length b),(7,.ptr 1 0 0),(8,.ref 2 0 0 c.length),(23,.sl (aO d) d.length e),(24,ω (d.length:Int)),(25,ω (f:Int))],(Fp g h i j k l m n++ [(2,⟨(ld c),0,false,0,4,true⟩)]),.dead,[]⟩
abbrev Va9 (a:List (List Nat)) (b:Bool) (c:List Oq) (d:List Nd) (e:Bool) (f:Nat) (g:List Lk) (h:List Sc) (i:Bool) (j:Bool) (k:List AV) (l:List AV) (m:List AV) (n:List AV) (o:Oq):St:=⟨[(3,.ptr 0 0 0),(5,.sl (aZ a) a.length b),(7,.ptr 1 0 0),(8,.ref 2 0 0 (c.length+1)),(23,.sl (aO d) d.length e),(24,ω (d.length:Int)),(25,ω ((f+1:Nat):Int))],(Fp g h i j k l m n++ [(2,⟨(ld (c++ [o])),0,false,0,4,true⟩)]),.dead,[]⟩
abbrev VaM (a:List Oq) (b:Oq):Prop:=((τ (a.length*4) (ld a))++ (Vaa b))=(ld (a++ [b]))
theorem VX (x:Nd) (o:Oq) (f m j i:Bool) (k:Nat) (b v1 d c r v:List AV) (e:List Nd) (A:List (List Nat)) (os:List Oq) (h:List Lk) (cs:List Sc) {nt:Nat} (w:56<=nt) (y:(ε ((δ (k:Int))*5) (aO e))=oP x++r) (n:(ε ((δ (k:Int))*1) (aZ A))= [.sl [] 0 false]++v) (a:VaM os o) (s:Vab k) (h0:(Xqr (os.length+1) 1099511627776)=true) (q:(Xqr (os.length*4) (θ (ld os)))=true) (g:Va3 k) (t:VaR k A) (u:(Vao k e)=true) (h5:lit true (Vao k e)=true) (p:CO 166 [.agg [.mp b v1,.mp d c],.agg [ω x.op,.bool x.neg,.str x.num,.str x.den,.str x.name],.nilS] (Vad o)):ψ nt f118 (Va5 A i os e f k h cs m j b v1 d c) (.normal) (Va9 A i os e f k h cs m j b v1 d c o):=pN 118 [] 2 1 (.k 1 h0 (.c q (.k 10 g (.c t (.k 6 g (.c u (.c h5 .nil))))))) (.v 54 (.eq s) (.b 53 a (.c p (.v 32 (.ppt n) (.v 28 (.ppt y) .nil))))) w
theorem VY (g d c a:Bool) (k:Nat) (b v1 j f:List AV) (e:List Nd) (A:List (List Nat)) (os:List Oq) (h:List Lk) (cs:List Sc) {nt:Nat} (i:56<=nt) (h0:lit false (Vao k e)=true):ψ nt f118 (Va5 A a os e g k h cs d c b v1 j f) (.exit 0) (IY os.length (ld os)):=pN 118 [] 1 0 (.c h0 .nil) (.nil) i
abbrev Vaz (a:Nat) (b:List Oq):Prop:=(decide ((a:Int)<(b.length:Int)))=true
abbrev VaL (a:Nat) (b:List Oq) (c:Oq) (d:List AV):Prop:=(ε ((0+(δ (a:Int)))*4) (ld b))=EF c++d
theorem VZ (x:Nd) (o a:Oq) (i p q m:Bool) (k c:Nat) (f v1 h g w B s:List AV) (e:List Nd) (A:List (List Nat)) (os:List Oq) (j:List Lk) (cs:List Sc) {nt:Nat} (C:56<=nt) (D:(ε ((δ (k:Int))*5) (aO e))=oP x++w) (r:(ε ((δ (k:Int))*1) (aZ A))= [.sl [ω (c:Int)] 1 false]++B) (b:VaL c os a s) (d:VaM os o) (y:Vab k) (h0:(Xqr (os.length+1) 1099511627776)=true) (u:(Xqr (os.length*4) (θ (ld os)))=true) (v:Va3 c) (z:Vaz c os) (n:Va3 k) (h5:VaR k A) (F:(Vao k e)=true) (h7:lit true (Vao k e)=true) (t:CO 166 [.agg [.mp f v1,.mp h g],.agg [ω x.op,.bool x.neg,.str x.num,.str x.den,.str x.name],.sl (Vaa a) 1 true] (Vad o)):ψ nt f118 (Va5 A m os e i k j cs p q f v1 h g) (.normal) (Va9 A m os e i k j cs p q f v1 h g o):=pN 118 [] 4 3 (.k 1 h0 (.c u (.n 12 (.a (nL [.bool,.str,.str,.int .i64] b rfl) (.c v (.c z (.k 5 n (.c h5 (.k 6 n (.c F (.c h7 .nil))))))))))) (.v 54 (.eq y) (.b 53 d (.c t (.v 43 (.rd [.bool,.str,.str,.int .i64] b rfl) (.v 32 (.ppt r) (.v 28 (.ppt D) .nil)))))) C
theorem V0 (x:Nd) (o c b:Oq) (n r s q:Bool) (k g f:Nat) (i v1 m j B I v J:List AV) (e:List Nd) (A:List (List Nat)) (os:List Oq) (p:List Lk) (cs:List Sc) {nt:Nat} (K:56<=nt) (L:(ε ((δ (k:Int))*5) (aO e))=oP x++B) (u:(ε ((δ (k:Int))*1) (aZ A))= [.sl [ω (g:Int),ω (f:Int)] 2 false]++I) (d:VaL g os c v) (a:VaL f os b J) (h:VaM os o) (C:Vab k) (h0:(Xqr (os.length+1) 1099511627776)=true) (y:(Xqr (os.length*4) (θ (ld os)))=true) (z:Va3 f) (D:Vaz f os) (G:Va3 g) (h5:Vaz g os) (t:Va3 k) (h7:VaR k A) (F:(Vao k e)=true) (H:lit true (Vao k e)=true) (w:CO 166 [.agg [.mp i v1,.mp m j],.agg [ω x.op,.bool x.neg,.str x.num,.str x.den,.str x.name],.sl (Va2 c b) 2 true] (Vad o)):ψ nt f118 (Va5 A q os e n k p cs r s i v1 m j) (.normal) (Va9 A q os e n k p cs r s i v1 m j o):=pN 118 [] 5 11 (.k 1 h0 (.c y (.n 13 (.a (nL [.bool,.str,.str,.int .i64] a rfl) (.c z (.c D (.n 7 (.a (nL [.bool,.str,.str,.int .i64] d rfl) (.c G (.c h5 (.k 5 t (.c h7 (.k 6 t (.c F (.c H .nil))))))))))))))) (.v 54 (.eq C) (.b 53 h (.c w (.v 43 (.rd [.bool,.str,.str,.int .i64] a rfl) (.v 43 (.rd [.bool,.str,.str,.int .i64] d rfl) (.v 32 (.ppt u) (.v 28 (.ppt L) .nil))))))) K
theorem V1 (x:Nd) (o d b f:Oq) (t y z v:Bool) (k j h i:Nat) (p v1 s q I N C O G:List AV) (e:List Nd) (A:List (List Nat)) (os:List Oq) (u:List Lk) (cs:List Sc) {nt:Nat} (Q:56<=nt) (R:(ε ((δ (k:Int))*5) (aO e))=oP x++I) (B:(ε ((δ (k:Int))*1) (aZ A))= [.sl [ω (j:Int),ω (h:Int),ω (i:Int)] 3 false]++N) (g:VaL j os d C) (a:VaL h os b O) (c:VaL i os f G) (m:VaM os o) (J:Vab k) (h0:(Xqr (os.length+1) 1099511627776)=true) (F:(Xqr (os.length*4) (θ (ld os)))=true) (H:Va3 i) (K:Vaz i os) (L:Va3 h) (h5:Vaz h os) (S:Va3 j) (h7:Vaz j os) (w:Va3 k) (M:VaR k A) (r:(Vao k e)=true) (n:lit true (Vao k e)=true) (D:CO 166 [.agg [.mp p v1,.mp s q],.agg [ω x.op,.bool x.neg,.str x.num,.str x.den,.str x.name],.sl [.bool d.n,.str d.a,.str d.d,ω d.e,.bool b.n,.str b.a,.str b.d,ω b.e,.bool f.n,.str f.a,.str f.d,ω f.e] 3 true] (Vad o)):ψ nt f118 (Va5 A v os e t k u cs y z p v1 s q) (.normal) (Va9 A v os e t k u cs y z p v1 s q o):=pN 118 [] 6 27 (.k 1 h0 (.c F (.n 13 (.a (nL [.bool,.str,.str,.int .i64] c rfl) (.c H (.c K (.n 8 (.a (nL [.bool,.str,.str,.int .i64] a rfl) (.c L (.c h5 (.n 7 (.a (nL [.bool,.str,.str,.int .i64] g rfl) (.c S (.c h7 (.k 5 w (.c M (.k 6 w (.c r (.c n .nil))))))))))))))))))) (.v 54 (.eq J) (.b 53 m (.c D (.v 43 (.rd [.bool,.str,.str,.int .i64] c rfl) (.v 43 (.rd [.bool,.str,.str,.int .i64] a rfl) (.v 43 (.rd [.bool,.str,.str,.int .i64] g rfl) (.v 32 (.ppt B) (.v 28 (.ppt R) .nil)))))))) Q
abbrev Vas (a:List Nd) (b:Bool) (c:List Lk) (d:Bool) (e:List Sc) (f:Bool):List AV:=[.sl (aO a) a.length b,.agg [.sl (bP c) c.length d,.sl (iq e) e.length f]]
theorem Zb (d c b f:Bool) (g v1 i h:List AV) (e:List Nd) (A:List (List Nat)) (os:List Oq) (a:List Lk) (cs:List Sc) (j:CO 59 (VaO e d) (.ret (.tup [.sl (aZ A) A.length f,.bool true]))) (m:CO 165 [.agg [.sl (bP a) a.length c,.sl (iq cs) cs.length b]] (.ret (.agg [.mp g v1,.mp i h]))) (k:LB 56 0 f118 ⟨[(0,.sl (aO e) e.length d),(1,.agg [.sl (bP a) a.length c,.sl (iq cs) cs.length b]),(3,.ptr 0 0 0),(4,.nilS),(5,.sl (aZ A) A.length f),(6,.bool true),(7,.ptr 1 0 0),(8,.nilS),(9,.dead),(10,.dead),(11,.dead),(13,.dead),(20,.bool false),(23,.sl (aO e) e.length d),(24,ω (e.length:Int)),(25,ω 0),(26,.dead),(33,.dead),(34,.dead),(35,.dead),(36,.dead)],(Fp a cs c b g v1 i h),.dead,[]⟩ (.normal) (IY os.length (ld os))):CO 118 (Vas e d a c cs b) (.ret (.own (τ (os.length*4) (ld os)) os.length 4)):=pK [0] 1 0 (.n 4 .nil) (.l k (.c m (.c j .nil)))
theorem Zc (a d c:Bool) (e:List Nd) (b:List Lk) (cs:List Sc) (f:CO 59 (VaO e a) (.ret (.tup [.nilS,.bool false]))):CO 118 (Vas e a b d cs c) (.ret (.nilS)):=pK [] 1 1 (.n 1 .nil) (.c f .nil)
theorem YX (o:Oq) (f c b:Bool) (k:Nat) (r:List AV) (e:List Nd) (os:List Oq) (a:List Lk) (cs:List Sc) (d:VaL k os o r) (i:ω (γ .i64 ((os.length:Int) - ((1:Nat):Int)))=ω (k:Int)) (h0:Va3 k) (g:Vaz k os) (h:lit false ((os.length:Int)==((0:Nat):Int))=true) (j:CO 118 (Vas e f a c cs b) (.ret (.own (ld os) os.length 4))):CO 73 (Vas e f a c cs b) (Vad o):=pK [] 1 0 (.n 5 (.a (nL [.bool,.str,.str,.int .i64] d rfl) (.c h0 (.c g (.c h (.n 2 .nil)))))) (.v 18 (.rd [.bool,.str,.str,.int .i64] d rfl) (.v 16 (.eq i) (.c j .nil)))
theorem YW (d c b:Bool) (e:List Nd) (a:List Lk) (cs:List Sc) (g:CO 118 (Vas e d a c cs b) (.ret (.nilS))) (f:CO 119 [ω 11] (.ret (.agg [.bool false,.str [],.str [],ω 11]))):CO 73 (Vas e d a c cs b) (.ret (.agg [.bool false,.str [],.str [],ω 11])):=pK [] 1 1 (.n 8 .nil) (.c f (.c g .nil))
def K6 (E:fE) (A:List (List Nat)):List Nd->List Oq->List Oq
 | [],os=>os
 |x::r,os=>K6 E A r (os++ [fg E x ((A.getD os.length []).map λj=>os.getD j zO)])
def cY (E:fE) (e:List Nd):List Oq:=K6 E (bt e) e []
def gi (E:fE) (e:List Nd):Oq:=if bO e=0 then (cY E e).getLastD (.err 11) else .err 11
theorem CV (l:List Oq):(ld l).length=l.length*4:=MQ EF 4 (λ_=>rfl) l
theorem kV {l:List Oq} {k:Nat} (h:k<l.length):ε ((0+δ (k:Int))*4) (ld l)=EF (l.getD k zO)++ld (l.drop (k+1)):=by
 rw [aF,Ψ,μ,ν h];exact CB EF 4 (λ_=>rfl) h
theorem tK (l:List Oq) (o:Oq):τ (l.length*4) (ld l)++ [.bool o.n,.str o.a,.str o.d,ω o.e]=ld (l++ [o]):=by
 rw [Xqa (by rw [CV];exact κ _)];unfold ld;rw [Xji];rfl
def teO (os:List Oq):AV:=match os with| []=> .nilS|_::_=> .ref 2 0 0 os.length
def teB (os:List Oq):Hp:=match os with| []=> []|_::_=> [(2,⟨ld os,0,false,0,4,true⟩)]
abbrev teS (E:fE) (nl ns ne na:Bool) (e:List Nd) (A:List (List Nat)) (os:List Oq):St:=⟨[(3,.ptr 0 0 0),(5,.sl (aZ A) A.length na),(7,.ptr 1 0 0),(8,teO os),(23,.sl (aO e) e.length ne),(24,ω (e.length:Int)),(25,ω (os.length:Int))],Fp E.ls (E.qs.map Sq.c) nl ns (uG E.ls).1 (uG E.ls).2 (xj (E.qs.map Sq.c)).1 (xj (E.qs.map Sq.c)).2++teB os,.dead,[]⟩
def UI (os:List Oq):St:=match os with| []=> ⟨[(8,.nilS)],[],.dead,[]⟩|_::_=>(IY os.length (ld os))
theorem Pv (E:fE) (d c f b:Bool) (e:List Nd) (A:List (List Nat)) (os:List Oq) (o:Oq):teS E d c f b e A (os++ [o])=⟨[(3,.ptr 0 0 0),(5,.sl (aZ A) A.length b),(7,.ptr 1 0 0),(8,.ref 2 0 0 (os.length+1)),(23,.sl (aO e) e.length f),(24,ω (e.length:Int)),(25,ω ((os.length+1:Nat):Int))],Fp E.ls (E.qs.map Sq.c) d c (uG E.ls).1 (uG E.ls).2 (xj (E.qs.map Sq.c)).1 (xj (E.qs.map Sq.c)).2++ [(2,⟨ld (os++ [o]),0,false,0,4,true⟩)],.dead,[]⟩:=by
 cases os with
 |nil=>rfl
 |cons a r=>
  show (⟨[(3,_),(5,_),(7,_),(8,.ref 2 0 0 (a::r++ [o]).length),(23,_),(24,_),(25,ω (((a::r++ [o]).length:Nat):Int))],_,_,_⟩:St)=_;rw [show (a::r++ [o]).length=(a::r).length+1 from ξ];rfl
theorem zX (E:fE) (d c f b:Bool) (e:List Nd) (A:List (List Nat)) {os:List Oq} (h:0<os.length):teS E d c f b e A os=⟨[(3,.ptr 0 0 0),(5,.sl (aZ A) A.length b),(7,.ptr 1 0 0),(8,.ref 2 0 0 os.length),(23,.sl (aO e) e.length f),(24,ω (e.length:Int)),(25,ω (os.length:Int))],Fp E.ls (E.qs.map Sq.c) d c (uG E.ls).1 (uG E.ls).2 (xj (E.qs.map Sq.c)).1 (xj (E.qs.map Sq.c)).2++ [(2,⟨ld os,0,false,0,4,true⟩)],.dead,[]⟩:=by
 cases os with
 |nil=>simp at h
 |cons a r=>rfl
theorem Je {x:Nd} (h:aJ x=0):Pn x:=by
 intro c d;have a:fX x=true:=by
  cases e:fX x with
  |true=>rfl
  |false=>
   exfalso;unfold aJ at h;rw [e] at h;cases b:(!Q6 x.op||(!Ey x.op && !(x.name== [])))<;>rw [b] at h<;>cases h
 unfold fX at a;rw [show (x.op==((4:Nat):Int))=false from beq_eq_false_iff_ne.2 (by omega),show Ek x.op=false from Yq1 (by omega),show Hk x.op=true from Yq0 ⟨c,d⟩] at a;simp only [cond,π] at a;exact ⟨a.1,by have:=of_decide_eq_true a.2;omega⟩
theorem HL:∀ (r:List Nd) (d k:Nat),jQ r d= .inl k->∀ x ∈ r,aJ x=0
 | [],_,_,_,x,hx=>by cases hx
 | y::r,d,k,h,x,hx=>by
  simp only [jQ] at h;split at h
  .rename_i a;split at h
   .cases h
   .rcases List.mem_cons.1 hx with rfl|hx
    .exact a
    .exact HL r _ k h x hx
  .cases h
theorem mG {e:List Nd} (h:bO e=0):(∀ x ∈ e,aJ x=0)/\e.length<=60/\0<e.length:=by
 unfold bO at h;split at h
 .cases h
 .rename_i b;cases a:jQ e 0 with
  |inl d=>
   refine ⟨HL e 0 d a,by omega, ?_⟩;cases e with
   |nil=>simp only [jQ] at a;cases a;simp [jQ] at h
   |cons _ _=>simp
  |inr w=>
   rw [a] at h;exact absurd h (Ch _ _ _ a)
structure fE.sm (E:fE):Prop where
 ls:E.ls.length<2^40
 qs:E.qs.length<2^40
 lk:∀ x ∈ E.ls,x.a.length<2^36/\x.d.length<2^36
 sq:E.qs= []
theorem SZ {nt:Nat} (G:56<=nt) (E:fE) (B z u w:Bool) {e:List Nd} (hE:E.sm) (Y:bO e=0) (W:∀ x ∈ e,x.sm):∀ (r p:List Nd) (os:List Oq),e=p++r->os.length=p.length->(∀ o ∈ os,o.ok)->
  aB prog ap [] nt (af 0 (am f118)) (λ_=> .exit 0) (teS E B z u w e (bt e)) UI os (K6 E (bt e) r os):=by
 obtain ⟨hw,h60,Z⟩:=mG Y;obtain ⟨hal,U⟩:=kC Y;intro r
 induction r with
 |nil=>
  intro p os hp f F;rw [Xqd] at hp;subst hp;cases os with
  |nil=>exact .done (QO u B z w 0 _ _ _ _ e (bt e) E.ls (E.qs.map Sq.c) G (aw (Yq1 (by simp at f;omega))))
  |cons a r=>exact .done (VY u B z w (a::r).length _ _ _ _ e (bt e) (a::r) E.ls (E.qs.map Sq.c) G (aw (Yq1 (by omega))))
 | cons x r ih=>
  intro p os hp f F;have J:os.length<e.length:=by rw [hp,f];simp
  have L:e[os.length]=x:=by subst hp;simp [f]
  have D:x ∈ e:=by rw [<- L];exact Xxv J
  have O:ε (δ (os.length:Int)*5) (aO e)=oP x++aO r:=by subst hp;exact xd f
  obtain ⟨b,c⟩:=U os.length x (by rw [ν J,L]);have I:=nI (A:=bt e) (k:=os.length) (by omega);have v:=qc (hw x D);have t:=λ(nn:Bool) (l:List Oq) (V:l.length=gb x.op) (hk:∀ o ∈ l,o.ok)=>Mj E x nn l v.1 v.2 (Je (hw x D)) V hk (W x D) hE.sq
  have M:∀ j,(os.getD j zO).ok\/os.length<=j:=λj=>by
   rcases Xjg j os.length with h|h
   .left;rw [μ,ν h];exact F _ (Xxv h)
   .exact .inr h
  have d:∀ j ∈ (bt e).getD os.length [],(os.getD j zO).ok:=λj Q=>(M j).resolve_right (by have:=c j Q;omega)
  have H:∀ l:List Nat,(∀ j ∈ l,(os.getD j zO).ok)->∀ o ∈ os++ [fg E x (l.map λj=>os.getD j zO)],o.ok:=λl V o y=>by
   rcases List.mem_append.1 y with y|y
   .exact F o y
   .rw [Xwh] at y;subst y;exact y_ λo y=>by
     obtain ⟨j,Q,rfl⟩:=List.mem_map.1 y;exact V j Q
  have nx:=ih (p++ [x]) (os++ [fg E x (((bt e).getD os.length []).map λj=>os.getD j zO)]) (by rw [hp];simp) (by simp [f]) (H _ d);refine .next ?_ nx
  rw [Pv];have N:decide (((0:Nat):Int)<=(os.length:Int))=true:=Yq0 (by omega);have K:decide ((os.length:Int)<(((bt e).length:Nat):Int))=true:=Yq0 (by omega);have s:decide ((os.length:Int)<(e.length:Int))=true:=Yq0 (by omega);have m:=sC (i:=os.length) (by omega);have R:Xqr (os.length+1) 1099511627776=true:=Xqc (by omega);have S:Xqr (os.length*4) (θ (ld os))=true:=Xqc (by rw [CV];exact κ _);have g:∀ j,j<os.length->decide (((0:Nat):Int)<=(j:Int))=true/\decide ((j:Int)<(os.length:Int))=true:=λj Q=> ⟨Yq0 (by omega),Yq0 (by omega)⟩
  generalize (bt e).getD os.length []=al at*
  have h3:=FM x.op
  match al,b with
  | [],b=>
   have X:=(t false [] b (by simp)).args (fA.cons (bC.refl _) (fA.cons (bC.refl _) (fA.cons (bC.nilS false rfl) (fA.refl _))));cases os with
   |nil=>exact QN x _ u B z w 0 _ _ _ _ _ _ e (bt e) E.ls (E.qs.map Sq.c) G O I m N K s (ax s) X
   |cons a q=>
    exact VX x _ u B z w _ _ _ _ _ _ _ e (bt e) (a::q) E.ls (E.qs.map Sq.c) G O I (tK _ _) m R S N K s (ax s) X
  | [i],b=>
   have n:=c i (by simp);rw [zX _ _ _ _ _ _ _ (by omega)];exact VZ x _ (os.getD i zO) u B z w _ i _ _ _ _ _ _ _ e (bt e) os E.ls (E.qs.map Sq.c) G O I (kV n) (tK _ _) m R S (g i n).1 (g i n).2 N K s (ax s) (t true [os.getD i zO] b (by simpa using d i (by simp)))
  | [i,j],b=>
   have n:=c i (by simp);have C:=c j (by simp);rw [zX _ _ _ _ _ _ _ (by omega)];exact V0 x _ (os.getD i zO) (os.getD j zO) u B z w _ i j _ _ _ _ _ _ _ _ e (bt e) os E.ls (E.qs.map Sq.c) G O I (kV n) (kV C) (tK _ _) m R S (g j C).1 (g j C).2 (g i n).1 (g i n).2 N K s (ax s) (t true [os.getD i zO,os.getD j zO] b (by
    intro o f;simp at f;rcases f with rfl|rfl
    .exact d i (by simp)
    .exact d j (by simp)))
  | [i,j,h],b=>
   have n:=c i (by simp);have C:=c j (by simp);have T:=c h (by simp);rw [zX _ _ _ _ _ _ _ (by omega)];exact V1 x _ (os.getD i zO) (os.getD j zO) (os.getD h zO) u B z w _ i j h _ _ _ _ _ _ _ _ _ e (bt e) os E.ls (E.qs.map Sq.c) G O I (kV n) (kV C) (kV T) (tK _ _) m R S (g h T).1 (g h T).2 (g j C).1 (g j C).2 (g i n).1 (g i n).2 N K s (ax s) (t true [os.getD i zO,os.getD j zO,os.getD h zO] b (by
    intro o f;simp at f;rcases f with rfl|rfl|rfl
    .exact d i (by simp)
    .exact d j (by simp)
    .exact d h (by simp)))
  |_::_::_::_::_,b=>simp only [ο] at b;omega
theorem xm (E:fE) (A:List (List Nat)):∀ (r:List Nd) (os:List Oq),(K6 E A r os).length=os.length+r.length
 | [],os=>by simp [K6]
 |x::r,os=>by rw [K6,xm E A r];simp;omega
theorem JX (E:fE) (d c a:Bool) {e:List Nd} (f:bO e ≠ 0) (b:∀ x ∈ e,x.sm):CO 118 [.sl (aO e) e.length a,.agg [.sl (bP E.ls) E.ls.length d,.sl (iq (E.qs.map Sq.c)) (E.qs.map Sq.c).length c]] (.ret .nilS):=
 Zc a d c e E.ls (E.qs.map Sq.c) (Tu e a (bO e) [] (by rw [show (bO e==((0:Nat):Int))=false from beq_eq_false_iff_ne.2 f];rfl) (oW e a b))
theorem JY (E:fE) (c b d:Bool) {e:List Nd} (g:E.sm) (i:bO e=0) (f:∀ x ∈ e,x.sm):CO 118 [.sl (aO e) e.length d,.agg [.sl (bP E.ls) E.ls.length c,.sl (iq (E.qs.map Sq.c)) (E.qs.map Sq.c).length b]] (.ret (.own (ld (cY E e)) (cY E e).length 4)):=by
 have j:(cY E e).length=e.length:=by unfold cY;rw [xm];simp
 have k:=(mG i).2.2;have n:=Mk E.ls (E.qs.map Sq.c) c b (Xzf g.ls (by decide)) (by rw [Xqp];exact Xzf g.qs (by decide)) g.lk;have m:∀ nt,56<=nt->aB prog ap [] nt (af 0 (am f118)) (λ_=> .exit 0) (teS E c b d true e (bt e)) UI [] (cY E e):=λnt p=>SZ p E c b d true g i f e [] [] rfl rfl (by simp)
 have o:=aB.blk (id:=0) (e':= .normal) (s:=⟨[(0,.sl (aO e) e.length d),(1,.agg [.sl (bP E.ls) E.ls.length c,.sl (iq (E.qs.map Sq.c)) (E.qs.map Sq.c).length b]),(3,.ptr 0 0 0),(4,.nilS),(5,.sl (aZ (bt e)) (bt e).length true),(6,.bool true),(7,.ptr 1 0 0),(8,.nilS),(9,.dead),(10,.dead),(11,.dead),(13,.dead),(20,.bool false),(23,.sl (aO e) e.length d),(24,ω (e.length:Int)),(25,ω 0),(26,.dead),(33,.dead),(34,.dead),(35,.dead),(36,.dead)],Fp E.ls (E.qs.map Sq.c) c b (uG E.ls).1 (uG E.ls).2 (xj (E.qs.map Sq.c)).1 (xj (E.qs.map Sq.c)).2,.dead,[]⟩) (s':=(IY ((cY E e).length) (ld (cY E e)))) m (by simp) rfl (aD.of ⟨rfl,rfl,rfl,rfl,rfl,rfl,rfl,trivial⟩) (by
  generalize cY E e=t at j;cases t with
  |nil=>simp at j;omega
  |cons a r=>exact aD.refl _)
 have h:=Zb d c b true _ _ _ _ e (bt e) (cY E e) E.ls (E.qs.map Sq.c) (xJ e d f i) n o;rw [Xqa (by rw [CV];exact κ _)] at h;exact h
theorem Mh (E:fE) (b a c:Bool) {e:List Nd} (j:E.sm) (d:∀ x ∈ e,x.sm):CO 73 [.sl (aO e) e.length c,.agg [.sl (bP E.ls) E.ls.length b,.sl (iq (E.qs.map Sq.c)) (E.qs.map Sq.c).length a]] (.ret (dE (gi E e))):=by
 unfold gi;by_cases hc:bO e=0
 .rw [if_pos hc];have i:=JY E b a c j hc d;have k:(cY E e).length=e.length:=by unfold cY;rw [xm];simp
  obtain ⟨_,h,g⟩:=mG hc;have f:(cY E e).length - 1<(cY E e).length:=by omega
  have hlast:(cY E e).getLastD (.err 11)=(cY E e).getD ((cY E e).length - 1) zO:=by
   rw [Xwv,Xv1,μ,ν f];rfl
  rw [hlast];refine YX _ c b a ((cY E e).length - 1) _ e (cY E e) E.ls (E.qs.map Sq.c) (kV f) ?_ (Yq0 (by omega)) (Yq0 (by omega)) ?_ i
  .congr 1;rw [show (((cY E e).length:Nat):Int) - ((1:Nat):Int)=(((cY E e).length - 1:Nat):Int) by omega];exact bi (by omega)
  .rw [show ((((cY E e).length:Nat):Int)==((0:Nat):Int))=false from beq_eq_false_iff_ne.2 (by omega)];rfl
 .rw [if_neg hc];exact YW c b a e E.ls (E.qs.map Sq.c) (JX E b a c hc d) (gL 11)
end Go.Proofs.Tryz
set_option maxRecDepth 100000
set_option linter.unusedVariables false
open Go AM
namespace AM
variable {P:Program} {ap:AP}
theorem aB.goD {α σ β:Type} {h0:List aM} {nt:Nat} {b:Code} {e:β->a_} {c:Nat × σ->St} {out:β->St} (F:σ->α->σ ⊕ β) (a:σ->β) (L:List α) (Inv:List α->σ->Prop)
  (hstep:∀ p x r s,L=p++x::r->Inv p s->(∃ s',F s x= .inl s'/\ag P ap h0 nt b (c (p.length,s)) .normal (c (p.length+1,s'))/\Inv (p++ [x]) s')\/∃ q,F s x= .inr q/\ag P ap h0 nt b (c (p.length,s)) (e q) (out q))
  (hend:∀ s,Inv L s->ag P ap h0 nt b (c (L.length,s)) (e (a s)) (out (a s))) (s:σ) (h:Inv [] s):aB P ap h0 nt b e c out (0,s) (AM.goL F a L s):=by
 refine aB.goL F a L Inv ?_ hend L [] s rfl h;intro p x r s i j;rcases hstep p x r s i j with ⟨s',d,f,g⟩|⟨q,d,f⟩
 .rw [d];exact ⟨f,g⟩
 .rw [d];exact f
end AM
namespace Go.Proofs.Tryz
theorem kH {α:Type} {f:α->List AV} {n:Nat} (a:∀ x,(f x).length=n) (l:List α):(l.flatMap f).length=l.length*n:=by
 induction l with
 |nil=>simp
 |cons x r ih=>rw [Xxw,ξ,ih,a,ο,Xvx];omega
theorem cQ {α:Type} {f:α->List AV} {n:Nat} (a:∀ x,(f x).length=n) {p r l:List α} {x:α} (h:l=p++x::r):ε (δ (p.length:Int)*n) (l.flatMap f)=f x++r.flatMap f:=by
 subst h;rw [aF,Xji,<- kH a p,Xv0,Xxw]
theorem Q0 {α:Type} {f:α->List AV} {n:Nat} (a:∀ x,(f x).length=n) (l:List α) (x:α) {k:Nat} (h:l.length=k):τ (k*n) (l.flatMap f)++f x=(l++ [x]).flatMap f:=by
 rw [Xqa (by rw [kH a,h];exact κ _),Xji,Xxw,List.flatMap_nil,Xqd]
theorem k0 (k:Nat):decide (((0:Nat):Int)<=(k:Int))=true:=Yq0 (by omega)
theorem kl {k n:Nat} (h:k<n):decide ((k:Int)<(n:Int))=true:=Yq0 (by omega)
theorem kn {k n:Nat} (h:n<=k):decide ((k:Int)<(n:Int))=false:=Yq1 (by omega)
theorem mV {α:Type} {p r l:List α} {x:α} (h:l=p++x::r):p.length<l.length:=by subst h;simp
theorem FD {k:Nat} (h:k<2^62):ω (γ .i64 ((k:Int)+((1:Nat):Int)))= ω ((k+1:Nat):Int):=by
 have e:γ .i64 ((k:Int)+((1:Nat):Int))=((k+1:Nat):Int):=by rw [cf]<;>omega
 rw [e]
structure Rw where
 n:Bool
 a:List UInt8
 d:List UInt8
deriving DecidableEq
abbrev Rw.c (x:Rw):List AV:= [.bool x.n,.str x.a,.str x.d]
abbrev Rw.v (x:Rw):RQ:=vQ x.n x.a x.d
def cg (l:List Rw):List AV:=l.flatMap Rw.c
theorem SL (x:Rw):x.c.length=3:=rfl
theorem jp (l:List Rw):(cg l).length=l.length*3:=kH SL l
def JU (x y:Rw):Bool:=(x.n==y.n) && ((x.a==y.a) && ((x.d==y.d) && true))
theorem QE {x y:Rw}:JU x y=decide (x=y):=by
 obtain ⟨n,a,d⟩:=x;obtain ⟨m,b,e⟩:=y;simp only [JU,Xwo,Rw.mk.injEq];rw [Xzv];simp
def Y8 (_:Unit) (x:Rw × Rw):Unit ⊕ Bool:=if JU x.1 x.2 then .inl () else .inr false
theorem jf {α β:Type} {a:List α} {b:List β} (e:a.length=b.length) {p r:List (α × β)} {x:α} {y:β} (h:a.zip b=p++(x,y)::r):a=p.map (·.1)++x::r.map (·.1)/\b=p.map (·.2)++y::r.map (·.2):=by
 have c:=congrArg (Xz0 Prod.fst) h;have d:=congrArg (Xz0 Prod.snd) h;rw [List.map_fst_zip (by omega)] at c;rw [List.map_snd_zip (by omega)] at d;simp only [Xq5,Xqf] at c d;exact ⟨c,d⟩
theorem Ct:∀ {a b:List Rw},a.length=b.length->goL Y8 (λ_=>true) (a.zip b) ()=decide (a=b)
 | [],[],_=>rfl
 |x::a,y::b,h=>by
  have c:=Ct (a:=a) (b:=b) (by simpa using h);simp only [Xzj,goL,Y8,QE];by_cases e:x=y
  .simp only [e,decide_true,if_true,List.cons.injEq,true_and];exact c
  .simp [e]
 | [],_::_,h=>by simp at h
 |_::_,[],h=>by simp at h
theorem Mz (x y:Rw):CO 83 [.agg x.c,.agg y.c] (.ret (.bool (JU x y))):=pK [] 0 0 (.n 6 .nil) (.nil)
def MD (a b:List Rw) (na nb:Bool) (p:Nat × Unit):St:=⟨[(0,.sl (cg a) a.length na),(1,.sl (cg b) b.length nb),(2,.fn 83 [] []),(15,.sl (cg a) a.length na),(16,ω (a.length:Int)),(17,ω (p.1:Int))],[],.dead,[]⟩
def Lm:Bool->a_
 |true=> .exit 0
 |false=> .ret
def MC:Bool->St
 |true=>tW
 |false=>(Fb false)
theorem ME {nt:Nat} (f:32<=nt) (a b:List Rw) (d g:Bool) (e:a.length=b.length) (n:a.length<2^40):aB prog ap [] nt (af 0 (am f129)) Lm (MD a b d g) MC (0,()) (decide (a=b)):=by
 rw [<- Ct e];have t:(a.zip b).length=a.length:=by rw [Xzg];omega
 refine aB.goD Y8 (λ_=>true) (a.zip b) (λ_ _=>True) ?_ ?_ () trivial
 .rintro p ⟨x,y⟩ r _ hL _
  obtain ⟨i,m⟩:=jf e hL;have h:(ε ((δ (p.length:Int))*3) (cg a))=x.c++cg (r.map (·.1)):=by have:=cQ SL i;rwa [Xqp] at this
  have j:(ε ((δ (p.length:Int))*3) (cg b))=y.c++cg (r.map (·.2)):=by have:=cQ SL m;rwa [Xqp] at this
  have c:(decide ((p.length:Int)<(a.length:Int)))=true:=kl (by have:=mV hL;omega);have o:(decide ((p.length:Int)<(b.length:Int)))=true:=by rw [<- e];exact c
  have s:p.length<2^62:=by have:=mV hL;omega
  show (∃ s',_/\ag _ _ _ _ _ (MD a b d g (p.length,())) _ _/\_)\/∃ q,_/\ag _ _ _ _ _ (MD a b d g (p.length,())) _ _;generalize p.length=k at*
  clear hL i m;rcases tf (JU x y) with b0|b0
  .exact .inl ⟨_,by simp only [Y8,b0,if_true];rfl,pN 129 [] 2 1 (.c (aI b0) (.k 10 (k0 k) (.c o (.k 4 (k0 k) (.c c (.c (ax c) .nil)))))) (.v 31 (.eq (FD s)) (.c (Mz x y) (.v 24 (.ppt j) (.v 20 (.ppt h) .nil)))) f,trivial⟩
  .exact .inr ⟨_,by simp only [Y8,b0,Xqy,if_false];rfl,pN 129 [] 2 3 (.c (bu b0) (.k 10 (k0 k) (.c o (.k 4 (k0 k) (.c c (.c (ax c) .nil)))))) (.c (Mz x y) (.v 24 (.ppt j) (.v 20 (.ppt h) .nil))) f⟩
 .intro _ _;rw [t];exact pN 129 [] 1 0 (.c (aw (kn (κ a.length))) .nil) (.nil) f
theorem VQ (a b:List Rw) (c e:Bool) (f:a.length<2^40):CO 129 [.sl (cg a) a.length c,.sl (cg b) b.length e,.fn 83 [] []] (.ret (.bool (decide (a=b)))):=by
 by_cases hl:a.length=b.length
 .have g:((a.length:Int)==(b.length:Int))=true:=by rw [hl];exact beq_self_eq_true _
  have hloop:=λnt (hn:32<=nt)=>ME hn a b c e hl f
  cases hd:decide (a=b) with
  |true=>
   rw [hd] at hloop;have j:=aB.blk (id:=0) (e':= .normal) (s:=MD a b c e (0,())) (s':=MC true) hloop (by simp [Lm]) rfl (aD.refl _) (aD.refl _);have i:LB 32 0 f129 (IZ (.sl (cg a) a.length c) (.sl (cg b) b.length e) (.fn 83 [] []) (!((a.length:Int)==(b.length:Int))) (.sl (cg a) a.length c) a.length) (.normal) tW:=(λnt d=>(j nt d).weak (aD.of ⟨rfl,rfl,rfl,rfl,rfl,rfl,trivial⟩) (aD.refl _))
   exact pK [0] 1 0 (.c (aI g) .nil) (.l i .nil)
  |false=>
   rw [hd] at hloop;have j:=aB.blk (id:=0) (e':= .ret) (s:=MD a b c e (0,())) (s':=MC false) hloop (by simp [Lm]) rfl (aD.refl _) (aD.refl _);have i:LB 32 0 f129 (IZ (.sl (cg a) a.length c) (.sl (cg b) b.length e) (.fn 83 [] []) (!((a.length:Int)==(b.length:Int))) (.sl (cg a) a.length c) a.length) (.ret) (Fb false):=(λnt d=>(j nt d).weak (aD.of ⟨rfl,rfl,rfl,rfl,rfl,rfl,trivial⟩) (aD.refl _))
   exact pK [0] 1 0 (.c (aI g) .nil) (.l i .nil)
 .have g:((a.length:Int)==(b.length:Int))=false:=beq_eq_false_iff_ne.2 (by omega);rw [Yq1 (λh=>hl (by rw [h]))];exact pK [0] 1 1 (.c (bu g) .nil) (.nil)
theorem Cz (a b:List Rw) (d e:Bool) (c:a.length<2^40):CO 45 [.sl (cg a) a.length d,.sl (cg b) b.length e] (.ret (.bool (decide (a=b)))):=
 have h:CO 82 [.sl (cg a) a.length d,.sl (cg b) b.length e,.fn 83 [] []] (.ret (.bool (decide (a=b)))):=pK [] 0 0 .nil (.c (VQ a b d e c) .nil)
 pK [] 0 0 .nil (.c h .nil)
abbrev dh (v:List Rw):AV:= .sl (cg v) v.length false
def lV (c:List (List Rw)):List AV:=c.flatMap λv=> [dh v]
theorem ch1 (v:List Rw):([dh v]:List AV).length=1:=rfl
theorem wP (l:List (List Rw)):lV l=l.map dh:=by
 induction l with
 |nil=>rfl
 |cons x l ih=>rw [Xqf,<- ih];rfl
def MA (_:Unit) (x:List Rw × List Rw):Unit ⊕ Bool:=if (decide (x.1=x.2)) then .inl () else .inr false
theorem yd:∀ {a b:List (List Rw)},a.length=b.length->goL MA (λ_=>true) (a.zip b) ()=decide (a=b)
 | [],[],_=>rfl
 |x::a,y::b,h=>by
  have c:=yd (a:=a) (b:=b) (by simpa using h);simp only [Xzj,goL,MA];by_cases e:x=y
  .simp only [e,decide_true,if_true,List.cons.injEq,true_and];exact c
  .simp [e]
 | [],_::_,h=>by simp at h
 |_::_,[],h=>by simp at h
def D6 (a b:List (List Rw)) (na nb:Bool) (p:Nat × Unit):St:=⟨[(0,.sl (lV a) a.length na),(1,.sl (lV b) b.length nb),(2,.fn 45 [] []),(15,.sl (lV a) a.length na),(16,ω (a.length:Int)),(17,ω (p.1:Int))],[],.dead,[]⟩
def VP:Bool->a_
 |true=> .exit 0
 |false=> .ret
def Gh:Bool->St
 |true=>tW
 |false=>(Fb false)
theorem JV {nt:Nat} (i:32<=nt) (a b:List (List Rw)) (e j:Bool) (g:a.length=b.length) (t:a.length<2^40) (f:∀ v ∈ a,v.length<2^40):aB prog ap [] nt (af 0 (am f84)) VP (D6 a b e j) Gh (0,()) (decide (a=b)):=by
 rw [<- yd g];have u:(a.zip b).length=a.length:=by rw [Xzg];omega
 refine aB.goD MA (λ_=>true) (a.zip b) (λ_ _=>True) ?_ ?_ () trivial
 .rintro p ⟨x,y⟩ r _ hL _
  obtain ⟨h,s⟩:=jf g hL;have m:(ε ((δ (p.length:Int))*1) (lV a))= [dh x]++lV (r.map (·.1)):=by have:=cQ ch1 h;rwa [Xqp] at this
  have o:(ε ((δ (p.length:Int))*1) (lV b))= [dh y]++lV (r.map (·.2)):=by have:=cQ ch1 s;rwa [Xqp] at this
  have c:(decide ((p.length:Int)<(a.length:Int)))=true:=kl (by have:=mV hL;omega);have n:(decide ((p.length:Int)<(b.length:Int)))=true:=by rw [<- g];exact c
  have d:x.length<2^40:=f x (by rw [h];simp);have w:p.length<2^62:=by have:=mV hL;omega
  show (∃ s',_/\ag _ _ _ _ _ (D6 a b e j (p.length,())) _ _/\_)\/∃ q,_/\ag _ _ _ _ _ (D6 a b e j (p.length,())) _ _;generalize p.length=k at*
  clear hL h s;rcases tf (decide (x=y)) with b0|b0
  .exact .inl ⟨_,by simp only [MA,b0,if_true];rfl,pN 84 [] 2 1 (.c (aI b0) (.k 1 (k0 k) (.c n (.k 1 (k0 k) (.c c (.c (ax c) .nil)))))) (.v 31 (.eq (FD w)) (.c (Cz x y false false d) (.v 24 (.ppt o) (.v 20 (.ppt m) .nil)))) i,trivial⟩
  .exact .inr ⟨_,by simp only [MA,b0,Xqy,if_false];rfl,pN 84 [] 2 3 (.c (bu b0) (.k 1 (k0 k) (.c n (.k 1 (k0 k) (.c c (.c (ax c) .nil)))))) (.c (Cz x y false false d) (.v 24 (.ppt o) (.v 20 (.ppt m) .nil))) i⟩
 .intro _ _;rw [u];exact pN 84 [] 1 0 (.c (aw (kn (κ a.length))) .nil) (.nil) i
theorem QF (a b:List (List Rw)) (c e:Bool) (f:a.length<2^40) (i:∀ v ∈ a,v.length<2^40):CO 84 [.sl (lV a) a.length c,.sl (lV b) b.length e,.fn 45 [] []] (.ret (.bool (decide (a=b)))):=by
 by_cases hl:a.length=b.length
 .have g:((a.length:Int)==(b.length:Int))=true:=by rw [hl];exact beq_self_eq_true _
  have hloop:=λnt (hn:32<=nt)=>JV hn a b c e hl f i
  cases hd:decide (a=b) with
  |true=>
   rw [hd] at hloop;have k:=aB.blk (id:=0) (e':= .normal) (s:=D6 a b c e (0,())) (s':=Gh true) hloop (by simp [VP]) rfl (aD.refl _) (aD.refl _);have j:LB 32 0 f84 (IZ (.sl (lV a) a.length c) (.sl (lV b) b.length e) (.fn 45 [] []) (!((a.length:Int)==(b.length:Int))) (.sl (lV a) a.length c) a.length) (.normal) tW:=(λnt d=>(k nt d).weak (aD.of ⟨rfl,rfl,rfl,rfl,rfl,rfl,trivial⟩) (aD.refl _))
   exact pK [0] 1 0 (.c (aI g) .nil) (.l j .nil)
  |false=>
   rw [hd] at hloop;have k:=aB.blk (id:=0) (e':= .ret) (s:=D6 a b c e (0,())) (s':=Gh false) hloop (by simp [VP]) rfl (aD.refl _) (aD.refl _);have j:LB 32 0 f84 (IZ (.sl (lV a) a.length c) (.sl (lV b) b.length e) (.fn 45 [] []) (!((a.length:Int)==(b.length:Int))) (.sl (lV a) a.length c) a.length) (.ret) (Fb false):=(λnt d=>(k nt d).weak (aD.of ⟨rfl,rfl,rfl,rfl,rfl,rfl,trivial⟩) (aD.refl _))
   exact pK [0] 1 0 (.c (aI g) .nil) (.l j .nil)
 .have g:((a.length:Int)==(b.length:Int))=false:=beq_eq_false_iff_ne.2 (by omega);rw [Yq1 (λh=>hl (by rw [h]))];exact pK [0] 1 1 (.c (bu g) .nil) (.nil)
theorem MR (a b:List (List Rw)) (e f:Bool) (c:a.length<2^40) (d:∀ v ∈ a,v.length<2^40):CO 46 [.sl (lV a) a.length e,.sl (lV b) b.length f,.fn 45 [] []] (.ret (.bool (decide (a=b)))):=pK [] 0 0 .nil (.c (QF a b e f c d) .nil)
theorem GU {a b:Nat} (c:a<18446744073709551616) (d:b<18446744073709551616):Xxd (Xqg (Φ .i64) (a:Int)|||Xqg (Φ .i64) (b:Int))=a|||b:=Cc (w:=64) c d
theorem Z6 {b a:Nat} (h:b<4294967296):b|||4294967296*a=b+4294967296*a:=by
 have:=Nat.two_pow_add_eq_or_of_lt (i:=32) (by simpa using h) a;rw [Nat.or_comm];have e:(2:Nat)^32=4294967296:=by decide
 rw [e] at this;omega
def oK (x:Nat):Int × Bool:=if x<9223372036854775808 then (x,true) else (0,false)
theorem Kk (x:Nat) (t:(ae x).length<2^36):CO 117 [.str (ae x)] (.ret (.tup [ω (oK x).1,.bool (oK x).2])):=by
 have h:=GS (ae x) (by omega);rw [aE] at h;unfold dS at h;have p:=ji x;have f:=λk (e:(digs x).length=k+1)=>Cm e
 have i:=cO x;have d:∀ k,(digs x).getD k 0<4294967296:=λk=>by rw [oZ];exact Nat.mod_lt _ (by decide)
 generalize digs x=ds at*
 match ds with
 | []=>
  have:x=0:=by simpa [aC] using i.symm
  subst this;have h:CO 164 [.str (ae 0)] (.ret (.sl [] 0 false)):=h;exact pK [] 4 0 (.n 4 .nil) (.c h .nil)
 | [lo]=>
  have e:x=lo:=by rw [<- i];simp [aC]
  have h0:lo<4294967296:=d 0;have h:CO 164 [.str (ae x)] (.ret (.sl [.int .u32 (lo:Int)] 1 false)):=h;have g:CO 117 [.str (ae x)] (.ret (.tup [ω (γ .i64 (Xxd (Xqg (Φ .i64) ((0:Nat):Int)|||Xqg (Φ .i64) (γ .i64 ((γ .i64 (lo:Int))*2^(min 0 64)))))),.bool true])):=pK [] 5 8 (.n 9 .nil) (.c h .nil);have w0:γ .i64 (lo:Int)=(lo:Int):=bi (by omega);rw [show min 0 64=0 from rfl,Yjb,w0,Yjq,w0,GU (by omega) (by omega),Yjr,w0] at g;unfold oK;rw [if_pos (by omega),e];rw [e] at g;exact g
 | [lo,hi]=>
  have e:x=lo+4294967296*hi:=by rw [<- i];simp [aC]
  have h0:lo<4294967296:=d 0;have s:hi<4294967296:=d 1;have h:CO 164 [.str (ae x)] (.ret (.sl [.int .u32 (lo:Int),.int .u32 (hi:Int)] 2 false)):=h;rcases tf (decide (((2147483647:Nat):Int)<(hi:Int))) with b0|b0
  .have:¬ x<9223372036854775808:=by have:=of_decide_eq_true b0;omega
   unfold oK;rw [if_neg this];exact pK [] 3 6 (.c (ax b0) (.n 5 .nil)) (.c h .nil)
  .have q:hi<=2147483647:=by have:=of_decide_eq_false b0;omega
   have g:CO 117 [.str (ae x)] (.ret (.tup [ω (γ .i64 (Xxd (Xqg (Φ .i64) (γ .i64 (Xxd (Xqg (Φ .i64) ((0:Nat):Int)|||Xqg (Φ .i64) (γ .i64 ((γ .i64 (lo:Int))*2^(min 0 64))))))|||Xqg (Φ .i64) (γ .i64 ((γ .i64 (hi:Int))*2^(min 32 64)))))),.bool true])):=pK [] 6 26 (.k 11 (aw b0) (.n 5 .nil)) (.c h .nil);have w0:γ .i64 (lo:Int)=(lo:Int):=bi (by omega);have w1:γ .i64 (hi:Int)=(hi:Int):=bi (by omega);have j:γ .i64 ((4294967296*hi:Nat):Int)=((4294967296*hi:Nat):Int):=bi (by omega);have m:γ .i64 ((lo+4294967296*hi:Nat):Int)=((lo+4294967296*hi:Nat):Int):=bi (by omega);rw [show min 0 64=0 from rfl,Yjb,w0,Yjq,w0,GU (by omega) (by omega),Yjr,w0,w1,show min 32 64=32 from rfl,vw,show (2:Nat)^32=4294967296 by decide,j,GU (by omega) (by omega),Z6 h0,m,<- e] at g;unfold oK;rw [if_pos (by omega)];exact g
 | a::b::c::r=>
  have u:=f (r.length+2) (by simp);have:¬ x<9223372036854775808:=by
   have:=Nat.pow_le_pow_right (n:=4294967296) (by decide) (show 2<=r.length+2 by omega);have e:(4294967296:Nat)^2=18446744073709551616:=by decide
   omega
  unfold oK;rw [if_neg this];have o:decide (((2:Nat):Int)<(((a::b::c::r).length:Nat):Int))=true:=Yq0 (by simp only [ο];omega);generalize a::b::c::r=ds at*
  exact pK [0] 2 3 (.k 1 (ax o) .nil) (.c h .nil)
theorem Kl:CO 116 [ω 1] (.ret (.str (ae 1))):=tJ 1 (by decide)
theorem tI {n:Nat}:(ae n==ae 1)=decide (n=1):=by
 rw [Xzv,beq_iff_eq,decide_eq_true_eq];exact ⟨λh=>by have:=congrArg aj h;rwa [aE,aE] at this,λh=>by rw [h]⟩
def aX (a s:Rw):Int:=if s.v.n=0 then -1 else if gM a.n a.a a.d=true/\(bB a.v s.v).neg=false/\(bB a.v s.v).d=1/\(bB a.v s.v).n<=200 then (((bB a.v s.v).n:Nat):Int) else -1
def Rw.sm (x:Rw):Prop:=x.a.length<2^28/\x.d.length<2^28
theorem zZ (a s:Rw) (i:a.sm) (hs:s.sm):CO 71 [.agg a.c,.agg s.c] (.ret (ω (aX a s))):=by
 obtain ⟨t,o⟩:=i;obtain ⟨s1,n⟩:=hs;unfold aX;by_cases h0:s.v.n=0
 .rw [if_pos h0];exact pK [] 4 15 (.n 11 .nil) (.c (EV a.n s.n a.a a.d s.a s.d (by omega) (by omega) (by omega) (by omega) h0) .nil)
 rw [if_neg h0];have m:=zI a.n s.n a.a a.d s.a s.d (by omega) (by omega) (by omega) (by omega) (by show 0<s.v.n;omega);have d:=nj a.n a.a a.d;have g:=Kl;have j:(ae (bB a.v s.v).n).length<2^36:=by
  have p:(ae a.v.n).length<=a.a.length/\(ae a.v.d).length<=a.d.length+1:=eA a.n a.a a.d;have r:(ae s.v.n).length<=s.a.length/\(ae s.v.d).length<=s.d.length+1:=eA s.n s.a s.d;have k:=Hn (L:=2^28) (a:=a.v) (b:=s.v) ⟨by omega,by omega⟩ ⟨by omega,by omega⟩;exact φ k.1 (by decide)
 have ci:=Kk _ j;show CO _ _ (.ret (ω (if _/\(bB a.v s.v).neg=false/\(bB a.v s.v).d=1/\(bB a.v s.v).n<=200 then _ else _)));generalize bB a.v s.v=q at*
 have c:CO 114 [.agg a.c,.agg s.c] (.ret (.tup [.agg [.bool q.neg,.str (ae q.n),.str (ae q.d)],.bool true])):=m;rcases tf (gM a.n a.a a.d) with b0|b0
 .rcases tf q.neg with b1|b1
  .rw [if_neg (by rintro ⟨x1,x2,x3,x4⟩;first|exact absurd (x1.symm.trans b0) (by decide)|exact absurd (x2.symm.trans b1) (by decide))];exact pK [] 4 12 (.k 1 (ax b1) (.k 1 (aI b0) (.n 11 .nil))) (.c d (.c c .nil))
  .rcases tf ((ae q.d)==(ae 1)) with b2|b2
   .rcases tf ((oK q.n).2) with b3|b3
    .rcases tf (decide ((oK q.n).1<=((200:Nat):Int))) with b4|b4
     .have f:q.d=1:=by rw [tI] at b2;exact of_decide_eq_true b2
      have e:q.n<9223372036854775808↔(oK q.n).2=true:=by unfold oK;split<;>simp [*]
      have h:(oK q.n).1=(q.n:Int):=by unfold oK;rw [if_pos (e.2 b3)]
      rw [if_pos ⟨b0,b1,f,by have:=of_decide_eq_true b4;rw [h] at this;omega⟩,<- h];exact pK [] 6 48 (.c (ax b4) (.c (ax b3) (.k 1 (aI b2) (.k 1 (aw b1) (.k 1 (aI b0) (.n 11 .nil)))))) (.c ci (.c g (.c d (.c c .nil))))
     .have f:q.d=1:=by rw [tI] at b2;exact of_decide_eq_true b2
      have e:q.n<9223372036854775808↔(oK q.n).2=true:=by unfold oK;split<;>simp [*]
      have h:(oK q.n).1=(q.n:Int):=by unfold oK;rw [if_pos (e.2 b3)]
      rw [if_neg (by rintro ⟨x1,x2,x3,x4⟩;have:=of_decide_eq_false b4;rw [h] at this;omega)];exact pK [] 6 16 (.c (aw b4) (.c (ax b3) (.k 1 (aI b2) (.k 1 (aw b1) (.k 1 (aI b0) (.n 11 .nil)))))) (.c ci (.c g (.c d (.c c .nil))))
    .have f:q.d=1:=by rw [tI] at b2;exact of_decide_eq_true b2
     have e:q.n<9223372036854775808↔(oK q.n).2=true:=by unfold oK;split<;>simp [*]
     rw [if_neg (by rintro ⟨x1,x2,x3,x4⟩;rw [e.1 (by omega)] at b3;cases b3)];exact pK [] 6 0 (.k 1 (aw b3) (.k 1 (aI b2) (.k 1 (aw b1) (.k 1 (aI b0) (.n 11 .nil))))) (.c ci (.c g (.c d (.c c .nil))))
   .have f:¬ q.d=1:=by rw [tI] at b2;exact of_decide_eq_false b2
    rw [if_neg (by rintro ⟨x1,x2,x3,x4⟩;first|exact absurd (x1.symm.trans b0) (by decide)|exact absurd (x2.symm.trans b1) (by decide)|exact f x3)];exact pK [] 4 8 (.c (bu b2) (.k 1 (aw b1) (.k 1 (aI b0) (.n 11 .nil)))) (.c g (.c d (.c c .nil)))
 .rw [if_neg (by rintro ⟨x1,x2,x3,x4⟩;first|exact absurd (x1.symm.trans b0) (by decide))];exact pK [] 4 14 (.k 2 (bu b0) (.n 11 .nil)) (.c d (.c c .nil))
theorem aas (d s1:Bool) (g c e f:List UInt8) (a b r:RQ) (m:CO 47 [Ω d g c] (Va0 a)) (j:CO 47 [Ω s1 e f] (Va0 b)) (k:CO 48 [.str (ae a.n),.str (ae b.n)] (.ret (.str (ae (a.n*b.n))))) (h:VaE a b) (i:CO 49 [.bool (!(a.neg==b.neg)),.str (ae (a.n*b.n)),.str (ae (a.d*b.d))] (Va0 r)):CO 38 [Ω d g c,Ω s1 e f] (Va0 r):=pK [] 0 0 (.n 18 .nil) (.c i (.c h (.c k (.c j (.c m .nil)))))
theorem Od (g s1:Bool) (f c d e:List UInt8) (r:f.length<=3) (s:c.length<=2) (v:d.length<=3) (o:e.length<=2):CO 38 [Ω g f c,Ω s1 d e] (.ret (qA (eH (vQ g f c) (vQ s1 d e)))):=by
 have i:=jE g f c;have j:=jE s1 d e;obtain ⟨t,p⟩:=eA g f c;obtain ⟨u,q⟩:=eA s1 d e;have h:=cV g f c;have k:=cV s1 d e;generalize vQ g f c=a at*
 generalize vQ s1 d e=b at*
 have n:=bU a.n b.n;have m:=bU a.d b.d;exact aas g s1 f c d e a b (eH a b) i j (zn a.n b.n) (zn a.d b.d) (ni _ _ _ (by omega) (by omega) (Nat.mul_pos h.1 k.1))
def xG {α:Type} (P:α->α->Bool) (_:Unit) (x:α × α):Unit ⊕ Bool:=if P x.1 x.2=true then .inl () else .inr false
theorem mE {α:Type} {P:α->α->Bool}:∀ {l:List (α × α)},goL (xG P) (λ_=>true) l ()=l.all λp=>P p.1 p.2
 | []=>rfl
 |x::l=>by
  have a:=mE (P:=P) (l:=l);simp only [goL,xG,List.all_cons];by_cases e:P x.1 x.2=true
  .rw [if_pos e,e,Xx0];exact a
  .rw [if_neg e,Bool.eq_false_iff.2 e,Xx4]
def G9:Bool->St
 |true=>tW
 |false=>(qT (.bool false))
def ES (a b:List Rw) (na nb:Bool) (p:Nat × Unit):St:=(Dk (.sl (cg a) a.length na) (.sl (cg b) b.length nb) (p.1:Int))
theorem OA {nt:Nat} (e:26<=nt) (a b:List Rw) (d f:Bool) (m:a.length=b.length) (n:a.length<2^40):aB prog ap [] nt (af 0 (am f17)) Lm (ES a b d f) G9 (0,()) ((a.zip b).all λp=>JU p.1 p.2):=by
 rw [<- mE];have t:(a.zip b).length=a.length:=by rw [Xzg];omega
 refine aB.goD (xG JU) (λ_=>true) (a.zip b) (λ_ _=>True) ?_ ?_ () trivial
 .rintro p ⟨x,y⟩ r _ hL _
  obtain ⟨h,j⟩:=jf m hL;have g:(ε ((δ (p.length:Int))*3) (cg a))=x.c++cg (r.map (·.1)):=by have:=cQ SL h;rwa [Xqp] at this
  have i:(ε ((δ (p.length:Int))*3) (cg b))=y.c++cg (r.map (·.2)):=by have:=cQ SL j;rwa [Xqp] at this
  have c:(decide ((p.length:Int)<(a.length:Int)))=true:=kl (by have:=mV hL;omega);have o:(decide ((p.length:Int)<(b.length:Int)))=true:=by rw [<- m];exact c
  have s:p.length<2^62:=by have:=mV hL;omega
  skip
  show (∃ s',_/\ag _ _ _ _ _ (ES a b d f (p.length,())) _ _/\_)\/∃ q,_/\ag _ _ _ _ _ (ES a b d f (p.length,())) _ _;generalize p.length=k at*
  clear hL h j;rcases tf ((x.n==y.n) && ((x.a==y.a) && ((x.d==y.d) && true))) with b0|b0
  .exact .inl ⟨_,by rw [xG,if_pos (show JU x y=true from b0)],pN 17 [] 2 1 (.c (aI b0) (.k 3 (k0 k) (.c o (.k 3 (k0 k) (.c c (.c (ax c) .nil)))))) (.v 16 (.eq (FD s)) (.v 23 (.ppt i) (.v 19 (.ppt g) .nil))) e,trivial⟩
  .exact .inr ⟨_,by rw [xG,if_neg (show ¬ JU x y=true by rw [show JU x y=false from b0];exact Xxt)],pN 17 [] 2 3 (.c (bu b0) (.k 3 (k0 k) (.c o (.k 3 (k0 k) (.c c (.c (ax c) .nil)))))) (.v 23 (.ppt i) (.v 19 (.ppt g) .nil)) e⟩
 .intro _ _;rw [t];exact pN 17 [] 1 0 (.c (aw (kn (κ a.length))) .nil) (.nil) e
theorem SE (a b:List Rw) (d e:Bool) (f:a.length<2^40):CO 17 [.sl (cg a) a.length d,.sl (cg b) b.length e] (.ret (.bool (decide (a.length=b.length) && (a.zip b).all λp=>JU p.1 p.2))):=by
 by_cases hl:a.length=b.length
 .have g:((a.length:Int)==(b.length:Int))=true:=by rw [hl];exact beq_self_eq_true _
  rw [Yq0 hl,Xx0];have hloop:=λnt (hn:26<=nt)=>OA hn a b d e hl f
  cases hd:((a.zip b).all λp=>JU p.1 p.2) with
  |true=>
   rw [hd] at hloop;have i:=aB.blk (id:=0) (e':= .normal) (s:=ES a b d e (0,())) (s':=G9 true) hloop (by simp [Lm]) rfl (aD.refl _) (aD.refl _);have h:LB 26 0 f17 ⟨[(0,.sl (cg a) a.length d),(1,.sl (cg b) b.length e),(4,.bool false),(5,ω 0),(10,.bool (!((a.length:Int)==(b.length:Int)))),(14,.dead),(25,.dead)],[],.dead,[]⟩ (.normal) tW:=(λnt c=>(i nt c).weak (aD.of ⟨rfl,rfl,rfl,trivial⟩) (aD.refl _))
   exact pK [0] 1 0 (.c (aI g) .nil) (.l h .nil)
  |false=>
   rw [hd] at hloop;have i:=aB.blk (id:=0) (e':= .ret) (s:=ES a b d e (0,())) (s':=G9 false) hloop (by simp [Lm]) rfl (aD.refl _) (aD.refl _);have h:LB 26 0 f17 ⟨[(0,.sl (cg a) a.length d),(1,.sl (cg b) b.length e),(4,.bool false),(5,ω 0),(10,.bool (!((a.length:Int)==(b.length:Int)))),(14,.dead),(25,.dead)],[],.dead,[]⟩ (.ret) (qT (.bool false)):=(λnt c=>(i nt c).weak (aD.of ⟨rfl,rfl,rfl,trivial⟩) (aD.refl _))
   exact pK [0] 1 0 (.c (aI g) .nil) (.l h .nil)
 .have g:((a.length:Int)==(b.length:Int))=false:=beq_eq_false_iff_ne.2 (by omega);rw [Yq1 hl,Xx4];exact pK [0] 1 1 (.c (bu g) .nil) (.nil)
theorem zB (a b:List Rw) (d f:Bool) (c:a.length<2^40):CO 17 [.sl (cg a) a.length d,.sl (cg b) b.length f] (.ret (.bool (decide (a=b)))):=by
 have h:=SE a b d f c;have e:(decide (a.length=b.length) && (a.zip b).all λp=>JU p.1 p.2)=decide (a=b):=by
  by_cases hl:a.length=b.length
  .rw [Yq0 hl,Xx0,<- Ct hl,<- mE];rfl
  .rw [Yq1 hl,Xx4,Yq1 (λh=>hl (by rw [h]))]
 rwa [e] at h
def Rw.ti (x:Rw):Prop:=x.a.length<=3/\x.d.length<=2
def Nb (x y:Rw):Bool:= !decide (((0:Nat):Int)<ep x.v y.v)
def GF:Bool->St
 |true=>tW
 |false=>(qT (.bool false))
def Et (a b:List Rw) (na nb:Bool) (p:Nat × Unit):St:=(Dk (.sl (cg a) a.length na) (.sl (cg b) b.length nb) (p.1:Int))
theorem Nt {nt:Nat} (h:27<=nt) (a b:List Rw) (d j:Bool) (n:a.length=b.length) (u:a.length<2^40) (i:∀ x ∈ a,x.ti) (e:∀ x ∈ b,x.ti):aB prog ap [] nt (af 0 (am f24)) Lm (Et a b d j) GF (0,()) ((a.zip b).all λp=>Nb p.1 p.2):=by
 rw [<- mE];have A:(a.zip b).length=a.length:=by rw [Xzg];omega
 refine aB.goD (xG Nb) (λ_=>true) (a.zip b) (λ_ _=>True) ?_ ?_ () trivial
 .rintro p ⟨x,y⟩ r _ hL _
  obtain ⟨f,g⟩:=jf n hL;have m:(ε ((δ (p.length:Int))*3) (cg a))=x.c++cg (r.map (·.1)):=by have:=cQ SL f;rwa [Xqp] at this
  have s:(ε ((δ (p.length:Int))*3) (cg b))=y.c++cg (r.map (·.2)):=by have:=cQ SL g;rwa [Xqp] at this
  have c:(decide ((p.length:Int)<(a.length:Int)))=true:=kl (by have:=mV hL;omega);have o:(decide ((p.length:Int)<(b.length:Int)))=true:=by rw [<- n];exact c
  have C:p.length<2^62:=by have:=mV hL;omega
  obtain ⟨v,w⟩:=i x (by rw [f];simp);obtain ⟨B,z⟩:=e y (by rw [g];simp);have t:=R8 x.n y.n x.a x.d y.a y.d v w B z;show (∃ s',_/\ag _ _ _ _ _ (Et a b d j (p.length,())) _ _/\_)\/∃ q,_/\ag _ _ _ _ _ (Et a b d j (p.length,())) _ _;generalize p.length=k at*
  clear hL f g;rcases tf (decide (((0:Nat):Int)<(ep x.v y.v))) with b0|b0
  .exact .inr ⟨_,by rw [xG,if_neg (show ¬ Nb x y=true by unfold Nb;rw [b0];decide)],pN 24 [] 2 3 (.c (ax b0) (.k 3 (k0 k) (.c o (.k 3 (k0 k) (.c c (.c (ax c) .nil)))))) (.c t (.v 23 (.ppt s) (.v 19 (.ppt m) .nil))) h⟩
  .exact .inl ⟨_,by rw [xG,if_pos (show Nb x y=true by unfold Nb;rw [b0];rfl)],pN 24 [] 2 1 (.c (aw b0) (.k 3 (k0 k) (.c o (.k 3 (k0 k) (.c c (.c (ax c) .nil)))))) (.v 16 (.eq (FD C)) (.c t (.v 23 (.ppt s) (.v 19 (.ppt m) .nil)))) h,trivial⟩
 .intro _ _;rw [A];exact pN 24 [] 1 0 (.c (aw (kn (κ a.length))) .nil) (.nil) h
theorem Rk (a b:List Rw) (d e:Bool) (f:a.length<2^40) (k:∀ x ∈ a,x.ti) (h:∀ x ∈ b,x.ti):CO 24 [.sl (cg a) a.length d,.sl (cg b) b.length e] (.ret (.bool (decide (a.length=b.length) && (a.zip b).all λp=>Nb p.1 p.2))):=by
 by_cases hl:a.length=b.length
 .have g:((a.length:Int)==(b.length:Int))=true:=by rw [hl];exact beq_self_eq_true _
  rw [Yq0 hl,Xx0];have hloop:=λnt (hn:27<=nt)=>Nt hn a b d e hl f k h
  cases hd:((a.zip b).all λp=>Nb p.1 p.2) with
  |true=>
   rw [hd] at hloop;have j:=aB.blk (id:=0) (e':= .normal) (s:=Et a b d e (0,())) (s':=GF true) hloop (by simp [Lm]) rfl (aD.refl _) (aD.refl _);have i:LB 27 0 f24 ⟨[(0,.sl (cg a) a.length d),(1,.sl (cg b) b.length e),(4,.bool false),(5,ω 0),(10,.bool (!((a.length:Int)==(b.length:Int)))),(14,.dead),(26,.dead)],[],.dead,[]⟩ (.normal) tW:=(λnt c=>(j nt c).weak (aD.of ⟨rfl,rfl,rfl,trivial⟩) (aD.refl _))
   exact pK [0] 1 0 (.c (aI g) .nil) (.l i .nil)
  |false=>
   rw [hd] at hloop;have j:=aB.blk (id:=0) (e':= .ret) (s:=Et a b d e (0,())) (s':=GF false) hloop (by simp [Lm]) rfl (aD.refl _) (aD.refl _);have i:LB 27 0 f24 ⟨[(0,.sl (cg a) a.length d),(1,.sl (cg b) b.length e),(4,.bool false),(5,ω 0),(10,.bool (!((a.length:Int)==(b.length:Int)))),(14,.dead),(26,.dead)],[],.dead,[]⟩ (.ret) (qT (.bool false)):=(λnt c=>(j nt c).weak (aD.of ⟨rfl,rfl,rfl,trivial⟩) (aD.refl _))
   exact pK [0] 1 0 (.c (aI g) .nil) (.l i .nil)
 .have g:((a.length:Int)==(b.length:Int))=false:=beq_eq_false_iff_ne.2 (by omega);rw [Yq1 hl,Xx4];exact pK [0] 1 1 (.c (bu g) .nil) (.nil)
def TE (x y:List Rw):Bool:=decide (x=y)
def G_:Bool->St
 |true=>tW
 |false=>(qT (.bool false))
def EU (a b:List (List Rw)) (na nb:Bool) (p:Nat × Unit):St:=(Dk (.sl (lV a) a.length na) (.sl (lV b) b.length nb) (p.1:Int))
theorem OE {nt:Nat} (g:29<=nt) (a b:List (List Rw)) (d h:Bool) (j:a.length=b.length) (t:a.length<2^40) (e:∀ v ∈ a,v.length<2^40):aB prog ap [] nt (af 0 (am f31)) Lm (EU a b d h) G_ (0,()) ((a.zip b).all λp=>TE p.1 p.2):=by
 rw [<- mE];have u:(a.zip b).length=a.length:=by rw [Xzg];omega
 refine aB.goD (xG TE) (λ_=>true) (a.zip b) (λ_ _=>True) ?_ ?_ () trivial
 .rintro p ⟨x,y⟩ r _ hL _
  obtain ⟨f,s⟩:=jf j hL;have i:(ε ((δ (p.length:Int))*1) (lV a))= [dh x]++lV (r.map (·.1)):=by have:=cQ ch1 f;rwa [Xqp] at this
  have n:(ε ((δ (p.length:Int))*1) (lV b))= [dh y]++lV (r.map (·.2)):=by have:=cQ ch1 s;rwa [Xqp] at this
  have c:(decide ((p.length:Int)<(a.length:Int)))=true:=kl (by have:=mV hL;omega);have m:(decide ((p.length:Int)<(b.length:Int)))=true:=by rw [<- j];exact c
  have w:p.length<2^62:=by have:=mV hL;omega
  have o:CO 17 [.sl (cg x) x.length false,.sl (cg y) y.length false] (.ret (.bool (TE x y))):=zB x y false false (e x (by rw [f];simp));show (∃ s',_/\ag _ _ _ _ _ (EU a b d h (p.length,())) _ _/\_)\/∃ q,_/\ag _ _ _ _ _ (EU a b d h (p.length,())) _ _;generalize p.length=k at*
  clear hL f s;rcases tf (TE x y) with b0|b0
  .exact .inl ⟨_,by rw [xG,if_pos (b0)],pN 31 [] 2 1 (.c (aI b0) (.k 1 (k0 k) (.c m (.k 1 (k0 k) (.c c (.c (ax c) .nil)))))) (.v 17 (.eq (FD w)) (.c o (.v 24 (.ppt n) (.v 20 (.ppt i) .nil)))) g,trivial⟩
  .exact .inr ⟨_,by rw [xG,if_neg (show ¬ TE x y=true by rw [b0];exact Xxt)],pN 31 [] 2 3 (.c (bu b0) (.k 1 (k0 k) (.c m (.k 1 (k0 k) (.c c (.c (ax c) .nil)))))) (.c o (.v 24 (.ppt n) (.v 20 (.ppt i) .nil))) g⟩
 .intro _ _;rw [u];exact pN 31 [] 1 0 (.c (aw (kn (κ a.length))) .nil) (.nil) g
theorem SJ (a b:List (List Rw)) (d e:Bool) (f:a.length<2^40) (h:∀ v ∈ a,v.length<2^40):CO 31 [.sl (lV a) a.length d,.sl (lV b) b.length e] (.ret (.bool (decide (a.length=b.length) && (a.zip b).all λp=>TE p.1 p.2))):=by
 by_cases hl:a.length=b.length
 .have g:((a.length:Int)==(b.length:Int))=true:=by rw [hl];exact beq_self_eq_true _
  rw [Yq0 hl,Xx0];have hloop:=λnt (hn:29<=nt)=>OE hn a b d e hl f h
  cases hd:((a.zip b).all λp=>TE p.1 p.2) with
  |true=>
   rw [hd] at hloop;have j:=aB.blk (id:=0) (e':= .normal) (s:=EU a b d e (0,())) (s':=G_ true) hloop (by simp [Lm]) rfl (aD.refl _) (aD.refl _);have i:LB 29 0 f31 (Us (.sl (lV a) a.length d) (.sl (lV b) b.length e) (!((a.length:Int)==(b.length:Int)))) (.normal) tW:=(λnt c=>(j nt c).weak (aD.of ⟨rfl,rfl,rfl,trivial⟩) (aD.refl _))
   exact pK [0] 1 0 (.c (aI g) .nil) (.l i .nil)
  |false=>
   rw [hd] at hloop;have j:=aB.blk (id:=0) (e':= .ret) (s:=EU a b d e (0,())) (s':=G_ false) hloop (by simp [Lm]) rfl (aD.refl _) (aD.refl _);have i:LB 29 0 f31 (Us (.sl (lV a) a.length d) (.sl (lV b) b.length e) (!((a.length:Int)==(b.length:Int)))) (.ret) (qT (.bool false)):=(λnt c=>(j nt c).weak (aD.of ⟨rfl,rfl,rfl,trivial⟩) (aD.refl _))
   exact pK [0] 1 0 (.c (aI g) .nil) (.l i .nil)
 .have g:((a.length:Int)==(b.length:Int))=false:=beq_eq_false_iff_ne.2 (by omega);rw [Yq1 hl,Xx4];exact pK [0] 1 1 (.c (bu g) .nil) (.nil)
theorem ET (a b:List (List Rw)) (f g:Bool) (c:a.length<2^40) (d:∀ v ∈ a,v.length<2^40):CO 31 [.sl (lV a) a.length f,.sl (lV b) b.length g] (.ret (.bool (decide (a=b)))):=by
 have h:=SJ a b f g c d;have e:(decide (a.length=b.length) && (a.zip b).all λp=>TE p.1 p.2)=decide (a=b):=by
  by_cases hl:a.length=b.length
  .rw [Yq0 hl,Xx0,<- yd hl,<- mE];rfl
  .rw [Yq1 hl,Xx4,Yq1 (λh=>hl (by rw [h]))]
 rwa [e] at h
structure aP where
 sd:Int
 ix:Int
 nm:List UInt8
 tr:Bool
 tm:Int
 td:Int
 body:List Nd
 ch:Bool
 st:Rw
 cp:Rw
abbrev PT (x:aP):List AV:= [ω x.sd,ω x.ix,.str x.nm,.bool x.tr,ω x.tm,ω x.td,.sl (aO x.body) x.body.length false,.bool x.ch,.bool x.st.n,.str x.st.a,.str x.st.d,.bool x.cp.n,.str x.cp.a,.str x.cp.d]
def bq (l:List aP):List AV:=l.flatMap PT
theorem uz (x:aP):(PT x).length=14:=rfl
def eM (l:List (List Lk)):List AV:=l.flatMap λls=> [.sl (bP ls) ls.length false]
def mU (x:aP):AV:= .agg [ω x.sd,.str x.nm]
def Ka (l:List aP):List AV:=l.map mU
def Tj (l:List aP):List AV:=l.map λ_=> .bool true
def Dz (l:List aP):List AV:=l.map λx=> .str x.nm
def nq (x y:aP):Bool:=(x.sd==y.sd) && (x.nm==y.nm)
theorem ye (x y:aP):oJ (mU x) (mU y)=nq x y:=by simp [mU,oJ,Ap,wy,nq]
theorem A2 (x:aP):∀ l:List aP,b_ (Ka l) (Tj l) (mU x)=if l.any (nq x) then some (.bool true) else none
 | []=>rfl
 |y::r=>by
  have a:=A2 x r;show (match oJ (mU x) (mU y) with|true=>some (Yq5 true)|false=>b_ (Ka r) (Tj r) (mU x))=_;rw [ye,a,Xvk];cases nq x y<;>rfl
theorem LD (x:aP) (l:List aP):(Ka l).any (oJ (mU x))=l.any (nq x):=by
 unfold Ka;rw [List.any_map];congr 1;funext y;exact ye x y
theorem Ob {x:aP} {l:List aP} (h:l.any (nq x)=false):nY (Ka l) (mU x)=Ka (l++ [x]):=by
 unfold nY;rw [LD,h];simp [Ka]
theorem EJ {x:aP}:∀ {l:List aP},l.any (nq x)=false->jD (Ka l) (Tj l) (mU x) (.bool true)=Tj (l++ [x])
 | [],_=>rfl
 |y::r,h=>by
  rw [Xvk,Xvj] at h;have a:=EJ h.2;show (match oJ (mU x) (mU y) with|true=>Yq5 true::Tj r|false=>Yq5 true::jD (Ka r) (Tj r) (mU x) (.bool true))=_;rw [ye,h.1,a];rfl
theorem M9 (x:aP):FC 132 (mU x)=true:=by kernel_rfl
theorem Wo (l:List aP):(Xz9 (Ka l) (FC 132))=true:=by
 rw [Xzk];intro k a;obtain ⟨x,_,rfl⟩:=List.mem_map.1 a;exact M9 x
theorem wmS {k:Nat} (h:0<k) (a:k<2^62):ω (γ .i64 ((k:Int) - ((1:Nat):Int)))= ω ((k - 1:Nat):Int):=by
 rw [cf]<;>first|omega|(congr 1;omega)
def Cb (y x:aP):Bool:=decide (y.sd<x.sd)||((y.sd==x.sd) && decide (y.ix<x.ix))
theorem FO (y x:aP):CO 63 [.agg [ω y.sd,ω y.ix],.agg [ω x.sd,ω x.ix]] (.ret (.bool (Cb y x))):=by
 rcases tf (decide (y.sd<x.sd)) with b0|b0
 .rw [show Cb y x=true by unfold Cb;rw [b0]<;>rfl];exact pK [] 1 1 (.c (ax b0) (.n 2 .nil)) (.nil)
 .rcases tf (y.sd==x.sd) with b1|b1
  .rw [show Cb y x=(decide (y.ix<x.ix)) by unfold Cb;rw [b0,b1]<;>rfl];exact pK [] 2 2 (.k 2 (ax b1) (.k 2 (aw b0) (.n 2 .nil))) (.nil)
  .rw [show Cb y x=false by unfold Cb;rw [b0,b1]<;>rfl];exact pK [] 2 0 (.c (aw b1) (.k 2 (aw b0) (.n 2 .nil))) (.nil)
def gQ (n:Nat) (l:List aP) (x:aP):Bool:=decide (x.sd<((0:Nat):Int))||(decide ((n:Int)<=x.sd)||(decide (x.ix<((0:Nat):Int))||((match l.getLast? with|none=>false|some y=> !Cb y x)||l.any (nq x))))
abbrev UW:=List aP × List AV × List AV
def mg (n:Nat) (s:UW) (x:aP):UW ⊕ Option (List aP × List AV × List AV):=if gQ n s.1 x then .inr none else .inl (s.1++ [x],nY s.2.1 (mU x),jD s.2.1 s.2.2 (mU x) (.bool true))
theorem CS (l:List aP):(Dz l).length=l.length:=Xqp ..
theorem RF {l:List aP} {k:Nat} (h:l.length=k) (x:aP):τ (k*1) (Dz l)++ [AV.str x.nm]=Dz (l++ [x]):=by
 rw [Xqa (by rw [CS];omega)];simp [Dz]
def MM (es:List aP) (ss:List (List Lk)) (ne ns:Bool) (p:Nat × UW):St:=match p.2.1 with
 | []=> ⟨[(1,.ptr 0 0 0),(3,.mr 1 0),(4,.nilS),(35,.sl (bq es) es.length ne),(36,.int .i64 (es.length:Int)),(37,.int .i64 (p.1:Int))],[(0,⟨[.sl (bq es) es.length ne,.sl (eM ss) ss.length ns,.sl [] 0 false],0,false,0,0,true⟩),(1,⟨[.agg p.2.2.1,.agg p.2.2.2],0,false,0,4611686018427387904,true⟩)],.dead,[]⟩
 |a::r=>(Pc ((a::r).length) (.sl (bq es) es.length ne) es.length p.1 [.sl (bq es) es.length ne,.sl (eM ss) ss.length ns,.sl [] 0 false] [.agg p.2.2.1,.agg p.2.2.2] (Dz (a::r)))
def ML (es:List aP) (ss:List (List Lk)) (ne ns:Bool):Option UW->St
 |none=>(v_ 1)
 |some p=>match p.1 with
  | []=> ⟨[(1,.ptr 0 0 0),(3,.mr 1 0),(4,.nilS)],[(0,⟨[.sl (bq es) es.length ne,.sl (eM ss) ss.length ns,.sl [] 0 false],0,false,0,0,true⟩),(1,⟨[.agg p.2.1,.agg p.2.2],0,false,0,4611686018427387904,true⟩)],.dead,[]⟩
  |a::r=>(Uo ((a::r).length) [.sl (bq es) es.length ne,.sl (eM ss) ss.length ns,.sl [] 0 false] [.agg p.2.1,.agg p.2.2] (Dz (a::r)))
def fkE:Option UW->a_
 |none=> .ret
 |some _=> .exit 0
theorem HY (es:List aP) (ss:List (List Lk)) (a b:Bool) {k:Nat} {l:List aP} {ks vs:List AV} (h:l ≠ []):MM es ss a b (k,l,ks,vs)=(Pc l.length (.sl (bq es) es.length a) es.length k [.sl (bq es) es.length a,.sl (eM ss) ss.length b,.sl [] 0 false] [.agg ks,.agg vs] (Dz l)):=by cases l with|nil=>exact absurd rfl h|cons _ _=>rfl
theorem J3 (es:List aP) (ss:List (List Lk)) (a b:Bool) {k:Nat} {l:List aP} {x:aP} {ks vs:List AV}:MM es ss a b (k,l++ [x],ks,vs)=(Pc (l.length+1) (.sl (bq es) es.length a) es.length k [.sl (bq es) es.length a,.sl (eM ss) ss.length b,.sl [] 0 false] [.agg ks,.agg vs] (Dz (l++ [x]))):=by rw [HY _ _ _ _ (by simp),ξ,Δ]
theorem QS {nt:Nat} (i:126<=nt) (es:List aP) (ss:List (List Lk)) (w z:Bool) (B:es.length<2^39):aB prog ap [] nt (af 0 (am f33)) fkE (MM es ss w z) (ML es ss w z) (0,[],[],[]) (goL (mg ss.length) some es ([],[],[])):=by
 refine aB.goD (mg ss.length) some es (λp s=>s.1=p/\s.2.1=Ka p/\s.2.2=Tj p) ?_ ?_ ([],[],[]) ⟨rfl,rfl,rfl⟩
 .rintro p x r ⟨l,ks,vs⟩ hL ⟨hp,hks,hvs⟩
  simp only at hp hks hvs;subst hp;have j:(ε ((δ (l.length:Int))*14) (bq es))=PT x++bq r:=cQ uz hL;have d:(decide ((l.length:Int)<(es.length:Int)))=true:=kl (mV hL);have A:=mV hL;have g:(Xz9 ks (FC 132))=true:=by rw [hks];exact Wo l
  have o:(Xwb (b_ ks vs (.agg [ω x.sd,.str x.nm])) (.bool false))= .bool (l.any (nq x)):=by
   rw [hks,hvs];show Xwb (b_ (Ka l) (Tj l) (mU x)) (.bool false)=_;rw [A2];cases l.any (nq x)<;>rfl
  have f:l.any (nq x)=false->nY ks (mU x)=Ka (l++ [x])/\jD ks vs (mU x) (.bool true)=Tj (l++ [x]):=λh=>by
   rw [hks,hvs];exact ⟨Ob h,EJ h⟩
  clear hks hvs;rcases Xzb l with rfl|⟨b,y,rfl⟩
  .have n:(decide (((0:Nat):Int)<((([]:List aP).length:Nat):Int)))=false:=kn (κ 0);have c:([]:List aP).getLast? =none:=rfl;have m:([]:List aP).length<2^62:=by decide
   rcases tf (decide (x.sd<((0:Nat):Int))) with b0|b0
   .exact .inr ⟨none,by rw [mg,if_pos (show gQ ss.length ([]:List aP) x=true by simp only [gQ,b0,Xj4,Xx2,Xzq,Xj1,Xxi,Xq6,c])],pN 33 [] 6 63 (.k 4 (ax b0) (.k 19 (k0 ([]:List aP).length) (.c d (.c (ax d) .nil)))) (.v 40 (.ppt j) .nil) i⟩
   .rcases tf (decide ((ss.length:Int)<=x.sd)) with b1|b1
    .exact .inr ⟨none,by rw [mg,if_pos (show gQ ss.length ([]:List aP) x=true by simp only [gQ,b0,b1,Xj4,Xx2,Xzq,Xj1,Xxi,Xq6,c])],pN 33 [] 6 61 (.k 3 (ax b1) (.k 2 (aw b0) (.k 19 (k0 ([]:List aP).length) (.c d (.c (ax d) .nil))))) (.v 40 (.ppt j) .nil) i⟩
    .rcases tf (decide (x.ix<((0:Nat):Int))) with b2|b2
     .exact .inr ⟨none,by rw [mg,if_pos (show gQ ss.length ([]:List aP) x=true by simp only [gQ,b0,b1,b2,Xj4,Xx2,Xzq,Xj1,Xxi,Xq6,c])],pN 33 [] 6 57 (.k 2 (ax b2) (.k 1 (aw b1) (.k 2 (aw b0) (.k 19 (k0 ([]:List aP).length) (.c d (.c (ax d) .nil)))))) (.v 40 (.ppt j) .nil) i⟩
     .rcases tf (([]:List aP).any (nq x)) with b3|b3
      .exact .inr ⟨none,by rw [mg,if_pos (show gQ ss.length ([]:List aP) x=true by simp only [gQ,b0,b1,b2,b3,Xj4,Xx2,Xzq,Xj1,Xxi,Xq6,c])],pN 33 [] 7 65 (.c (ax b3) (.k 1 g (.k 3 (aw n) (.c (aw b2) (.k 1 (aw b1) (.k 2 (aw b0) (.k 19 (k0 ([]:List aP).length) (.c d (.c (ax d) .nil))))))))) (.v 88 (.eq o) (.v 40 (.ppt j) .nil)) i⟩
      .exact .inl ⟨_,by rw [mg,if_neg (show ¬ gQ ss.length ([]:List aP) x=true by rw [show gQ ss.length ([]:List aP) x=false by simp only [gQ,b0,b1,b2,b3,Xj4,Xx2,Xzq,Xj1,Xxi,Xq6,c]];exact Xxt)],pN 33 [] 8 1 (.k 5 g (.k 2 (aw b3) (.k 1 g (.k 3 (aw n) (.c (aw b2) (.k 1 (aw b1) (.k 2 (aw b0) (.k 19 (k0 ([]:List aP).length) (.c d (.c (ax d) .nil)))))))))) (.v 98 (.eq (FD m)) (.v 88 (.eq o) (.v 40 (.ppt j) .nil))) i,rfl,(f b3).1,(f b3).2⟩
  .simp only [List.concat_eq_append] at*
   have q:(ε ((δ ((((b++ [y]).length - 1):Nat):Int))*14) (bq es))=PT y++bq (x::r):=by
    have e:es=b++y::x::r:=by rw [hL];simp
    rw [show (b++ [y]).length - 1=b.length by simp];exact cQ uz e
   have c:(b++ [y]).getLast? =some y:=by simp
   have k:0<(b++ [y]).length:=by simp
   have n:(decide (((0:Nat):Int)<(((b++ [y]).length:Nat):Int)))=true:=kl k;have m:(b++ [y]).length<2^62:=by omega
   have v:b++ [y] ≠ []:=by simp
   have u:(b++ [y]).length=(b++ [y]).length:=rfl;have hble1:(Xqr ((b++ [y]).length+1) 1099511627776)=true:=Xqc (by omega);have hble2:(Xqr ((b++ [y]).length*1) (θ (Dz (b++ [y]))))=true:=Xqc (by rw [CS];omega);have t:(decide (((((b++ [y]).length - 1):Nat):Int)<(es.length:Int)))=true:=kl (by omega);rw [HY _ _ _ _ v];rcases tf (decide (x.sd<((0:Nat):Int))) with b0|b0
   .exact .inr ⟨none,by rw [mg,if_pos (show gQ ss.length (b++ [y]) x=true by simp only [gQ,b0,Xj4,Xx2,Xzq,Xj1,Xxi,Xq6,c])],pN 33 [] 6 63 (.k 4 (ax b0) (.k 19 (k0 (b++ [y]).length) (.c d (.c (ax d) .nil)))) (.v 40 (.ppt j) .nil) i⟩
   .rcases tf (decide ((ss.length:Int)<=x.sd)) with b1|b1
    .exact .inr ⟨none,by rw [mg,if_pos (show gQ ss.length (b++ [y]) x=true by simp only [gQ,b0,b1,Xj4,Xx2,Xzq,Xj1,Xxi,Xq6,c])],pN 33 [] 6 61 (.k 3 (ax b1) (.k 2 (aw b0) (.k 19 (k0 (b++ [y]).length) (.c d (.c (ax d) .nil))))) (.v 40 (.ppt j) .nil) i⟩
    .rcases tf (decide (x.ix<((0:Nat):Int))) with b2|b2
     .exact .inr ⟨none,by rw [mg,if_pos (show gQ ss.length (b++ [y]) x=true by simp only [gQ,b0,b1,b2,Xj4,Xx2,Xzq,Xj1,Xxi,Xq6,c])],pN 33 [] 6 57 (.k 2 (ax b2) (.k 1 (aw b1) (.k 2 (aw b0) (.k 19 (k0 (b++ [y]).length) (.c d (.c (ax d) .nil)))))) (.v 40 (.ppt j) .nil) i⟩
     .rcases tf (Cb y x) with b3|b3
      .rcases tf ((b++ [y]).any (nq x)) with b4|b4
       .exact .inr ⟨none,by rw [mg,if_pos (show gQ ss.length (b++ [y]) x=true by simp only [gQ,b0,b1,b2,b3,b4,Xj4,Xx2,Xzq,Xj1,Xxi,Xq6,c])],pN 33 [] 7 81 (.c (ax b4) (.k 1 g (.k 2 (aI b3) (.k 4 (k0 ((b++ [y]).length - 1)) (.c t (.k 1 (ax n) (.c (aw b2) (.k 1 (aw b1) (.k 2 (aw b0) (.k 19 (k0 (b++ [y]).length) (.c d (.c (ax d) .nil)))))))))))) (.v 88 (.eq o) (.c (FO y x) (.v 76 (.ppt q) (.v 75 (.eq (wmS k m)) (.v 40 (.ppt j) .nil))))) i⟩
       .refine .inl ⟨_,by rw [mg,if_neg (show ¬ gQ ss.length (b++ [y]) x=true by rw [show gQ ss.length (b++ [y]) x=false by simp only [gQ,b0,b1,b2,b3,b4,Xj4,Xx2,Xzq,Xj1,Xxi,Xq6,c]];exact Xxt)], ?_,rfl,(f b4).1,(f b4).2⟩;rw [J3];exact pN 33 [] 7 17 (.k 1 hble1 (.c hble2 (.k 3 g (.k 2 (aw b4) (.k 1 g (.k 2 (aI b3) (.k 4 (k0 ((b++ [y]).length - 1)) (.c t (.k 1 (ax n) (.c (aw b2) (.k 1 (aw b1) (.k 2 (aw b0) (.k 19 (k0 (b++ [y]).length) (.c d (.c (ax d) .nil))))))))))))))) (.v 98 (.eq (FD m)) (.b 97 (RF u x) (.v 88 (.eq o) (.c (FO y x) (.v 76 (.ppt q) (.v 75 (.eq (wmS k m)) (.v 40 (.ppt j) .nil))))))) i
      .exact .inr ⟨none,by rw [mg,if_pos (show gQ ss.length (b++ [y]) x=true by simp only [gQ,b0,b1,b2,b3,Xj4,Xx2,Xzq,Xj1,Xxi,Xq6,c])],pN 33 [] 7 113 (.k 1 (bu b3) (.k 4 (k0 ((b++ [y]).length - 1)) (.c t (.k 1 (ax n) (.c (aw b2) (.k 1 (aw b1) (.k 2 (aw b0) (.k 19 (k0 (b++ [y]).length) (.c d (.c (ax d) .nil)))))))))) (.c (FO y x) (.v 76 (.ppt q) (.v 75 (.eq (wmS k m)) (.v 40 (.ppt j) .nil)))) i⟩
 .rintro ⟨l,ks,vs⟩ ⟨hp,_,_⟩
  simp only at hp;subst hp;have d:(decide ((l.length:Int)<(l.length:Int)))=false:=kn (κ _);cases l with
  |nil=>exact pN 33 [] 1 0 (.c (aw d) .nil) (.nil) i
  |cons a r=>exact pN 33 [] 1 0 (.c (aw d) .nil) (.nil) i
def Ot (so sp:List UInt8->Nat) (x:List UInt8):Bool:= !(decide (((1:Nat):Int)<((so x:Nat):Int))) && !(decide (((1:Nat):Int)<((sp x:Nat):Int)))
end Go.Proofs.Tryz
open Go AM Go.RowKit Go.Shelf
namespace Go.Proofs.Tryz
attribute [local go_sem] Oper.semAt_some
theorem dl {W W':World} (h:Below W.heap.size W W'):eO (aR W) (aR W'):=by
 intro k o v b;have a:=ju b;rw [<- b];unfold aR;rw [h.block k a,World.cell?_of_block (h.block k a)]
theorem pw {W W':World} (h:Below W.heap.size W W') (c:cG ap (aR W)):cG ap (aR W'):=by
 intro k e f;obtain ⟨vs,d,a⟩:=c k e f;exact ⟨vs,aY (dl h) _ d,λj u b=> ⟨dl h _ _ _ (a j u b).1,(a j u b).2⟩⟩
theorem ab3 {W:World} (a:cG ap (aR W)) (m:aN):bE ap (aW []) m (aR W) W:=
 ⟨λb c B B' h=>by simp [aW] at h,λb B h=>by simp [aW] at h,λk o v h=>h,λb B h=>by simp [aW] at h,a⟩
theorem qt {f:Nat} {args:List AV} {g:IntKind} {x:Int} (j:CO f args (.ret (.int g x))) {W:World} (i:cG ap (aR W)) {cargs:List Value} (o:bw (aR W) args cargs) {n:Nat}:
  CallsIn Fence.wide n prog f cargs.toArray W λe W'=>e= .returned (.int g x)/\Below W.heap.size W W':=by
 refine callsIn_wide.2 ?_;refine (j.calls (λ_=>(0,0)) (aR W) W cargs (ab3 i _) (bz _ o)).mono ?_
 rintro e W' ⟨m',S',hF⟩
 obtain ⟨_,a,c⟩:=hF;obtain ⟨cv,rfl,d⟩:=c;simp only [qL,VR,PR] at d;subst d;exact ⟨rfl,a.os,a.tape,a.output,a.size,λk m=>a.rest k m λb B h=>by simp [aW] at h⟩
theorem eT {W W':World} (h:Below W.heap.size W W') (a:Option Nat):W.grownBy W' a:=
 ⟨h.os,h.tape,h.output,h.size,λk b _=>h.block k b⟩
def iK (f g:Nat->Int) (k:Nat):List Int:=(Xqm k).flatMap λj=> [f j,g j]
theorem ow (f g:Nat->Int) (k:Nat):iK f g (k+1)=iK f g k++ [f k]++ [g k]:=by simp [iK,List.range_succ]
theorem ou (f g:Nat->Int) (k:Nat):(iK f g k).length=2*k:=by
 induction k with
 |zero=>rfl
 |succ k ih=>rw [ow];simp [ih];omega
theorem Ld (f g:Nat->Int) {k n:Nat} (h:k<=n):iK f g k<+:iK f g n:=by
 induction n with
 |zero=>
  obtain rfl:k=0:=by omega
  exact Xww _
 |succ n ih=>
  by_cases hk:k=n+1
  .subst hk;exact Xww _
  .exact (ih (by omega)).trans (by rw [ow,Xqe];exact Xvy _ _)
set_option maxRecDepth 100000 in
set_option maxHeartbeats 4000000 in
theorem Hd (n:Nat) (hn:2<=n) (l kn ke ks n₀ b off len cap:Nat) (E SC:AV) (ue us:Value) (ns:Nat->List UInt8) (so sp:Nat->Int) (hreach:len*16<=140737488351232)
  (hso:∀ k,k<len->CO 28 [E,SC,.int .i64 6,.str (ns k)] (.ret (.int .i64 (so k)))) (hsp:∀ k,k<len->CO 28 [E,SC,.int .i64 8,.str (ns k)] (.ret (.int .i64 (sp k))))
  (J Jx:List Int->World->Prop) (W:World) (hAJ:AbidesFrom W.heap.size J)
  (hY:∀ pre x W1,J pre W1->pre.length<2*len->YieldAt Fence.wide (n - 1) prog l #[.int .i64 x] W1 λe W'=>
   (e= .returned (.bool true)/\J (pre++ [x]) W'/\Below n₀ W1 W')\/(e= .returned (.bool false)/\Jx (pre++ [x]) W'))
  (hn0:n₀<=W.heap.size) (hbn:b<n₀) (hkn:kn<n₀) (hke:ke<n₀) (hks:ks<n₀)
  (w0:World) (hw0:w0.heap.size=n₀) (hW:Below n₀ w0 W) (hg:cG ap (aR w0)) (hpr:bw (aR w0) [E,SC] [ue,us])
  (cn:w0.cell? ⟨kn,0,none⟩=some (.slice (some ⟨b,off,none⟩) len cap)) (ce:w0.cell? ⟨ke,0,none⟩=some ue) (cs:w0.cell? ⟨ks,0,none⟩=some us)
  (hc:∀ j,j<len->w0.cell? ⟨b,off+j,none⟩=some (.string ⟨(ns j).toArray⟩)) (h0:J [] W):
  CallsIn Fence.wide n prog 151 #[.func (.yield l) #[] #[],.pointer (some ⟨kn,0,none⟩),.pointer (some ⟨ke,0,none⟩),.pointer (some ⟨ks,0,none⟩)] W λe W'=>(∃ v,e= .returned v)/\
   ((∃ ys,ys=iK so sp len/\J ys W')\/(∃ pre,pre<+:iK so sp len/\Jx pre W')):=by
 have kee:∀ (w:World),Below n₀ w0 w->∀ (k j:Nat) (v:Value),k<n₀->w0.cell? ⟨k,j,none⟩=some v->w.cell? ⟨k,j,none⟩=some v:=λw h k j v hk hv=>(Below.cell h (p:=⟨k,j,none⟩) hk).trans hv
 have cn':=kee _ hW _ _ _ hkn cn;refine callsIn_of_wp Tryz.func151 rfl trivial ?_ rfl;simp only [Tryz.ntmps151,Xxg,ο,Ξ,Xj8,Xj9,Array.replicate_succ,Array.replicate_zero,Xx9,Xxz,Xqb,Xqu]
 gi_wp2
 gi_loopw [9] (λi wr=> ∃ k:Nat,k<=len/\i= .int .i64 k/\J (iK so sp k) wr/\Below n₀ w0 wr/\W.heap.size<=wr.heap.size)
  (λi _=>len - (intOf i).toNat)
 case atStart=>exact ⟨0,Xqo _,rfl,h0,hW,κ _⟩
 case round=>
  obtain ⟨k,hk,rfl,hJs,hnx,hsz⟩:=hrel;have hcx:k<len->wr.cell? ⟨b,off+k,none⟩=some (.string ⟨(ns k).toArray⟩):=λh=>kee _ hnx _ _ _ hbn (hc k h)
  have ce1:=kee _ hnx _ _ _ hke ce;have cs1:=kee _ hnx _ _ _ hks cs;by_cases hlt:k<len
  .have hcx':=hcx hlt;have bW1:∀ (w:World),Below n₀ w0 w->Below w0.heap.size w0 w:=λw h=>by rw [hw0];exact h
   have PR4:∀ (w:World) (op:Int),Below n₀ w0 w->bw (aR w) [E,SC,.int .i64 op,.str (ns k)] [ue,us,.int .i64 op,.string ⟨(ns k).toArray⟩]:=λw op h=>by
    have h2:=aY (dl (bW1 w h)) _ hpr;simp only [bw,PR] at h2 ⊢;exact ⟨h2.1,h2.2.1,trivial,trivial,trivial⟩
   have LE1:iK so sp len=iK so sp k++ [so k]++ [sp k]++(iK so sp len).drop (2*(k+1)):=by
    rw [<- ow];obtain ⟨r,hr⟩:=Ld so sp (show k+1<=len by omega)
    conv=>rhs;rw [<- hr]
    rw [Xkr (ou ..)];exact hr.symm
   have hf14:Fence.wide.fn 28:=trivial;have h1n:1<=n:=by omega
   gi_wp2_with (gi_at_call 28;refine (qt (hso k hlt) (pw (bW1 _ hnx) hg) (PR4 _ 6 hnx)).mono ?_;rintro e W1 ⟨rfl,hb1⟩;have hJ1:=hAJ _ _ _ none hJs (eT hb1 none) (λr e=>by cases e);have hnx1:Below n₀ w0 W1:=hnx.trans (hb1.mono (by omega));obtain ⟨fn,tmps,assign,body,hy,hR⟩:=hY _ (so k) W1 hJ1 (by rw [ou];omega))
   refine hR.mono ?_
   rintro e W3 (⟨rfl,hJ3,hk3⟩|⟨rfl,hJx3⟩)
   .have hnx3:=hnx1.trans hk3;have ce3:=kee _ hnx3 _ _ _ hke ce;have cs3:=kee _ hnx3 _ _ _ hks cs
    gi_wp2_with (gi_at_call 28;refine (qt (hsp k hlt) (pw (bW1 _ hnx3) hg) (PR4 _ 8 hnx3)).mono ?_;rintro e W4 ⟨rfl,hb4⟩;have hJ4:=hAJ _ _ _ none hJ3 (eT hb4 none) (λr e=>by cases e);have hnx4:Below n₀ w0 W4:=hnx3.trans (hb4.mono (by rw [<- hw0];exact hnx3.size));obtain ⟨fn4,tmps4,assign4,body4,hy4,hR4⟩:=hY _ (sp k) W4 hJ4 (by rw [ξ,ou,Δ];omega))
    refine hR4.mono ?_
    rintro e W5 (⟨rfl,hJ5,hk5⟩|⟨rfl,hJx5⟩)
    .gi_wp2
     go_roundw
     case rel=>exact ⟨k+1,by omega,by simp,by rw [ow];exact hJ5,hnx4.trans hk5,by have:=hb1.size;have:=hk3.size;have:=hb4.size;have:=hk5.size;omega⟩
     case measure=>simp [intOf];omega
    .gi_wp2
     refine bodyPost_ret (results_none rfl _ _ _) rfl ?_;exact ⟨⟨_,rfl⟩,.inr ⟨_,by rw [LE1];exact Xvy _ _,hJx5⟩⟩
   .gi_wp2_with (refine ⟨λ_ _=>trivial, ?_⟩)
    refine bodyPost_ret (results_none rfl _ _ _) rfl ?_;exact ⟨⟨_,rfl⟩,.inr ⟨_,by rw [LE1,Xqe];exact Xvy _ _,hJx3⟩⟩
  .obtain rfl:k=len:=by omega
   gi_wp2
   go_end0
   exact ⟨⟨_,rfl⟩,.inl ⟨_,rfl,hJs⟩⟩
attribute [local go_sem] Oper.semAt_some
theorem KR (a1 a2 a3:Option Addr) (l1 l2 l3 c1 c2 c3:Nat) (n:Nat) (w:World):
  CallsIn Fence.wide n prog 108 #[.slice a1 l1 c1,.slice a2 l2 c2,.slice a3 l3 c3] w λe w'=>e= .returned (.func (.func 151) #[] #[.pointer (some ⟨w.heap.size+2,0,none⟩),.pointer (some ⟨w.heap.size,0,none⟩),.pointer (some ⟨w.heap.size+1,0,none⟩)])/\w'=((w.alloc (.cells #[.slice a1 l1 c1] 63)).alloc (.cells #[.slice a2 l2 c2] 35)).alloc (.cells #[.slice a3 l3 c3] 130):=by
 refine callsIn_of_wp Tryz.func108 rfl trivial ?_ rfl;simp only [Tryz.ntmps108,Xxg,ο,Ξ,Xj8,Xj9,Array.replicate_succ,Array.replicate_zero,Xx9,Xxz,Xqb,Xqu]
 gi_wp2
 go_ret
 refine ⟨?_,rfl⟩;simp
theorem Om {w:World} {tmps:Array Value} {k:Nat} {b:Bool} (e:tmps.getD 6 undef= .pointer (some ⟨k,0,none⟩)) (d:w.cell? ⟨k,0,none⟩=some (.bool b)):(results f66 tmps).run prog w= .ok (.bool b) w:=by
 refine fP (vs:= [.bool b]) rfl ?_;intro i r v c a
 match i with
 | 0=>
  simp only [Xxf,Option.some.injEq] at a;subst a;have:r= .cell 6 4:=by
   have h0:f66.results.toList[0]? =some (.cell 6 4):=rfl;rw [h0] at c;exact (Option.some.inj c).symm
  subst this;have f:prog.underlying 4=some .bool:=by kernel_rfl
  simp only [rq,e];simp [asAddr,loadVar,f,d,go_sem]
 |n+1=>simp at a
theorem KI (E:AV) (x:Int) (hx:x ≠ 0) (hck:CO 64 [E] (.ret (.int .i64 x))) (n:Nat) (hn:3<=n) (ue us un:Value) (w:World) (hg:cG ap (aR w)) (hpr:bw (aR w) [E] [ue]):
  CallsIn Fence.wide n prog 66 #[ue,us,un] w λe w'=>e= .returned (.bool false)/\Below w.heap.size w w':=by
 have h21:Fence.wide.fn 64:=trivial;have h1n:1<=n:=by omega
 have ha:Below w.heap.size w (w.alloc (.cells #[.bool false] 4)):=(Below.refl _ w).alloc (κ _) _;have hx':decide (x=0)=false:=Yq1 hx;refine callsIn_of_wp_marks Tryz.func66 rfl trivial ?_ rfl;simp only [Tryz.ntmps66,Xxg,ο,Ξ,Xj8,Xj9,Array.replicate_succ,Array.replicate_zero,Xx9,Xxz,Xqb,Xqu]
 gi_wp2_with (gi_at_call 64;refine (qt hck (pw ha hg) (aY (dl ha) _ hpr)).mono ?_;rintro e W1 ⟨rfl,hb1⟩;have hc1:=(hb1.cell (p:=⟨w.heap.size,0,none⟩) (by simp)).trans (show (w.alloc (.cells #[.bool false] 4)).cell? ⟨w.heap.size,0,none⟩=some (.bool false) by simp);have hf1:=(hb1.frozen (p:=⟨w.heap.size,0,none⟩) (by simp)).trans (show (w.alloc (.cells #[.bool false] 4)).frozen? ⟨w.heap.size,0,none⟩=false by simp))
 exact ⟨_,Om rfl (World.cell?_setCell_same' _ _ _ (by rw [hc1];rfl)),rfl,(ha.trans (hb1.mono (by simp))).setCell (p:=⟨w.heap.size,0,none⟩) (κ _) _⟩
attribute [local go_sem] Oper.semAt_some
set_option maxRecDepth 100000 in
set_option maxHeartbeats 1000000 in
theorem E4 (n:Nat) (l kn ke ks cap:Nat) (an:Option Addr) (so sp:Nat->Int) (J Jx:List Int->World->Prop) (W:World) (cn:W.cell? ⟨kn,0,none⟩=some (.slice an 0 cap)) (h0:J [] W):
  CallsIn Fence.wide n prog 151 #[.func (.yield l) #[] #[],.pointer (some ⟨kn,0,none⟩),.pointer (some ⟨ke,0,none⟩),.pointer (some ⟨ks,0,none⟩)] W λe W'=>(∃ v,e= .returned v)/\
   ((∃ ys,ys=iK so sp 0/\J ys W')\/(∃ pre,pre<+:iK so sp 0/\Jx pre W')):=by
 refine callsIn_of_wp Tryz.func151 rfl trivial ?_ rfl;simp only [Tryz.ntmps151,Xxg,ο,Ξ,Xj8,Xj9,Array.replicate_succ,Array.replicate_zero,Xx9,Xxz,Xqb,Xqu]
 gi_wp2
 gi_loopw [9] (λi wr=>i= .int .i64 0/\J [] wr) (λ_ _=>0)
 case atStart=>exact ⟨rfl,h0⟩
 case round=>
  obtain ⟨rfl,hJs⟩:=hrel
  gi_wp2
  go_end0
  exact ⟨⟨_,rfl⟩,.inl ⟨_,rfl,hJs⟩⟩
theorem Dg (n:Nat) (B:2<=n) (kn e ks b c cap:Nat) (o:Option Addr) (E SC:AV) (g m:Value) (a:List (List UInt8)) (f q:List UInt8->Int) (hreach:a.length*16<=140737488351232)
  (hso:∀ s ∈ a,CO 28 [E,SC,.int .i64 6,.str s] (.ret (.int .i64 (f s)))) (hsp:∀ s ∈ a,CO 28 [E,SC,.int .i64 8,.str s] (.ret (.int .i64 (q s))))
  (w:World) (hg:cG ap (aR w)) (hpr:bw (aR w) [E,SC] [g,m]) (hkn:kn<w.heap.size) (hke:e<w.heap.size) (hks:ks<w.heap.size)
  (cn:w.cell? ⟨kn,0,none⟩=some (.slice o a.length cap)) (ce:w.cell? ⟨e,0,none⟩=some g) (cs:w.cell? ⟨ks,0,none⟩=some m)
  (hc:0<a.length->o=some ⟨b,c,none⟩/\b<w.heap.size/\∀ j,j<a.length->w.cell? ⟨b,c+j,none⟩=some (.string ⟨((a[j]?).getD []).toArray⟩)):
  SeqStopsK Fence.wide n prog 151 #[.pointer (some ⟨kn,0,none⟩),.pointer (some ⟨e,0,none⟩),.pointer (some ⟨ks,0,none⟩)] (λx:Int=> #[Value.int .i64 x]) (Below w.heap.size)
   (λy=>y=iK (λk=>f ((a[k]?).getD [])) (λk=>q ((a[k]?).getD [])) a.length) (λpre=>pre<+:iK (λk=>f ((a[k]?).getD [])) (λk=>q ((a[k]?).getD [])) a.length) (2*a.length) w:=by
 intro l J Jx W r v _ u h0;have t:∀ k,k<a.length->(a[k]?).getD [] ∈ a:=λk d=>by rw [ν d];exact Xxv d
 by_cases h:0<a.length
 .obtain ⟨rfl,A,i⟩:=hc h;exact Hd n B l kn e ks w.heap.size b c a.length cap E SC g m (λk=>(a[k]?).getD []) _ _ hreach (λk d=>hso _ (t k d)) (λk d=>hsp _ (t k d)) J Jx W v u r.size A hkn hke hks w rfl r hg hpr cn ce cs i h0
 .have z:a.length=0:=by omega
  rw [z] at cn ⊢;exact E4 n l kn e ks cap o _ _ J Jx W ((r.cell (p:=⟨kn,0,none⟩) hkn).trans cn) h0
set_option maxRecDepth 100000 in
set_option maxHeartbeats 2000000 in
theorem G6 (E SC:AV) (hck:CO 64 [E] (.ret (.int .i64 0))) (ns:List (List UInt8)) (so sp:List UInt8->Int) (hreach:ns.length*16<=140737488351232)
  (hso:∀ s ∈ ns,CO 28 [E,SC,.int .i64 6,.str s] (.ret (.int .i64 (so s)))) (hsp:∀ s ∈ ns,CO 28 [E,SC,.int .i64 8,.str s] (.ret (.int .i64 (sp s)))) (n:Nat) (hn:4<=n)
  (a1 a2 an:Option Addr) (l1 l2 c1 c2 cap b off:Nat) (w:World) (hg:cG ap (aR w)) (hpr:bw (aR w) [E,SC] [.slice a1 l1 c1,.slice a2 l2 c2])
  (hc:0<ns.length->an=some ⟨b,off,none⟩/\∀ j,j<ns.length->w.cell? ⟨b,off+j,none⟩=some (.string ⟨((ns[j]?).getD []).toArray⟩)):
  CallsIn Fence.wide n prog 66 #[.slice a1 l1 c1,.slice a2 l2 c2,.slice an ns.length cap] w λe w'=>e= .returned (.bool ((iK (λk=>so ((ns[k]?).getD [])) (λk=>sp ((ns[k]?).getD [])) ns.length).all λx=>decide (x<=1)))/\Below w.heap.size w w':=by
 have h21:Fence.wide.fn 64:=trivial;have h47:Fence.wide.fn 108:=trivial;have h1n:1<=n:=by omega
 have ha:Below w.heap.size w (w.alloc (.cells #[.bool false] 4)):=(Below.refl _ w).alloc (κ _) _;have hpe:bw (aR w) [E] [.slice a1 l1 c1]:=by simp only [bw] at hpr ⊢;exact ⟨hpr.1,trivial⟩
 refine callsIn_of_wp_marks Tryz.func66 rfl trivial ?_ rfl;simp only [Tryz.ntmps66,Xxg,ο,Ξ,Xj8,Xj9,Array.replicate_succ,Array.replicate_zero,Xx9,Xxz,Xqb,Xqu]
 gi_wp2_with (first
  |(gi_at_call 64;refine (qt hck (pw ha hg) (aY (dl ha) _ hpe)).mono ?_;rintro e W1 ⟨rfl,hb1⟩)
  |(gi_at_call 108;refine (KR a1 a2 an l1 l2 ns.length c1 c2 cap _ _).mono ?_;rintro e W2 ⟨rfl,rfl⟩)
  |gi_in)
 obtain ⟨W3,hW3⟩:∃ W3,((W1.alloc (.cells #[.slice a1 l1 c1] 63)).alloc (.cells #[.slice a2 l2 c2] 35)).alloc (.cells #[.slice an ns.length cap] 130)=W3:=⟨_,rfl⟩
 rw [hW3];have hs3:W3.heap.size=W1.heap.size+3:=by rw [<- hW3];simp
 have hb3:Below W1.heap.size W1 W3:=by rw [<- hW3];exact (((Below.refl _ W1).alloc (κ _) _).alloc (by simp) _).alloc (by simp;omega) _
 have hs1:w.heap.size+1<=W1.heap.size:=by have:=hb1.size;simpa using this
 have hwW1:Below w.heap.size w W1:=ha.trans (hb1.mono (by simp));have hw3:Below w.heap.size w W3:=hwW1.trans (hb3.mono (by omega));have k1:W3.cell? ⟨W1.heap.size,0,none⟩=some (.slice a1 l1 c1):=by rw [<- hW3];exact (((Boxed.new W1 63 (.slice a1 l1 c1)).alloc _).alloc _).cell
 have k2:W3.cell? ⟨W1.heap.size+1,0,none⟩=some (.slice a2 l2 c2):=by
  have:=((Boxed.new (W1.alloc (.cells #[.slice a1 l1 c1] 63)) 35 (.slice a2 l2 c2)).alloc (.cells #[.slice an ns.length cap] 130)).cell;rw [World.size_alloc] at this;rw [<- hW3];exact this
 have k3:W3.cell? ⟨W1.heap.size+2,0,none⟩=some (.slice an ns.length cap):=by
  have:=(Boxed.new ((W1.alloc (.cells #[.slice a1 l1 c1] 63)).alloc (.cells #[.slice a2 l2 c2] 35)) 130 (.slice an ns.length cap)).cell;rw [World.size_alloc,World.size_alloc] at this;rw [<- hW3];exact this
 have kc:W3.cell? ⟨w.heap.size,0,none⟩=some (.bool false):=((hb3.cell (p:=⟨w.heap.size,0,none⟩) hs1).trans (hb1.cell (p:=⟨w.heap.size,0,none⟩) (by simp))).trans (Boxed.new w 4 (.bool false)).cell;have kf:W3.frozen? ⟨w.heap.size,0,none⟩=false:=((hb3.frozen (p:=⟨w.heap.size,0,none⟩) hs1).trans (hb1.frozen (p:=⟨w.heap.size,0,none⟩) (by simp))).trans (Boxed.new w 4 (.bool false)).frozen;have hc3:0<ns.length->an=some ⟨b,off,none⟩/\b<W3.heap.size/\∀ j,j<ns.length->W3.cell? ⟨b,off+j,none⟩=some (.string ⟨((ns[j]?).getD []).toArray⟩):=by
  intro h;obtain ⟨h1,h2⟩:=hc h;have hbl:b<w.heap.size:=World.block_lt_of_cell? w ⟨b,off+0,none⟩ (h2 0 h);exact ⟨h1,by omega,λj hj=>(hw3.cell (p:=⟨b,off+j,none⟩) hbl).trans (h2 j hj)⟩
 have oB:∀ {A B:World} {row:Option Nat},Below w.heap.size w A->A.grownBy B row->(∀ r,row=some r->W3.heap.size<=r/\∃ o:Obj,A.heap[r]? =some o/\o.isCells=false)->Below w.heap.size w B:=
  λh hg hr=>ownFrom_below (β:=Unit) (n₀:=w.heap.size) (B:=W3.heap.size) (w₀:=w) (κ _) hw3.size () _ _ _ h hg hr
 have oC:∀ {A:World} {D:Nat} {o:Obj} {v:Value},W3.heap.size<=D->A.cell? ⟨w.heap.size,0,none⟩=some v->(A.putObj D o).cell? ⟨w.heap.size,0,none⟩=some v:=
  fun {A D o v} hD hv=>(World.cell?_of_block (World.putObj_heap_other (show w.heap.size ≠ D by omega))).trans hv
 have pB:∀ {A:World} {D:Nat} {o:Obj},W3.heap.size<=D->Below w.heap.size w A->Below w.heap.size w (A.putObj D o):=
  fun {A D o} hD h=>h.trans ((Below.refl _ A).grown (grownBy_putObj' A D o) h.size (λk e=>by cases e;omega))
 refine wpIn_rangeFunc_ownF rfl h1n (gf:=151) (lb:=#[.pointer (some ⟨W1.heap.size+2,0,none⟩),.pointer (some ⟨W1.heap.size,0,none⟩),.pointer (some ⟨W1.heap.size+1,0,none⟩)]) rfl trivial (enters_of Tryz.func151 (by kernel_rfl) rfl)
  (Dg (n - 1) (by omega) (W1.heap.size+2) W1.heap.size (W1.heap.size+1) b off cap an E SC _ _ ns so sp hreach hso hsp W3 (pw hw3 hg) (aY (dl hw3) _ hpr) (by omega) (by omega) (by omega) k3 k1 k2 hc3)
  (λh k=>h.trans k) (λW l o o' hl h hc hw=>belowK_b (κ _) W l o o' hl h hc hw) (Below.refl _ _) (λ_=>rfl)
  (λpre W=>(∀ x ∈ pre,x<=1)/\W.cell? ⟨w.heap.size,0,none⟩=some (.bool false)/\W.frozen? ⟨w.heap.size,0,none⟩=false/\Below w.heap.size w W)
  (λc pre W=>c= .ret/\(∃ x ∈ pre,¬ x<=1)/\W.cell? ⟨w.heap.size,0,none⟩=some (.bool false)/\Below w.heap.size w W)
  (λs A B row hs hg hr=> ⟨hs.1,cell_kept hs.2.1 hg (λr e=>(hr r e).2),(frozen_kept hs.2.1 hg (λr e=>(hr r e).2)).trans hs.2.2.1,oB hs.2.2.2 hg hr⟩)
  (λc s A B row hs hg hr=> ⟨hs.1,hs.2.1,cell_kept hs.2.2.1 hg (λr e=>(hr r e).2),oB hs.2.2.2 hg hr⟩)
  ⟨by simp,kc,kf,hw3⟩
  (λx=> {tmps:=#[.slice a1 l1 c1,.slice a2 l2 c2,.slice an ns.length cap,undef,undef,undef,.pointer (some ⟨w.heap.size,0,none⟩),.int .i64 x,.slice a1 l1 c1,.int .i64 0,.bool false,.slice a1 l1 c1,.slice a2 l2 c2,.slice an ns.length cap,.func (.func 151) #[] #[.pointer (some ⟨W1.heap.size+2,0,none⟩),.pointer (some ⟨W1.heap.size,0,none⟩),.pointer (some ⟨W1.heap.size+1,0,none⟩)],.int .i64 x,undef,undef],defers:= []}) ?assign ?body ?done ?stop
 case assign=>
  intro l x W K hK
  gi_wp2
  exact hK
 case body=>
  rintro l pre x W ⟨hp,hcW,hfW,hbW⟩ _
  by_cases hx:x<=1
  .have hx1:¬ (1<x):=by omega
   gi_wp2
   exact ⟨KeepsOthers.refl _,Below.refl _ _,(λy hy=>by rcases List.mem_append.1 hy with h|h;exact hp y h;rw [List.mem_singleton.1 h];exact hx),hcW,hfW,hbW⟩
  .have hx1:1<x:=by omega
   gi_wp2
   exact ⟨KeepsOthers.setCell _ _ _,rfl,⟨x,by simp,hx⟩,World.cell?_setCell_same' _ _ _ (by rw [hcW];rfl),hbW.setCell (p:=⟨w.heap.size,0,none⟩) (κ _) _⟩
 case done=>
  rintro D xs W hD rfl ⟨hp,hcW,hfW,hbW⟩ hK
  gi_wp2
  have hK':(W.setCell ⟨w.heap.size,0,none⟩ (.bool true)).heap[D]? =some (.deferred (some [])):=(Below.heap_setCell W ⟨w.heap.size,0,none⟩ (.bool true) D (by show D ≠ w.heap.size;omega)).trans hK;refine ⟨by simp,.inl ⟨_,_,rfl,run_takeDeferred hK', ?_⟩⟩;refine ⟨_,Om rfl (oC hD (World.cell?_setCell_same' _ _ _ (by rw [hcW];rfl))), ?_,pB hD (hbW.setCell (p:=⟨w.heap.size,0,none⟩) (κ _) _)⟩;congr 2;exact (List.all_eq_true.2 λx hx=>Yq0 (hp x hx)).symm
 case stop=>
  rintro D c pre W hD hSp ⟨rfl,⟨x,hx,hx1⟩,hcW,hbW⟩ hK
  gi_wp2
  refine ⟨by simp,.inl ⟨_,_,rfl,run_takeDeferred hK, ?_⟩⟩;refine ⟨_,Om rfl (oC hD hcW), ?_,pB hD hbW⟩;congr 2;obtain ⟨r,hr⟩:=hSp;symm;rw [Bool.eq_false_iff];intro h;rw [<- hr] at h;have h2:=of_decide_eq_true (List.all_eq_true.1 h x (List.mem_append.2 (.inl hx)));omega
def Q8 (x:AV):Prop:=x= .nilS\/∃ l n b,x= .sl l n b
theorem Q8.val {S:aH} {x:AV} {v:Value} (h:Q8 x) (d:PR S x v):∃ a l c,v= .slice a l c:=by
 rcases h with rfl|⟨l,n,b,rfl⟩
 .simp only [PR] at d;exact ⟨_,_,_,d⟩
 .simp only [PR] at d;obtain ⟨a,cap,rfl,_⟩:=d;exact ⟨_,_,_,rfl⟩
def Po (ns:List (List UInt8)) (b:Bool):AV:= .sl (ns.map .str) ns.length b
theorem Pp {S:aH} {d:List (List UInt8)} {b:Bool} {v:Value} (e:PR S (Po d b) v):∃ an cap k c,v= .slice an d.length cap/\(0<d.length->an=some ⟨k,c,none⟩/\∀ j,j<d.length->S k (c+j)=some (.string ⟨((d[j]?).getD []).toArray⟩)):=by
 simp only [Po,PR] at e;obtain ⟨a,cap,rfl,_,h⟩:=e;rcases h with ⟨_,_,h,_⟩|⟨k,c,vs,rfl,i,m⟩
 .exact ⟨a,cap,0,0,rfl,λn=>absurd h (by omega)⟩
 .refine ⟨_,cap,k,c,rfl,λ_=> ⟨rfl,λj f=> ?_⟩⟩;obtain ⟨u,g,hp⟩:=BU i j (x:= .str ((d[j]?).getD [])) (by rw [List.getElem?_map,ν f];rfl);simp only [PR] at hp;rw [<- hp];exact (m j u g).1
theorem Y1:rD prog 66:=enters_of Tryz.func66 (by kernel_rfl) rfl
theorem zx {args:List AV} {b:Bool} (h:∀ w cargs,cG ap (aR w)->bw (aR w) args cargs->CallsIn Fence.wide 9 prog 66 cargs.toArray w λe w'=>e= .returned (.bool b)/\Below w.heap.size w w'):CO 66 args (.ret (.bool b)):=by
 refine ⟨κ _,Y1, ?_⟩;intro m S w cargs d q;have a:eO S (aR w):=λk o v c=>d.sealed k o v c
 have i:cG ap (aR w):=by
  intro k p c;obtain ⟨vs,n,g⟩:=d.glob k p c;exact ⟨vs,aY a _ n,λj u f=> ⟨a _ _ _ (g j u f).1,(g j u f).2⟩⟩
 refine (callsIn_wide.1 (h w cargs i (aY a _ (eJ (m:=m) _ q)))).mono ?_
 rintro e w' ⟨rfl,hb⟩
 refine ⟨m,S, ?_, ?_,⟨_,rfl, ?_⟩⟩
 .exact ⟨λb r B B' h=>by simp [aW,il,gq] at h,λb B h=>by simp [aW,il,gq] at h,λk o v h=>dl hb k o v (a k o v h),λb B h=>by simp [aW,il,gq] at h,d.glob⟩
 .exact ⟨Ge.refl _ _,eO.refl S,hb.os,hb.tape,hb.output,hb.size,λk c _=>hb.block k c,λ_ B h=>by simp [aW,il,gq] at h,λ_ _ _ h=> .inl h⟩
 .simp only [qL,VR,PR]
theorem Ou (E SC NM:AV) (x:Int) (d:x ≠ 0) (b:CO 64 [E] (.ret (ω x))):CO 66 [E,SC,NM] (.ret (.bool false)):=by
 refine zx λw cargs c a=> ?_
 match cargs,a with
 | [ue,us,un],a=>
  simp only [bw] at a;exact KI E x d b 9 (by omega) ue us un w c (by simp only [bw];exact ⟨a.1,trivial⟩)
theorem Ov (E SC:AV) (b:Bool) (C:Q8 E) (n:Q8 SC) (o:CO 64 [E] (.ret (ω 0))) (a:List (List UInt8)) (c d:List UInt8->Int) (hreach:a.length*16<=140737488351232)
  (hso:∀ s ∈ a,CO 28 [E,SC,ω 6,.str s] (.ret (ω (c s)))) (hsp:∀ s ∈ a,CO 28 [E,SC,ω 8,.str s] (.ret (ω (d s)))):
  CO 66 [E,SC,Po a b] (.ret (.bool (a.all λs=>decide (c s<=1) && decide (d s<=1)))):=by
 have e:(a.all λs=>decide (c s<=1) && decide (d s<=1))=(iK (λk=>c ((a[k]?).getD [])) (λk=>d ((a[k]?).getD [])) a.length).all λx=>decide (x<=1):=by
  have:a=(Xqm a.length).map λk=>(a[k]?).getD []:=by
   apply List.ext_getElem
   .simp
   .intro i f m;simp [ν f]
  conv=>lhs;rw [this]
  simp [iK,List.all_flatMap,List.all_map,Function.comp_def]
 rw [e];refine zx λw cargs D g=> ?_
 match cargs,g with
 | [ue,us,un],g=>
  simp only [bw] at g;obtain ⟨f,m,z,_⟩:=g;obtain ⟨F,v,y,rfl⟩:=C.val f;obtain ⟨B,u,A,rfl⟩:=n.val m;obtain ⟨t,cap,k,p,rfl,q⟩:=Pp z;exact G6 E SC o a c d hreach hso hsp 9 (by omega) F B t v u y A cap k p w D (by simp only [bw];exact ⟨f,m,trivial⟩) λh=> ⟨(q h).1,λj r=>iY ((q h).2 j r) rfl⟩
theorem Su (a b:List UInt8->Nat) (x:List UInt8):Ot a b x=(decide (((a x:Nat):Int)<=1) && decide (((b x:Nat):Int)<=1)):=by
 unfold Ot;congr 1
 .by_cases h:((a x:Nat):Int)<=1
  .rw [Yq0 h,Yq1 (by omega)];rfl
  .rw [Yq1 h,Yq0 (by omega)];rfl
 .by_cases h:((b x:Nat):Int)<=1
  .rw [Yq0 h,Yq1 (by omega)];rfl
  .rw [Yq1 h,Yq0 (by omega)];rfl
def xg (cmp:Br->Br->Int) (e:List Nd) (qs:List Sq) (nl:List (List UInt8)):Bool:=
 (bO e==((0:Nat):Int)) && nl.all (Ot (λx=>dF (mn cmp) (mz cmp) e (qs.map Sq.c) 6 x) (λx=>dF (mn cmp) (mz cmp) e (qs.map Sq.c) 8 x))
theorem Av (e:List Nd) (d:Bool) (qs:List Sq) (f:Bool) (cmp:Br->Br->Int) (a:List (List UInt8)) (i:Bool) (b:∀ y ∈ e,y.sm) (c:e.length<2^40) (g:qs= []) (j:a.length<2^40):
  CO 66 [.sl (aO e) e.length d,.sl (iq (qs.map Sq.c)) qs.length f,.sl (Xz0 AV.str a) a.length i] (.ret (.bool (xg cmp e qs a))):=by
 have ck:=oW e d b;unfold xg;by_cases hq:bO e=0
 .rw [hq] at ck;have h:=Ov (.sl (aO e) e.length d) (.sl (iq (qs.map Sq.c)) qs.length f) i (.inr ⟨_,_,_,rfl⟩) (.inr ⟨_,_,_,rfl⟩) ck a
   (λx=>((dF (mn cmp) (mz cmp) e (qs.map Sq.c) 6 x:Nat):Int)) (λx=>((dF (mn cmp) (mz cmp) e (qs.map Sq.c) 8 x:Nat):Int)) (by omega)
   (λx _=>nT e d qs f cmp 6 x b c g) (λx _=>nT e d qs f cmp 8 x b c g)
  rw [hq,show ((0:Int)==((0:Nat):Int))=true from rfl,Xx0];rw [show a.all (Ot (λx=>dF (mn cmp) (mz cmp) e (qs.map Sq.c) 6 x) (λx=>dF (mn cmp) (mz cmp) e (qs.map Sq.c) 8 x))=a.all λs=>decide (((dF (mn cmp) (mz cmp) e (qs.map Sq.c) 6 s:Nat):Int)<=1) && decide (((dF (mn cmp) (mz cmp) e (qs.map Sq.c) 8 s:Nat):Int)<=1) from by congr 1;funext x;exact Su _ _ x];exact h
 .rw [show (bO e==((0:Nat):Int))=false from beq_eq_false_iff_ne.2 hq,Xx4];exact Ou _ _ _ (bO e) hq ck
abbrev prC (x:aP):List AV:= [.str x.nm,.bool x.tr,ω x.tm,ω x.td,.sl (aO x.body) x.body.length false,.bool x.ch,.bool x.st.n,.str x.st.a,.str x.st.d,.bool x.cp.n,.str x.cp.a,.str x.cp.d]
def gR (x:aP):Bool:=cT x.st.n x.st.a x.st.d && (cT x.cp.n x.cp.a x.cp.d && (decide (((0:Nat):Int)<ml x.st.n x.st.a x.st.d) && decide (((0:Nat):Int)<aX x.cp x.st)))
structure aP.sm (x:aP):Prop where
 body:∀ y ∈ x.body,y.sm
 len:x.body.length<2^40
 st:x.st.sm
 cp:x.cp.sm
theorem Jz (x:aP) (h:x.sm):CO 65 [.agg (prC x)] (.ret (.bool (gR x))):=by
 obtain ⟨s1,c⟩:=h.st;obtain ⟨a,b⟩:=h.cp;rcases tf (cT x.st.n x.st.a x.st.d) with b0|b0
 .rcases tf (cT x.cp.n x.cp.a x.cp.d) with b1|b1
  .rcases tf (decide (((0:Nat):Int)<(ml x.st.n x.st.a x.st.d))) with b2|b2
   .rw [show gR x=(decide (((0:Nat):Int)<(aX x.cp x.st))) by simp only [gR,b0,b1,b2,Xx0,Xx4]];exact pK [] 3 7 (.k 6 (ax b2) (.k 3 (ax b1) (.k 3 (ax b0) (.n 3 .nil)))) (.c (zZ x.cp x.st ⟨a,b⟩ ⟨s1,c⟩) (.c (gF x.st.n x.st.a x.st.d (by omega) (by omega)) (.c (cJ x.cp.n x.cp.a x.cp.d) (.c (cJ x.st.n x.st.a x.st.d) .nil))))
   .rw [show gR x=false by simp only [gR,b0,b1,b2,Xx0,Xx4]];exact pK [] 3 3 (.c (aw b2) (.k 3 (ax b1) (.k 3 (ax b0) (.n 3 .nil)))) (.c (gF x.st.n x.st.a x.st.d (by omega) (by omega)) (.c (cJ x.cp.n x.cp.a x.cp.d) (.c (cJ x.st.n x.st.a x.st.d) .nil)))
  .rw [show gR x=false by simp only [gR,b0,b1,Xx0,Xx4]];exact pK [] 3 1 (.k 1 (aw b1) (.k 3 (ax b0) (.n 3 .nil))) (.c (cJ x.cp.n x.cp.a x.cp.d) (.c (cJ x.st.n x.st.a x.st.d) .nil))
 .rw [show gR x=false by simp only [gR,b0,Xx0,Xx4]];exact pK [] 3 0 (.k 2 (aw b0) (.n 3 .nil)) (.c (cJ x.st.n x.st.a x.st.d) .nil)
def GK (es:List aP):List (List UInt8):=es.map (·.nm)
theorem WG (es:List aP):Dz es=Xz0 AV.str (GK es):=by simp [Dz,GK]
def uX (es:List aP) (x:aP):Bool:=xg bY x.body [] (GK es)
def xL (es:List aP) (_:Unit) (x:aP):Unit ⊕ Option Int:=if (!(bO x.body==((0:Nat):Int)))=true then .inr (some (bO x.body)) else if (!gR x)=true then .inr (some 1) else if (!uX es x)=true then .inr (some 17) else .inl ()
theorem Sv (es:List aP) (x:aP) (h:x.sm) (a:es.length<2^39):CO 66 [.sl (aO x.body) x.body.length false,.sl [] 0 false,.sl (Dz es) es.length false] (.ret (.bool (uX es x))):=by
 have:=Av x.body false [] false bY (GK es) false h.body h.len rfl (by simp only [GK,Xqp];omega);rw [<- WG,show (GK es).length=es.length from Xqp ..] at this;exact this
def J2 (es:List aP) (ss:List (List Lk)) (ne ns:Bool) (ks vs:List AV) (p:Nat × Unit):St:=⟨[(1,.ptr 0 0 0),(3,.mr 1 0),(4,.sl (Dz es) es.length false),(100,.sl (bq es) es.length ne),(101,ω (es.length:Int)),(102,ω (p.1:Int))],[(0,⟨[.sl (bq es) es.length ne,.sl (eM ss) ss.length ns,.sl [] 0 false],0,false,0,0,true⟩),(1,⟨[.agg ks,.agg vs],0,false,0,4611686018427387904,true⟩)],.dead,[]⟩
def MI (es:List aP) (ss:List (List Lk)) (ne ns:Bool) (ks vs:List AV):Option Int->St
 |none=> ⟨[(3,.mr 0 0)],[(0,⟨[.agg ks,.agg vs],0,false,0,4611686018427387904,true⟩)],.dead,[]⟩
 |some e=>(v_ e)
def fbE:Option Int->a_
 |none=> .exit 2
 |some _=> .ret
theorem QR {nt:Nat} (c:126<=nt) (es:List aP) (ss:List (List Lk)) (d f:Bool) (ks vs:List AV) (h:es.length<2^39) (i:∀ x ∈ es,x.sm):aB prog ap [] nt (af 2 (am f33)) fbE (J2 es ss d f ks vs) (MI es ss d f ks vs) (0,()) (goL (xL es) (λ_=>none) es ()):=by
 refine aB.goD (xL es) (λ_=>none) es (λ_ _=>True) ?_ ?_ () trivial
 .intro p x r _ b _;have e:(ε ((δ (p.length:Int))*14) (bq es))=PT x++bq r:=cQ uz b;have a:(decide ((p.length:Int)<(es.length:Int)))=true:=kl (mV b);have j:=i x (by rw [b];simp);have m:=Jz x j;have g:=oW x.body false j.body;have n:=Sv es x j h;have o:p.length<2^62:=by have:=mV b;omega
  show (∃ s',_/\ag _ _ _ _ _ (J2 es ss d f ks vs (p.length,())) _ _/\_)\/∃ q,_/\ag _ _ _ _ _ (J2 es ss d f ks vs (p.length,())) _ _;generalize p.length=k at*
  clear b;rcases tf ((bO x.body)==((0:Nat):Int)) with b0|b0
  .rcases tf (gR x) with b1|b1
   .rcases tf (uX es x) with b2|b2
    .exact .inl ⟨(),by simp only [xL,b0,b1,b2,Xq6,Xxi,Xqy,if_true,if_false],pN 33 [] 4 1 (.c (aI b2) (.k 2 (aI b1) (.k 12 (aI b0) (.k 16 (k0 k) (.c a (.c (ax a) .nil)))))) (.v 125 (.eq (FD o)) (.c n (.c m (.c g (.v 104 (.ppt e) .nil))))) c,trivial⟩
    .exact .inr ⟨some 17,by simp only [xL,b0,b1,b2,Xq6,Xxi,Xqy,if_true,if_false],pN 33 [] 4 9 (.c (bu b2) (.k 2 (aI b1) (.k 12 (aI b0) (.k 16 (k0 k) (.c a (.c (ax a) .nil)))))) (.c n (.c m (.c g (.v 104 (.ppt e) .nil)))) c⟩
   .exact .inr ⟨some 1,by simp only [xL,b0,b1,Xq6,Xxi,Xqy,if_true,if_false],pN 33 [] 3 5 (.c (bu b1) (.k 12 (aI b0) (.k 16 (k0 k) (.c a (.c (ax a) .nil))))) (.c m (.c g (.v 104 (.ppt e) .nil))) c⟩
  .exact .inr ⟨some (bO x.body),by simp only [xL,b0,Xq6,Xxi,Xqy,if_true,if_false],pN 33 [] 2 3 (.c (bu b0) (.k 16 (k0 k) (.c a (.c (ax a) .nil)))) (.c g (.v 104 (.ppt e) .nil)) c⟩
 .intro _ _;exact pN 33 [] 1 0 (.c (aw (kn (κ es.length))) .nil) (.nil) c
theorem j_ {a b c:Rat} (h:0<=c) (d:a<=b):a*c<=b*c:=by
 by_cases e:c=0
 .rw [e];grind
 .exact (rW (by grind)).2 d
theorem De {q:RQ} (h:q.ok):(q.neg=false->0<=q.rt)/\(q.neg=true->q.rt<=0):=by
 have hs:=ol h;unfold fQ at hs;constructor<;>intro a<;>rw [a] at hs<;>by_cases h0:q.n=0<;>simp [h0] at hs<;>grind
theorem DJ {a b c d:RQ} (e:a.ok) (g:b.ok) (f:c.ok) (hd:d.ok) (h:a.rt<=b.rt) (i:c.rt<=d.rt):(iC a c).rt<=(iC b d).rt:=by rw [pV e f,pV g hd];grind
theorem Fl {a b c d:RQ} (e:a.ok) (g:b.ok) (f:c.ok) (hd:d.ok) (h:a.rt<=b.rt) (i:d.rt<=c.rt):(gG a c).rt<=(gG b d).rt:=by rw [xh e f,xh g hd];grind
theorem Ex {a b c:RQ} (f:a.ok) (g:b.ok) (d:c.ok) (h:a.rt<=b.rt):(c.neg=false->(eH c a).rt<=(eH c b).rt/\(eH a c).rt<=(eH b c).rt)/\(c.neg=true->(eH c b).rt<=(eH c a).rt/\(eH b c).rt<=(eH a c).rt):=by
 rw [r_ d f,r_ d g,r_ f d,r_ g d];constructor
 .intro e;have:=j_ ((De d).1 e) h;exact ⟨by grind,this⟩
 .intro e;have:=j_ (c:= -c.rt) (by have:=(De d).2 e;grind) h;exact ⟨by grind,by grind⟩
theorem Oe {a b c:RQ} (g:a.ok) (i:b.ok) (d:c.ok) (h0:0<c.n) (h:a.rt<=b.rt):(c.neg=false->(bB a c).rt<=(bB b c).rt)/\(c.neg=true->(bB b c).rt<=(bB a c).rt):=by
 rw [uY g d h0,uY i d h0,Rat.div_def,Rat.div_def];have k:c.rt ≠ 0:=by
  have:=(ol d).2.1;unfold fQ at this;rw [if_neg (by omega)] at this;intro e;have:=this.2 e;split at this<;>cases this
 constructor
 .intro f;have hp:0<c.rt:=by have:=(De d).1 f;grind
  exact j_ (by have:=Rat.inv_pos.2 hp;grind) h
 .intro f;have hp:0< -c.rt:=by have:=(De d).2 f;grind
  have j:=Rat.inv_pos.2 hp;have e:(-c.rt)⁻¹= -(c.rt⁻¹):=by grind
  have:=j_ (c:=(-c.rt)⁻¹) (by grind) h;grind
theorem Ew {a b c d:RQ} (e:a.ok) (g:b.ok) (f:c.ok) (hd:d.ok) (h:a.rt<=b.rt) (i:c.rt<=d.rt):(if 0<ep a c then c else a).rt<=(if 0<ep b d then d else b).rt/\(if ep a c<0 then c else a).rt<=(if ep b d<0 then d else b).rt:=by
 have k:=nM e f;have j:=nM g hd;constructor
 .split<;>split<;>grind
 .split<;>split<;>grind
theorem wS {a b s:RQ} (c:a.ok) (e:b.ok) (hs:s.ok) (hp:0<fQ s) (h:a.rt<=b.rt):(gS a s).rt<=(gS b s).rt:=by
 obtain ⟨p,h0⟩:=zE hs hp;obtain ⟨d,j,m⟩:=zC c hs h0;obtain ⟨f,g,i⟩:=zC e hs h0;have k:a.rt / s.rt<=b.rt / s.rt:=by
  rw [Rat.div_def,Rat.div_def];exact j_ (by have:=Rat.inv_pos.2 p;grind) h
 have:((mw (bB a s):Int):Rat)<((mw (bB b s)+1:Int):Rat):=by rw [Rat.intCast_add,Rat.intCast_one];grind
 rw [Rat.intCast_lt_intCast] at this;have:((mw (bB a s):Int):Rat)<=((mw (bB b s):Int):Rat):=by rw [Rat.intCast_le_intCast];omega
 rw [d,f];exact j_ (by grind) this
theorem Th {a b s:RQ} (c:a.ok) (d:b.ok) (hs:s.ok) (hp:0<fQ s) (h:a.rt<=b.rt):(La a s).rt<=(La b s).rt:=by
 rw [<- UR c hs hp,<- UR d hs hp,pW,pW];have:=wS (kS d) (kS c) hs hp (by rw [pW,pW];grind);grind
theorem RI {a b s:RQ} (d:a.ok) (e:b.ok) (hs:s.ok) (hp:0<fQ s) (h:a.rt<=b.rt):(Kq a s).rt<=(Kq b s).rt:=by
 rw [<- TX d hs hp,<- TX e hs hp];have c:(bB s (nQ 2)).ok:=jT hs (by decide);exact wS (eP d c) (eP e c) hs hp (DJ d e c c h (by grind))
theorem cN {q y:RQ} (h:nB q= .val y):y=q:=by
 unfold nB at h;split at h<;>cases h;rfl
section
variable {ι:Type}
structure jg (s:ι->Nat) (a b:Oq):Prop where
 same:(∀ i,s i=0)->a=b
 up:(∀ i,s i<=1)->∀ p q,a= .val p->b= .val q->p.rt<=q.rt
 dn:(∀ i,s i=0\/s i=2)->∀ p q,a= .val p->b= .val q->q.rt<=p.rt
theorem jg.three {s:ι->Nat} {a b:Oq} (h:∃ i,3<=s i):jg s a b:=by
 obtain ⟨i,h⟩:=h;exact ⟨λz=>by have:=z i;omega,λz=>by have:=z i;omega,λz=>by have:=z i;omega⟩
theorem jg.eq {s:ι->Nat} {a b:Oq} (h:a=b):jg s a b:=⟨λ_=>h,λ_ p q hp c=>by rw [h] at hp;rw [hp] at c;cases c;grind,λ_ p q hp c=>by rw [h] at hp;rw [hp] at c;cases c;grind⟩
theorem jg.of {s t:ι->Nat} {a b:Oq} (h:∀ i,t i=s i) (c:jg s a b):jg t a b:=by rw [show t=s from funext h];exact c
theorem UM {s:Nat} (h:fS s=0):s=0:=by unfold fS at h;split at h<;>omega
theorem UN {s:Nat} (h:fS s<=1):s=0\/s=2:=by unfold fS at h;split at h<;>omega
theorem UO {s:Nat} (h:fS s=0\/fS s=2):s<=1:=by unfold fS at h;split at h<;>omega
theorem jg.turn {s:ι->Nat} {a b:Oq} (h:jg s a b):jg (λi=>fS (s i)) b a:=
 ⟨λz=>(h.same λi=>UM (z i)).symm,λz p q hp c=>h.dn (λi=>UN (z i)) q p c hp,λz p q hp c=>h.up (λi=>UO (z i)) q p c hp⟩
theorem yD {s t:Nat} (h:cL s t=0):s=0/\t=0:=by unfold cL at h;(repeat' split at h)<;>omega
theorem A7 {s t:Nat} (h:cL s t<=1):s<=1/\t<=1:=by unfold cL at h;(repeat' split at h)<;>omega
theorem A8 {s t:Nat} (h:cL s t=0\/cL s t=2):(s=0\/s=2)/\(t=0\/t=2):=by unfold cL at h;(repeat' split at h)<;>omega
def RX (g:Oq->Oq->Oq) (a c:Oq):Oq:=if a.e=0 then (if c.e=0 then g a c else c) else a
theorem lR {g:Oq->Oq->Oq} {a c:Oq} {y:RQ} (i:a.ok) (e:c.ok) (h:RX g a c= .val y):∃ p q:RQ,a= .val p/\c= .val q/\p.ok/\q.ok/\g (.val p) (.val q)= .val y:=by
 unfold RX at h;split at h
 .rename_i b;split at h
  .rename_i zc;obtain ⟨p,rfl,f,_⟩:=uj i b;obtain ⟨q,rfl,d,_⟩:=uj e zc;exact ⟨p,q,rfl,rfl,f,d,h⟩
  .rename_i zc;rw [h] at zc;exact absurd rfl zc
 .rename_i b;rw [h] at b;exact absurd rfl b
theorem jg.two {g:Oq->Oq->Oq} (C:∀ p k q j y n:RQ,p.ok->k.ok->q.ok->j.ok->p.rt<=k.rt->q.rt<=j.rt->g (.val p) (.val q)= .val y->g (.val k) (.val j)= .val n->y.rt<=n.rt)
  {s t:ι->Nat} {a b c d:Oq} (ka:a.ok) (kb:b.ok) (kc:c.ok) (kd:d.ok) (h:jg s a b) (h':jg t c d):jg (λi=>cL (s i) (t i)) (RX g a c) (RX g b d):=by
 refine ⟨λB=> ?_,λD y n v e=> ?_,λF y n v e=> ?_⟩
 .have o:=λi=>(yD (B i)).1
  have r:=λi=>(yD (B i)).2
  rw [h.same o,h'.same r]
 .obtain ⟨p,q,rfl,rfl,w,u,z⟩:=lR ka kc v;obtain ⟨k,j,rfl,rfl,m,f,A⟩:=lR kb kd e;have o:=λi=>(A7 (D i)).1
  have r:=λi=>(A7 (D i)).2
  exact C p k q j y n w m u f (h.up o _ _ rfl rfl) (h'.up r _ _ rfl rfl) z A
 .obtain ⟨p,q,rfl,rfl,w,u,z⟩:=lR ka kc v;obtain ⟨k,j,rfl,rfl,m,f,A⟩:=lR kb kd e;have o:=λi=>(A8 (F i)).1
  have r:=λi=>(A8 (F i)).2
  exact C k p j q n y m w f u (h.dn o _ _ rfl rfl) (h'.dn r _ _ rfl rfl) A z
def RW (g:Oq->Oq) (a:Oq):Oq:=if a.e=0 then g a else a
theorem lM {g:Oq->Oq} {a:Oq} {y:RQ} (d:a.ok) (h:RW g a= .val y):∃ p:RQ,a= .val p/\p.ok/\g (.val p)= .val y:=by
 unfold RW at h;split at h
 .rename_i b;obtain ⟨p,rfl,c,_⟩:=uj d b;exact ⟨p,rfl,c,h⟩
 .rename_i b;rw [h] at b;exact absurd rfl b
theorem jg.one {g:Oq->Oq} (n:∀ p d y f:RQ,p.ok->d.ok->p.rt<=d.rt->g (.val p)= .val y->g (.val d)= .val f->y.rt<=f.rt)
  {s:ι->Nat} {a b:Oq} (ka:a.ok) (kb:b.ok) (h:jg s a b):jg s (RW g a) (RW g b):=by
 refine ⟨λo=> ?_,λq y f i c=> ?_,λr y f i c=> ?_⟩
 .rw [h.same o]
 .obtain ⟨p,rfl,j,k⟩:=lM ka i;obtain ⟨d,rfl,e,m⟩:=lM kb c;exact n p d y f j e (h.up q _ _ rfl rfl) k m
 .obtain ⟨p,rfl,j,k⟩:=lM ka i;obtain ⟨d,rfl,e,m⟩:=lM kb c;exact n d p f y e j (h.dn r _ _ rfl rfl) m k
theorem NB (p b q a y c:RQ) (f:p.ok) (g:b.ok) (j:q.ok) (i:a.ok) (h:p.rt<=b.rt) (d:q.rt<=a.rt) (e:lN 9 (.val p) (.val q)= .val y) (e':lN 9 (.val b) (.val a)= .val c):y.rt<=c.rt:=by
 rw [cN (q:=iC p q) e,cN (q:=iC b a) e'];exact DJ f g j i h d
theorem ND (p b q a y c:RQ) (g:p.ok) (i:b.ok) (m:q.ok) (j:a.ok) (h:p.rt<=b.rt) (f:q.rt<=a.rt) (e:lN 13 (.val p) (.val q)= .val y) (e':lN 13 (.val b) (.val a)= .val c):y.rt<=c.rt:=by
 have k:y=if 0<ep p q then q else p:=by
  have e:(if 0<ep p q then Oq.val q else .val p)= .val y:=e;split at e<;>cases e<;>simp [*]
 have d:c=if 0<ep b a then a else b:=by
  have e':(if 0<ep b a then Oq.val a else .val b)= .val c:=e';split at e'<;>cases e'<;>simp [*]
 rw [k,d];exact (Ew g i m j h f).1
theorem NC (p b q a y c:RQ) (g:p.ok) (i:b.ok) (m:q.ok) (j:a.ok) (h:p.rt<=b.rt) (f:q.rt<=a.rt) (e:lN 14 (.val p) (.val q)= .val y) (e':lN 14 (.val b) (.val a)= .val c):y.rt<=c.rt:=by
 have k:y=if ep p q<0 then q else p:=by
  have e:(if ep p q<0 then Oq.val q else .val p)= .val y:=e;split at e<;>cases e<;>simp [*]
 have d:c=if ep b a<0 then a else b:=by
  have e':(if ep b a<0 then Oq.val a else .val b)= .val c:=e';split at e'<;>cases e'<;>simp [*]
 rw [k,d];exact (Ew g i m j h f).2
theorem EC {E:fE} {x:Nd} {a b:Oq} (h:9<=x.op):fg E x [a,b]=RX (lN x.op) a b:=by
 unfold fg;rw [if_neg (by omega),if_neg (by omega)];rfl
theorem EB {E:fE} {x:Nd} {a:Oq} (h:9<=x.op):fg E x [a]=RW (KW E.qs x.op x.name (vQ x.neg x.num x.den)) a:=by
 unfold fg;rw [if_neg (by omega),if_neg (by omega)];rfl
theorem jg.sub {s t:ι->Nat} {a b c d:Oq} (A:a.ok) (H:b.ok) (F:c.ok) (D:d.ok) (h:jg s a b) (I:jg t c d):jg (λi=>cL (s i) (fS (t i))) (RX (lN 10) a c) (RX (lN 10) b d):=by
 have w:=I.turn;refine ⟨λB=> ?_,λC y J n e=> ?_,λG y J n e=> ?_⟩
 .have j:=λi=>(yD (B i)).1
  have k:=λi=>(yD (B i)).2
  rw [h.same j,w.same k]
 .obtain ⟨p,q,rfl,rfl,o,m,u⟩:=lR A F n;obtain ⟨v,r,rfl,rfl,g,f,z⟩:=lR H D e;have j:=λi=>(A7 (C i)).1
  have k:=λi=>(A7 (C i)).2
  rw [cN (q:=gG p q) u,cN (q:=gG v r) z];exact Fl o g m f (h.up j _ _ rfl rfl) (w.up k _ _ rfl rfl)
 .obtain ⟨p,q,rfl,rfl,o,m,u⟩:=lR A F n;obtain ⟨v,r,rfl,rfl,g,f,z⟩:=lR H D e;have j:=λi=>(A8 (G i)).1
  have k:=λi=>(A8 (G i)).2
  rw [cN (q:=gG p q) u,cN (q:=gG v r) z];exact Fl g o f m (h.dn j _ _ rfl rfl) (w.dn k _ _ rfl rfl)
theorem jg.scale {d:Bool} {f:RQ->RQ} (n:∀ p c:RQ,p.ok->c.ok->p.rt<=c.rt->(d=false->(f p).rt<=(f c).rt)/\(d=true->(f c).rt<=(f p).rt)) {s:ι->Nat} {a b:Oq} (w:a.ok) (t:b.ok) (h:jg s a b):
  jg (λi=>pY d (s i)) (RW (λo=>nB (f o.q)) a) (RW (λo=>nB (f o.q)) b):=by
 cases d with
 |false=>
  exact jg.one (λp c y z k A B e e'=>by rw [cN (q:=f p) e,cN (q:=f c) e'];exact (n p c k A B).1 rfl) w t h
 | true=>
  show jg (λi=>fS (s i)) _ _;refine ⟨λC=>by rw [h.same λi=>UM (C i)],λD y z m g=> ?_,λF y z m g=> ?_⟩
  .obtain ⟨p,rfl,r,u⟩:=lM w m;obtain ⟨c,rfl,j,v⟩:=lM t g;rw [cN (q:=f p) u,cN (q:=f c) v];exact (n c p j r (h.dn (λi=>UN (D i)) _ _ rfl rfl)).2 rfl
  .obtain ⟨p,rfl,r,u⟩:=lM w m;obtain ⟨c,rfl,j,v⟩:=lM t g;rw [cN (q:=f p) u,cN (q:=f c) v];exact (n p c r j (h.up (λi=>UO (F i)) _ _ rfl rfl)).2 rfl
theorem jg.cho {s t:ι->Nat} {a b c d:Oq} {x f:Oq} (g:x=f) (h:jg s a b) (e:jg t c d):jg (λi=>cL (s i) (t i)) (F3 x a c) (F3 f b d):=by
 subst g;unfold F3;split
 .split
  .split
   .exact ⟨λz=>h.same λi=>(yD (z i)).1,λz=>h.up λi=>(A7 (z i)).1,λz=>h.dn λi=>(A8 (z i)).1⟩
   .exact ⟨λz=>e.same λi=>(yD (z i)).2,λz=>e.up λi=>(A7 (z i)).2,λz=>e.dn λi=>(A8 (z i)).2⟩
  .exact jg.eq rfl
 .exact jg.eq rfl
structure UY (E E':fE) (op:ι->Int) (nm:ι->List UInt8):Prop where
 qs:E.qs=E'.qs
 nil:E.qs= []
 lk:∀ o n,(∀ i,¬ (o=op i/\n=nm i))->Dy E.ls o n=Dy E'.ls o n
 atN:∀ i p q,(Dy E.ls (op i) (nm i)).getD (.err 12)= .val p->(Dy E'.ls (op i) (nm i)).getD (.err 12)= .val q->p.rt<=q.rt
def FE (x:Nd) (o:Oq):Prop:=jK x.op=true->o= .val (vQ x.neg x.num x.den)/\(vQ x.neg x.num x.den).neg=x.neg
theorem En {E:fE} {x:Nd} {l:List Oq} (b:aJ x=0):FE x (fg E x l):=by
 intro h;have e:x.op=1\/x.op=2\/x.op=3:=by simpa [jK] using h
 have a:fX x=true:=by
  cases d:fX x with
  |true=>rfl
  |false=>
   exfalso;unfold aJ at b;rw [d] at b;cases c:(!Q6 x.op||(!Ey x.op && !(x.name== [])))<;>rw [c] at b<;>cases b
 unfold fX at a;rw [show (x.op==((4:Nat):Int))=false from beq_eq_false_iff_ne.2 (by omega),show Ek x.op=true from Yq0 (by omega)] at a;unfold fg;rw [if_pos (by omega)];unfold oM;rw [if_pos rfl,if_pos (show cT x.neg x.num x.den=true from a),BN (jz a).1];exact ⟨rfl,rfl⟩
variable {E E':fE} {op:ι->Int} {nm:ι->List UInt8}
theorem Kn (a:UY E E' op nm) {x:Nd} {l:List Oq} (h:∀ i,¬ (x.op=op i/\x.name=nm i)):fg E x l=fg E' x l:=by
 unfold fg;rw [a.lk x.op x.name h,a.qs]
theorem RH (e:UY E E' op nm) (a:∀ i,5<=op i/\op i<=8) {x:Nd} {l d:List Oq} {i:ι} (h:x.op=op i/\x.name=nm i):∀ p q,fg E x l= .val p->fg E' x d= .val q->p.rt<=q.rt:=by
 have:=a i;have c:¬ x.op<=4:=by omega
 have b:x.op<=8:=by omega
 unfold fg;rw [if_neg c,if_neg c,if_pos b,if_pos b,h.1,h.2];exact e.atN i
theorem xH {A:List (List Nat)} {ss:List Nat} {k:Nat} (h0:d_ A ss k=0):∀ j ∈ A.getD k [],ss.getD j 0=0:=by
 unfold d_ at h0;have key:∀ (l:List Nat) (s:Nat),l.foldl (λs i=>cL s (ss.getD i 0)) s=0->s=0/\∀ j ∈ l,ss.getD j 0=0:=by
  intro l
  induction l with
  |nil=>intro s h;exact ⟨h,by simp⟩
  | cons a l ih=>
   intro s h;obtain ⟨c,d⟩:=ih _ h;obtain ⟨f,e⟩:=yD c;exact ⟨f,λj b=>by
    rcases List.mem_cons.1 b with rfl|b
    .exact e
    .exact d j b⟩
 exact (key _ 0 h0).2
theorem TQ (a:Nat):cL 0 a=a:=by unfold cL;rw [if_pos rfl]
theorem Xr (b:Bool):pY b 0=0:=by cases b<;>rfl
theorem Oj (U:UY E E' op nm) (Z:∀ i,5<=op i/\op i<=8) {e:List Nd} {A:List (List Nat)} {ss:ι->List Nat} {os os':List Oq} {k:Nat} {x:Nd} (hw:aJ x=0) (n:(A.getD k []).length=gb x.op)
  (hr:∀ j ∈ A.getD k [],jg (λu=>(ss u).getD j 0) (os.getD j zO) (os'.getD j zO)/\(os.getD j zO).ok/\(os'.getD j zO).ok/\FE (e.getD j gu) (os.getD j zO)/\FE (e.getD j gu) (os'.getD j zO)):
  jg (λu=>kX (mn bY) (mz bY) e A (E.qs.map Sq.c) (op u) (nm u) (ss u) k x) (fg E x ((A.getD k []).map λj=>os.getD j zO)) (fg E' x ((A.getD k []).map λj=>os'.getD j zO)):=by
 obtain ⟨o1,o24⟩:=qc hw;have Y:=Je hw;by_cases hat:∃ u,x.op=op u/\x.name=nm u
 .obtain ⟨u,m⟩:=hat;have M:kX (mn bY) (mz bY) e A (E.qs.map Sq.c) (op u) (nm u) (ss u) k x=1:=by
   unfold kX;rw [m.1,m.2,beq_self_eq_true,beq_self_eq_true];rfl
  exact ⟨λz=>by have:=z u;simp only [M] at this;omega,λ_=>RH U Z m,λz=>by have:=z u;simp only [M] at this;omega⟩
 have G:∀ u,¬ (x.op=op u/\x.name=nm u):=λu h=>hat ⟨u,h⟩
 rw [<- Kn U G];have hq:∀ u,kX (mn bY) (mz bY) e A (E.qs.map Sq.c) (op u) (nm u) (ss u) k x=cond (((d_ A (ss u) k:Nat):Int)==((0:Nat):Int)) 0 (eL (mn bY) (mz bY) e A (E.qs.map Sq.c) (ss u) k x):=by
  intro u;unfold kX;rw [show (x.op==op u && x.name==nm u)=false by
   rw [Bool.and_eq_false_iff,Yq2,Yq2];by_cases h:x.op=op u
   .exact .inr λh'=>G u ⟨h,h'⟩
   .exact .inl h]
  rfl
 by_cases hz:∀ u,d_ A (ss u) k=0
 .refine jg.eq ?_;congr 1;refine List.map_congr_left λj s=>(hr j s).1.same λu=>xH (hz u) j s
 obtain ⟨u0,hu0⟩:∃ u,d_ A (ss u) k ≠ 0:=Classical.not_forall.1 hz;have hthree:∀ {a b:Oq},eL (mn bY) (mz bY) e A (E.qs.map Sq.c) (ss u0) k x=3->jg (λu=>kX (mn bY) (mz bY) e A (E.qs.map Sq.c) (op u) (nm u) (ss u) k x) a b:=λh=>by
  refine jg.three ⟨u0, ?_⟩;show 3<=kX _ _ _ _ _ _ _ _ _ _;rw [hq,h,show (((d_ A (ss u0) k:Nat):Int)==((0:Nat):Int))=false from beq_eq_false_iff_ne.2 (by omega)];exact κ 3
 have g:∀ {f:ι->Nat} {a b:Oq},(∀ u,eL (mn bY) (mz bY) e A (E.qs.map Sq.c) (ss u) k x=f u)->(∀ u,(∀ j ∈ A.getD k [],(ss u).getD j 0=0)->f u=0)->jg f a b->jg (λu=>kX (mn bY) (mz bY) e A (E.qs.map Sq.c) (op u) (nm u) (ss u) k x) a b:=λM h2 W=>by
  refine jg.of (λu=> ?_) W;rw [hq,M];cases hb:(((d_ A (ss u) k:Nat):Int)==((0:Nat):Int)) with
  |true=>exact (h2 u (xH (by have:=beq_iff_eq.1 hb;omega))).symm
  |false=>rfl
 have T:∀ u,eL (mn bY) (mz bY) e A (E.qs.map Sq.c) (ss u) k x=eL (mn bY) (mz bY) e A (E.qs.map Sq.c) (ss u) k x:=λ_=>rfl
 have ha:gb x.op=0\/gb x.op=1\/gb x.op=2\/gb x.op=3:=by have:=FM x.op;omega
 have r:∀ u,eL (mn bY) (mz bY) e A (E.qs.map Sq.c) (ss u) k x=eL (mn bY) (mz bY) e [A.getD k []] (E.qs.map Sq.c) (ss u) 0 x:=λu=>by
  unfold eL d_ eI wC xW Cj qv eI;rfl
 clear T;have hza:∀ u,d_ A (ss u) k=0->∀ j ∈ A.getD k [],(ss u).getD j 0=0:=λu h=>xH h
 have V:=r;simp only [r] at hthree g;clear r;generalize A.getD k []=al at*
 match al,n with
 | [],n=>
  have h8:x.op<=8:=by
   unfold gb at n;simp only [Ξ] at n
   repeat' split at n
   all_goals omega
  refine hthree ?_;unfold eL;rw [if_neg (by omega),if_neg (by omega),if_neg (by omega),if_neg (by omega),if_neg (by omega),if_neg (by omega)]
 | [i],n=>
  have M:20<=x.op:=by
   unfold gb at n;simp only [ο,Ξ] at n
   repeat' split at n
   all_goals omega
  obtain ⟨t,D,w,_,_⟩:=hr i (by simp);rw [Xqf,Xjc,Xqf,Xjc,EB (by omega),EB (by omega)];have hstep:21<=x.op->x.op<=23->(vQ x.neg x.num x.den).ok/\0<fQ (vQ x.neg x.num x.den):=λa b=> ⟨cV _ _ _,by rw [<- sn];exact (Y a b).2⟩
  have hs5:x.op=20\/(x.op=21\/x.op=22\/x.op=23)\/x.op=24:=by omega
  rcases hs5 with h|h|h
  .refine hthree ?_;unfold eL;rw [if_neg (by omega),if_neg (by omega),if_neg (by omega),if_neg (by omega),if_neg (by omega),if_neg (by omega)]
  .refine g (f:=λu=>(ss u).getD i 0) (λu=> ?_) (λu m=>m i (by simp)) ?_
   .unfold eL d_;rw [if_pos (by omega)];exact TQ _
   .obtain ⟨s1,s2⟩:=hstep (by omega) (by omega);rcases h with h|h|h
    .rw [h];exact jg.one (λp F y y' B C d e e'=>by
      rw [cN (q:=gS p _) e,cN (q:=gS F _) e'];exact wS B C s1 s2 d) D w t
    .rw [h];exact jg.one (λp F y y' B C d e e'=>by
      rw [cN (q:=La p _) e,cN (q:=La F _) e'];exact Th B C s1 s2 d) D w t
    .rw [h];exact jg.one (λp F y y' B C d e e'=>by
      rw [cN (q:=Kq p _) e,cN (q:=Kq F _) e'];exact RI B C s1 s2 d) D w t
  .have r:∀ u,eL (mn bY) (mz bY) e [[i]] (E.qs.map Sq.c) (ss u) 0 x=EK (mn bY) (mz bY) x.name (E.qs.map Sq.c) ((ss u).getD i 0):=λu=>by
    unfold eL;rw [if_neg (by omega),if_neg (by omega),if_neg (by omega),if_neg (by omega),if_neg (by omega),if_pos h];rfl
   rw [h];refine hthree ?_;rw [r,U.nil];rfl
 | [i, j],n=>
  have M:9<=x.op/\x.op<=19/\x.op ≠ 15:=by
   unfold gb at n;simp only [ο,Ξ] at n
   repeat' split at n
   all_goals omega
  obtain ⟨t,D,w,t1,t2⟩:=hr i (by simp);obtain ⟨H,K,L,X,t4⟩:=hr j (by simp);simp only [Xqf,Xjc];rw [EC (by omega),EC (by omega)];have I:x.op=9\/x.op=13\/x.op=14->∀ u,eL (mn bY) (mz bY) e [[i,j]] (E.qs.map Sq.c) (ss u) 0 x=cL ((ss u).getD i 0) ((ss u).getD j 0):=λh u=>by
   unfold eL d_;rw [if_pos (by omega)];show cL (cL 0 _) _=_;rw [TQ]
  have J:∀ u,(∀ q ∈ [i,j],(ss u).getD q 0=0)->cL ((ss u).getD i 0) ((ss u).getD j 0)=0:=λu m=>by rw [m i (by simp),m j (by simp)];rfl
  have h8:x.op=9\/x.op=10\/x.op=11\/x.op=12\/x.op=13\/x.op=14\/16<=x.op:=by omega
  rcases h8 with h|h|h|h|h|h|h
  .refine g (I (by omega)) J ?_;rw [h];exact jg.two NB D w K L t H
  .refine g (f:=λu=>cL ((ss u).getD i 0) (fS ((ss u).getD j 0))) (λu=> ?_) (λu m=>by rw [m i (by simp),m j (by simp)];rfl) ?_
   .unfold eL;rw [if_neg (by omega),if_pos h];rfl
   .rw [h];exact jg.sub D w K L t H
  .have r:∀ u,eL (mn bY) (mz bY) e [[i,j]] (E.qs.map Sq.c) (ss u) 0 x=wC e [[i,j]] (ss u) 0:=λu=>by
    unfold eL;rw [if_neg (by omega),if_neg (by omega),if_pos h]
   rw [h];cases S:jK (e.getD i gu).op with
   | true=>
    obtain ⟨R,O⟩:=t1 S;obtain ⟨Q,_⟩:=t2 S;rw [R,Q];have N:=cV (e.getD i gu).neg (e.getD i gu).num (e.getD i gu).den;refine g (f:=λu=>pY (e.getD i gu).neg ((ss u).getD j 0)) (λu=> ?_) (λu m=>by rw [m j (by simp)];exact Xr _) ?_
    .rw [r];show cond (jK (e.getD i gu).op) _ _=_;rw [S];rfl
    .exact jg.scale (f:=λp=>eH (vQ (e.getD i gu).neg (e.getD i gu).num (e.getD i gu).den) p) (λp F B C d=>by
      have:=Ex B C N d;rw [O] at this;exact ⟨λz=>(this.1 z).1,λz=>(this.2 z).1⟩) K L H
   | false=>
    cases s:jK (e.getD j gu).op with
    | true=>
     obtain ⟨R,O⟩:=X s;obtain ⟨Q,_⟩:=t4 s;rw [R,Q];have N:=cV (e.getD j gu).neg (e.getD j gu).num (e.getD j gu).den;refine g (f:=λu=>pY (e.getD j gu).neg ((ss u).getD i 0)) (λu=> ?_) (λu m=>by rw [m i (by simp)];exact Xr _) ?_
     .rw [r];show cond (jK (e.getD i gu).op) _ (cond (jK (e.getD j gu).op) _ _)=_;rw [S,s];rfl
     .exact jg.scale (f:=λp=>eH p (vQ (e.getD j gu).neg (e.getD j gu).num (e.getD j gu).den)) (λp F B C d=>by
       have:=Ex B C N d;rw [O] at this;exact ⟨λz=>(this.1 z).2,λz=>(this.2 z).2⟩) D w t
    |false=>
     refine hthree ?_;rw [r];show cond (jK (e.getD i gu).op) _ (cond (jK (e.getD j gu).op) _ _)=_;rw [S,s];rfl
  .have r:∀ u,eL (mn bY) (mz bY) e [[i,j]] (E.qs.map Sq.c) (ss u) 0 x=cond (jK (e.getD j gu).op) (cond (ml (e.getD j gu).neg (e.getD j gu).num (e.getD j gu).den==((0:Nat):Int)) 3 (pY (e.getD j gu).neg ((ss u).getD i 0))) 3:=λu=>by
    unfold eL;rw [if_neg (by omega),if_neg (by omega),if_neg (by omega),if_pos h];rfl
   rw [h];cases s:jK (e.getD j gu).op with
   |false=>exact hthree (by rw [r,s];rfl)
   | true=>
    cases hs:(ml (e.getD j gu).neg (e.getD j gu).num (e.getD j gu).den==((0:Nat):Int)) with
    |true=>exact hthree (by rw [r,s,hs];rfl)
    | false=>
     obtain ⟨R,O⟩:=X s;obtain ⟨Q,_⟩:=t4 s;rw [R,Q];refine g (f:=λu=>pY (e.getD j gu).neg ((ss u).getD i 0)) (λu=>by rw [r,s,hs];rfl) (λu m=>by rw [m i (by simp)];exact Xr _) ?_;have N:=cV (e.getD j gu).neg (e.getD j gu).num (e.getD j gu).den;have hs:ml (e.getD j gu).neg (e.getD j gu).num (e.getD j gu).den ≠ 0:=beq_eq_false_iff_ne.1 hs;rw [sn] at hs;generalize vQ (e.getD j gu).neg (e.getD j gu).num (e.getD j gu).den=c at*
     have h0:0<c.n:=by
      unfold fQ at hs;split at hs
      .exact absurd rfl hs
      .omega
     have ee:∀ a:Oq,RX (lN 12) a (.val c)=RW (λo=>nB (bB o.q c)) a:=λa=>by
      unfold RX RW;split
      .show (if c.n=0 then Oq.err 16 else nB (bB a.q c))=_;rw [if_neg (by omega)]
      .rfl
     rw [ee,ee];exact jg.scale (f:=λp=>bB p c) (λp F B C d=>by
      have:=Oe B C N h0 d;rw [O] at this;exact this) D w t
  .refine g (I (by omega)) J ?_;rw [h];exact jg.two ND D w K L t H
  .refine g (I (by omega)) J ?_;rw [h];exact jg.two NC D w K L t H
  .refine hthree ?_;unfold eL;rw [if_neg (by omega),if_neg (by omega),if_neg (by omega),if_neg (by omega),if_neg (by omega),if_neg (by omega)]
 | [i,j,h],n=>
  have h15:x.op=15:=by
   unfold gb at n;simp only [ο,Ξ] at n
   repeat' split at n
   all_goals omega
  obtain ⟨t,D,w,t1,t2⟩:=hr i (by simp);obtain ⟨H,K,L,X,t4⟩:=hr j (by simp);obtain ⟨r3,k5,k6,t5,t6⟩:=hr h (by simp);have r:∀ u,eL (mn bY) (mz bY) e [[i,j,h]] (E.qs.map Sq.c) (ss u) 0 x=cond ((((ss u).getD i 0:Nat):Int)==((0:Nat):Int)) (cL ((ss u).getD j 0) ((ss u).getD h 0)) 3:=λu=>by
   unfold eL;rw [if_neg (by omega),if_neg (by omega),if_neg (by omega),if_neg (by omega),if_pos h15];rfl
  by_cases hc0:∀ u,(ss u).getD i 0=0
  .refine g (f:=λu=>cL ((ss u).getD j 0) ((ss u).getD h 0)) (λu=>by rw [r,hc0 u];rfl) (λu m=>by rw [m j (by simp),m h (by simp)];rfl) ?_;simp only [Xqf,Xjc];unfold fg;rw [if_neg (by omega),if_neg (by omega),if_neg (by omega),if_neg (by omega)];exact jg.cho (t.same hc0) H r3
  .obtain ⟨v,hv⟩:=Classical.not_forall.1 hc0;have W:eL (mn bY) (mz bY) e [[i,j,h]] (E.qs.map Sq.c) (ss v) 0 x=3:=by
    rw [r,show ((((ss v).getD i 0:Nat):Int)==((0:Nat):Int))=false from beq_eq_false_iff_ne.2 (by omega)];rfl
   refine jg.three ⟨v, ?_⟩;show 3<=kX _ _ _ _ _ _ _ _ _ _;rw [hq,show (((d_ A (ss v) k:Nat):Int)==((0:Nat):Int))=false from beq_eq_false_iff_ne.2 (λhb=>hv (hza v (by omega) i (by simp)))];rw [V,W];exact κ 3
 |_::_::_::_::_,n=>simp only [ο] at n;omega
theorem KX (O:UY E E' op nm) (G:∀ i,5<=op i/\op i<=8) {e:List Nd} (I:bO e=0):∀ (r p:List Nd) (ss:ι->List Nat) (os os':List Oq),e=p++r->(∀ u,(ss u).length=e.length)->os.length=p.length->os'.length=p.length->
  (∀ j,j<p.length->jg (λu=>(ss u).getD j 0) (os.getD j zO) (os'.getD j zO)/\(os.getD j zO).ok/\(os'.getD j zO).ok/\FE (e.getD j gu) (os.getD j zO)/\FE (e.getD j gu) (os'.getD j zO))->
  ∀ j,j<e.length->jg (λu=>(ry (mn bY) (mz bY) e (bt e) (E.qs.map Sq.c) (op u) (nm u) r p.length (ss u)).getD j 0) ((K6 E (bt e) r os).getD j zO) ((K6 E' (bt e) r os').getD j zO):=by
 obtain ⟨F,S,J⟩:=mG I;obtain ⟨N,D⟩:=kC I;intro r
 induction r with
 |nil=>
  intro p ss os os' hp hs t b n j w;rw [Xqd] at hp;exact (n j (by rw [<- hp];exact w)).1
 | cons x r ih=>
  intro p ss os os' hp hs t b n j w;have d:p.length<e.length:=by rw [hp];simp
  have m:e[p.length]=x:=by subst hp;simp
  have c:x ∈ e:=by rw [<- m];exact Xxv d
  obtain ⟨v,f⟩:=D p.length x (by rw [ν d,m]);have W:=Oj O G (e:=e) (A:=bt e) (ss:=ss) (os:=os) (os':=os') (k:=p.length) (F x c) v (λi a=>n i (f i a));have K:∀ (E0:fE) (B:List Oq),(∀ i ∈ (bt e).getD p.length [],(B.getD i zO).ok)->(fg E0 x (((bt e).getD p.length []).map λj=>B.getD j zO)).ok:=λE0 B h=>y_ λo V=>by
   obtain ⟨i,a,rfl⟩:=List.mem_map.1 V;exact h i a
  have R:=K E os (λi a=>(n i (f i a)).2.1);have X:=K E' os' (λi a=>(n i (f i a)).2.2.1);have T:FE x _:=En (E:=E) (l:=((bt e).getD p.length []).map λj=>os.getD j zO) (F x c);have Q:FE x _:=En (E:=E') (l:=((bt e).getD p.length []).map λj=>os'.getD j zO) (F x c);simp only [K6,ry];rw [t,b];generalize fg E x (((bt e).getD p.length []).map λj=>os.getD j zO)=o at*
  generalize fg E' x (((bt e).getD p.length []).map λj=>os'.getD j zO)=o' at*
  generalize C:(λu=>kX (mn bY) (mz bY) e (bt e) (E.qs.map Sq.c) (op u) (nm u) (ss u) p.length x)=s at*
  have H:∀ u,kX (mn bY) (mz bY) e (bt e) (E.qs.map Sq.c) (op u) (nm u) (ss u) p.length x=s u:=λu=>congrFun C u
  simp only [H];have L:=ih (p++ [x]) (λu=>(ss u).set p.length (s u)) (os++ [o]) (os'++ [o']) (by rw [hp];simp) (λu=>by simp [hs u]) (by simp [t]) (by simp [b]) ?_ j w
  .rw [ξ,Δ] at L;exact L
  .intro i a;rw [ξ,Δ] at a;have g:∀ (l:List Oq) (y:Oq),l.length=p.length->(l++ [y]).getD i zO=if i=p.length then y else l.getD i zO:=λl y U=>by
    rw [μ,μ];split
    .rename_i h;rw [h,<- U];simp
    .rename_i h;rw [List.getElem?_append_left (by omega)]
   have M:∀ u,((ss u).set p.length (s u)).getD i 0=if i=p.length then s u else (ss u).getD i 0:=λu=>by
    rw [μ,List.getElem?_set];by_cases h:i=p.length
    .rw [if_pos h,if_pos h.symm,if_pos (by rw [hs u];omega)];rfl
    .rw [if_neg h,if_neg (λq=>h q.symm),<- μ]
   simp only [M];rw [g os o t,g os' o' b];by_cases h:i=p.length
   .simp only [if_pos h];rw [h];have z:e.getD p.length gu=x:=by rw [μ,ν d,m];rfl
    rw [z];exact ⟨W,R,X,T,Q⟩
   .simp only [if_neg h];exact n i (by omega)
theorem BH (g:UY E E' op nm) (a:∀ i,5<=op i/\op i<=8) (e:List Nd) (hs:∀ u,dF (mn bY) (mz bY) e (E.qs.map Sq.c) (op u) (nm u)<=1) (p q:RQ) (hp:gi E e= .val p) (b:gi E' e= .val q):p.rt<=q.rt:=by
 unfold dF at hs;unfold gi at hp b;by_cases hc:bO e=0
 .obtain ⟨_,m,c⟩:=mG hc;rw [if_pos hc] at hp b;have h:=KX g a hc e [] (λ_=>ζ e.length 0) [] [] rfl (λ_=>by simp) rfl rfl (λj d=>absurd d (Nat.not_lt_zero _)) (e.length - 1) (by omega);have f:∀ E0:fE,(cY E0 e).getLastD (.err 11)=(K6 E0 (bt e) e []).getD (e.length - 1) zO:=λE0=>by
   have k:(K6 E0 (bt e) e []).length=e.length:=by rw [xm];simp
   unfold cY;rw [Xwv,Xv1,k,μ,ν (by omega)];rfl
  rw [f] at hp b;refine h.up (λu=> ?_) p q hp b;have:=hs u;rw [if_pos ⟨hc,(a u).1,(a u).2⟩] at this;exact this
 .rw [if_neg hc] at hp;cases hp
end
theorem Ip (n:Nat):∀ (r l:List aP) (ks vs:List AV) (p:UW),goL (mg n) some r (l,ks,vs)=some p->p.1=l++r
 | [],l,ks,vs,p,h=>by cases h;simp
 | x::r,l,ks,vs,p,h=>by
  simp only [goL] at h;cases a:gQ n l x with
  |true=>rw [mg,if_pos (show gQ n (l,ks,vs).1 x=true from a)] at h;cases h
  |false=>
   rw [mg,if_neg (show ¬ gQ n (l,ks,vs).1 x=true by rw [show gQ n (l,ks,vs).1 x=false from a];exact Xxt)] at h;have:=Ip n r (l++ [x]) _ _ p h;rw [this,Xqe];rfl
def qN (n:Nat) (es:List aP):Int:=
 if (decide ((n:Int)<((1:Nat):Int)))=true then 1 else if (decide (((2:Nat):Int)<(n:Int)))=true then 1 else if (decide ((es.length:Int)<((1:Nat):Int)))=true then 1 else if (decide (((60:Nat):Int)<(es.length:Int)))=true then 1 else
 match goL (mg n) some es ([],[],[]) with
 |none=>1
 |some _=>(goL (xL es) (λ_=>none) es ()).getD 0
theorem jZ (es:List aP) (ss:List (List Lk)) (b c:Bool) (g:es.length<2^39) (m:∀ x ∈ es,x.sm):CO 33 [.agg [.sl (bq es) es.length b,.sl (eM ss) ss.length c,.sl [] 0 false]] (.ret (ω (qN ss.length es))):=by
 unfold qN;rcases tf (decide ((ss.length:Int)<((1:Nat):Int))) with b0|b0
 .rw [if_pos b0];exact pK [0,2] 4 15 (.k 3 (ax b0) (.n 1 .nil)) (.nil)
 rw [if_neg (by rw [b0];exact Xxt)];rcases tf (decide (((2:Nat):Int)<(ss.length:Int))) with b1|b1
 .rw [if_pos b1];exact pK [0,2] 4 14 (.k 2 (ax b1) (.k 1 (aw b0) (.n 1 .nil))) (.nil)
 rw [if_neg (by rw [b1];exact Xxt)];rcases tf (decide ((es.length:Int)<((1:Nat):Int))) with b2|b2
 .rw [if_pos b2];exact pK [0,2] 4 12 (.k 1 (ax b2) (.k 1 (aw b1) (.k 1 (aw b0) (.n 1 .nil)))) (.nil)
 rw [if_neg (by rw [b2];exact Xxt)];rcases tf (decide (((60:Nat):Int)<(es.length:Int))) with b3|b3
 .rw [if_pos b3];exact pK [0,2] 4 8 (.c (ax b3) (.k 1 (aw b2) (.k 1 (aw b1) (.k 1 (aw b0) (.n 1 .nil))))) (.nil)
 rw [if_neg (by rw [b3];exact Xxt)];have hloop:=λnt (i:126<=nt)=>QS i es ss b c g
 cases n:goL (mg ss.length) some es ([],[],[]) with
 |none=>
  rw [n] at hloop;have q:=aB.blk (id:=0) (e':= .ret) (s:=MM es ss b c (0,[],[],[])) (s':=ML es ss b c none) hloop (by simp [fkE]) rfl (aD.refl _) (aD.refl _);have j:LB 126 0 f33 (Uq (.agg [.sl (bq es) es.length b,.sl (eM ss) ss.length c,.sl [] 0 false]) (decide (((60:Nat):Int)<(es.length:Int))) (.sl (bq es) es.length b) es.length [.sl (bq es) es.length b,.sl (eM ss) ss.length c,.sl [] 0 false]) (.ret) (v_ 1):=(λnt d=>(q nt d).weak (aD.of ⟨rfl,rfl,rfl,rfl,rfl,rfl,trivial⟩) (aD.refl _))
  exact pK [0,2] 4 0 (.k 1 (aw b3) (.k 1 (aw b2) (.k 1 (aw b1) (.k 1 (aw b0) (.n 1 .nil))))) (.l j .nil)
 | some p=>
  rw [n] at hloop;have hp:=Ip _ _ _ _ _ _ n;obtain ⟨l,ks,vs⟩:=p;simp only [Xqb] at hp;subst hp;have q:=aB.blk (id:=0) (e':= .normal) (s:=MM l ss b c (0,[],[],[])) (s':=ML l ss b c (some (l,ks,vs))) hloop (by simp [fkE]) rfl (aD.refl _) (aD.refl _);have v:1<=l.length:=by have:=of_decide_eq_false b2;omega
  have j:LB 126 0 f33 (Uq (.agg [.sl (bq l) l.length b,.sl (eM ss) ss.length c,.sl [] 0 false]) (decide (((60:Nat):Int)<(l.length:Int))) (.sl (bq l) l.length b) l.length [.sl (bq l) l.length b,.sl (eM ss) ss.length c,.sl [] 0 false]) (.normal) (Uo l.length [.sl (bq l) l.length b,.sl (eM ss) ss.length c,.sl [] 0 false] [.agg ks,.agg vs] (Dz l)):=by
   cases l with
   |nil=>simp at v
   |cons a r=>exact (λnt d=>(q nt d).weak (aD.of ⟨rfl,rfl,rfl,rfl,rfl,rfl,trivial⟩) (aD.of ⟨rfl,rfl,rfl,trivial⟩))
  have f:=λnt (i:126<=nt)=>QR i l ss b c ks vs g m
  show CO _ _ (.ret (ω ((goL (xL l) (λ_=>none) l ()).getD 0)));have u:∀ {e:a_} {s2:St},LB 126 2 f33 (J2 l ss b c ks vs (0,())) e s2->LB 126 2 f33 ⟨[(1,.ptr 0 0 0),(3,.mr 1 0),(4,.ref 2 0 0 l.length),(100,.sl (bq l) l.length b),(101,ω (l.length:Int)),(102,ω ((0:Nat):Int))],[(0,⟨[.sl (bq l) l.length b,.sl (eM ss) ss.length c,.sl [] 0 false],0,false,0,0,true⟩),(1,⟨[.agg ks,.agg vs],0,false,0,4611686018427387904,true⟩),(2,⟨(Dz l),0,false,0,1,true⟩)],.dead,[]⟩ e s2:=λh nt i=>
   ag.ahead 2 ⟨Dz l,0,false,0,1,true⟩ (h nt i) (Xqo _) rfl ⟨Fz.same rfl,Fz.same rfl,.fit .ref (by rw [Nat.zero_mul,List.drop_zero,Xqa (by rw [CS];show l.length<=l.length*1;omega)];exact bC.sl _ _ _),Fz.same rfl,Fz.same rfl,Fz.same rfl,trivial⟩ ⟨rfl,wJ.same rfl,by decide,rfl,wJ.same rfl,by decide,rfl⟩
  cases t:goL (xL l) (λ_=>none) l () with
  |none=>
   rw [t] at f;have o:=u (aB.blk (id:=2) (e':= .normal) (s:=J2 l ss b c ks vs (0,())) (s':=MI l ss b c ks vs none) f (by simp [fbE]) rfl (aD.refl _) (aD.refl _));have k:LB 126 2 f33 (Ur l.length (.sl (bq l) l.length b) l.length [.sl (bq l) l.length b,.sl (eM ss) ss.length c,.sl [] 0 false] [.agg ks,.agg vs] (Dz l)) (.normal) ⟨[(3,.mr 0 0)],[(0,⟨[.agg ks,.agg vs],0,false,0,4611686018427387904,true⟩)],.dead,[]⟩:=(λnt d=>(o nt d).weak (aD.of ⟨rfl,rfl,rfl,rfl,rfl,rfl,trivial⟩) (aD.of ⟨rfl,trivial⟩))
   exact pK [0,2] 4 0 (.k 2 (aw b3) (.k 1 (aw b2) (.k 1 (aw b1) (.k 1 (aw b0) (.n 1 .nil))))) (.l k (.l j .nil))
  |some er=>
   rw [t] at f;have o:=u (aB.blk (id:=2) (e':= .ret) (s:=J2 l ss b c ks vs (0,())) (s':=MI l ss b c ks vs (some er)) f (by simp [fbE]) rfl (aD.refl _) (aD.refl _));have k:LB 126 2 f33 (Ur l.length (.sl (bq l) l.length b) l.length [.sl (bq l) l.length b,.sl (eM ss) ss.length c,.sl [] 0 false] [.agg ks,.agg vs] (Dz l)) (.ret) (v_ er):=(λnt d=>(o nt d).weak (aD.of ⟨rfl,rfl,rfl,rfl,rfl,rfl,trivial⟩) (aD.of ⟨rfl,trivial⟩))
   exact pK [0,2] 4 0 (.k 2 (aw b3) (.k 1 (aw b2) (.k 1 (aw b1) (.k 1 (aw b0) (.n 1 .nil))))) (.l k (.l j .nil))
def rf (sd:Int) (p:aP × Rw):Lk:=⟨if (p.1.sd==sd)=true then 6 else 8,p.1.nm,p.2.n,p.2.a,p.2.d,0⟩
theorem lk6 (x:Lk):(Wq x).length=6:=rfl
theorem pG (l:List Lk):(bP l).length=l.length*6:=kH lk6 l
theorem Bb {sd:Int} {x:aP} {y:Rw} {l:List Lk} {k:Nat} (b:l.length=k) (o:Int) (a:(if (x.sd==sd)=true then (6:Int) else 8)=o):τ (k*6) (bP l)++ [ω o,.str x.nm,.bool y.n,.str y.a,.str y.d,ω 0]=bP (l++ [rf sd (x,y)]):=by
 subst a;exact Q0 lk6 l (rf sd (x,y)) b
def JZ (es:List aP) (ss:List (List Lk)) (v:List Rw) (ne ns nv:Bool) (sd:Int) (p:Nat × List Lk):St:=match p.2 with
 | []=> ⟨[(1,.sl (cg v) v.length nv),(2,.int .i64 sd),(3,.ptr 0 0 0),(6,.ptr 1 0 0),(7,.nilS),(13,.sl (bq es) es.length ne),(14,.int .i64 (es.length:Int)),(15,.int .i64 (p.1:Int))],[(0,⟨[.sl (bq es) es.length ne,.sl (eM ss) ss.length ns,.sl [] 0 false],0,false,0,0,true⟩),(1,⟨[.nilS,.nilS],0,false,0,0,true⟩)],.dead,[]⟩
 |a::r=>(I0 (.sl (cg v) v.length nv) sd ((a::r).length) (.sl (bq es) es.length ne) es.length p.1 [.sl (bq es) es.length ne,.sl (eM ss) ss.length ns,.sl [] 0 false] (bP (a::r)))
def TG (es:List aP) (ss:List (List Lk)) (v:List Rw) (ne ns nv:Bool) (sd:Int):List Lk->St
 | []=>(Dl (.int .i64 sd) (.ptr 0 0 0) (.ptr 1 0 0) (.nilS) [.sl (bq es) es.length ne,.sl (eM ss) ss.length ns,.sl [] 0 false] [.nilS,.nilS])
 |a::r=>(Uu sd ((a::r).length) [.sl (bq es) es.length ne,.sl (eM ss) ss.length ns,.sl [] 0 false] (bP (a::r)))
theorem HU (es:List aP) (ss:List (List Lk)) (v:List Rw) (a b c:Bool) (sd:Int) {k:Nat} {l:List Lk} (h:l ≠ []):JZ es ss v a b c sd (k,l)=(I0 (.sl (cg v) v.length c) sd l.length (.sl (bq es) es.length a) es.length k [.sl (bq es) es.length a,.sl (eM ss) ss.length b,.sl [] 0 false] (bP l)):=by cases l with|nil=>exact absurd rfl h|cons _ _=>rfl
theorem J0 (es:List aP) (ss:List (List Lk)) (v:List Rw) (a b c:Bool) (sd:Int) {k:Nat} {l:List Lk} {x:Lk}:JZ es ss v a b c sd (k,l++ [x])=(I0 (.sl (cg v) v.length c) sd (l.length+1) (.sl (bq es) es.length a) es.length k [.sl (bq es) es.length a,.sl (eM ss) ss.length b,.sl [] 0 false] (bP (l++ [x]))):=by rw [HU _ _ _ _ _ _ _ (by simp),ξ,Δ]
theorem QP {nt:Nat} (f:53<=nt) (es:List aP) (ss:List (List Lk)) (v:List Rw) (d e g:Bool) (sd:Int) (A:es.length<2^39) (s:es.length=v.length):aB prog ap [] nt (af 0 (am f72)) (λ_=> .exit 0) (JZ es ss v d e g sd) (TG es ss v d e g sd) (0,[]) ((es.zip v).map (rf sd)):=by
 have t:(es.zip v).length=es.length:=by rw [Xzg];omega
 refine aB.mapL (rf sd) (es.zip v) ?_ ?_
 .rintro p ⟨x,y⟩ r hL
  obtain ⟨u,w⟩:=jf s hL;have i:(ε ((δ (p.length:Int))*14) (bq es))=PT x++bq (r.map (·.1)):=by have:=cQ uz u;rwa [Xqp] at this
  have h:(ε ((δ (p.length:Int))*3) (cg v))=y.c++cg (r.map (·.2)):=by have:=cQ SL w;rwa [Xqp] at this
  have b:(decide ((p.length:Int)<(es.length:Int)))=true:=kl (by have:=mV hL;omega);have n:(decide ((p.length:Int)<(v.length:Int)))=true:=by rw [<- s];exact b
  have B:=mV hL;have c:(p.map (rf sd)).length=p.length:=Xqp ..;have m:p.length<2^62:=by omega
  rcases Xzb (p.map (rf sd)) with j|⟨q,z,j⟩
  .have hp:p= []:=List.map_eq_nil_iff.1 j;subst hp;show ag _ _ _ _ _ (JZ es ss v d e g sd (([]:List (aP × Rw)).length,[])) _ (JZ es ss v d e g sd (([]:List (aP × Rw)).length+1,[rf sd (x,y)]));rcases tf (x.sd==sd) with b0|b0
   .rw [show rf sd (x,y)=⟨6,x.nm,y.n,y.a,y.d,0⟩ by simp only [rf,b0,if_true,Xqy,if_false]];exact pN 72 [] 3 3 (.k 10 (ax b0) (.k 5 (k0 ([]:List (aP × Rw)).length) (.c n (.k 16 (k0 ([]:List (aP × Rw)).length) (.c b (.c (ax b) .nil)))))) (.v 39 (.eq (FD m)) (.v 25 (.ppt h) (.v 18 (.ppt i) .nil))) f
   .rw [show rf sd (x,y)=⟨8,x.nm,y.n,y.a,y.d,0⟩ by simp only [rf,b0,if_true,Xqy,if_false]];exact pN 72 [] 3 1 (.k 9 (aw b0) (.k 5 (k0 ([]:List (aP × Rw)).length) (.c n (.k 16 (k0 ([]:List (aP × Rw)).length) (.c b (.c (ax b) .nil)))))) (.v 39 (.eq (FD m)) (.v 25 (.ppt h) (.v 18 (.ppt i) .nil))) f
  .have o:p.map (rf sd) ≠ []:=by rw [j];simp
   clear j;rw [J0,HU _ _ _ _ _ _ _ o,c];generalize p.map (rf sd)=l at*
   generalize p.length=k at*
   have hble1:(Xqr (k+1) 1099511627776)=true:=Xqc (by omega);have hble2:(Xqr (k*6) (θ (bP l)))=true:=Xqc (by rw [pG];omega);clear hL u w;rcases tf (x.sd==sd) with b0|b0
   .exact pN 72 [] 2 3 (.k 1 hble1 (.c hble2 (.k 8 (ax b0) (.k 5 (k0 k) (.c n (.k 16 (k0 k) (.c b (.c (ax b) .nil)))))))) (.v 39 (.eq (FD m)) (.b 38 (Bb (sd:=sd) (x:=x) (y:=y) c 6 (if_pos b0)) (.v 25 (.ppt h) (.v 18 (.ppt i) .nil)))) f
   .exact pN 72 [] 2 1 (.k 1 hble1 (.c hble2 (.k 7 (aw b0) (.k 5 (k0 k) (.c n (.k 16 (k0 k) (.c b (.c (ax b) .nil)))))))) (.v 39 (.eq (FD m)) (.b 38 (Bb (sd:=sd) (x:=x) (y:=y) c 8 (if_neg (by rw [b0];exact Xxt))) (.v 25 (.ppt h) (.v 18 (.ppt i) .nil)))) f
 .have c:((es.zip v).map (rf sd)).length=es.length:=by rw [Xqp,t]
  rw [t];generalize (es.zip v).map (rf sd)=l at*
  have b:(decide ((es.length:Int)<(es.length:Int)))=false:=kn (κ _);cases l with
  |nil=>exact pN 72 [] 1 0 (.c (aw b) .nil) (.nil) f
  |cons a r=>
   show ag _ _ _ _ _ (I0 (.sl (cg v) v.length g) sd ((a::r).length) (.sl (bq es) es.length d) es.length es.length [.sl (bq es) es.length d,.sl (eM ss) ss.length e,.sl [] 0 false] (bP (a::r))) _ (Uu sd ((a::r).length) [.sl (bq es) es.length d,.sl (eM ss) ss.length e,.sl [] 0 false] (bP (a::r)));exact pN 72 [] 1 0 (.c (aw b) .nil) (.nil) f
theorem Wt {l:List Lk} {n:Nat} (h:l.length=n) (a:List Lk):τ (n*6) (bP l)++bP a=bP (l++a):=by
 rw [Xqa (by rw [pG];omega)];unfold bP;rw [Xji]
def iO (es:List aP) (v:List Rw) (ss:List (List Lk)) (i:Nat):List Lk:=(es.zip v).map (rf (i:Int))++ss.getD i []
theorem Cy (es:List aP) (ss:List (List Lk)) (v:List Rw) (b c d:Bool) (k:es.length<2^39) (t:es ≠ []) (z:es.length=v.length) (i:Nat) (q:i<ss.length) (m:∀ ls ∈ ss,ls.length<2^39):CO 72 [.agg [.sl (bq es) es.length b,.sl (eM ss) ss.length c,.sl [] 0 false],.sl (cg v) v.length d,ω (i:Int)] (.ret (.agg [.sl (bP (iO es v ss i)) (iO es v ss i).length true,.sl [] 0 false])):=by
 have C:=aB.blk (id:=0) (e':= .normal) (s:=JZ es ss v b c d (i:Int) (0,[])) (s':=TG es ss v b c d (i:Int) ((es.zip v).map (rf (i:Int)))) (λnt (w:53<=nt)=>QP w es ss v b c d (i:Int) k z) (by simp) rfl (aD.refl _) (aD.refl _);have w:((es.zip v).map (rf (i:Int))).length=es.length:=by rw [Xqp,Xzg];omega
 have g:ss.getD i []=ss[i]:=by rw [μ,ν q];rfl
 have hs:(ε ((δ (i:Int))*1) (eM ss))= [Xke (bP (ss.getD i [])) (ss.getD i []).length false]++eM (ss.drop (i+1)):=by
  rw [g];have e:ss=ss.take i++ss[i]::ss.drop (i+1):=by simp
  have:=cQ (f:=λls:List Lk=> [Xke (bP ls) ls.length false]) (n:=1) (λ_=>rfl) e;rwa [Xq7,Xjp (by omega)] at this
 have A:(ss.getD i []).length<2^39:=m _ (by rw [g];exact Xxv q);unfold iO;generalize ss.getD i []=ls at*
 generalize (es.zip v).map (rf (i:Int))=l at*
 cases l with
 |nil=>exact absurd (List.length_eq_zero_iff.1 w.symm) t
 |cons a r=>
  have B:LB 53 0 f72 ⟨[(0,.agg [.sl (bq es) es.length b,.sl (eM ss) ss.length c,.sl [] 0 false]),(1,.sl (cg v) v.length d),(2,ω (i:Int)),(3,.ptr 0 0 0),(6,.ptr 1 0 0),(7,.nilS),(8,.dead),(9,.dead),(10,.dead),(13,.sl (bq es) es.length b),(14,ω (es.length:Int)),(15,ω 0),(16,.dead),(33,.dead)],[(0,⟨[.sl (bq es) es.length b,.sl (eM ss) ss.length c,.sl [] 0 false],0,false,0,0,true⟩),(1,⟨[.nilS,.nilS],0,false,0,0,true⟩)],.dead,[]⟩ (.normal) ⟨[(3,.ptr 0 0 0),(2,ω (i:Int)),(6,.ptr 1 0 0),(7,.ref 2 0 0 (a::r).length)],[(0,⟨[.sl (bq es) es.length b,.sl (eM ss) ss.length c,.sl [] 0 false],0,false,0,0,true⟩),(1,⟨[.nilS,.nilS],0,false,0,0,true⟩),(2,⟨(bP (a::r)),0,false,0,6,true⟩)],.dead,[]⟩:=(λnt y=>(C nt y).weak (aD.of ⟨rfl,rfl,rfl,rfl,rfl,rfl,rfl,rfl,trivial⟩) (aD.of ⟨rfl,rfl,rfl,rfl,trivial⟩))
  generalize a::r=l at*
  obtain ⟨n,j⟩:∃ n,l.length=n:=⟨_,rfl⟩
  have p:(Nat.beq (θ (bP ls)) (ls.length*6))=true:=by rw [pG];exact Nat.beq_refl _
  have u:(Xqr (l.length+ls.length) 1099511627776)=true:=Xqc (by omega);have o:(Xqr (l.length*6) (θ (bP l)))=true:=Xqc (by rw [pG];exact κ _);have j:l.length=l.length:=rfl;have h:CO 72 [.agg [.sl (bq es) es.length b,.sl (eM ss) ss.length c,.sl [] 0 false],.sl (cg v) v.length d,ω (i:Int)] (.ret (.agg [.sl (τ ((l.length+ls.length)*6) (bP (l++ls))) (l.length+ls.length) true,.sl [] 0 false])):=pK [0] 0 0 (.k 4 p (.c u (.c o (.k 2 (k0 i) (.c (kl q) (.n 2 .nil)))))) (.b 48 (Wt j ls) (.v 45 (.ppt hs) (.l B .nil)));rw [Xqa (by rw [pG,ξ];exact κ _),<- ξ] at h;exact h
def V5 (l:List (List Lk)):List AV:=l.flatMap λls=> [.sl (bP ls) ls.length true,.sl [] 0 false]
def wQ (q:RQ):Rw:=⟨q.neg,ae q.n,ae q.d⟩
theorem wG {q:RQ} (h:q.ok):(wQ q).v=q:=fT h
theorem aaS {x:Rw} (h:gM x.n x.a x.d=true):AV.agg x.c=qA x.v:=by
 obtain ⟨b,a⟩:=ja h;unfold qA;show _=AV.agg [.bool (vQ x.n x.a x.d).neg,.str (ae (vQ x.n x.a x.d).n),.str (ae (vQ x.n x.a x.d).d)];unfold vQ;rw [if_pos h,b,a]
theorem MK {q:RQ} (h:q.ok):cT q.neg (ae q.n) (ae q.d)=jx q:=by
 unfold cT jx;rw [px q h,aE,aE];rfl
def qP (o:Oq) (x:aP):Int ⊕ Rw:=match o with
 | .err e=> .inl e
 | .val q=>if (gS q x.st.v).neg=true then .inr (wQ q0) else if ((0:Nat):Int)<ep (gS q x.st.v) x.cp.v then .inr x.cp else if jx (gS q x.st.v)=true then .inr (wQ (gS q x.st.v)) else .inl 3
def O1 (k:Nat) (cs l:List AV):List AV:=τ ((0+(δ (k:Int)))*3) cs++l++ε (((0+(δ (k:Int)))*3)+3) cs
def TH (EL:List (List Lk)) (s:List Rw × List AV) (x:aP):(List Rw × List AV) ⊕ (Int ⊕ (List Rw × List AV)):=match qP (gi ⟨EL.getD (δ x.sd) [],[]⟩ x.body) x with
 | .inl e=> .inr (.inl e)
 | .inr w=> .inl (s.1++ [w],O1 s.1.length s.2 w.c)
def zW:Rw:=⟨false,[],[]⟩
def fN (l:List Rw) (n:Nat):List AV:=cg (l++ζ (n - l.length) zW)
theorem IQ {l:List Rw} {n:Nat} (h:l.length<n) (w:Rw):O1 l.length (fN l n) w.c=fN (l++ [w]) n:=by
 unfold O1 fN;obtain ⟨m,a⟩:∃ m,n - l.length=m+1:=⟨n - l.length - 1,by omega⟩
 rw [ξ,Δ,show n - (l.length+1)=m by omega,a,Ψ,Xv5,Xxa];have b:cg (l++zW::ζ m zW)=cg l++(zW.c++cg (ζ m zW)):=by simp [cg,Xji]
 rw [b,<- jp,List.take_left',<- Xjq,Xkr]
 .show cg l++w.c++cg (ζ m zW)=_;simp [cg,Xji]
 .rfl
 .rfl
theorem S9 {e:List Nd} (m:bO e=0) (E:fE):∀ (r p:List Nd) (os:List Oq),e=p++r->os.length=p.length->(∀ o ∈ os,o.ok)->∀ o ∈ K6 E (bt e) r os,o.ok:=by
 obtain ⟨k,h⟩:=kC m;intro r
 induction r with
 |nil=>intro p os hp f b;exact b
 | cons x r ih=>
  intro p os hp f b;have g:p.length<e.length:=by rw [hp];simp
  have d:e[p.length]=x:=by subst hp;simp
  obtain ⟨j,c⟩:=h p.length x (by rw [ν g,d]);simp only [K6];refine ih (p++ [x]) _ (by rw [hp];simp) (by simp [f]) ?_;intro o a;rcases List.mem_append.1 a with a|a
  .exact b o a
  .rw [Xwh] at a;rw [a,f];refine y_ λq n=> ?_
   obtain ⟨i,s,rfl⟩:=List.mem_map.1 n;have:=c i s;rw [μ,ν (by omega)];exact b _ (Xxv _)
theorem kG (E:fE) (e:List Nd):(gi E e).ok:=by
 unfold gi;by_cases hc:bO e=0
 .rw [if_pos hc,Xwv];cases h:(cY E e).getLast? with
  |none=>exact (by decide:(11:Int) ≠ 0)
  |some o=>exact S9 hc E e [] [] rfl rfl (λo h=>by cases h) o (List.mem_of_getLast? h)
 .rw [if_neg hc];exact (by decide:(11:Int) ≠ 0)
theorem IX {x:Nat} (h:x<2^128):(ae x).length<2^36:=φ (bN (k:=16) h) (by decide)
theorem nf {b:Bool} (h:b=false):¬ b=true:=by rw [h];exact Xxt
theorem nd {p:Prop} [Decidable p] (h:decide p=false):¬ p:=of_decide_eq_false h
def CC (es:List aP) (ss:List (List Lk)) (ne ns:Bool) (EL:List (List Lk)) (n0:Nat) (p:Nat × List Rw × List AV):St:=(Pf (.sl (V5 EL) EL.length true) n0 (.sl (bq es) es.length ne) es.length (p.1:Int) [.sl (bq es) es.length ne,.sl (eM ss) ss.length ns,.sl [] 0 false] p.2.2)
def D_ (es:List aP) (ss:List (List Lk)) (ne ns:Bool) (EL:List (List Lk)) (n0:Nat):Int ⊕ (List Rw × List AV)->St
 | .inl e=> ⟨[(4,.nilS),(5,.int .i64 e)],[],.dead,[]⟩
 | .inr s=>(Pg n0 [.sl (bq es) es.length ne,.sl (eM ss) ss.length ns,.sl [] 0 false] s.2)
def Zg:Int ⊕ (List Rw × List AV)->a_
 | .inl _=> .ret
 | .inr _=> .exit 2
structure wv (n:Nat) (x:aP):Prop where
 sm:x.sm
 lo:0<=x.sd
 hi:x.sd<n
 cap:gR x=true
theorem jX {x:aP} (h:gR x=true):cT x.st.n x.st.a x.st.d=true/\cT x.cp.n x.cp.a x.cp.d=true/\0<fQ x.st.v/\0<aX x.cp x.st:=by
 unfold gR at h;simp only [π,decide_eq_true_eq] at h;obtain ⟨b,c,a,d⟩:=h;refine ⟨b,c, ?_,by omega⟩;rw [sn] at a;exact a
theorem HV {x:Rw} (h:cT x.n x.a x.d=true):x.v.ok/\jx x.v=true:=by
 have a:=jz h;refine ⟨cV _ _ _, ?_⟩;show jx (vQ x.n x.a x.d)=true;unfold vQ;rw [if_pos a.1];exact a.2
theorem HZ {nt:Nat} (m:91<=nt) (es:List aP) (ss:List (List Lk)) (F M:Bool) (EL:List (List Lk)) (g:Nat) (hes:es.length<2^39) (U:∀ x ∈ es,wv EL.length x) (hn0:es.length=g) (L:∀ ls ∈ EL,fE.sm ⟨ls,[]⟩):aB prog ap [] nt (af 2 (am f41)) Zg (CC es ss F M EL g) (D_ es ss F M EL g) (0,[],fN [] g) (goL (TH EL) .inr es ([],fN [] g)):=by
 refine aB.goD (TH EL) .inr es (λp s=>s.1.length=p.length/\s.2=fN s.1 g) ?_ ?_ ([],fN [] g) ⟨rfl,rfl⟩
 .rintro p x r ⟨l,cs⟩ hL ⟨hp,hcs⟩
  simp only at hp hcs;have T:=mV hL;have t:(ε ((δ (p.length:Int))*14) (bq es))=PT x++bq r:=cQ uz hL;have b:=U x (by rw [hL];simp);obtain ⟨i,I⟩:∃ i:Nat,x.sd=(i:Int):=⟨x.sd.toNat,by have:=b.lo;omega⟩
  have j:i<EL.length:=by have:=b.hi;omega
  have A:(decide (((0:Nat):Int)<=x.sd))=true:=by rw [I];exact k0 i
  have C:(decide (x.sd<(EL.length:Int)))=true:=by rw [I];exact kl j
  have y:EL.getD (δ x.sd) []=EL[i]:=by rw [I,Xv5,μ,ν j];rfl
  have z:(ε ((δ x.sd)*2) (V5 EL))= [Xke (bP (EL.getD (δ x.sd) [])) (EL.getD (δ x.sd) []).length true,.sl [] 0 false]++V5 (EL.drop (i+1)):=by
   rw [y,I];have e:EL=EL.take i++EL[i]::EL.drop (i+1):=by simp
   have:=cQ (f:=λls:List Lk=> [Xke (bP ls) ls.length true,Xke [] 0 false]) (n:=2) (λ_=>rfl) e;rwa [Xq7,Xjp (by omega)] at this
  have v:fE.sm ⟨EL.getD (δ x.sd) [],[]⟩:=L _ (by rw [y];exact Xxv j);have D:=Mh ⟨EL.getD (δ x.sd) [],[]⟩ false false false v b.sm.body;have H:(gi ⟨EL.getD (δ x.sd) [],[]⟩ x.body).ok:=kG _ _;have d:(decide ((p.length:Int)<(es.length:Int)))=true:=kl T;have K:(decide ((p.length:Int)<(g:Int)))=true:=kl (by omega);have O:p.length<2^62:=by omega
  have N:(Xqr (((0+(δ (p.length:Int)))*3)+3) (θ cs))=true:=Xqc (by
   rw [hcs,fN,jp,Xv5,ξ,Xq9];omega)
  have inv:∀ w:Rw,(l++ [w]).length=(p++ [x]).length/\O1 l.length cs w.c=fN (l++ [w]) g:=λw=> ⟨by simp [hp],by rw [hcs];exact IQ (by omega) w⟩
  obtain ⟨J,k,f3,f4⟩:=jX b.cap;obtain ⟨v1,Z⟩:=HV J;obtain ⟨v3,v4⟩:=HV k;have s1:=(jz J).1;have s2:=(jz k).1;have X:∀ e,qP (gi ⟨EL.getD (δ x.sd) [],[]⟩ x.body) x= .inl e->TH EL (l,cs) x= .inr (.inl e):=λe h=>by unfold TH;rw [h]
  have V:∀ w,qP (gi ⟨EL.getD (δ x.sd) [],[]⟩ x.body) x= .inr w->TH EL (l,cs) x= .inl (l++ [w],O1 l.length cs w.c):=λw h=>by unfold TH;rw [h]
  rw [<- hp] at t d K O N ⊢;generalize gi ⟨EL.getD (δ x.sd) [],[]⟩ x.body=o at*
  generalize EL.getD (δ x.sd) []=ls at*
  have L:=X;have W:=V;show (∃ s',_/\ag _ _ _ _ _ (CC es ss F M EL g (l.length,l,cs)) _ _/\_)\/∃ q,_/\ag _ _ _ _ _ (CC es ss F M EL g (l.length,l,cs)) _ _;cases o with
  |err e=>
   have h5:((Oq.err e).e==((0:Nat):Int))=false:=beq_eq_false_iff_ne.2 H;exact .inr ⟨_,L _ rfl,pN 41 [] 2 3 (.k 1 (bu h5) (.k 4 A (.c C (.k 17 (k0 l.length) (.c d (.c (ax d) .nil)))))) (.c D (.v 51 (.ppt z) (.v 42 (.ppt t) .nil))) m⟩
  | val q=>
   have h5:((Oq.val q).e==((0:Nat):Int))=true:=rfl;have u:=sV H.1 H.2 v1 Z f3;rw [<- aaS s1] at u;have B:(gS q x.st.v).ok:=eS v1;obtain ⟨S,Q⟩:=Co (s:=x.st.v) H.2 Z;have R:CO 76 [qA (gS q x.st.v),.agg x.cp.c] (.ret (ω (ep (gS q x.st.v) x.cp.v))):=by
    have:=zH (gS q x.st.v).neg x.cp.n (ae (gS q x.st.v).n) (ae (gS q x.st.v).d) x.cp.a x.cp.d (φ S (by decide)) (φ Q (by decide)) b.sm.cp.1 b.sm.cp.2;rw [fT B] at this;exact this
   have fa:=cJ (gS q x.st.v).neg (ae (gS q x.st.v).n) (ae (gS q x.st.v).d) (φ S (by decide)) (φ Q (by decide));rw [MK B] at fa;have fc:=cJ x.cp.n x.cp.a x.cp.d (Xzf b.sm.cp.1 (by decide)) (Xzf b.sm.cp.2 (by decide));rw [k] at fc;have c0:CO 75 [ω 0] (.ret (qA q0)):=zo 0 (by decide);have Y:=cJ q0.neg (ae q0.n) (ae q0.d) (IX (by decide)) (IX (by decide));rw [MK vS,show jx q0=true by decide] at Y;have G:qP (.val q) x=if (gS q x.st.v).neg=true then .inr (wQ q0) else if ((0:Nat):Int)<ep (gS q x.st.v) x.cp.v then .inr x.cp else if jx (gS q x.st.v)=true then .inr (wQ (gS q x.st.v)) else .inl 3:=rfl
   generalize ep (gS q x.st.v) x.cp.v=c at*
   clear S Q;generalize gS q x.st.v=a at*
   have J:=fc;have k:=fa;rcases tf a.neg with b0|b0
   .exact .inl ⟨_,W (wQ q0) (by rw [G,if_pos b0]),pN 41 [] 4 5 (.c N (.c (k0 l.length) (.c K (.k 8 (ax b0) (.k 8 (aI h5) (.k 4 A (.c C (.k 17 (k0 l.length) (.c d (.c (ax d) .nil)))))))))) (.v 89 (.eq (FD O)) (.c Y (.c c0 (.c u (.c D (.v 51 (.ppt z) (.v 42 (.ppt t) .nil))))))) m,inv (wQ q0)⟩
   .rcases tf (decide (((0:Nat):Int)<c)) with b1|b1
    .exact .inl ⟨_,W (x.cp) (by rw [G,if_neg (nf b0),if_pos (of_decide_eq_true b1)]),pN 41 [] 5 9 (.c N (.c (k0 l.length) (.c K (.k 11 (ax b1) (.k 6 (aw b0) (.k 8 (aI h5) (.k 4 A (.c C (.k 17 (k0 l.length) (.c d (.c (ax d) .nil))))))))))) (.v 89 (.eq (FD O)) (.c J (.c R (.c u (.c D (.v 51 (.ppt z) (.v 42 (.ppt t) .nil))))))) m,inv (x.cp)⟩
    .rcases tf (jx a) with b2|b2
     .exact .inl ⟨_,W (wQ a) (by rw [G,if_neg (nf b0),if_neg (nd b1),if_pos b2]),pN 41 [] 5 1 (.c N (.c (k0 l.length) (.c K (.k 3 (aI b2) (.k 3 (aw b1) (.k 6 (aw b0) (.k 8 (aI h5) (.k 4 A (.c C (.k 17 (k0 l.length) (.c d (.c (ax d) .nil)))))))))))) (.v 89 (.eq (FD O)) (.c k (.c R (.c u (.c D (.v 51 (.ppt z) (.v 42 (.ppt t) .nil))))))) m,inv (wQ a)⟩
     .exact .inr ⟨_,L 3 (by rw [G,if_neg (nf b0),if_neg (nd b1),if_neg (nf b2)]),pN 41 [] 5 17 (.c (bu b2) (.k 3 (aw b1) (.k 6 (aw b0) (.k 8 (aI h5) (.k 4 A (.c C (.k 17 (k0 l.length) (.c d (.c (ax d) .nil))))))))) (.c k (.c R (.c u (.c D (.v 51 (.ppt z) (.v 42 (.ppt t) .nil)))))) m⟩
 .rintro ⟨l,cs⟩ ⟨hp,hcs⟩
  have d:(decide ((es.length:Int)<(es.length:Int)))=false:=kn (κ _);exact pN 41 [] 1 0 (.c (aw d) .nil) (.nil) m
def jd (EL:List (List Lk)):List aP->Int ⊕ List Rw
 | []=> .inr []
 | x::r=>match qP (gi ⟨EL.getD (δ x.sd) [],[]⟩ x.body) x with
  | .inl e=> .inl e
  | .inr w=>match jd EL r with
   | .inl e=> .inl e
   | .inr l=> .inr (w::l)
def ym (n:Nat) (l:List Rw):Int ⊕ List Rw->Int ⊕ (List Rw × List AV)
 | .inl e=> .inl e
 | .inr m=> .inr (l++m,fN (l++m) n)
theorem G7 (EL:List (List Lk)) (n:Nat):∀ (r:List aP) (l:List Rw),l.length+r.length<=n->goL (TH EL) .inr r (l,fN l n)=ym n l (jd EL r)
 | [],l,_=>by simp [goL,jd,ym]
 | x::r,l,h=>by
  simp only [ο] at h;simp only [goL,TH,jd];cases qP (gi ⟨EL.getD (δ x.sd) [],[]⟩ x.body) x with
  |inl e=>rfl
  |inr w=>
   have a:=G7 EL n r (l++ [w]) (by rw [ξ,Δ];omega);simp only [IQ (show l.length<n by omega),a];cases jd EL r with
   |inl e=>rfl
   |inr m=>simp [ym,Xqe]
theorem pT {EL:List (List Lk)}:∀ {es:List aP} {w:List Rw},jd EL es= .inr w->w.length=es.length
 | [],w,h=>by cases h;rfl
 | x::r,w,h=>by
  simp only [jd] at h;split at h
  .cases h
  .split at h
   .cases h
   .rename_i m a;cases h;simp [pT a]
theorem tM (n:Nat):dA n [Yq5 false,.str [],.str []]=fN [] n:=by
 unfold fN;rw [Xqb,Ξ,Nat.sub_zero]
 induction n with
 |zero=>rfl
 |succ n ih=>rw [Xxa];show _=zW.c++cg (ζ n zW);rw [<- ih];rfl
def Ay:Int ⊕ List Rw->AV
 | .inl e=> .tup [.nilS,.int .i64 e]
 | .inr w=> .tup [.sl (cg w) w.length false,.int .i64 0]
theorem KK (es:List aP) (A:List Lk) (v:List Rw) (a b g:Bool) (f:es.length<2^39) (r:es ≠ []) (m:es.length=v.length) (n:∀ j ∈ ([A]:List (List Lk)),j.length<2^39) (c:∀ x ∈ es,wv 1 x) (u:∀ i,i<1->fE.sm ⟨iO es v [A] i,[]⟩):CO 41 [.agg [.sl (bq es) es.length a,.sl [.sl (bP A) A.length false] 1 b,.sl [] 0 false],.sl (cg v) v.length g] (.ret (Ay (jd ((Xqm 1).map (iO es v [A])) es))):=by
 have y:=Cy es [A] v a b g f r m 0 (by simp) n;have c:∀ x ∈ es,wv ((Xqm 1).map (iO es v [A])).length x:=λx h=>c x h
 have k:∀ j ∈ (Xqm 1).map (iO es v [A]),fE.sm ⟨j,[]⟩:=λj h=>by
  obtain ⟨i,F,rfl⟩:=List.mem_map.1 h;exact u i (List.mem_range.1 F)
 rw [show (Xqm 1).map (iO es v [A])= [iO es v [A] 0] from rfl] at*
 clear u;generalize iO es v [A] 0=L0 at*
 have hloop:=λnt (t:91<=nt)=>HZ t es [A] a b [L0] v.length f c m k
 rw [G7 [L0] v.length es [] (by simp;omega)] at hloop;have C:∀ {e:a_} {s:St},LB 91 2 f41 (CC es [A] a b [L0] v.length (0,[],fN [] v.length)) e s->LB 91 2 f41 (Uv 1 v.length (.sl (bq es) es.length a) es.length [.sl (bq es) es.length a,.sl [.sl (bP A) A.length false] 1 b,.sl [] 0 false] [.sl (bP L0) L0.length true,.sl [] 0 false] (fN [] v.length)) e s:=λh nt t=>
  ag.before 1 ⟨[.sl (bP L0) L0.length true,.sl [] 0 false],0,false,0,2,true⟩ (ag.tidy (s:=(Uw (.sl (V5 [L0]) 1 true) v.length (.sl (bq es) es.length a) es.length [.sl (bq es) es.length a,.sl [.sl (bP A) A.length false] 1 b,.sl [] 0 false] (fN [] v.length))) (s1:=(Pf (.sl (V5 [L0]) 1 true) v.length (.sl (bq es) es.length a) es.length 0 [.sl (bq es) es.length a,.sl [.sl (bP A) A.length false] 1 b,.sl [] 0 false] (fN [] v.length))) [2,4,5,6,8,37,38,39] (h nt t) (by kernel_rfl) rfl) (Xqo _) rfl ⟨Fz.same rfl,Fz.same rfl,Fz.same rfl,.ref,Fz.same rfl,Fz.same rfl,Fz.same rfl,Fz.same rfl,trivial⟩ (.step (wJ.same rfl) (by decide) (.here (.cons (wJ.same rfl) (by decide) .nil)))
 have h0:(decide (((0:Nat):Int)<=(v.length:Int)))=true:=k0 _;have z:(decide ((v.length:Int)=(v.length:Int)))=true:=Yq0 rfl;have B:(decide ((v.length:Int)<=((1099511627776:Nat):Int)))=true:=Yq0 (by omega);cases o:jd [L0] es with
 | inl e=>
  rw [o] at hloop;simp only [ym] at hloop;have q:=C (aB.blk (id:=2) (e':= .ret) (s:=CC es [A] a b [L0] v.length (0,[],fN [] v.length)) (s':=D_ es [A] a b [L0] v.length (.inl e)) hloop (by simp [Zg]) rfl (aD.refl _) (aD.refl _));have p:LB 91 2 f41 (I1 (.agg [.sl (bq es) es.length a,.sl [.sl (bP A) A.length false] 1 b,.sl [] 0 false]) (.sl (cg v) v.length g) 1 0 (δ (v.length:Int)) 1 1 (.sl (bq es) es.length a) es.length [.sl (bq es) es.length a,.sl [.sl (bP A) A.length false] 1 b,.sl [] 0 false] [.sl (bP L0) L0.length true,.sl [] 0 false] (dA (δ (v.length:Int)) [.bool false,.str [],.str []])) (.ret) ⟨[(4,.nilS),(5,ω e)],[],.dead,[]⟩:=by
   rw [tM,aF];exact (λnt d=>(q nt d).weak (aD.of ⟨rfl,rfl,rfl,rfl,rfl,rfl,rfl,rfl,trivial⟩) (aD.of ⟨rfl,rfl,trivial⟩))
  exact pK [2] 2 1 (.k 1 h0 (.c z (.c B (.n 12 .nil)))) (.l p (.c y .nil))
 | inr w=>
  rw [o] at hloop;have G:=pT o;have hloop:=hloop;simp only [ym,Xqb] at hloop;have q:=C (aB.blk (id:=2) (e':= .normal) (s:=CC es [A] a b [L0] v.length (0,[],fN [] v.length)) (s':=D_ es [A] a b [L0] v.length (.inr (w,fN w v.length))) hloop (by simp [Zg]) rfl (aD.refl _) (aD.refl _));have p:LB 91 2 f41 (I1 (.agg [.sl (bq es) es.length a,.sl [.sl (bP A) A.length false] 1 b,.sl [] 0 false]) (.sl (cg v) v.length g) 1 0 (δ (v.length:Int)) 1 1 (.sl (bq es) es.length a) es.length [.sl (bq es) es.length a,.sl [.sl (bP A) A.length false] 1 b,.sl [] 0 false] [.sl (bP L0) L0.length true,.sl [] 0 false] (dA (δ (v.length:Int)) [.bool false,.str [],.str []])) (.normal) (Pg v.length [.sl (bq es) es.length a,.sl [.sl (bP A) A.length false] 1 b,.sl [] 0 false] (fN w v.length)):=by
   rw [tM,aF];exact (λnt d=>(q nt d).weak (aD.of ⟨rfl,rfl,rfl,rfl,rfl,rfl,rfl,rfl,trivial⟩) (aD.of ⟨rfl,rfl,trivial⟩))
  have h:CO 41 [.agg [.sl (bq es) es.length a,.sl [.sl (bP A) A.length false] 1 b,.sl [] 0 false],.sl (cg v) v.length g] (.ret (.tup [.own (τ (v.length*3) (fN w v.length)) v.length 3,ω 0])):=pK [2] 2 1 (.k 1 h0 (.c z (.c B (.n 12 .nil)))) (.l p (.c y .nil));have e:τ (v.length*3) (fN w v.length)=cg w:=by
   unfold fN;rw [G,m,Xz7,Xzt,Xqd,Xqa (by rw [jp];omega)]
  rw [e] at h;have h:=h.thaw (by simp);simp only [ny,Xz0,thaw] at h;rw [Xqa (by rw [jp];omega)] at h;have D:bC (.sl (cg w) v.length true) (.sl (cg w) w.length false):=by rw [show w.length=v.length by omega];exact bC.sl _ _ _
  exact h.out (gz.tup (.fit rfl rfl D (.same .nil)))
theorem KL (es:List aP) (A B:List Lk) (v:List Rw) (a b g:Bool) (c:es.length<2^39) (k:es ≠ []) (m:es.length=v.length) (j:∀ n ∈ ([A,B]:List (List Lk)),n.length<2^39) (d:∀ x ∈ es,wv 2 x) (u:∀ i,i<2->fE.sm ⟨iO es v [A,B] i,[]⟩):CO 41 [.agg [.sl (bq es) es.length a,.sl [.sl (bP A) A.length false,.sl (bP B) B.length false] 2 b,.sl [] 0 false],.sl (cg v) v.length g] (.ret (Ay (jd ((Xqm 2).map (iO es v [A,B])) es))):=by
 have y:=Cy es [A,B] v a b g c k m 0 (by simp) j;have F:=Cy es [A,B] v a b g c k m 1 (by simp) j;have d:∀ x ∈ es,wv ((Xqm 2).map (iO es v [A,B])).length x:=λx h=>d x h
 have o:∀ n ∈ (Xqm 2).map (iO es v [A,B]),fE.sm ⟨n,[]⟩:=λn h=>by
  obtain ⟨i,H,rfl⟩:=List.mem_map.1 h;exact u i (List.mem_range.1 H)
 rw [show (Xqm 2).map (iO es v [A,B])= [iO es v [A,B] 0,iO es v [A,B] 1] from rfl] at*
 clear u;generalize iO es v [A,B] 0=L0 at*
 generalize iO es v [A,B] 1=L1 at*
 have hloop:=λnt (t:91<=nt)=>HZ t es [A,B] a b [L0,L1] v.length c d m o
 rw [G7 [L0,L1] v.length es [] (by simp;omega)] at hloop;have D:∀ {e:a_} {s:St},LB 91 2 f41 (CC es [A,B] a b [L0,L1] v.length (0,[],fN [] v.length)) e s->LB 91 2 f41 (Uv 2 v.length (.sl (bq es) es.length a) es.length [.sl (bq es) es.length a,.sl [.sl (bP A) A.length false,.sl (bP B) B.length false] 2 b,.sl [] 0 false] [.sl (bP L0) L0.length true,.sl [] 0 false,.sl (bP L1) L1.length true,.sl [] 0 false] (fN [] v.length)) e s:=λh nt t=>
  ag.before 1 ⟨[.sl (bP L0) L0.length true,.sl [] 0 false,.sl (bP L1) L1.length true,.sl [] 0 false],0,false,0,2,true⟩ (ag.tidy (s:=(Uw (.sl (V5 [L0,L1]) 2 true) v.length (.sl (bq es) es.length a) es.length [.sl (bq es) es.length a,.sl [.sl (bP A) A.length false,.sl (bP B) B.length false] 2 b,.sl [] 0 false] (fN [] v.length))) (s1:=(Pf (.sl (V5 [L0,L1]) 2 true) v.length (.sl (bq es) es.length a) es.length 0 [.sl (bq es) es.length a,.sl [.sl (bP A) A.length false,.sl (bP B) B.length false] 2 b,.sl [] 0 false] (fN [] v.length))) [2,4,5,6,8,37,38,39] (h nt t) (by kernel_rfl) rfl) (Xqo _) rfl ⟨Fz.same rfl,Fz.same rfl,Fz.same rfl,.ref,Fz.same rfl,Fz.same rfl,Fz.same rfl,Fz.same rfl,trivial⟩ (.step (wJ.same rfl) (by decide) (.here (.cons (wJ.same rfl) (by decide) .nil)))
 have h0:(decide (((0:Nat):Int)<=(v.length:Int)))=true:=k0 _;have z:(decide ((v.length:Int)=(v.length:Int)))=true:=Yq0 rfl;have C:(decide ((v.length:Int)<=((1099511627776:Nat):Int)))=true:=Yq0 (by omega);cases p:jd [L0,L1] es with
 | inl e=>
  rw [p] at hloop;simp only [ym] at hloop;have r:=D (aB.blk (id:=2) (e':= .ret) (s:=CC es [A,B] a b [L0,L1] v.length (0,[],fN [] v.length)) (s':=D_ es [A,B] a b [L0,L1] v.length (.inl e)) hloop (by simp [Zg]) rfl (aD.refl _) (aD.refl _));have q:LB 91 2 f41 (I1 (.agg [.sl (bq es) es.length a,.sl [.sl (bP A) A.length false,.sl (bP B) B.length false] 2 b,.sl [] 0 false]) (.sl (cg v) v.length g) 2 1 (δ (v.length:Int)) 2 2 (.sl (bq es) es.length a) es.length [.sl (bq es) es.length a,.sl [.sl (bP A) A.length false,.sl (bP B) B.length false] 2 b,.sl [] 0 false] [.sl (bP L0) L0.length true,.sl [] 0 false,.sl (bP L1) L1.length true,.sl [] 0 false] (dA (δ (v.length:Int)) [.bool false,.str [],.str []])) (.ret) ⟨[(4,.nilS),(5,ω e)],[],.dead,[]⟩:=by
   rw [tM,aF];exact (λnt f=>(r nt f).weak (aD.of ⟨rfl,rfl,rfl,rfl,rfl,rfl,rfl,rfl,trivial⟩) (aD.of ⟨rfl,rfl,trivial⟩))
  exact pK [2] 3 3 (.k 1 h0 (.c z (.c C (.n 19 .nil)))) (.l q (.c F (.c y .nil)))
 | inr w=>
  rw [p] at hloop;have I:=pT p;have hloop:=hloop;simp only [ym,Xqb] at hloop;have r:=D (aB.blk (id:=2) (e':= .normal) (s:=CC es [A,B] a b [L0,L1] v.length (0,[],fN [] v.length)) (s':=D_ es [A,B] a b [L0,L1] v.length (.inr (w,fN w v.length))) hloop (by simp [Zg]) rfl (aD.refl _) (aD.refl _));have q:LB 91 2 f41 (I1 (.agg [.sl (bq es) es.length a,.sl [.sl (bP A) A.length false,.sl (bP B) B.length false] 2 b,.sl [] 0 false]) (.sl (cg v) v.length g) 2 1 (δ (v.length:Int)) 2 2 (.sl (bq es) es.length a) es.length [.sl (bq es) es.length a,.sl [.sl (bP A) A.length false,.sl (bP B) B.length false] 2 b,.sl [] 0 false] [.sl (bP L0) L0.length true,.sl [] 0 false,.sl (bP L1) L1.length true,.sl [] 0 false] (dA (δ (v.length:Int)) [.bool false,.str [],.str []])) (.normal) (Pg v.length [.sl (bq es) es.length a,.sl [.sl (bP A) A.length false,.sl (bP B) B.length false] 2 b,.sl [] 0 false] (fN w v.length)):=by
   rw [tM,aF];exact (λnt f=>(r nt f).weak (aD.of ⟨rfl,rfl,rfl,rfl,rfl,rfl,rfl,rfl,trivial⟩) (aD.of ⟨rfl,rfl,trivial⟩))
  have h:CO 41 [.agg [.sl (bq es) es.length a,.sl [.sl (bP A) A.length false,.sl (bP B) B.length false] 2 b,.sl [] 0 false],.sl (cg v) v.length g] (.ret (.tup [.own (τ (v.length*3) (fN w v.length)) v.length 3,ω 0])):=pK [2] 3 3 (.k 1 h0 (.c z (.c C (.n 19 .nil)))) (.l q (.c F (.c y .nil)));have e:τ (v.length*3) (fN w v.length)=cg w:=by
   unfold fN;rw [I,m,Xz7,Xzt,Xqd,Xqa (by rw [jp];omega)]
  rw [e] at h;have h:=h.thaw (by simp);simp only [ny,Xz0,thaw] at h;rw [Xqa (by rw [jp];omega)] at h;have G:bC (.sl (cg w) v.length true) (.sl (cg w) w.length false):=by rw [show w.length=v.length by omega];exact bC.sl _ _ _
  exact h.out (gz.tup (.fit rfl rfl G (.same .nil)))
theorem zA (es:List aP) (ss:List (List Lk)) (v:List Rw) (f e g:Bool) (h:ss.length=1\/ss.length=2) (a:es.length<2^39) (b:es ≠ []) (j:es.length=v.length) (c:∀ ls ∈ ss,ls.length<2^39) (d:∀ x ∈ es,wv ss.length x) (k:∀ i,i<ss.length->fE.sm ⟨iO es v ss i,[]⟩):CO 41 [.agg [.sl (bq es) es.length f,.sl (eM ss) ss.length e,.sl [] 0 false],.sl (cg v) v.length g] (.ret (Ay (jd ((Xqm ss.length).map (iO es v ss)) es))):=by
 match ss,h with
 | [A],_=>exact KK es A v f e g a b j c d k
 | [A,B],_=>exact KL es A B v f e g a b j c d k
def Dc (_:Unit) (p:aP × Rw):Unit ⊕ Bool:=if 0<=aX p.2 p.1.st/\aX p.2 p.1.st<=aX p.1.cp p.1.st then .inl () else .inr false
def rZ (es:List aP) (v:List Rw):Bool:=decide (v.length=es.length) && goL Dc (λ_=>true) (es.zip v) ()
def MX (es:List aP) (ss:List (List Lk)) (v:List Rw) (ne ns nv:Bool) (p:Nat × Unit):St:=⟨[(1,.sl (cg v) v.length nv),(2,.ptr 0 0 0),(15,.sl (bq es) es.length ne),(16,ω (es.length:Int)),(17,ω (p.1:Int))],[(0,⟨[.sl (bq es) es.length ne,.sl (eM ss) ss.length ns,.sl [] 0 false],0,false,0,0,true⟩)],.dead,[]⟩
def ghE:Bool->a_
 |true=> .exit 0
 |false=> .ret
def MW (es:List aP) (ss:List (List Lk)) (v:List Rw) (ne ns nv:Bool):Bool->St
 |true=>tW
 |false=>(qT (.bool false))
theorem QX {nt:Nat} (e:44<=nt) (es:List aP) (ss:List (List Lk)) (v:List Rw) (b c d:Bool) (t:es.length<2^39) (o:es.length=v.length) (i:∀ x ∈ es,x.sm) (A:∀ y ∈ v,y.sm):aB prog ap [] nt (af 0 (am f40)) ghE (MX es ss v b c d) (MW es ss v b c d) (0,()) (goL Dc (λ_=>true) (es.zip v) ()):=by
 have u:(es.zip v).length=es.length:=by rw [Xzg];omega
 refine aB.goD Dc (λ_=>true) (es.zip v) (λ_ _=>True) ?_ ?_ () trivial
 .rintro p ⟨x,y⟩ r _ hL _
  obtain ⟨j,m⟩:=jf o hL;have h:(ε ((δ (p.length:Int))*14) (bq es))=PT x++bq (r.map (·.1)):=by have:=cQ uz j;rwa [Xqp] at this
  have f:(ε ((δ (p.length:Int))*3) (cg v))=y.c++cg (r.map (·.2)):=by have:=cQ SL m;rwa [Xqp] at this
  have w:=mV hL;have a:(decide ((p.length:Int)<(es.length:Int)))=true:=kl (by omega);have n:(decide ((p.length:Int)<(v.length:Int)))=true:=by rw [<- o];exact a
  have z:p.length<2^62:=by omega
  have g:=i x (by rw [j];simp);have cy:=zZ y x.st (A y (by rw [m];simp)) g.st;have s:=zZ x.cp x.st g.cp g.st;show (∃ s',_/\ag _ _ _ _ _ (MX es ss v b c d (p.length,())) _ _/\_)\/∃ q,_/\ag _ _ _ _ _ (MX es ss v b c d (p.length,())) _ _;generalize p.length=k at*
  clear hL j m;rcases tf (decide ((aX y x.st)<((0:Nat):Int))) with b0|b0
  .exact .inr ⟨false,by rw [Dc,if_neg (show ¬ (0<=aX y x.st/\aX y x.st<=aX x.cp x.st) from by have:=of_decide_eq_true b0;omega)],pN 40 [] 3 7 (.k 1 (ax b0) (.k 6 (k0 k) (.c n (.k 15 (k0 k) (.c a (.c (ax a) .nil)))))) (.c cy (.v 24 (.ppt f) (.v 20 (.ppt h) .nil))) e⟩
  .rcases tf (decide ((aX x.cp x.st)<(aX y x.st))) with b1|b1
   .exact .inr ⟨false,by rw [Dc,if_neg (show ¬ (0<=aX y x.st/\aX y x.st<=aX x.cp x.st) from by have:=of_decide_eq_true b1;omega)],pN 40 [] 3 5 (.c (ax b1) (.k 6 (aw b0) (.k 6 (k0 k) (.c n (.k 15 (k0 k) (.c a (.c (ax a) .nil))))))) (.c s (.c cy (.v 24 (.ppt f) (.v 20 (.ppt h) .nil)))) e⟩
   .exact .inl ⟨(),by rw [Dc,if_pos (show 0<=aX y x.st/\aX y x.st<=aX x.cp x.st by have:=of_decide_eq_false b0;have:=of_decide_eq_false b1;omega)],pN 40 [] 3 1 (.c (aw b1) (.k 6 (aw b0) (.k 6 (k0 k) (.c n (.k 15 (k0 k) (.c a (.c (ax a) .nil))))))) (.v 43 (.eq (FD z)) (.c s (.c cy (.v 24 (.ppt f) (.v 20 (.ppt h) .nil))))) e,trivial⟩
 .intro _ _;rw [u];exact pN 40 [] 1 0 (.c (aw (kn (κ es.length))) .nil) (.nil) e
theorem KH (es:List aP) (ss:List (List Lk)) (v:List Rw) (a b c:Bool) (f:es.length<2^39) (j:∀ x ∈ es,x.sm) (k:∀ y ∈ v,y.sm):CO 40 [.agg [.sl (bq es) es.length a,.sl (eM ss) ss.length b,.sl [] 0 false],.sl (cg v) v.length c] (.ret (.bool (rZ es v))):=by
 unfold rZ;by_cases hl:es.length=v.length
 .have e:((v.length:Int)==(es.length:Int))=true:=by rw [hl];exact beq_self_eq_true _
  rw [Yq0 hl.symm,Xx0];have hloop:=λnt (hn:44<=nt)=>QX hn es ss v a b c f hl j k
  cases hd:goL Dc (λ_=>true) (es.zip v) () with
  |true=>
   rw [hd] at hloop;have i:=aB.blk (id:=0) (e':= .normal) (s:=MX es ss v a b c (0,())) (s':=MW es ss v a b c true) hloop (by simp [ghE]) rfl (aD.refl _) (aD.refl _);have g:LB 44 0 f40 (Ut (.agg [.sl (bq es) es.length a,.sl (eM ss) ss.length b,.sl [] 0 false]) (.sl (cg v) v.length c) (!((v.length:Int)==(es.length:Int))) (.sl (bq es) es.length a) es.length [.sl (bq es) es.length a,.sl (eM ss) ss.length b,.sl [] 0 false]) (.normal) tW:=(λnt d=>(i nt d).weak (aD.of ⟨rfl,rfl,rfl,rfl,rfl,trivial⟩) (aD.refl _))
   exact pK [0] 1 0 (.k 1 (aI e) (.n 1 .nil)) (.l g .nil)
  |false=>
   rw [hd] at hloop;have i:=aB.blk (id:=0) (e':= .ret) (s:=MX es ss v a b c (0,())) (s':=MW es ss v a b c false) hloop (by simp [ghE]) rfl (aD.refl _) (aD.refl _);have g:LB 44 0 f40 (Ut (.agg [.sl (bq es) es.length a,.sl (eM ss) ss.length b,.sl [] 0 false]) (.sl (cg v) v.length c) (!((v.length:Int)==(es.length:Int))) (.sl (bq es) es.length a) es.length [.sl (bq es) es.length a,.sl (eM ss) ss.length b,.sl [] 0 false]) (.ret) (qT (.bool false)):=(λnt d=>(i nt d).weak (aD.of ⟨rfl,rfl,rfl,rfl,rfl,trivial⟩) (aD.refl _))
   exact pK [0] 1 0 (.k 1 (aI e) (.n 1 .nil)) (.l g .nil)
 .have e:((v.length:Int)==(es.length:Int))=false:=beq_eq_false_iff_ne.2 (by omega);rw [Yq1 (λh=>hl h.symm),Xx4];exact pK [0] 1 1 (.c (bu e) (.n 1 .nil)) (.nil)
def nG (ss:List (List Lk)) (es:List aP) (v:List Rw):Int ⊕ List Rw:=if (qN ss.length es==((0:Nat):Int))=true then (if rZ es v=true then jd ((Xqm ss.length).map (iO es v ss)) es else .inl 1) else .inl (qN ss.length es)
theorem Ci {n:Nat} {es:List aP} (h:qN n es=0) (i:∀ x ∈ es,x.sm):(n=1\/n=2)/\es ≠ []/\es.length<=60/\(∀ x ∈ es,wv n x)/\(∀ x ∈ es,bO x.body=0/\uX es x=true)/\∃ p,goL (mg n) some es ([],[],[])=some p:=by
 unfold qN at h;simp only [decide_eq_true_eq] at h;split at h
 .cases h
 rename_i q;split at h
 .cases h
 rename_i m;split at h
 .cases h
 rename_i k;split at h
 .cases h
 rename_i o;split at h
 .cases h
 rename_i s hs;have c:∀ (r:List aP),(goL (xL es) (λ_=>none) r ()).getD 0=0->∀ x ∈ r,bO x.body=0/\gR x=true/\uX es x=true:=by
  intro r
  induction r with
  |nil=>intro _ x a;cases a
  | cons y r ih=>
   intro h0;simp only [goL,xL] at h0;cases b:(bO y.body==((0:Nat):Int)) with
   |false=>
    simp only [b,Xq6,if_true,Xzy] at h0;rw [h0] at b;cases b
   | true=>
    cases g:gR y with
    |false=>simp only [b,g,Xxi,Xq6,Xqy,if_false,if_true,Xzy] at h0;cases h0
    | true=>
     cases j:uX es y with
     |false=>simp only [b,g,j,Xxi,Xq6,Xqy,if_false,if_true,Xzy] at h0;cases h0
     |true=>
      simp only [b,g,j,Xxi,Xqy,if_false] at h0;intro x a;rcases List.mem_cons.1 a with rfl|a
      .exact ⟨by have:=beq_iff_eq.1 b;omega,g,j⟩
      .exact ih h0 x a
 have c:=c es h;have f:∀ (r l:List aP) (ks vs:List AV) (p:UW),goL (mg n) some r (l,ks,vs)=some p->∀ x ∈ r,0<=x.sd/\x.sd<n:=by
  intro r
  induction r with
  |nil=>intro _ _ _ _ _ x a;cases a
  | cons y r ih=>
   intro l ks vs p h0;simp only [goL,mg] at h0;cases d:gQ n l y with
   |true=>simp only [d,if_true] at h0;cases h0
   | false=>
    simp only [d,Xqy,if_false] at h0;intro x a;rcases List.mem_cons.1 a with rfl|a
    .unfold gQ at d;simp only [Xvj,decide_eq_false_iff_not] at d;omega
    .exact ih _ _ _ _ h0 x a
 have f:=f es [] [] [] s hs;refine ⟨by omega,λe=>k (by rw [e];decide),by omega,λx a=> ⟨i x a,(f x a).1,(f x a).2,(c x a).2.1⟩,λx a=> ⟨(c x a).1,(c x a).2.2⟩,⟨s,hs⟩⟩
theorem Lv (es:List aP) (ss:List (List Lk)) (v:List Rw) (d e f:Bool) (b:es.length<2^39) (c:∀ x ∈ es,x.sm) (q:∀ y ∈ v,y.sm) (h:∀ ls ∈ ss,ls.length<2^39) (p:∀ i,i<ss.length->fE.sm ⟨iO es v ss i,[]⟩):CO 15 [.agg [.sl (bq es) es.length d,.sl (eM ss) ss.length e,.sl [] 0 false],.sl (cg v) v.length f] (.ret (Ay (nG ss es v))):=by
 have ck:=jZ es ss d e b c;have k:=KH es ss v d e f b c q;unfold nG;rcases tf ((qN ss.length es)==((0:Nat):Int)) with b0|b0
 .rw [if_pos b0];rcases tf (rZ es v) with b1|b1
  .rw [if_pos b1];obtain ⟨j,m,_,g,_⟩:=Ci (by have:=beq_iff_eq.1 b0;omega) c;have o:es.length=v.length:=by
    unfold rZ at b1;simp only [π,decide_eq_true_eq] at b1;exact b1.1.symm
   have a:=zA es ss v d e f j b m o h g p;cases n:jd ((Xqm ss.length).map (iO es v ss)) es with
   |inl we=>
    rw [n] at a;have a:CO 41 [.agg [.sl (bq es) es.length d,.sl (eM ss) ss.length e,.sl [] 0 false],.sl (cg v) v.length f] (.ret (.tup [.nilS,ω we])):=a;exact pK [] 2 0 (.k 3 (aI b1) (.k 3 (aI b0) (.n 3 .nil))) (.c a (.c k (.c ck .nil)))
   |inr w=>
    rw [n] at a;have a:CO 41 [.agg [.sl (bq es) es.length d,.sl (eM ss) ss.length e,.sl [] 0 false],.sl (cg v) v.length f] (.ret (.tup [.sl (cg w) w.length false,ω 0])):=a;exact pK [] 2 0 (.k 3 (aI b1) (.k 3 (aI b0) (.n 3 .nil))) (.c a (.c k (.c ck .nil)))
  .rw [if_neg (nf b1)];exact pK [] 2 2 (.c (bu b1) (.k 3 (aI b0) (.n 3 .nil))) (.c k (.c ck .nil))
 .rw [if_neg (nf b0)];exact pK [] 1 1 (.c (bu b0) (.n 3 .nil)) (.c ck .nil)
def py (a b:List Rw):Prop:=a.length=b.length/\∀ (i:Nat) (x y:Rw),a[i]? =some x->b[i]? =some y->x.v.rt<=y.v.rt
theorem py.tail {x y:Rw} {a b:List Rw} (h:py (x::a) (y::b)):py a b:=⟨by simpa using h.1,λi u w d c=>h.2 (i+1) u w (by simpa using d) (by simpa using c)⟩
theorem py.head {x y:Rw} {a b:List Rw} (h:py (x::a) (y::b)):x.v.rt<=y.v.rt:=h.2 0 x y rfl rfl
theorem py.cons {x y:Rw} {a b:List Rw} (h:x.v.rt<=y.v.rt) (e:py a b):py (x::a) (y::b):=⟨by simp [e.1],λi u w d c=>by
 cases i with
 |zero=>simp at d c;subst d c;exact h
 |succ i=>exact e.2 i u w (by simpa using d) (by simpa using c)⟩
theorem py.nil:py [] []:=⟨rfl,λi u w a _=>by simp at a⟩
theorem tB (sd:Int) (c:Int) (d:List UInt8):∀ {es:List aP} {v v':List Rw},v.length=es.length->py v v'->
  (((es.zip v).map (rf sd)).find? (λy=>(c==y.op) && (d==y.nm))=none/\((es.zip v').map (rf sd)).find? (λy=>(c==y.op) && (d==y.nm))=none)\/
  ∃ (x:aP) (y y':Rw),x ∈ es/\((es.zip v).map (rf sd)).find? (λy=>(c==y.op) && (d==y.nm))=some (rf sd (x,y))/\((es.zip v').map (rf sd)).find? (λy=>(c==y.op) && (d==y.nm))=some (rf sd (x,y'))/\y.v.rt<=y'.v.rt/\(c=6\/c=8)/\d=x.nm
 | [],v,v',_,_=> .inl ⟨rfl,rfl⟩
 |x::es,[],v',h,_=>by simp at h
 |x::es,y::v,[],_,h=>by have:=h.1;simp at this
 | x::es,y::v,y'::v',hl,h=>by
  simp only [Xzj,Xqf,List.find?_cons];have g:(rf sd (x,y)).op=(rf sd (x,y')).op:=rfl;have i:(rf sd (x,y)).nm=(rf sd (x,y')).nm:=rfl;rw [g,i];cases f:((c==(rf sd (x,y')).op) && (d==(rf sd (x,y')).nm)) with
  |true=>
   simp only [π,beq_iff_eq] at f;refine .inr ⟨x,y,y',by simp,rfl,rfl,h.head, ?_,f.2⟩;have e:=f.1;simp only [rf] at e;split at e<;>omega
  |false=>
   rcases tB sd c d (by simpa using hl) h.tail with e|⟨z,a,b,h0,e⟩
   .exact .inl e
   .exact .inr ⟨z,a,b,by simp [h0],e⟩
theorem qD {y:Rw} {p:RQ} (h:oM y.n y.a y.d 0= .val p):p=y.v:=by
 unfold oM at h;rw [if_pos rfl] at h;split at h
 .rename_i a;cases h;show _=vQ y.n y.a y.d;unfold vQ;rw [if_pos (jz a).1]
 .cases h
abbrev NmI (es:List aP):={p:Int × List UInt8 // (p.1=6\/p.1=8)/\p.2 ∈ GK es}
theorem Qk {es:List aP} {v j:List Rw} (ss:List (List Lk)) (i:Nat) (g:v.length=es.length) (h:py v j):UY ⟨iO es v ss i,[]⟩ ⟨iO es j ss i,[]⟩ (λu:NmI es=>u.1.1) (λu:NmI es=>u.1.2) where
 qs:=rfl
 nil:=rfl
 lk o n hn:=by
  unfold Dy iO;rw [Xj7,Xj7];rcases tB (i:Int) o n g h with ⟨b,c⟩|⟨x,y,d,m,_,_,_,k,f⟩
  .rw [b,c]
  .exact absurd ⟨rfl,rfl⟩ (hn ⟨(o,n),k,by rw [f];exact List.mem_map.2 ⟨x,m,rfl⟩⟩)
 atN:=by
  rintro ⟨⟨o,n⟩,k,hm⟩ p q hp a
  simp only at hp a;unfold Dy iO at hp a;rw [Xj7] at hp a;rcases tB (i:Int) o n g h with ⟨b,c⟩|⟨x,y,d,m,b,c,e,_,_⟩
  .rw [b] at hp;rw [c] at a;rw [hp] at a;cases a;grind
  .rw [b] at hp;rw [c] at a;have hp:oM y.n y.a y.d 0= .val p:=hp;have a:oM d.n d.a d.d 0= .val q:=a;rw [qD hp,qD a];exact e
theorem Bw {es:List aP} {x:aP} (h:uX es x=true) (u:NmI es):dF (mn bY) (mz bY) x.body [] u.1.1 u.1.2<=1:=by
 obtain ⟨⟨o,n⟩,a,b⟩:=u;unfold uX xg at h;rw [π] at h;have:=List.all_eq_true.1 h.2 n b;unfold Ot at this;simp only [π,Bool.not_eq_true',decide_eq_false_iff_not] at this;simp only at a ⊢;rcases a with rfl|rfl
 .have:=this.1;show dF (mn bY) (mz bY) x.body (Xz0 Sq.c []) 6 n<=1;omega
 .have:=this.2;show dF (mn bY) (mz bY) x.body (Xz0 Sq.c []) 8 n<=1;omega
theorem QQ {es:List aP} {v a:List Rw} (ss:List (List Lk)) (i:Nat) (c:v.length=es.length) (h:py v a) {x:aP} (d:uX es x=true) {p q:RQ} (hp:gi ⟨iO es v ss i,[]⟩ x.body= .val p) (b:gi ⟨iO es a ss i,[]⟩ x.body= .val q):p.rt<=q.rt:=
 BH (Qk ss i c h) (λu=>by have:=u.2.1;omega) x.body (λu=>Bw d u) p q hp b
theorem k_ {a s:Rw} (h:0<=aX a s):0<s.v.n/\gM a.n a.a a.d=true/\aX a s<=200/\a.v.rt=((aX a s:Int):Rat)*s.v.rt:=by
 unfold aX at h ⊢;split at h
 .omega
 rename_i h0;rw [if_neg h0];split at h
 .rename_i c;rw [if_pos c];obtain ⟨f,g,i,j⟩:=c;have hs:s.v.ok:=cV _ _ _;have d:a.v.ok:=cV _ _ _;have b:=uY d hs (by omega);have k:s.v.rt ≠ 0:=λe=>by
   have:=(ol hs).2.1.2 e;unfold fQ at this;rw [if_neg h0] at this;split at this<;>cases this
  refine ⟨by omega,f,by omega, ?_⟩;have:(bB a.v s.v).rt=(((bB a.v s.v).n:Nat):Rat):=by
   unfold RQ.rt;rw [g,i];simp only [Xqy,if_false];grind
  rw [this] at b;have e:(((bB a.v s.v).n:Nat):Rat)*s.v.rt=a.v.rt:=by rw [b];grind
  rw [<- e];rfl
 .omega
theorem zR {x:aP} (h:gR x=true):x.st.v.ok/\0<x.st.v.n/\0<x.st.v.rt:=by
 obtain ⟨a,_,b,_⟩:=jX h;have:=zE (HV a).1 b;exact ⟨(HV a).1,this.2,this.1⟩
theorem ui {a s:Rw} (g:gM a.n a.a a.d=true) (hs:s.v.ok) (h0:0<s.v.n) (hp:0<s.v.rt) (k:Nat) (j:k<=200) (h:a.v.rt=(k:Rat)*s.v.rt):aX a s=k:=by
 have c:a.v.ok:=cV _ _ _;have b:=jT c h0;have m:(bB a.v s.v).rt=(nQ (k:Int)).rt:=by
  rw [uY c hs h0,h];have e:(nQ (k:Int)).rt=(k:Rat):=by
   unfold RQ.rt nQ;have:decide ((k:Int)<0)=false:=Yq1 (by omega);rw [this];simp only [Xqy,if_false,Xz4];grind
  rw [e];grind
 have i:=mi b (tv _) m;unfold aX;rw [if_neg (by omega),i];have f:(nQ (k:Int)).neg=false:=(Yq1 (by omega):decide ((k:Int)<0)=false)
 have d:(nQ (k:Int)).n=k:=Xz4 k;rw [if_pos ⟨g,f,rfl,by rw [d];exact j⟩,d]
theorem Dv {q:RQ} (h:q.ok):gM (wQ q).n (wQ q).a (wQ q).d=true:=px q h
theorem Iy:q0.rt=0:=by unfold RQ.rt q0;grind
theorem GL {q:RQ} (h:q.ok):q.neg=true↔q.rt<0:=by
 have hs:=ol h;constructor
 .intro b;refine hs.1.1 ?_;have:=h.2.2 b;unfold fQ;rw [if_neg (by omega),b];decide
 .intro a;have:=hs.1.2 a;unfold fQ at this;split at this
  .omega
  .split at this
   .assumption
   .omega
theorem KJ {o:Oq} {x:aP} {w:Rw} (p:gR x=true) (y:o.ok) (h:qP o x= .inr w):0<=aX w x.st/\aX w x.st<=aX x.cp x.st:=by
 obtain ⟨G,D,F,v⟩:=jX p;obtain ⟨s1,g,f⟩:=zR p;cases o with
 |err e=>cases h
 | val q=>
  obtain ⟨H,C,u,i⟩:=k_ (a:=x.cp) (s:=x.st) (by omega);simp only [qP] at h;split at h
  .cases h;have:=ui (a:=wQ q0) (s:=x.st) (Dv vS) s1 g f 0 (by omega) (by rw [wG vS,Iy];grind);rw [this];omega
  .rename_i B;split at h
   .cases h;omega
   .rename_i m;split at h
    .cases h;have b:(gS q x.st.v).ok:=eS s1;obtain ⟨d,_,_⟩:=zC y.1 s1 g;have j:¬ (gS q x.st.v).rt<0:=λh=>B ((GL b).2 h)
     have n:x.cp.v.ok:=cV _ _ _;have c:¬ x.cp.v.rt<(gS q x.st.v).rt:=λh=>m ((nM b n).2.2.2 h)
     obtain ⟨U,z⟩:∃ U:Nat,aX x.cp x.st=U:=⟨(aX x.cp x.st).toNat,by omega⟩
     rw [z] at i v u ⊢;have r:0<=mw (bB q x.st.v):=by
      rcases Int.lt_or_le (mw (bB q x.st.v)) 0 with hlt|hge
      .exfalso;have:((mw (bB q x.st.v):Int):Rat)<0:=by exact_mod_cast hlt
       apply j;rw [d];have:=Rat.mul_lt_mul_of_pos_right this f;grind
      .exact hge
     obtain ⟨k,A⟩:∃ k:Nat,mw (bB q x.st.v)=k:=⟨(mw (bB q x.st.v)).toNat,by omega⟩
     rw [A] at d;have d:(gS q x.st.v).rt=(k:Rat)*x.st.v.rt:=d;have i:x.cp.v.rt=(U:Rat)*x.st.v.rt:=i;have t:k<=U:=by
      rcases Xjg U k with hlt|hge
      .exfalso;apply c;have:(U:Rat)<(k:Rat):=by exact_mod_cast hlt
       have:=Rat.mul_lt_mul_of_pos_right this f;grind
      .exact hge
     have:=ui (a:=wQ (gS q x.st.v)) (s:=x.st) (Dv b) s1 g f k (by omega) (by rw [wG b];exact d);rw [this];omega
    .cases h
theorem Ox {p q:RQ} {x:aP} {a b:Rw} (i:gR x=true) (hp:p.ok) (n:q.ok) (h:p.rt<=q.rt) (j:qP (.val p) x= .inr a) (o:qP (.val q) x= .inr b):a.v.rt<=b.v.rt:=by
 obtain ⟨D,A,u,C⟩:=jX i;obtain ⟨s1,y,w⟩:=zR i;have e:x.cp.v.ok:=cV _ _ _;obtain ⟨F,z,B,m⟩:=k_ (a:=x.cp) (s:=x.st) (by omega);have k:0<=x.cp.v.rt:=by
  rw [m];have:(0:Rat)<=((aX x.cp x.st:Int):Rat):=by exact_mod_cast (by omega:0<=aX x.cp x.st)
  exact Rat.mul_nonneg this (by grind)
 have v:(gS p x.st.v).ok:=eS s1;have t:(gS q x.st.v).ok:=eS s1;have hd:=wS hp n s1 u h;have key:∀ {r:RQ} {c:Rw},(gS r x.st.v).ok->qP (.val r) x= .inr c->c.v.rt=if (gS r x.st.v).rt<0 then 0 else if x.cp.v.rt<(gS r x.st.v).rt then x.cp.v.rt else (gS r x.st.v).rt:=by
  intro r c d h;simp only [qP] at h;split at h
  .rename_i g;cases h;rw [if_pos ((GL d).1 g),wG vS,Iy]
  .rename_i g;rw [if_neg (λh=>g ((GL d).2 h))];split at h
   .rename_i f;cases h;rw [if_pos ((nM d e).2.2.1 f)]
   .rename_i f;rw [if_neg (λh=>f ((nM d e).2.2.2 h))];split at h
    .cases h;rw [wG d]
    .cases h
 rw [key v j,key t o];split<;>split<;>grind
end Go.Proofs.Tryz
