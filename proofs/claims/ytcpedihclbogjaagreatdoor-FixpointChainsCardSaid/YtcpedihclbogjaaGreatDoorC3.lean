/- Contracts of functions; joined by a program of mine. -/
import Derived.Test.YtcpedihclbogjaaGreatDoorC2
import Derived.Test.YtcpedihclbogjaaGreatDoorC1
import Derived.RangeFuncBox
import Derived.RangeFuncCalls
import Derived.RangeFuncLeaves
import Derived.Shelf.Abstract
import Derived.WalkKit
import Derived.OwnWalkIn
import Derived.TacticsInMore
import Derived.LoopNIn
import Derived.LoopIn
import Derived.Test.YtcpedihclbogjaaGreatDoorM5
set_option linter.unusedSimpArgs false
set_option linter.unusedVariables false
set_option maxRecDepth 100000
open Go AM
open List renaming drop->ε,drop_of_length_le->Xjr,map_drop->Xj0,drop_eq_getElem_cons->Xxn,getD_eq_getElem?_getD->ξ,getElem?_eq_getElem->μ,getElem_mem->Xxj,length_take->Xqz,take->π,map_append->Xq5,map_cons->Xqg,append_assoc->Xqe,length->θ,length_set->Xxo,length_append->ν,length_singleton->Θ,length_cons->ο,getElem?_cons_zero->Xxb,replicate->ζ,append_nil->Xqd,length_replicate->Xxa,flatMap_cons->Xxx,drop_drop->Xjs,drop_left->Xv1,all->Xwa,cons_append->Xqt,find?_append->Xwp,mem_singleton->Xwi,all_eq_true->Xzo,length_map->Xqp,length_eq_zero_iff->Xke,take_of_length_le->φ,flatMap_append->Xx9,getLastD_eq_getLast?->Xwv,getLast?_eq_getElem?->Xww,map->Xz1,zip_cons_cons->Xzn,length_zip->Xzk,any_cons->Xvj,eq_nil_or_concat->Xzf,range->Xqo,prefix_refl->Xwx,prefix_append->Xvy,size_toArray->Xxh,length_nil->Xqa,push_toArray->Xjd,append_toArray->Xx0,nil_append->Xqc,drop_left'->Xks,map_nil->Xjh,replicate_succ->Xxc,replicate_zero->Xza
open Int renaming toNat->δ,pow_zero->Yjf,mul_one->Yjt,toNat_natCast->Xv6
open Nat renaming mul_one->Xqi,zero_add->Δ,ble->Xqn,ble_eq->Xjn,lt_trans->Xzj,succ_mul->Xvx,add_comm->Xje,le_of_ble_eq_true->Xzi,lt_of_le_of_lt->χ,le_refl->κ,ble_eq_true_of_le->Γ,zero_or->Yju,reduceAdd->Xzd,reduceSub->Xze,zero_le->Xq7,min_eq_left->Xx5,sub_self->Xz8
open IntKind renaming wrap->γ,bits->Xqb
open Bool renaming and_eq_true->τ,and_true->Xwo,eq_iff_iff->Xzx,false_eq_true->Xqy,true_and->Xx1,false_and->Xx6,false_ne_true->Xxu,or_eq_false_iff->Xvi,true_or->Xj8,false_or->Xx3,or_true->Xzu,or_false->Xj4,not_true->Xxl,not_false->Xq8
open Option renaming getD->Xwc,isSome->Xz3,getD_some->Xzp
open AV renaming tup->Yxc,agg->Yj2,bool->Yxa,sl->Xvk
open BitVec renaming toNat->Xxe,ofInt->Xqh
namespace Go.Proofs.Tryz
abbrev zcc3_0 : List AV := [ω 9,ω 13,ω 14,ω 21,ω 22,ω 23,ω 10,ω 11,ω 12,ω 15,ω 24]
structure Sc where
 name:List UInt8
 u1:Int
 u2:Int
 bx:List AV
 bn:Nat
def scC (x:Sc):List AV:= [.str x.name,ω x.u1,ω x.u2,.sl x.bx x.bn false]
def lT (l:List Sc):List AV:=l.flatMap scC
theorem abV {l:List Sc} {k:Nat} (h:k<l.length):ε (k*4) (lT l)=scC l[k]++lT (l.drop (k+1)):=by
 induction l generalizing k with
 |nil=>simp at h
 | cons x r ih=>
  cases k with
  |zero=>simp [lT]
  |succ k=>
   have a:k<r.length:=by simpa using h
   show ε ((k+1)*4) (scC x++lT r)=_;rw [show (k+1)*4=(scC x).length+k*4 by simp [scC];omega,List.drop_append,Nat.add_sub_cancel_left,ih a,Xjr (by omega)];rfl
def eH (a b:Nat):Nat:=if a=0 then b else if b=0\/a=b then a else 3
def jR (a:Nat):Nat:=if a=1\/a=2 then 3 - a else a
def iP (A:List (List Nat)) (ss:List Nat) (k i:Nat):Nat:=ss.getD ((A.getD k []).getD i 0) 0
def iF (A:List (List Nat)) (ss:List Nat) (k:Nat):Nat:=(A.getD k []).foldl (λs i=>eH s (ss.getD i 0)) 0
abbrev wB (e:List Nd) (ne:Bool) (A:List (List Nat)) (sc:List Sc) (ns:Bool) (ss:List Nat):aU:=⟨[.sl (aX e) e.length ne,.sl (bG A) A.length true,.sl (lT sc) sc.length ns,.ref 1 0 0 ss.length],0,false,0,0,false⟩
abbrev sB (ss:List Nat):aU:=⟨aC ss,0,false,0,1,true⟩
abbrev wH (e:List Nd) (ne:Bool) (A:List (List Nat)) (sc:List Sc) (ns:Bool) (ss:List Nat):List aU:= [wB e ne A sc ns ss,sB ss]
theorem u_ {A:List (List Nat)} {k:Nat} (h:k<A.length):ε (δ (k:Int)*1) (bG A)= [MG (A.getD k [])]++bG (A.drop (k+1)):=by
 unfold bG;rw [aJ,Xqi,<- Xj0,Xxn h,ξ,μ h];rfl
theorem yN {a:List Nat} {k:Nat} (h:k<a.length):ε (δ (k:Int)*1) (aC a)= [ω ((a.getD k 0:Nat):Int)]++aC (a.drop (k+1)):=by
 unfold aC;rw [aJ,Xqi,<- Xj0,Xxn h,ξ,μ h];rfl
theorem nN (k:Nat):decide (((0:Nat):Int)<=(k:Int))=true:=Yq0 (by omega)
theorem yJ {k n:Nat} (h:k<n):decide ((k:Int)<(n:Int))=true:=Yq0 (by omega)
theorem amm (e:List Nd) (d:Bool) (A:List (List Nat)) (b:List Sc) (c:Bool) (ss:List Nat) (k i:Nat) (a:List Nat) (m:List AV) (j:Nat) (q:List AV) (s:Nat) (g:List AV) (h:k<A.length) (p:(ε ((δ (k:Int))*1) (bG A))= [MG a]++m) (o:i<a.length) (n:(ε ((δ (i:Int))*1) (aC a))= [ω (j:Int)]++q) (f:j<ss.length) (hs:(ε ((0+(δ (j:Int)))*1) (aC ss))= [ω (s:Int)]++g):
  aG prog ap 103 [.ptr 0 0 0,ω (k:Int),ω (i:Int)] (wH e d A b c ss) (.ret (ω (s:Int))) (wH e d A b c ss):=pK [] 0 0 (.a (vz [.int .i64] hs rfl) (.c (nN j) (.c (yJ f) (.k 1 (nN i) (.c (yJ o) (.k 1 (nN k) (.c (yJ h) (.n 2 .nil)))))))) (.v 22 (.rd1 (.int .i64) hs rfl) (.v 19 (.ppt n) (.v 16 (.ppt p) .nil)))
theorem vP (e:List Nd) (b:Bool) (A:List (List Nat)) (a:List Sc) (c:Bool) (ss:List Nat) (k i:Nat) (d:k<A.length) (g:i<(A.getD k []).length) (f:(A.getD k []).getD i 0<ss.length):
  aG prog ap 103 [.ptr 0 0 0,ω (k:Int),ω (i:Int)] (wH e b A a c ss) (.ret (ω ((iP A ss k i:Nat):Int))) (wH e b A a c ss):=
 amm e b A a c ss k i _ _ _ _ _ _ d (u_ d) g (yN g) f (by rw [Δ];exact yN f)
theorem qI (a b:Nat):((a:Int)==(b:Int))=decide (a=b):=by by_cases h:a=b<;>simp [h]<;>omega
theorem NF (a b:Nat):CO 102 [ω (a:Int),ω (b:Int)] (.ret (ω ((eH a b:Nat):Int))):=by
 rcases tf ((a:Int)==((0:Nat):Int)) with b0|b0
 .rw [show eH a b=b by unfold eH;simp only [qI,decide_eq_true_eq,decide_eq_false_iff_not] at b0;simp [*]];exact pK [] 1 1 (.c (aA b0) .nil) (.nil)
 .rcases tf ((b:Int)==((0:Nat):Int)) with b1|b1
  .rw [show eH a b=a by unfold eH;simp only [qI,decide_eq_true_eq,decide_eq_false_iff_not] at b0 b1;simp [*]];exact pK [] 3 6 (.k 1 (aA b1) (.c (az b0) .nil)) (.nil)
  .rcases tf ((a:Int)==(b:Int)) with b2|b2
   .rw [show eH a b=a by unfold eH;simp only [qI,decide_eq_true_eq,decide_eq_false_iff_not] at b0 b1 b2;simp [*]];exact pK [] 3 4 (.c (aA b2) (.c (az b1) (.c (az b0) .nil))) (.nil)
   .rw [show eH a b=3 by unfold eH;simp only [qI,decide_eq_true_eq,decide_eq_false_iff_not] at b0 b1 b2;simp [*]];exact pK [] 3 0 (.c (az b2) (.c (az b1) (.c (az b0) .nil))) (.nil)
theorem We (a:Nat):CO 135 [ω (a:Int)] (.ret (ω ((jR a:Nat):Int))):=by
 rcases tf ((a:Int)==((1:Nat):Int)) with b0|b0
 .have e:((jR a:Nat):Int)=γ .i64 (((3:Nat):Int) - (a:Int)):=by
   simp only [qI,decide_eq_true_eq,decide_eq_false_iff_not] at b0;subst b0;decide
  rw [e];exact pK [] 2 3 (.k 1 (aA b0) .nil) (.nil)
 .rcases tf ((a:Int)==((2:Nat):Int)) with b1|b1
  .have e:((jR a:Nat):Int)=γ .i64 (((3:Nat):Int) - (a:Int)):=by
    simp only [qI,decide_eq_true_eq,decide_eq_false_iff_not] at b0 b1;subst b1;decide
   rw [e];exact pK [] 2 2 (.c (aA b1) (.c (az b0) .nil)) (.nil)
  .rw [show jR a=a by unfold jR;simp only [qI,decide_eq_true_eq,decide_eq_false_iff_not] at b0 b1;simp [*]];exact pK [] 2 0 (.c (az b1) (.c (az b0) .nil)) (.nil)
theorem Nw {l:List Nat} {i:Nat} (h:i<l.length):l.getD i 0=l[i]:=by rw [ξ,μ h];rfl
def akA (e:List Nd) (ne:Bool) (A:List (List Nat)) (sc:List Sc) (ns:Bool) (ss:List Nat) (k n:Nat) (p:Nat × Nat):St:=⟨[(0,.ptr 0 0 0),(1,ω (k:Int)),(5,ω (p.2:Int)),(14,ω (n:Int)),(15,ω (p.1:Int))],[(0,⟨[.sl (aX e) e.length ne,.sl (bG A) A.length true,.sl (lT sc) sc.length ns,.ref 1 0 0 ss.length],0,false,0,0,false⟩),(1,⟨(aC ss),0,false,0,1,true⟩)],.dead,[]⟩
def af_ (e:List Nd) (ne:Bool) (A:List (List Nat)) (sc:List Sc) (ns:Bool) (ss:List Nat) (k:Nat) (acc:Nat):St:=(ag7 k acc [.sl (aX e) e.length ne,.sl (bG A) A.length true,.sl (lT sc) sc.length ns,.ref 1 0 0 ss.length] (aC ss))
theorem YT {nt:Nat} (p:26<=nt) (e:List Nd) (g:Bool) (A:List (List Nat)) (c:List Sc) (f:Bool) (ss:List Nat) (k n:Nat) (t:k<A.length) (y:n<2^40) (u:n=(A.getD k []).length) (v:∀ j ∈ A.getD k [],j<ss.length):∀ (d i a:Nat),i+d=n->
  aF prog ap (wH e g A c f ss) nt (af 0 (ax f61)) (λ_=> .exit 0) (akA e g A c f ss k n) (af_ e g A c f ss k) (i,a) (((A.getD k []).drop i).foldl (λs j=>eH s (ss.getD j 0)) a):=by
 intro d
 induction d with
 |zero=>
  intro i a q;have m:(decide ((i:Int)<(n:Int)))=false:=Yq1 (by omega);rw [Xjr (by omega)];exact .done (pN 61 [] 1 0 (.c (az m) .nil) (.nil) p)
 | succ d ih=>
  intro i a q;have m:(decide ((i:Int)<(n:Int)))=true:=Yq0 (by omega);have b:i<(A.getD k []).length:=by omega
  have o:=b;have h:(A.getD k []).getD i 0<ss.length:=by
   rw [Nw b];exact v _ (Xxj b)
  have r:i<2^62:=by omega
  rw [Xxn b];have w:(A.getD k [])[i]=(A.getD k []).getD i 0:=(Nw b).symm;rw [w];exact .next (pN 61 [] 1 1 (.c (aA m) .nil) (.v 24 (.eq (A7 r)) (.c (NF a (iP A ss k i)) (.c (vP e g A c f ss k i t o h) .nil))) p) (ih (i+1) (eH a (iP A ss k i)) (by omega))
theorem akB (e:List Nd) (c:Bool) (A:List (List Nat)) (b:List Sc) (d:Bool) (ss:List Nat) (k:Nat) (a:List Nat) (f:List AV) (z:Nat) (g:k<A.length) (h:(ε ((δ (k:Int))*1) (bG A))= [MG a]++f)
  (l0:kw prog ap (wH e c A b d ss) 26 (.block 0 (.loop (af 0 (ax f61)))) ⟨[(0,.ptr 0 0 0),(1,ω (k:Int)),(4,ω 0),(5,ω 0),(6,.dead),(14,ω (a.length:Int)),(15,ω 0),(16,.dead)],[(0,⟨[.sl (aX e) e.length c,.sl (bG A) A.length true,.sl (lT b) b.length d,.ref 1 0 0 ss.length],0,false,0,0,false⟩),(1,⟨(aC ss),0,false,0,1,true⟩)],.dead,[]⟩ (.normal) (ag7 k z [.sl (aX e) e.length c,.sl (bG A) A.length true,.sl (lT b) b.length d,.ref 1 0 0 ss.length] (aC ss))):
  aG prog ap 61 [.ptr 0 0 0,ω (k:Int)] (wH e c A b d ss) (.ret (ω (z:Int))) (wH e c A b d ss):=pK [0] 0 0 (.k 1 (nN k) (.c (yJ g) (.n 1 .nil))) (.l l0 (.v 12 (.ppt h) .nil))
theorem ahD (e:List Nd) (b:Bool) (A:List (List Nat)) (a:List Sc) (c:Bool) (ss:List Nat) (k:Nat) (d:k<A.length) (f:(A.getD k []).length<2^40) (g:∀ j ∈ A.getD k [],j<ss.length):
  aG prog ap 61 [.ptr 0 0 0,ω (k:Int)] (wH e b A a c ss) (.ret (ω ((iF A ss k:Nat):Int))) (wH e b A a c ss):=
 have h:∀ nt,26<=nt->aF prog ap (wH e b A a c ss) nt (af 0 (ax f61)) (λ_=> .exit 0) (akA e b A a c ss k (A.getD k []).length) (af_ e b A a c ss k) (0,0) (iF A ss k):=λnt i=>YT i e b A a c ss k _ d f rfl g _ 0 0 (Δ _)
 akB e b A a c ss k _ _ (iF A ss k) d (u_ d) (aF.blk h (by simp) rfl (aK.of ⟨rfl,rfl,rfl,rfl,rfl,trivial⟩) (aK.of ⟨rfl,rfl,rfl,trivial⟩))
def kH:Nd:=⟨0,false,[],[],[]⟩
def pG (op:Int):Bool:=(op==1)||((op==2)||(op==3))
def yR (e:List Nd) (A:List (List Nat)) (k i:Nat):Nd:=e.getD ((A.getD k []).getD i 0) kH
theorem P6 {e:List Nd} {j:Nat} (h:j<e.length):ε (δ (j:Int)*5) (aX e)=xg (e.getD j kH)++aX (e.drop (j+1)):=by
 have b:e=e.take j++e[j]::e.drop (j+1):=by simp
 have a:e.getD j kH=e[j]:=by rw [ξ,μ h];rfl
 rw [a]
 conv=>lhs;rw [b]
 exact Gi (by rw [Xqz];omega)
theorem jM {A:List (List Nat)} {k i m:Nat} (a:∀ j ∈ A.getD k [],j<m) (h:i<(A.getD k []).length):(A.getD k []).getD i 0<m:=by rw [Nw h];exact a _ (Xxj h)
theorem alS (e:List Nd) (o:Bool) (A:List (List Nat)) (m:List Sc) (n:Bool) (ss:List Nat) (k i:Nat) (a:List Nat) (q:List AV) (j:Nat) (r:List AV) (x:Nd) (p:List AV) (c:k<A.length) (h:(ε ((δ (k:Int))*1) (bG A))= [MG a]++q) (g:i<a.length) (f:(ε ((δ (i:Int))*1) (aC a))= [ω (j:Int)]++r) (b:j<e.length) (d:(ε ((δ (j:Int))*5) (aX e))=xg x++p):
  aG prog ap 136 [.ptr 0 0 0,ω (k:Int),ω (i:Int)] (wH e o A m n ss) (.ret (.tup [.agg [.bool x.neg,.str x.num,.str x.den],.bool (pG x.op)])) (wH e o A m n ss):=by
 rcases tf (x.op==((1:Nat):Int)) with b0|b0
 .rw [show pG x.op=true from by unfold pG;rw [show (x.op==1)=true from b0];rfl];exact pK [] 2 3 (.k 5 (aA b0) (.k 10 (nN j) (.c (yJ b) (.k 1 (nN i) (.c (yJ g) (.k 1 (nN k) (.c (yJ c) (.n 2 .nil)))))))) (.v 23 (.ppt d) (.v 21 (.ppt f) (.v 18 (.ppt h) .nil)))
 .rcases tf (x.op==((2:Nat):Int)) with b1|b1
  .rw [show pG x.op=true from by unfold pG;rw [show (x.op==1)=false from b0,show (x.op==2)=true from b1];rfl];exact pK [] 2 2 (.k 4 (aA b1) (.k 1 (az b0) (.k 10 (nN j) (.c (yJ b) (.k 1 (nN i) (.c (yJ g) (.k 1 (nN k) (.c (yJ c) (.n 2 .nil))))))))) (.v 23 (.ppt d) (.v 21 (.ppt f) (.v 18 (.ppt h) .nil)))
  .rw [show pG x.op=(x.op==((3:Nat):Int)) from by unfold pG;rw [show (x.op==1)=false from b0,show (x.op==2)=false from b1];rfl];exact pK [] 2 0 (.k 5 (az b1) (.k 1 (az b0) (.k 10 (nN j) (.c (yJ b) (.k 1 (nN i) (.c (yJ g) (.k 1 (nN k) (.c (yJ c) (.n 2 .nil))))))))) (.v 23 (.ppt d) (.v 21 (.ppt f) (.v 18 (.ppt h) .nil)))
theorem xQ (e:List Nd) (b:Bool) (A:List (List Nat)) (a:List Sc) (c:Bool) (ss:List Nat) (k i:Nat) (d:k<A.length) (g:i<(A.getD k []).length) (f:(A.getD k []).getD i 0<e.length):
  aG prog ap 136 [.ptr 0 0 0,ω (k:Int),ω (i:Int)] (wH e b A a c ss) (.ret (.tup [.agg [.bool (yR e A k i).neg,.str (yR e A k i).num,.str (yR e A k i).den],.bool (pG (yR e A k i).op)])) (wH e b A a c ss):=
 alS e b A a c ss k i _ _ _ _ _ _ d (u_ d) g (yN g) f (P6 f)
def yu (neg:Bool) (s:Nat):Nat:=cond neg (jR s) s
theorem TZ (e:List Nd) (b:Bool) (A:List (List Nat)) (a:List Sc) (c:Bool) (ss:List Nat) (k i:Nat) (x:Nd) (d:k<A.length) (g:i<(A.getD k []).length) (f:(A.getD k []).getD i 0<ss.length):
  aG prog ap 137 [.ptr 0 0 0,ω (k:Int),ω (i:Int),.agg [.bool x.neg,.str x.num,.str x.den]] (wH e b A a c ss) (.ret (ω ((yu x.neg (iP A ss k i):Nat):Int))) (wH e b A a c ss):=by
 rcases tf x.neg with b0|b0
 .rw [show yu x.neg (iP A ss k i)=jR (iP A ss k i) by unfold yu;rw [b0];rfl];exact pK [] 1 1 (.c (aA b0) (.n 1 .nil)) (.c (We (iP A ss k i)) (.c (vP e b A a c ss k i d g f) .nil))
 .rw [show yu x.neg (iP A ss k i)=iP A ss k i by unfold yu;rw [b0];rfl];exact pK [] 1 0 (.c (az b0) (.n 1 .nil)) (.c (vP e b A a c ss k i d g f) .nil)
def FH (e:List Nd) (A:List (List Nat)) (ss:List Nat) (k:Nat):Nat:=cond (pG (yR e A k 0).op) (yu (yR e A k 0).neg (iP A ss k 1)) (cond (pG (yR e A k 1).op) (yu (yR e A k 1).neg (iP A ss k 0)) 3)
def Hq (e:List Nd) (A:List (List Nat)) (ss:List Nat) (k:Nat):Nat:=cond (pG (yR e A k 1).op) (cond (rU (yR e A k 1).neg (yR e A k 1).num (yR e A k 1).den==((0:Nat):Int)) 3 (yu (yR e A k 1).neg (iP A ss k 0))) 3
def MQ (A:List (List Nat)) (ss:List Nat) (k:Nat):Nat:=cond (((iP A ss k 0:Nat):Int)==((0:Nat):Int)) (eH (iP A ss k 1) (iP A ss k 2)) 3
theorem ai1 (e:List Nd) (b:Bool) (A:List (List Nat)) (a:List Sc) (c:Bool) (ss:List Nat) (k:Nat) (d:k<A.length) (hs:∀ j ∈ A.getD k [],j<ss.length) (g:∀ j ∈ A.getD k [],j<e.length) (h0:0<(A.getD k []).length) (f:1<(A.getD k []).length):
  aG prog ap 98 [.ptr 0 0 0,ω (k:Int)] (wH e b A a c ss) (.ret (ω ((FH e A ss k:Nat):Int))) (wH e b A a c ss):=by
 rcases tf (pG (yR e A k 0).op) with b0|b0
 .rw [show FH e A ss k=yu (yR e A k 0).neg (iP A ss k 1) by unfold FH;rw [b0];rfl];exact pK [] 1 1 (.k 3 (aA b0) (.n 1 .nil)) (.c (TZ e b A a c ss k 1 (yR e A k 0) d f (jM hs f)) (.c (xQ e b A a c ss k 0 d h0 (jM g h0)) .nil))
 .rcases tf (pG (yR e A k 1).op) with b1|b1
  .rw [show FH e A ss k=yu (yR e A k 1).neg (iP A ss k 0) by unfold FH;rw [b0,b1];rfl];exact pK [] 2 2 (.k 3 (aA b1) (.k 1 (az b0) (.n 1 .nil))) (.c (TZ e b A a c ss k 0 (yR e A k 1) d h0 (jM hs h0)) (.c (xQ e b A a c ss k 1 d f (jM g f)) (.c (xQ e b A a c ss k 0 d h0 (jM g h0)) .nil)))
  .rw [show FH e A ss k=3 by unfold FH;rw [b0,b1];rfl];exact pK [] 2 0 (.c (az b1) (.k 1 (az b0) (.n 1 .nil))) (.c (xQ e b A a c ss k 1 d f (jM g f)) (.c (xQ e b A a c ss k 0 d h0 (jM g h0)) .nil))
theorem ahW (e:List Nd) (c:Bool) (A:List (List Nat)) (a:List Sc) (d:Bool) (ss:List Nat) (k:Nat) (f:k<A.length) (hs:∀ j ∈ A.getD k [],j<ss.length) (h:∀ j ∈ A.getD k [],j<e.length) (h0:0<(A.getD k []).length) (b:1<(A.getD k []).length) (g:(yR e A k 1).num.length<2^36/\(yR e A k 1).den.length<2^36):
  aG prog ap 99 [.ptr 0 0 0,ω (k:Int)] (wH e c A a d ss) (.ret (ω ((Hq e A ss k:Nat):Int))) (wH e c A a d ss):=by
 rcases tf (pG (yR e A k 1).op) with b0|b0
 .rcases tf ((rU (yR e A k 1).neg (yR e A k 1).num (yR e A k 1).den)==((0:Nat):Int)) with b1|b1
  .rw [show Hq e A ss k=3 by unfold Hq;rw [b0,b1];rfl];exact pK [] 2 1 (.c (aP b1) (.k 3 (aA b0) (.n 1 .nil))) (.c (kP (yR e A k 1).neg (yR e A k 1).num (yR e A k 1).den g.1 g.2) (.c (xQ e c A a d ss k 1 f b (jM h b)) .nil))
  .rw [show Hq e A ss k=yu (yR e A k 1).neg (iP A ss k 0) by unfold Hq;rw [b0,b1];rfl];exact pK [] 2 3 (.k 3 (dC b1) (.k 3 (aA b0) (.n 1 .nil))) (.c (TZ e c A a d ss k 0 (yR e A k 1) f h0 (jM hs h0)) (.c (kP (yR e A k 1).neg (yR e A k 1).num (yR e A k 1).den g.1 g.2) (.c (xQ e c A a d ss k 1 f b (jM h b)) .nil)))
 .rw [show Hq e A ss k=3 by unfold Hq;rw [b0];rfl];exact pK [] 2 0 (.k 1 (az b0) (.n 1 .nil)) (.c (xQ e c A a d ss k 1 f b (jM h b)) .nil)
theorem ahP (e:List Nd) (b:Bool) (A:List (List Nat)) (a:List Sc) (c:Bool) (ss:List Nat) (k:Nat) (d:k<A.length) (hs:∀ j ∈ A.getD k [],j<ss.length) (h:∀ j ∈ A.getD k [],j<e.length) (h0:0<(A.getD k []).length) (f:1<(A.getD k []).length) (g:2<(A.getD k []).length):
  aG prog ap 100 [.ptr 0 0 0,ω (k:Int)] (wH e b A a c ss) (.ret (ω ((MQ A ss k:Nat):Int))) (wH e b A a c ss):=by
 rcases tf ((((iP A ss k 0):Nat):Int)==((0:Nat):Int)) with b0|b0
 .rw [show MQ A ss k=eH (iP A ss k 1) (iP A ss k 2) by unfold MQ;rw [b0];rfl];exact pK [] 1 0 (.c (aP b0) .nil) (.c (NF (iP A ss k 1) (iP A ss k 2)) (.c (vP e b A a c ss k 2 d g (jM hs g)) (.c (vP e b A a c ss k 1 d f (jM hs f)) (.c (vP e b A a c ss k 0 d h0 (jM hs h0)) .nil))))
 .rw [show MQ A ss k=3 by unfold MQ;rw [b0];rfl];exact pK [] 1 1 (.c (dC b0) .nil) (.c (vP e b A a c ss k 0 d h0 (jM hs h0)) .nil)
theorem ajW (e:List Nd) (b:Bool) (A:List (List Nat)) (a:List Sc) (c:Bool) (ss:List Nat) (k:Nat) (d:k<A.length) (hs:∀ j ∈ A.getD k [],j<ss.length) (g:∀ j ∈ A.getD k [],j<e.length) (h0:0<(A.getD k []).length) (f:1<(A.getD k []).length):
  aG prog ap 97 [.ptr 0 0 0,ω (k:Int)] (wH e b A a c ss) (.ret (ω ((eH (iP A ss k 0) (jR (iP A ss k 1)):Nat):Int))) (wH e b A a c ss):=by
 exact pK [] 0 0 .nil (.c (NF (iP A ss k 0) (jR (iP A ss k 1))) (.c (We (iP A ss k 1)) (.c (vP e b A a c ss k 1 d f (jM hs f)) (.c (vP e b A a c ss k 0 d h0 (jM hs h0)) .nil))))
abbrev rH (e:List Nd) (ne:Bool) (A:List (List Nat)) (sc:List Sc) (ns:Bool) (ss:List Nat) (k:Nat):List aU:= [⟨[.ptr 2 0 0],0,false,0,0,false⟩,⟨[ω (k:Int)],0,false,0,0,true⟩,⟨[.sl (aX e) e.length ne,.sl (bG A) A.length true,.sl (lT sc) sc.length ns,.ref 3 0 0 ss.length],0,false,0,0,false⟩,⟨(aC ss),0,false,0,1,true⟩]
def apn (e:List Nd) (ne:Bool) (A:List (List Nat)) (sc:List Sc) (ns:Bool) (ss:List Nat) (k:Nat) (p:Nat × Unit):St:=⟨[(0,.sl (lT sc) sc.length ns),(1,.fn 139 [] [.ptr 0 0 0,.ptr 1 0 0]),(7,ω (sc.length:Int)),(8,ω (p.1:Int))],[(0,⟨[.ptr 2 0 0],0,false,0,0,false⟩),(1,⟨[ω (k:Int)],0,false,0,0,true⟩),(2,⟨[.sl (aX e) e.length ne,.sl (bG A) A.length true,.sl (lT sc) sc.length ns,.ref 3 0 0 ss.length],0,false,0,0,false⟩),(3,⟨(aC ss),0,false,0,1,true⟩)],.dead,[]⟩
def alN (e:List Nd) (ne:Bool) (A:List (List Nat)) (sc:List Sc) (ns:Bool) (ss:List Nat) (k:Nat):Option Nat->St
 |none=>(ag8 (.sl (lT sc) sc.length ns) [.int .i64 (k:Int)] [.sl (aX e) e.length ne,.sl (bG A) A.length true,.sl (lT sc) sc.length ns,.ref 3 0 0 ss.length] (aC ss))
 |some i=> ⟨[(4,.int .i64 (i:Int))],[(0,⟨[.ptr 2 0 0],0,false,0,0,false⟩),(1,⟨[.int .i64 (k:Int)],0,false,0,0,true⟩),(2,⟨[.sl (aX e) e.length ne,.sl (bG A) A.length true,.sl (lT sc) sc.length ns,.ref 3 0 0 ss.length],0,false,0,0,false⟩),(3,⟨(aC ss),0,false,0,1,true⟩)],.dead,[]⟩
def ixE:Option Nat->bI
 |none=> .exit 0
 |some _=> .ret
theorem aiI {nt:Nat} (c:19<=nt) (e:List Nd) (a:Bool) (A:List (List Nat)) (b:Bool) (ss:List Nat) (k:Nat):aF prog ap (rH e a A [] b ss k) nt (af 0 (ax f138)) ixE (apn e a A [] b ss k) (alN e a A [] b ss k) (0,()) none:= .done (pN 138 [] 1 0 (.n 1 .nil) (.nil) c)
theorem alO (e:List Nd) (c:Bool) (A:List (List Nat)) (a:List Sc) (b:Bool) (ss:List Nat) (k:Nat) (d:kw prog ap (rH e c A a b ss k) 19 (.block 0 (.loop (af 0 (ax f138)))) ⟨[(0,.sl (lT a) a.length b),(1,.fn 139 [] [.ptr 0 0 0,.ptr 1 0 0]),(4,ω 0),(5,.dead),(7,ω (a.length:Int)),(8,ω 0),(9,.dead),(16,.dead)],[(0,⟨[.ptr 2 0 0],0,false,0,0,false⟩),(1,⟨[ω (k:Int)],0,false,0,0,true⟩),(2,⟨[.sl (aX e) e.length c,.sl (bG A) A.length true,.sl (lT a) a.length b,.ref 3 0 0 ss.length],0,false,0,0,false⟩),(3,⟨(aC ss),0,false,0,1,true⟩)],.dead,[]⟩ (.normal) (ag8 (.sl (lT a) a.length b) [ω (k:Int)] [.sl (aX e) e.length c,.sl (bG A) A.length true,.sl (lT a) a.length b,.ref 3 0 0 ss.length] (aC ss))):
  aG prog ap 138 [.sl (lT a) a.length b,(.fn 139 [] [.ptr 0 0 0,.ptr 1 0 0])] (rH e c A a b ss k) (.ret (ω (-1))) (rH e c A a b ss k):=pK [0] 0 0 .nil (.l d .nil)
def Qh (ck:Sc->Int) (up:Sc->Bool) (nm:List UInt8) (sc:List Sc) (s:Nat):Nat:=match sc.find? (λx=>x.name==nm) with
 |none=>3
 |some x=>cond (ck x==0) (cond (up x) s 3) 3
theorem ajc (e:List Nd) (c:Bool) (A:List (List Nat)) (a:List Sc) (b:Bool) (ss:List Nat) (k:Nat) (d:aG prog ap 138 [.sl (lT a) a.length b,(.fn 139 [] [.ptr 0 0 0,.ptr 1 0 0])] (rH e c A a b ss k) (.ret (ω (-1))) (rH e c A a b ss k)):
  aG prog ap 101 [.ptr 0 0 0,ω (k:Int)] (wH e c A a b ss) (.ret (ω ((3:Nat):Int))) (wH e c A a b ss):=pK [] 3 7 (.n 5 .nil) (.c d .nil)
theorem ae_ (e:List Nd) (a:Bool) (A:List (List Nat)) (c:List Sc) (b:Bool) (ss:List Nat) (ck:Sc->Int) (d:Sc->Bool) (k:Nat) (g:c= []):
  aG prog ap 101 [.ptr 0 0 0,ω (k:Int)] (wH e a A c b ss) (.ret (ω ((Qh ck d (e.getD k kH).name c (iP A ss k 0):Nat):Int))) (wH e a A c b ss):=by
 subst g;exact ajc e a A [] b ss k (alO e a A [] b ss k (aF.blk (λnt f=>aiI f e a A b ss k) (by simp [ixE]) rfl (aK.of ⟨rfl,rfl,rfl,rfl,trivial⟩) (aK.of ⟨rfl,trivial⟩)))
def gZ (e:List Nd) (ne:Bool) (A:List (List Nat)) (sc:List Sc) (ns:Bool) (op:Int) (name:List UInt8) (p:Nat × List Nat):St:=⟨[(0,.sl (aX e) e.length ne),(2,ω op),(3,.str name),(11,.ptr 0 0 0),(12,.mp zcc3_0 [.fn 61 [] [],.fn 61 [] [],.fn 61 [] [],.fn 61 [] [],.fn 61 [] [],.fn 61 [] [],.fn 97 [] [],.fn 98 [] [],.fn 99 [] [],.fn 100 [] [],.fn 101 [] []]),(41,.sl (aX e) e.length ne),(42,ω (e.length:Int)),(43,ω (p.1:Int))],[(0,⟨[.sl (aX e) e.length ne,.sl (bG A) A.length true,.sl (lT sc) sc.length ns,.ref 1 0 0 p.2.length],0,false,0,0,false⟩),(1,⟨(aC p.2),0,false,0,1,true⟩)],.dead,[]⟩
def abW (e:List Nd) (ne:Bool) (A:List (List Nat)) (sc:List Sc) (ns:Bool) (ss:List Nat):St:=⟨[(0,.sl (aX e) e.length ne),(11,.ptr 0 0 0)],[(0,⟨[.sl (aX e) e.length ne,.sl (bG A) A.length true,.sl (lT sc) sc.length ns,.ref 1 0 0 ss.length],0,false,0,0,false⟩),(1,⟨(aC ss),0,false,0,1,true⟩)],.dead,[]⟩
def iT (ck:Sc->Int) (up:Sc->Bool) (e:List Nd) (A:List (List Nat)) (sc:List Sc) (ss:List Nat) (k:Nat) (x:Nd):Nat:=
 if x.op=9\/x.op=13\/x.op=14\/x.op=21\/x.op=22\/x.op=23 then iF A ss k else if x.op=10 then eH (iP A ss k 0) (jR (iP A ss k 1)) else if x.op=11 then FH e A ss k else if x.op=12 then Hq e A ss k else if x.op=15 then MQ A ss k else if x.op=24 then Qh ck up x.name sc (iP A ss k 0) else 3
def rq (ck:Sc->Int) (up:Sc->Bool) (e:List Nd) (A:List (List Nat)) (sc:List Sc) (op:Int) (name:List UInt8) (ss:List Nat) (k:Nat) (x:Nd):Nat:=
 cond (x.op==op && x.name==name) 1 (cond (((iF A ss k:Nat):Int)==((0:Nat):Int)) 0 (iT ck up e A sc ss k x))
theorem uH (e:List Nd) (b:Bool) (A:List (List Nat)) (a:List Sc) (c:Bool) (ss:List Nat):([some ⟨[.sl (aX e) e.length b,.sl (bG A) A.length true,.sl (lT a) a.length c,.ref 2 0 0 ss.length],0,false,0,0,false⟩,some (sB ss)]:List (Option aU))= [some ⟨[.sl (aX e) e.length b,.sl (bG A) A.length true,.sl (lT a) a.length c,.ref 2 0 0 ss.length],0,false,0,0,false⟩,some (sB ss)]:=rfl
abbrev IA (o:Int):AV:=PP true (dO zcc3_0 [.fn 61 [] [],.fn 61 [] [],.fn 61 [] [],.fn 61 [] [],.fn 61 [] [],.fn 61 [] [],.fn 97 [] [],.fn 98 [] [],.fn 99 [] [],.fn 100 [] [],.fn 101 [] []] (ω o)) .nilF
theorem jZ {ss:List Nat} {k v:Nat} (h:k<ss.length):π ((0+(δ (k:Int)))*1) (aC ss)++ [ω (v:Int)]++ε (((0+(δ (k:Int)))*1)+1) (aC ss)=aC (ss.set k v):=by
 rw [aJ,Δ,Xqi];unfold aC;rw [<- List.map_take,<- Xj0,List.set_eq_take_append_cons_drop,if_pos h,Xq5,Xqg,Xqe];rfl
theorem aax {x:Nd} (h:x.op=9\/x.op=13\/x.op=14\/x.op=21\/x.op=22\/x.op=23):IA x.op= .tup [.fn 61 [] [],.bool true]:=by rcases x with ⟨o,b,n,d,a⟩;dsimp only at h ⊢;rcases h with h|h|h|h|h|h<;>subst h<;>rfl
theorem aaC {x:Nd} (h:x.op=10):IA x.op= .tup [.fn 97 [] [],.bool true]:=by rcases x with ⟨o,b,n,d,a⟩;dsimp only at h ⊢;subst h;rfl
theorem aaA {x:Nd} (h:x.op=11):IA x.op= .tup [.fn 98 [] [],.bool true]:=by rcases x with ⟨o,b,n,d,a⟩;dsimp only at h ⊢;subst h;rfl
theorem aaz {x:Nd} (h:x.op=12):IA x.op= .tup [.fn 99 [] [],.bool true]:=by rcases x with ⟨o,b,n,d,a⟩;dsimp only at h ⊢;subst h;rfl
theorem aay {x:Nd} (h:x.op=15):IA x.op= .tup [.fn 100 [] [],.bool true]:=by rcases x with ⟨o,b,n,d,a⟩;dsimp only at h ⊢;subst h;rfl
theorem U_ {x:Nd} (h:x.op=24):IA x.op= .tup [.fn 101 [] [],.bool true]:=by rcases x with ⟨o,b,n,d,a⟩;dsimp only at h ⊢;subst h;rfl
theorem aaB {x:Nd} (h:¬ ((x.op=9\/x.op=13\/x.op=14\/x.op=21\/x.op=22\/x.op=23)\/(x.op=10)\/(x.op=11)\/(x.op=12)\/(x.op=15)\/(x.op=24))):IA x.op= .tup [.nilF,.bool false]:=by
 rcases x with ⟨o,b,n,d,f⟩
 dsimp only at h ⊢;have a:∀ c:Int,o ≠ c->(o==c)=false:=λc e=>beq_eq_false_iff_ne.2 e
 simp only [IA,dO,wX];rw [a 9 (by intro q;exact h (by omega)),a 13 (by intro q;exact h (by omega)),a 14 (by intro q;exact h (by omega)),a 21 (by intro q;exact h (by omega)),a 22 (by intro q;exact h (by omega)),a 23 (by intro q;exact h (by omega)),a 10 (by intro q;exact h (by omega)),a 11 (by intro q;exact h (by omega)),a 12 (by intro q;exact h (by omega)),a 15 (by intro q;exact h (by omega)),a 24 (by intro q;exact h (by omega))];rfl
theorem aol {nt:Nat} (m:111<=nt) (e:List Nd) (h:Bool) (A:List (List Nat)) (f:List Sc) (g:Bool) (ss:List Nat) (c:Int) (a:List UInt8) (k:Nat) (x:Nd) (o:List AV) (v:e.getD k kH=x) (n:(ε ((δ (k:Int))*5) (aX e))=xg x++o) (t:k<e.length) (i:e.length<2^40) (u:A.length=e.length) (s:ss.length=e.length) (d:IA x.op= .tup [.nilF,.bool false]) (p:(x.op==c)=true) (q:(x.name==a)=true):ψ nt f28 (gZ e h A f g c a (k,ss)) .normal (gZ e h A f g c a (k+1,ss.set k 1)):=by
 have b:k<ss.length:=by omega
 have r:k<2^62:=by omega
 have h0:(decide ((k:Int)<(e.length:Int)))=true:=Yq0 (by omega);have j:Xqn (((0+(δ (k:Int)))*1)+1) (θ (aC ss))=true:=by rw [Xjn,aJ];simp [aC];omega
 unfold gZ;dsimp only;rw [Xxo,<- jZ b];exact pN 28 [] 3 7 (.c j (.c (nN k) (.c (yJ b) (.k 1 (aA q) (.k 1 (aA p) (.k 10 (nN k) (.c h0 (.c (aA h0) .nil)))))))) (.v 101 (.eq (A7 r)) (.v 52 (.eq d) (.v 46 (.ppt n) .nil))) m
theorem aon {nt:Nat} (n:111<=nt) (e:List Nd) (f:Bool) (A:List (List Nat)) (c:List Sc) (d:Bool) (ss:List Nat) (g:Int) (a:List UInt8) (k:Nat) (x:Nd) (p:List AV) (w:e.getD k kH=x) (o:(ε ((δ (k:Int))*5) (aX e))=xg x++p) (u:k<e.length) (i:e.length<2^40) (v:A.length=e.length) (t:ss.length=e.length) (h:IA x.op= .tup [.nilF,.bool false]) (q:(x.op==g)=true) (r:(x.name==a)=false) (m:((((iF A ss k):Nat):Int)==((0:Nat):Int))=true) (call_:aG prog ap 61 [.ptr 0 0 0,ω (k:Int)] (wH e f A c d ss) (.ret (ω ((iF A ss k:Nat):Int))) (wH e f A c d ss)):ψ nt f28 (gZ e f A c d g a (k,ss)) .normal (gZ e f A c d g a (k+1,ss.set k 0)):=by
 have b:k<ss.length:=by omega
 have s:k<2^62:=by omega
 have h0:(decide ((k:Int)<(e.length:Int)))=true:=Yq0 (by omega);have j:Xqn (((0+(δ (k:Int)))*1)+1) (θ (aC ss))=true:=by rw [Xjn,aJ];simp [aC];omega
 unfold gZ;dsimp only;rw [Xxo,<- jZ b];exact pN 28 [] 4 11 (.c j (.c (nN k) (.c (yJ b) (.k 1 (aA m) (.c (az r) (.k 1 (aA q) (.k 10 (nN k) (.c h0 (.c (aA h0) .nil))))))))) (.v 101 (.eq (A7 s)) (.c call_ (.v 52 (.eq h) (.v 46 (.ppt o) .nil)))) n
theorem aop {nt:Nat} (n:111<=nt) (e:List Nd) (f:Bool) (A:List (List Nat)) (c:List Sc) (d:Bool) (ss:List Nat) (g:Int) (a:List UInt8) (k:Nat) (x:Nd) (p:List AV) (v:e.getD k kH=x) (o:(ε ((δ (k:Int))*5) (aX e))=xg x++p) (t:k<e.length) (i:e.length<2^40) (u:A.length=e.length) (s:ss.length=e.length) (h:IA x.op= .tup [.nilF,.bool false]) (q:(x.op==g)=false) (m:((((iF A ss k):Nat):Int)==((0:Nat):Int))=true) (call_:aG prog ap 61 [.ptr 0 0 0,ω (k:Int)] (wH e f A c d ss) (.ret (ω ((iF A ss k:Nat):Int))) (wH e f A c d ss)):ψ nt f28 (gZ e f A c d g a (k,ss)) .normal (gZ e f A c d g a (k+1,ss.set k 0)):=by
 have b:k<ss.length:=by omega
 have r:k<2^62:=by omega
 have h0:(decide ((k:Int)<(e.length:Int)))=true:=Yq0 (by omega);have j:Xqn (((0+(δ (k:Int)))*1)+1) (θ (aC ss))=true:=by rw [Xjn,aJ];simp [aC];omega
 unfold gZ;dsimp only;rw [Xxo,<- jZ b];exact pN 28 [] 4 9 (.c j (.c (nN k) (.c (yJ b) (.k 1 (aA m) (.k 1 (az q) (.k 10 (nN k) (.c h0 (.c (aA h0) .nil)))))))) (.v 101 (.eq (A7 r)) (.c call_ (.v 52 (.eq h) (.v 46 (.ppt o) .nil)))) n
theorem aoj {nt:Nat} (n:111<=nt) (e:List Nd) (i:Bool) (A:List (List Nat)) (g:List Sc) (h:Bool) (ss:List Nat) (c:Int) (a:List UInt8) (k:Nat) (x:Nd) (p:List AV) (w:e.getD k kH=x) (o:(ε ((δ (k:Int))*5) (aX e))=xg x++p) (u:k<e.length) (j:e.length<2^40) (v:A.length=e.length) (t:ss.length=e.length) (f:Nat) (d:IA x.op= .tup [.fn f [] [],.bool true]) (q:(x.op==c)=true) (r:(x.name==a)=true):ψ nt f28 (gZ e i A g h c a (k,ss)) .normal (gZ e i A g h c a (k+1,ss.set k 1)):=by
 have b:k<ss.length:=by omega
 have s:k<2^62:=by omega
 have h0:(decide ((k:Int)<(e.length:Int)))=true:=Yq0 (by omega);have m:Xqn (((0+(δ (k:Int)))*1)+1) (θ (aC ss))=true:=by rw [Xjn,aJ];simp [aC];omega
 unfold gZ;dsimp only;rw [Xxo,<- jZ b];exact pN 28 [] 3 7 (.c m (.c (nN k) (.c (yJ b) (.k 1 (aA r) (.k 1 (aA q) (.k 10 (nN k) (.c h0 (.c (aA h0) .nil)))))))) (.v 101 (.eq (A7 s)) (.v 52 (.eq d) (.v 46 (.ppt o) .nil))) n
theorem aom {nt:Nat} (o:111<=nt) (e:List Nd) (g:Bool) (A:List (List Nat)) (c:List Sc) (d:Bool) (ss:List Nat) (h:Int) (a:List UInt8) (k:Nat) (x:Nd) (q:List AV) (y:e.getD k kH=x) (p:(ε ((δ (k:Int))*5) (aX e))=xg x++q) (v:k<e.length) (j:e.length<2^40) (w:A.length=e.length) (u:ss.length=e.length) (f:Nat) (i:IA x.op= .tup [.fn f [] [],.bool true]) (r:(x.op==h)=true) (s:(x.name==a)=false) (n:((((iF A ss k):Nat):Int)==((0:Nat):Int))=true) (call_:aG prog ap 61 [.ptr 0 0 0,ω (k:Int)] (wH e g A c d ss) (.ret (ω ((iF A ss k:Nat):Int))) (wH e g A c d ss)):ψ nt f28 (gZ e g A c d h a (k,ss)) .normal (gZ e g A c d h a (k+1,ss.set k 0)):=by
 have b:k<ss.length:=by omega
 have t:k<2^62:=by omega
 have h0:(decide ((k:Int)<(e.length:Int)))=true:=Yq0 (by omega);have m:Xqn (((0+(δ (k:Int)))*1)+1) (θ (aC ss))=true:=by rw [Xjn,aJ];simp [aC];omega
 unfold gZ;dsimp only;rw [Xxo,<- jZ b];exact pN 28 [] 4 11 (.c m (.c (nN k) (.c (yJ b) (.k 1 (aA n) (.c (az s) (.k 1 (aA r) (.k 10 (nN k) (.c h0 (.c (aA h0) .nil))))))))) (.v 101 (.eq (A7 t)) (.c call_ (.v 52 (.eq i) (.v 46 (.ppt p) .nil)))) o
theorem aoo {nt:Nat} (o:111<=nt) (e:List Nd) (g:Bool) (A:List (List Nat)) (c:List Sc) (d:Bool) (ss:List Nat) (h:Int) (a:List UInt8) (k:Nat) (x:Nd) (q:List AV) (w:e.getD k kH=x) (p:(ε ((δ (k:Int))*5) (aX e))=xg x++q) (u:k<e.length) (j:e.length<2^40) (v:A.length=e.length) (t:ss.length=e.length) (f:Nat) (i:IA x.op= .tup [.fn f [] [],.bool true]) (r:(x.op==h)=false) (n:((((iF A ss k):Nat):Int)==((0:Nat):Int))=true) (call_:aG prog ap 61 [.ptr 0 0 0,ω (k:Int)] (wH e g A c d ss) (.ret (ω ((iF A ss k:Nat):Int))) (wH e g A c d ss)):ψ nt f28 (gZ e g A c d h a (k,ss)) .normal (gZ e g A c d h a (k+1,ss.set k 0)):=by
 have b:k<ss.length:=by omega
 have s:k<2^62:=by omega
 have h0:(decide ((k:Int)<(e.length:Int)))=true:=Yq0 (by omega);have m:Xqn (((0+(δ (k:Int)))*1)+1) (θ (aC ss))=true:=by rw [Xjn,aJ];simp [aC];omega
 unfold gZ;dsimp only;rw [Xxo,<- jZ b];exact pN 28 [] 4 9 (.c m (.c (nN k) (.c (yJ b) (.k 1 (aA n) (.k 1 (az r) (.k 10 (nN k) (.c h0 (.c (aA h0) .nil)))))))) (.v 101 (.eq (A7 s)) (.c call_ (.v 52 (.eq i) (.v 46 (.ppt p) .nil)))) o
theorem ajN {nt:Nat} (n:111<=nt) (e:List Nd) (i:Bool) (A:List (List Nat)) (d:List Sc) (g:Bool) (ss:List Nat) (f:Int) (a:List UInt8) (k:Nat) (x:Nd) (r:List AV) (w:e.getD k kH=x) (o:(ε ((δ (k:Int))*5) (aX e))=xg x++r) (u:k<e.length) (q:e.length<2^40) (v:A.length=e.length) (t:ss.length=e.length) (c:IA x.op= .tup [.nilF,.bool false]) (hit:(x.op==f)=false\/(x.name==a)=false) (m:((((iF A ss k):Nat):Int)==((0:Nat):Int))=false) (call_:aG prog ap 61 [.ptr 0 0 0,ω (k:Int)] (wH e i A d g ss) (.ret (ω ((iF A ss k:Nat):Int))) (wH e i A d g ss)):ψ nt f28 (gZ e i A d g f a (k,ss)) .normal (gZ e i A d g f a (k+1,ss.set k (3))):=by
 have b:k<ss.length:=by omega
 have p:k<2^62:=by omega
 have h0:(decide ((k:Int)<(e.length:Int)))=true:=Yq0 (by omega);have j:Xqn (((0+(δ (k:Int)))*1)+1) (θ (aC ss))=true:=by rw [Xjn,aJ];simp [aC];omega
 unfold gZ;dsimp only;rw [Xxo,<- jZ b];rcases tf (x.op==f) with b1|b1
 .have s:(x.name==a)=false:=by rcases hit with h|h;rw [h] at b1;cases b1;exact h
  exact pN 28 [] 5 3 (.c j (.c (nN k) (.c (yJ b) (.k 2 (az m) (.c (az s) (.k 1 (aA b1) (.k 10 (nN k) (.c h0 (.c (aA h0) .nil))))))))) (.v 101 (.eq (A7 p)) (.c call_ (.v 52 (.eq c) (.v 46 (.ppt o) .nil)))) n
 .exact pN 28 [] 5 1 (.c j (.c (nN k) (.c (yJ b) (.k 2 (az m) (.k 1 (az b1) (.k 10 (nN k) (.c h0 (.c (aA h0) .nil)))))))) (.v 101 (.eq (A7 p)) (.c call_ (.v 52 (.eq c) (.v 46 (.ppt o) .nil)))) n
theorem ajI {nt:Nat} (n:111<=nt) (e:List Nd) (f:Bool) (A:List (List Nat)) (c:List Sc) (d:Bool) (ss:List Nat) (i:Int) (a:List UInt8) (k:Nat) (x:Nd) (r:List AV) (w:e.getD k kH=x) (o:(ε ((δ (k:Int))*5) (aX e))=xg x++r) (u:k<e.length) (q:e.length<2^40) (v:A.length=e.length) (t:ss.length=e.length) (g:IA x.op= .tup [.fn 61 [] [],.bool true]) (hit:(x.op==i)=false\/(x.name==a)=false) (m:((((iF A ss k):Nat):Int)==((0:Nat):Int))=false) (call_:aG prog ap 61 [.ptr 0 0 0,ω (k:Int)] (wH e f A c d ss) (.ret (ω ((iF A ss k:Nat):Int))) (wH e f A c d ss)):ψ nt f28 (gZ e f A c d i a (k,ss)) .normal (gZ e f A c d i a (k+1,ss.set k (iF A ss k))):=by
 have b:k<ss.length:=by omega
 have p:k<2^62:=by omega
 have h0:(decide ((k:Int)<(e.length:Int)))=true:=Yq0 (by omega);have j:Xqn (((0+(δ (k:Int)))*1)+1) (θ (aC ss))=true:=by rw [Xjn,aJ];simp [aC];omega
 unfold gZ;dsimp only;rw [Xxo,<- jZ b];rcases tf (x.op==i) with b1|b1
 .have s:(x.name==a)=false:=by rcases hit with h|h;rw [h] at b1;cases b1;exact h
  exact pN 28 [] 5 19 (.c j (.c (nN k) (.c (yJ b) (.k 2 (az m) (.c (az s) (.k 1 (aA b1) (.k 10 (nN k) (.c h0 (.c (aA h0) .nil))))))))) (.v 101 (.eq (A7 p)) (.u 99 (uH e f A c d ss) (.c call_ (.c call_ (.v 52 (.eq g) (.v 46 (.ppt o) .nil)))))) n
 .exact pN 28 [] 5 17 (.c j (.c (nN k) (.c (yJ b) (.k 2 (az m) (.k 1 (az b1) (.k 10 (nN k) (.c h0 (.c (aA h0) .nil)))))))) (.v 101 (.eq (A7 p)) (.u 99 (uH e f A c d ss) (.c call_ (.c call_ (.v 52 (.eq g) (.v 46 (.ppt o) .nil)))))) n
theorem ajO {nt:Nat} (n:111<=nt) (e:List Nd) (d:Bool) (A:List (List Nat)) (b:List Sc) (c:Bool) (ss:List Nat) (i:Int) (a:List UInt8) (k:Nat) (x:Nd) (r:List AV) (w:e.getD k kH=x) (o:(ε ((δ (k:Int))*5) (aX e))=xg x++r) (u:k<e.length) (q:e.length<2^40) (v:A.length=e.length) (t:ss.length=e.length) (g:IA x.op= .tup [.fn 97 [] [],.bool true]) (hit:(x.op==i)=false\/(x.name==a)=false) (m:((((iF A ss k):Nat):Int)==((0:Nat):Int))=false) (call_:aG prog ap 61 [.ptr 0 0 0,ω (k:Int)] (wH e d A b c ss) (.ret (ω ((iF A ss k:Nat):Int))) (wH e d A b c ss)) (crule:aG prog ap 97 [.ptr 0 0 0,ω (k:Int)] (wH e d A b c ss) (.ret (ω (((eH (iP A ss k 0) (jR (iP A ss k 1))):Nat):Int))) (wH e d A b c ss)):ψ nt f28 (gZ e d A b c i a (k,ss)) .normal (gZ e d A b c i a (k+1,ss.set k (eH (iP A ss k 0) (jR (iP A ss k 1))))):=by
 have f:k<ss.length:=by omega
 have p:k<2^62:=by omega
 have h0:(decide ((k:Int)<(e.length:Int)))=true:=Yq0 (by omega);have j:Xqn (((0+(δ (k:Int)))*1)+1) (θ (aC ss))=true:=by rw [Xjn,aJ];simp [aC];omega
 unfold gZ;dsimp only;rw [Xxo,<- jZ f];rcases tf (x.op==i) with b1|b1
 .have s:(x.name==a)=false:=by rcases hit with h|h;rw [h] at b1;cases b1;exact h
  exact pN 28 [] 5 19 (.c j (.c (nN k) (.c (yJ f) (.k 2 (az m) (.c (az s) (.k 1 (aA b1) (.k 10 (nN k) (.c h0 (.c (aA h0) .nil))))))))) (.v 101 (.eq (A7 p)) (.u 99 (uH e d A b c ss) (.c crule (.c call_ (.v 52 (.eq g) (.v 46 (.ppt o) .nil)))))) n
 .exact pN 28 [] 5 17 (.c j (.c (nN k) (.c (yJ f) (.k 2 (az m) (.k 1 (az b1) (.k 10 (nN k) (.c h0 (.c (aA h0) .nil)))))))) (.v 101 (.eq (A7 p)) (.u 99 (uH e d A b c ss) (.c crule (.c call_ (.v 52 (.eq g) (.v 46 (.ppt o) .nil)))))) n
theorem ajM {nt:Nat} (n:111<=nt) (e:List Nd) (d:Bool) (A:List (List Nat)) (b:List Sc) (c:Bool) (ss:List Nat) (i:Int) (a:List UInt8) (k:Nat) (x:Nd) (r:List AV) (w:e.getD k kH=x) (o:(ε ((δ (k:Int))*5) (aX e))=xg x++r) (u:k<e.length) (q:e.length<2^40) (v:A.length=e.length) (t:ss.length=e.length) (g:IA x.op= .tup [.fn 98 [] [],.bool true]) (hit:(x.op==i)=false\/(x.name==a)=false) (m:((((iF A ss k):Nat):Int)==((0:Nat):Int))=false) (call_:aG prog ap 61 [.ptr 0 0 0,ω (k:Int)] (wH e d A b c ss) (.ret (ω ((iF A ss k:Nat):Int))) (wH e d A b c ss)) (crule:aG prog ap 98 [.ptr 0 0 0,ω (k:Int)] (wH e d A b c ss) (.ret (ω (((FH e A ss k):Nat):Int))) (wH e d A b c ss)):ψ nt f28 (gZ e d A b c i a (k,ss)) .normal (gZ e d A b c i a (k+1,ss.set k (FH e A ss k))):=by
 have f:k<ss.length:=by omega
 have p:k<2^62:=by omega
 have h0:(decide ((k:Int)<(e.length:Int)))=true:=Yq0 (by omega);have j:Xqn (((0+(δ (k:Int)))*1)+1) (θ (aC ss))=true:=by rw [Xjn,aJ];simp [aC];omega
 unfold gZ;dsimp only;rw [Xxo,<- jZ f];rcases tf (x.op==i) with b1|b1
 .have s:(x.name==a)=false:=by rcases hit with h|h;rw [h] at b1;cases b1;exact h
  exact pN 28 [] 5 19 (.c j (.c (nN k) (.c (yJ f) (.k 2 (az m) (.c (az s) (.k 1 (aA b1) (.k 10 (nN k) (.c h0 (.c (aA h0) .nil))))))))) (.v 101 (.eq (A7 p)) (.u 99 (uH e d A b c ss) (.c crule (.c call_ (.v 52 (.eq g) (.v 46 (.ppt o) .nil)))))) n
 .exact pN 28 [] 5 17 (.c j (.c (nN k) (.c (yJ f) (.k 2 (az m) (.k 1 (az b1) (.k 10 (nN k) (.c h0 (.c (aA h0) .nil)))))))) (.v 101 (.eq (A7 p)) (.u 99 (uH e d A b c ss) (.c crule (.c call_ (.v 52 (.eq g) (.v 46 (.ppt o) .nil)))))) n
theorem ajK {nt:Nat} (n:111<=nt) (e:List Nd) (d:Bool) (A:List (List Nat)) (b:List Sc) (c:Bool) (ss:List Nat) (i:Int) (a:List UInt8) (k:Nat) (x:Nd) (r:List AV) (w:e.getD k kH=x) (o:(ε ((δ (k:Int))*5) (aX e))=xg x++r) (u:k<e.length) (q:e.length<2^40) (v:A.length=e.length) (t:ss.length=e.length) (g:IA x.op= .tup [.fn 99 [] [],.bool true]) (hit:(x.op==i)=false\/(x.name==a)=false) (m:((((iF A ss k):Nat):Int)==((0:Nat):Int))=false) (call_:aG prog ap 61 [.ptr 0 0 0,ω (k:Int)] (wH e d A b c ss) (.ret (ω ((iF A ss k:Nat):Int))) (wH e d A b c ss)) (crule:aG prog ap 99 [.ptr 0 0 0,ω (k:Int)] (wH e d A b c ss) (.ret (ω (((Hq e A ss k):Nat):Int))) (wH e d A b c ss)):ψ nt f28 (gZ e d A b c i a (k,ss)) .normal (gZ e d A b c i a (k+1,ss.set k (Hq e A ss k))):=by
 have f:k<ss.length:=by omega
 have p:k<2^62:=by omega
 have h0:(decide ((k:Int)<(e.length:Int)))=true:=Yq0 (by omega);have j:Xqn (((0+(δ (k:Int)))*1)+1) (θ (aC ss))=true:=by rw [Xjn,aJ];simp [aC];omega
 unfold gZ;dsimp only;rw [Xxo,<- jZ f];rcases tf (x.op==i) with b1|b1
 .have s:(x.name==a)=false:=by rcases hit with h|h;rw [h] at b1;cases b1;exact h
  exact pN 28 [] 5 19 (.c j (.c (nN k) (.c (yJ f) (.k 2 (az m) (.c (az s) (.k 1 (aA b1) (.k 10 (nN k) (.c h0 (.c (aA h0) .nil))))))))) (.v 101 (.eq (A7 p)) (.u 99 (uH e d A b c ss) (.c crule (.c call_ (.v 52 (.eq g) (.v 46 (.ppt o) .nil)))))) n
 .exact pN 28 [] 5 17 (.c j (.c (nN k) (.c (yJ f) (.k 2 (az m) (.k 1 (az b1) (.k 10 (nN k) (.c h0 (.c (aA h0) .nil)))))))) (.v 101 (.eq (A7 p)) (.u 99 (uH e d A b c ss) (.c crule (.c call_ (.v 52 (.eq g) (.v 46 (.ppt o) .nil)))))) n
theorem ajJ {nt:Nat} (n:111<=nt) (e:List Nd) (d:Bool) (A:List (List Nat)) (b:List Sc) (c:Bool) (ss:List Nat) (i:Int) (a:List UInt8) (k:Nat) (x:Nd) (r:List AV) (w:e.getD k kH=x) (o:(ε ((δ (k:Int))*5) (aX e))=xg x++r) (u:k<e.length) (q:e.length<2^40) (v:A.length=e.length) (t:ss.length=e.length) (g:IA x.op= .tup [.fn 100 [] [],.bool true]) (hit:(x.op==i)=false\/(x.name==a)=false) (m:((((iF A ss k):Nat):Int)==((0:Nat):Int))=false) (call_:aG prog ap 61 [.ptr 0 0 0,ω (k:Int)] (wH e d A b c ss) (.ret (ω ((iF A ss k:Nat):Int))) (wH e d A b c ss)) (crule:aG prog ap 100 [.ptr 0 0 0,ω (k:Int)] (wH e d A b c ss) (.ret (ω (((MQ A ss k):Nat):Int))) (wH e d A b c ss)):ψ nt f28 (gZ e d A b c i a (k,ss)) .normal (gZ e d A b c i a (k+1,ss.set k (MQ A ss k))):=by
 have f:k<ss.length:=by omega
 have p:k<2^62:=by omega
 have h0:(decide ((k:Int)<(e.length:Int)))=true:=Yq0 (by omega);have j:Xqn (((0+(δ (k:Int)))*1)+1) (θ (aC ss))=true:=by rw [Xjn,aJ];simp [aC];omega
 unfold gZ;dsimp only;rw [Xxo,<- jZ f];rcases tf (x.op==i) with b1|b1
 .have s:(x.name==a)=false:=by rcases hit with h|h;rw [h] at b1;cases b1;exact h
  exact pN 28 [] 5 19 (.c j (.c (nN k) (.c (yJ f) (.k 2 (az m) (.c (az s) (.k 1 (aA b1) (.k 10 (nN k) (.c h0 (.c (aA h0) .nil))))))))) (.v 101 (.eq (A7 p)) (.u 99 (uH e d A b c ss) (.c crule (.c call_ (.v 52 (.eq g) (.v 46 (.ppt o) .nil)))))) n
 .exact pN 28 [] 5 17 (.c j (.c (nN k) (.c (yJ f) (.k 2 (az m) (.k 1 (az b1) (.k 10 (nN k) (.c h0 (.c (aA h0) .nil)))))))) (.v 101 (.eq (A7 p)) (.u 99 (uH e d A b c ss) (.c crule (.c call_ (.v 52 (.eq g) (.v 46 (.ppt o) .nil)))))) n
theorem afC {nt:Nat} (o:111<=nt) (e:List Nd) (d:Bool) (A:List (List Nat)) (b:List Sc) (c:Bool) (ss:List Nat) (i:Int) (a:List UInt8) (k:Nat) (x:Nd) (s:List AV) (y:e.getD k kH=x) (p:(ε ((δ (k:Int))*5) (aX e))=xg x++s) (v:k<e.length) (r:e.length<2^40) (w:A.length=e.length) (u:ss.length=e.length) (ck:Sc->Int) (n:Sc->Bool) (g:IA x.op= .tup [.fn 101 [] [],.bool true]) (hit:(x.op==i)=false\/(x.name==a)=false) (m:((((iF A ss k):Nat):Int)==((0:Nat):Int))=false) (call_:aG prog ap 61 [.ptr 0 0 0,ω (k:Int)] (wH e d A b c ss) (.ret (ω ((iF A ss k:Nat):Int))) (wH e d A b c ss)) (crule:aG prog ap 101 [.ptr 0 0 0,ω (k:Int)] (wH e d A b c ss) (.ret (ω (((Qh ck n x.name b (iP A ss k 0)):Nat):Int))) (wH e d A b c ss)):ψ nt f28 (gZ e d A b c i a (k,ss)) .normal (gZ e d A b c i a (k+1,ss.set k (Qh ck n x.name b (iP A ss k 0)))):=by
 have f:k<ss.length:=by omega
 have q:k<2^62:=by omega
 have h0:(decide ((k:Int)<(e.length:Int)))=true:=Yq0 (by omega);have j:Xqn (((0+(δ (k:Int)))*1)+1) (θ (aC ss))=true:=by rw [Xjn,aJ];simp [aC];omega
 unfold gZ;dsimp only;rw [Xxo,<- jZ f];rcases tf (x.op==i) with b1|b1
 .have t:(x.name==a)=false:=by rcases hit with h|h;rw [h] at b1;cases b1;exact h
  exact pN 28 [] 5 19 (.c j (.c (nN k) (.c (yJ f) (.k 2 (az m) (.c (az t) (.k 1 (aA b1) (.k 10 (nN k) (.c h0 (.c (aA h0) .nil))))))))) (.v 101 (.eq (A7 q)) (.u 99 (uH e d A b c ss) (.c crule (.c call_ (.v 52 (.eq g) (.v 46 (.ppt p) .nil)))))) o
 .exact pN 28 [] 5 17 (.c j (.c (nN k) (.c (yJ f) (.k 2 (az m) (.k 1 (az b1) (.k 10 (nN k) (.c h0 (.c (aA h0) .nil)))))))) (.v 101 (.eq (A7 q)) (.u 99 (uH e d A b c ss) (.c crule (.c call_ (.v 52 (.eq g) (.v 46 (.ppt p) .nil)))))) o
theorem ajL {nt:Nat} (g:111<=nt) (e:List Nd) (c:Bool) (A:List (List Nat)) (b:List Sc) (d:Bool) (ss:List Nat) (f:Int) (a:List UInt8):ψ nt f28 (gZ e c A b d f a (e.length,ss)) (.exit 0) (abW e c A b d ss):=by
 have h0:(decide ((e.length:Int)<(e.length:Int)))=false:=Yq1 (by omega);exact pN 28 [] 1 0 (.c (az h0) .nil) (.nil) g
theorem Kw:∀ (r:List Nd) (k:Nat) (a:List Nat),(∀ j ∈ a,j<k)->(∃ e,pY r a.length= .inl e)->(Dv r k a).length=r.length/\∀ i x,r[i]? =some x->((Dv r k a).getD i []).length=j_ x.op/\∀ j ∈ (Dv r k a).getD i [],j<k+i
 | [],k,a,_,_=> ⟨rfl,λi x h=>by simp at h⟩
 | x ::r,k,a,hst,⟨e,he⟩=>by
  simp only [pY] at he;split at he
  .split at he
   .cases he
   .rename_i m n;have g:(a.take (a.length - j_ x.op)++ [k]).length=a.length - j_ x.op+1:=by rw [ν,Xqz,Θ];omega
    have d:=Kw r (k+1) (a.take (a.length - j_ x.op)++ [k]) (by
     intro j b;rcases List.mem_append.1 b with b|b
     .have:=hst j (List.mem_of_mem_take b);omega
     .rw [List.mem_singleton.1 b];omega) ⟨e,by rw [g];exact he⟩
    refine ⟨by simp only [Dv,ο,d.1], ?_⟩;intro i y c;cases i with
    |zero=>
     simp only [Xxb,Option.some.injEq] at c;subst c;simp only [Dv,List.getD_cons_zero];refine ⟨by rw [List.length_drop];omega,λj b=> ?_⟩;have:=hst j (List.mem_of_mem_drop b);omega
    |succ i=>
     simp only [List.getElem?_cons_succ] at c;obtain ⟨f,h5⟩:=d.2 i y c;simp only [Dv,List.getD_cons_succ];exact ⟨f,λj b=>by have:=h5 j b;omega⟩
  .cases he
theorem MP:∀ (r:List Nd) (d:Nat) (w:Int),pY r d= .inr w->w ≠ 0
 | [],d,w,h=>by simp [pY] at h
 | x::r,d,w,h=>by
  simp only [pY] at h;split at h
  .split at h
   .cases h;decide
   .exact MP r _ w h
  .rename_i a;cases h;exact a
theorem qG {e:List Nd} (a:dE e=0):(bP e).length=e.length/\∀ i x,e[i]? =some x->((bP e).getD i []).length=j_ x.op/\∀ j ∈ (bP e).getD i [],j<i:=by
 have h:∃ d,pY e ([]:List Nat).length= .inl d:=by
  unfold dE at a;split at a
  .cases a
  .split at a
   .rename_i d hd;exact ⟨d,hd⟩
   .rename_i w b;exact absurd a (MP _ _ _ b)
 obtain ⟨c,f⟩:=Kw e 0 [] (by simp) h;exact ⟨c,λi x g=>by have:=f i x g;rw [Δ] at this;exact this⟩
theorem wkn {n a:Nat} (h:n=a+1) (b:n<2^40):ω (γ .i64 ((n:Int) - ((1:Nat):Int)))= ω (a:Int):=by rw [dM]<;>first|(congr 1;omega)|omega
theorem deq (n:Nat):decide ((n:Int)=(n:Int))=true:=Yq0 rfl
theorem dle {n:Nat} (h:n<2^40):decide ((n:Int)<=((1099511627776:Nat):Int))=true:=Yq0 (by omega)
theorem abJ:CO 60 [] (.ret (.mp zcc3_0 [.fn 61 [] [],.fn 61 [] [],.fn 61 [] [],.fn 61 [] [],.fn 61 [] [],.fn 61 [] [],.fn 97 [] [],.fn 98 [] [],.fn 99 [] [],.fn 100 [] [],.fn 101 [] []])):=cK .nil
theorem GZ (l:List Nd) (c:Bool) (a:∀ x ∈ l,x.sm) (b:dE l=0):CO 59 [.sl (aX l) l.length c] (.ret (.tup [.sl (bG (bP l)) (bP l).length true,.bool true])):=by
 rw [(qG b).1];exact ac7 l c a b
theorem aoq (e:List Nd) (c:Bool) (A:List (List Nat)) (b:List Sc) (g:Bool) (ss:List Nat) (d:Int) (a:List UInt8) (f:CO 59 (VaQ e c) (.ret (.tup [.nilS,.bool false]))):CO 28 [.sl (aX e) e.length c,.sl (lT b) b.length g,ω d,.str a] (.ret (ω ((3:Nat):Int))):=pK [] 3 7 (.n 3 .nil) (.c f .nil)
theorem ajP (e:List Nd) (f:Bool) (A:List (List Nat)) (c:List Sc) (h:Bool) (ss:List Nat) (a:Int) (b:List UInt8) (d:CO 59 [.sl (aX e) e.length f] (.ret (.tup [.sl (bG A) A.length true,.bool true]))) (i:a<5\/8<a):CO 28 [.sl (aX e) e.length f,.sl (lT c) c.length h,ω a,.str b] (.ret (ω ((3:Nat):Int))):=by
 rcases tf (decide (a<((5:Nat):Int))) with b0|b0
 .exact pK [] 3 6 (.k 1 (aA b0) (.n 1 .nil)) (.c d .nil)
 .have g:(decide (((8:Nat):Int)<a))=true:=Yq0 (by have:=of_decide_eq_false b0;omega);exact pK [] 3 4 (.c (aA g) (.c (az b0) (.n 1 .nil))) (.c d .nil)
theorem aor (e:List Nd) (c:Bool) (A:List (List Nat)) (a:List Sc) (h:Bool) (ss:List Nat) (d:Int) (b:List UInt8) (g s:Nat) (k:List AV) (n:CO 59 [.sl (aX e) e.length c] (.ret (.tup [.sl (bG A) A.length true,.bool true]))) (m:(decide (d<((5:Nat):Int)))=false) (o:(decide (((8:Nat):Int)<d))=false) (i:e.length=g+1) (f:e.length<2^40) (j:g<ss.length) (hs:(ε ((0+(δ (g:Int)))*1) (aC ss))= [ω (s:Int)]++k)
  (m0:Nat) (Z:List AV) (hm0:m0=δ (e.length:Int)) (hZ:Z=gB (δ (e.length:Int)) [ω 0])
  (l0:LB 111 0 f28 ⟨[(0,.sl (aX e) e.length c),(1,.sl (lT a) a.length h),(2,ω d),(3,.str b),(8,ω 0),(9,.sl (bG A) A.length true),(10,.bool true),(11,.ptr 0 0 0),(12,.mp zcc3_0 [.fn 61 [] [],.fn 61 [] [],.fn 61 [] [],.fn 61 [] [],.fn 61 [] [],.fn 61 [] [],.fn 97 [] [],.fn 98 [] [],.fn 99 [] [],.fn 100 [] [],.fn 101 [] []]),(13,.dead),(14,.dead),(15,.dead),(16,.dead),(31,.bool (decide (((8:Nat):Int)<d))),(41,.sl (aX e) e.length c),(42,ω (e.length:Int)),(43,ω 0),(44,.dead),(61,.dead),(78,.dead),(89,.dead)],[(0,⟨[.sl (aX e) e.length c,.sl (bG A) A.length true,.sl (lT a) a.length h,.ref 1 0 0 m0],0,false,0,0,false⟩),(1,⟨Z,0,false,0,1,true⟩)],.dead,[]⟩ (.normal) ⟨[(0,.sl (aX e) e.length c),(11,.ptr 0 0 0)],[(0,⟨[.sl (aX e) e.length c,.sl (bG A) A.length true,.sl (lT a) a.length h,.ref 1 0 0 ss.length],0,false,0,0,false⟩),(1,⟨(aC ss),0,false,0,1,true⟩)],.dead,[]⟩):CO 28 [.sl (aX e) e.length c,.sl (lT a) a.length h,ω d,.str b] (.ret (ω (s:Int))):=by
 subst hm0 hZ;exact pK [0] 3 0 (.a (vz [.int .i64] hs rfl) (.c (nN g) (.c (yJ j) (.k 1 (nN e.length) (.c (deq e.length) (.c (dle f) (.c (az o) (.c (az m) (.n 1 .nil))))))))) (.v 110 (.rd1 (.int .i64) hs rfl) (.v 108 (.eq (wkn i f)) (.l l0 (.c abJ (.c n .nil)))))
def zM (ck:Sc->Int) (up:Sc->Bool) (e:List Nd) (A:List (List Nat)) (sc:List Sc) (op:Int) (name:List UInt8):List Nd->Nat->List Nat->List Nat
 | [],_,ss=>ss
 |x::r,k,ss=>zM ck up e A sc op name r (k+1) (ss.set k (rq ck up e A sc op name ss k x))
theorem LJ (ck:Sc->Int) (c:Sc->Bool) (e:List Nd) (A:List (List Nat)) (d:List Sc) (b:Int) (a:List UInt8):∀ (r:List Nd) (k:Nat) (ss:List Nat),(zM ck c e A d b a r k ss).length=ss.length
 | [],_,_=>rfl
 |x::r,k,ss=>by simp only [zM,LJ ck c e A d b a r,Xxo]
def kF (ck:Sc->Int) (up:Sc->Bool) (e:List Nd) (sc:List Sc) (op:Int) (name:List UInt8):Nat:=
 if dE e=0/\5<=op/\op<=8 then (zM ck up e (bP e) sc op name e 0 (ζ e.length 0)).getD (e.length - 1) 0 else 3
theorem afD {nt:Nat} (q:111<=nt) (e:List Nd) (o:Bool) (g:List Sc) (m:Bool) (ss:List Nat) (ck:Sc->Int) (J:Sc->Bool) (p:Int) (a:List UInt8) (k:Nat) (x:Nd) (K:∀ y ∈ e,y.sm) (X:dE e=0) (N:e[k]? =some x) (c:e.length<2^40) (s:ss.length=e.length) (T:g.length<2^40) (S:g= []):
  ψ nt f28 (gZ e o (bP e) g m p a (k,ss)) .normal (gZ e o (bP e) g m p a (k+1,ss.set k (rq ck J e (bP e) g p a ss k x))):=by
 obtain ⟨u,L⟩:=qG X;obtain ⟨F,I⟩:=L k x N;obtain ⟨r,V⟩:=List.getElem?_eq_some_iff.1 N;have b:e.getD k kH=x:=by rw [ξ,N];rfl
 generalize U:bP e=A at*
 have z:k<A.length:=by omega
 have w:∀ j ∈ A.getD k [],j<ss.length:=λj D=>by have:=I j D;omega
 have B:∀ j ∈ A.getD k [],j<e.length:=λj D=>by have:=I j D;omega
 have G:(A.getD k []).length<2^40:=by rw [F];unfold j_;split<;>(try split)<;>(try split)<;>omega
 have t:(ε ((δ (k:Int))*5) (aX e))=xg x++aX (e.drop (k+1)):=by rw [P6 r,b]
 have call_:=ahD e o A g m ss k z G w;have M:∀ j,(e.getD j kH).num.length<2^36/\(e.getD j kH).den.length<2^36:=by
  intro j;by_cases D:j<e.length
  .have R:e.getD j kH ∈ e:=by rw [ξ,μ D];exact Xxj D
   have:=K _ R;exact ⟨Xzj this.1 (by decide),Xzj this.2 (by decide)⟩
  .rw [ξ,List.getElem?_eq_none (by omega)];decide
 have C:(IA x.op= .tup [.nilF,.bool false])\/∃ f,IA x.op= .tup [.fn f [] [],.bool true]:=by
  by_cases h1:(x.op=9\/x.op=13\/x.op=14\/x.op=21\/x.op=22\/x.op=23)\/(x.op=10)\/(x.op=11)\/(x.op=12)\/(x.op=15)\/(x.op=24)
  .rcases h1 with h|h|h|h|h|h
   .exact .inr ⟨_,aax h⟩
   .exact .inr ⟨_,aaC h⟩
   .exact .inr ⟨_,aaA h⟩
   .exact .inr ⟨_,aaz h⟩
   .exact .inr ⟨_,aay h⟩
   .exact .inr ⟨_,U_ h⟩
  .exact .inl (aaB h1)
 unfold rq;by_cases hit:(x.op==p && x.name==a)=true
 .rw [hit];rw [τ] at hit;rcases C with h|⟨f,h⟩
  .exact aol q e o A g m ss p a k x _ b t r c u s h hit.1 hit.2
  .exact aoj q e o A g m ss p a k x _ b t r c u s f h hit.1 hit.2
 .rw [Bool.not_eq_true] at hit;rw [hit];have d:(x.op==p)=false\/(x.name==a)=false:=Bool.and_eq_false_iff.1 hit;rcases tf ((((iF A ss k):Nat):Int)==((0:Nat):Int)) with b3|b3
  .rw [b3];rcases tf (x.op==p) with b1|b1
   .have O:(x.name==a)=false:=by rcases d with h|h;rw [h] at b1;cases b1;exact h
    rcases C with h|⟨f,h⟩
    .exact aon q e o A g m ss p a k x _ b t r c u s h b1 O b3 call_
    .exact aom q e o A g m ss p a k x _ b t r c u s f h b1 O b3 call_
   .rcases C with h|⟨f,h⟩
    .exact aop q e o A g m ss p a k x _ b t r c u s h b1 b3 call_
    .exact aoo q e o A g m ss p a k x _ b t r c u s f h b1 b3 call_
  .rw [b3];dsimp only [cond];unfold iT;have H:∀ n,j_ x.op=n->∀ i,i<n->i<(A.getD k []).length:=λn q i W=>by rw [F,q];exact W
   by_cases g1:x.op=9\/x.op=13\/x.op=14\/x.op=21\/x.op=22\/x.op=23
   .rw [if_pos g1];exact ajI q e o A g m ss p a k x _ b t r c u s (aax g1) d b3 call_
   rw [if_neg g1];by_cases g2:x.op=10
   .rw [if_pos g2];have v:=H 2 (by rw [g2];rfl);exact ajO q e o A g m ss p a k x _ b t r c u s (aaC g2) d b3 call_ (ajW e o A g m ss k z w B (v 0 (by omega)) (v 1 (by omega)))
   rw [if_neg g2];by_cases g3:x.op=11
   .rw [if_pos g3];have v:=H 2 (by rw [g3];rfl);exact ajM q e o A g m ss p a k x _ b t r c u s (aaA g3) d b3 call_ (ai1 e o A g m ss k z w B (v 0 (by omega)) (v 1 (by omega)))
   rw [if_neg g3];by_cases g4:x.op=12
   .rw [if_pos g4];have v:=H 2 (by rw [g4];rfl);exact ajK q e o A g m ss p a k x _ b t r c u s (aaz g4) d b3 call_ (ahW e o A g m ss k z w B (v 0 (by omega)) (v 1 (by omega)) (M _))
   rw [if_neg g4];by_cases g5:x.op=15
   .rw [if_pos g5];have v:=H 3 (by rw [g5];rfl);exact ajJ q e o A g m ss p a k x _ b t r c u s (aay g5) d b3 call_ (ahP e o A g m ss k z w B (v 0 (by omega)) (v 1 (by omega)) (v 2 (by omega)))
   rw [if_neg g5];by_cases g6:x.op=24
   .rw [if_pos g6];have v:=H 1 (by rw [g6];rfl);have Q:=ae_ e o A g m ss ck J k S;rw [b] at Q;exact afC q e o A g m ss p a k x _ b t r c u s ck J (U_ g6) d b3 call_ Q
   rw [if_neg g6];exact ajN q e o A g m ss p a k x _ b t r c u s (aaB (by rintro (h|h|h|h|h|h);exact g1 h;exact g2 h;exact g3 h;exact g4 h;exact g5 h;exact g6 h)) d b3 call_
theorem afB {nt:Nat} (n:111<=nt) (e:List Nd) (f:Bool) (b:List Sc) (d:Bool) (ck:Sc->Int) (k:Sc->Bool) (c:Int) (a:List UInt8) (g:∀ y ∈ e,y.sm) (s:dE e=0) (i:e.length<2^40) (m:b.length<2^40) (o:b= []):∀ (r p:List Nd) (ss:List Nat),p++r=e->ss.length=e.length->
  aF prog ap [] nt (af 0 (ax f28)) (λ_=> .exit 0) (gZ e f (bP e) b d c a) (abW e f (bP e) b d) (p.length,ss) (zM ck k e (bP e) b c a r p.length ss):=by
 intro r
 induction r with
 |nil=>
  intro p ss hp j;rw [Xqd] at hp;rw [hp];exact .done (ajL n e f (bP e) b d ss c a)
 |cons x r ih=>
  intro p ss hp j;have q:e[p.length]? =some x:=by rw [<- hp];simp
  have h:=ih (p++ [x]) (ss.set p.length (rq ck k e (bP e) b c a ss p.length x)) (by rw [<- hp];simp) (by rw [Xxo];exact j);rw [ν,Θ] at h;exact .next (afD n e f b d ss ck k c a p.length x g s q i j m o) h
theorem abX (e:List Nd) (d:Bool) (b:List Sc) (g:Bool) (ck:Sc->Int) (m:Sc->Bool) (c:Int) (a:List UInt8) (f:∀ y ∈ e,y.sm) (j:e.length<2^40) (p:b.length<2^40) (s:b= []) (n:dE e ≠ 0->CO 59 [.sl (aX e) e.length d] (.ret (.tup [.nilS,.bool false]))):
  CO 28 [.sl (aX e) e.length d,.sl (lT b) b.length g,ω c,.str a] (.ret (ω ((kF ck m e b c a:Nat):Int))):=by
 unfold kF;by_cases hq:dE e=0
 .by_cases ho:5<=c/\c<=8
  .rw [if_pos ⟨hq,ho⟩];have h0:e ≠ []:=by intro h;rw [h] at hq;exact absurd hq (by decide)
   obtain ⟨i,o⟩:∃ i,e.length=i+1:=⟨e.length - 1,by have:=List.length_pos_iff.2 h0;omega⟩
   have q:(zM ck m e (bP e) b c a e 0 (ζ e.length 0)).length=e.length:=by rw [LJ,Xxa]
   have h:∀ nt,111<=nt->aF prog ap [] nt (af 0 (ax f28)) (λ_=> .exit 0) (gZ e d (bP e) b g c a) (abW e d (bP e) b g) (0,ζ e.length 0) (zM ck m e (bP e) b c a e 0 (ζ e.length 0)):=λnt t=>afB t e d b g ck m c a f hq j p s e [] _ rfl (Xxa ..)
   generalize zM ck m e (bP e) b c a e 0 (ζ e.length 0)=ss at*
   rw [show e.length - 1=i by omega];have k:i<ss.length:=by omega
   refine aor e d (bP e) b g ss c a i (ss.getD i 0) _ (GZ e d f hq) (Yq1 (by omega)) (Yq1 (by omega)) o j k (by rw [Δ];exact yN k) (ζ e.length 0).length (aC (ζ e.length 0)) (by rw [Xxa,aJ]) (by rw [aJ,afg]) ?_;have r:(decide (((8:Nat):Int)<c))=false:=Yq1 (by omega);rw [r];exact aF.blk h (by simp) rfl (aK.of ⟨rfl,rfl,rfl,rfl,rfl,rfl,rfl,rfl,trivial⟩) (aK.of ⟨rfl,rfl,trivial⟩)
  .rw [if_neg (λh=>ho h.2)];exact ajP e d (bP e) b g [] c a (GZ e d f hq) (by omega)
 .rw [if_neg (λh=>hq h.1)];exact aoq e d [] b g [] c a (n hq)
structure Br where
 fn:Bool
 fa:List UInt8
 fd:List UInt8
 rn:Bool
 ra:List UInt8
 rd:List UInt8
def brC (x:Br):List AV:= [.bool x.fn,.str x.fa,.str x.fd,.bool x.rn,.str x.ra,.str x.rd]
def brL (l:List Br):List AV:=l.flatMap brC
abbrev brF (x:Br):AV:= .agg [.bool x.fn,.str x.fa,.str x.fd]
def bkL (cmp:Br->Br->Int):Option Br->List Br->Bool
 |_,[]=>true
 |none,x::r=>cond (jG x.fn x.fa x.fd) (cond (jG x.rn x.ra x.rd) (cond (rU x.fn x.fa x.fd==((0:Nat):Int)) (bkL cmp (some x) r) false) false) false
 |some y,x::r=>cond (jG x.fn x.fa x.fd) (cond (jG x.rn x.ra x.rd) (cond (decide (((0:Nat):Int)<=cmp y x)) false (bkL cmp (some x) r)) false) false
def YJ (f:Nat) (cmp:Br->Br->Int) (l:List Br):Prop:=∀ i y x,l[i]? =some y->l[i+1]? =some x->jG x.fn x.fa x.fd=true->jG x.rn x.ra x.rd=true->CO f [brF y,brF x] (.ret (ω (cmp y x)))
def ao9 (x:Br):Bool:= !(eP x.fn x.fa x.fd)|| !(eP x.rn x.ra x.rd)
def alC (x:Br):Bool:=decide (rU x.rn x.ra x.rd<((0:Nat):Int))
def ckQ (cmp:Br->Br->Int) (l:List Br):Int:=cond (decide (((8:Nat):Int)<(l.length:Int))) 2 (cond ((l.length:Int)==((0:Nat):Int)) 11 (cond (bkL cmp none l) (cond (l.any ao9) 3 0) 11))
theorem Nr {α:Type} (f:α->List AV) (m:Nat) (b:∀ a,(f a).length=m):∀ {l:List α} {k:Nat} (h:k<l.length),ε (k*m) (l.flatMap f)=f l[k]++(l.drop (k+1)).flatMap f
 | [],_,h=>by simp at h
 |x::r,0,_=>by simp
 |x::r,k+1,h=>by
  have c:k<r.length:=by simpa using h
  have:=Nr f m b c;rw [Xxx,Xvx,Xje,<- Xjs];have e:ε m (f x++r.flatMap f)=r.flatMap f:=by rw [<- b x];exact Xv1
  rw [e,this];simp
theorem Z7 {α:Type} (f:α->List AV) (m:Nat) (b:∀ a,(f a).length=m):∀ l:List α,(l.flatMap f).length=l.length*m
 | []=>by simp
 |x::r=>by rw [Xxx,ν,b,Z7 f m b r,ο,Xvx,Xje]
structure RtL (l:List (RQ × RQ)):Prop where
 len:l.length<=8
 pos:0<l.length
 ok:∀ b ∈ l,b.1.ok/\b.2.ok
 fit:∀ b ∈ l,oJ b.1=true/\oJ b.2=true
 srt:af8 l
section
variable (nm:List UInt8) (u1 u2:Int) {l:List (RQ × RQ)} (hR:RtL l) {x:RQ} (hx:x.ok) (fx:oJ x=true)
include hR hx fx
omit fx in
end
structure Lk where
 op:Int
 nm:List UInt8
 n:Bool
 a:List UInt8
 d:List UInt8
 e:Int
def lkC (x:Lk):List AV:= [ω x.op,.str x.nm,.bool x.n,.str x.a,.str x.d,ω x.e]
def eQ (l:List Lk):List AV:=l.flatMap lkC
abbrev NV (ls:List Lk) (cs:List Sc) (nl ns:Bool) (a b c d:List AV):Hp:= [(0,⟨[.sl (eQ ls) ls.length nl,.sl (lT cs) cs.length ns],0,false,0,0,true⟩),(1,⟨[.mp [] [],.mp [] []],0,false,0,0,true⟩),(2,⟨[.mr 3 0,.mr 4 0],0,false,0,0,false⟩),(3,⟨[.agg a,.agg b],0,false,0,4611686018427387904,true⟩),(4,⟨[.agg c,.agg d],0,false,0,4611686018427387904,true⟩)]
abbrev Vaa (a:Oq):List AV:=[.bool a.n,.str a.a,.str a.d,ω a.e]
theorem adK (a:Oq) (g d w1 c:Bool) (k f b:List UInt8) (ks vs j e:List AV) (h0:lit true (!c)=true) (h:Va1 a w1 c) (i:CO 119 [ω 13] Va7):CO 193 [.agg [.mp ks vs,.mp j e],.agg [ω 20,.bool g,.str k,.str f,.str b],.sl (Vaa a) 1 d] Va7:=pK [] 2 3 (.k 5 h0 (.n 11 .nil)) (.c i (.c h .nil))
theorem adL (a o:Oq) (g d w1 c:Bool) (k f b:List UInt8) (ks vs j e:List AV) (h0:lit false (!c)=true) (h:Va1 a w1 c) (i:CO 216 [.bool (!w1)] (Vad o)):CO 193 [.agg [.mp ks vs,.mp j e],.agg [ω 20,.bool g,.str k,.str f,.str b],.sl (Vaa a) 1 d] (Vad o):=pK [] 2 1 (.k 5 h0 (.n 11 .nil)) (.c i (.c h .nil))
theorem adM (a o:Oq) (q c:RQ) (d:Bool) (b:List UInt8) (ks vs h e:List AV) (g:CO 74 [.agg (Vac a),qA c] (Vak q)) (f:CO 215 [qA q] (Vad o)):CO 193 [.agg [.mp ks vs,.mp h e],.agg [ω 21,.bool c.neg,.str (ae c.n),.str (ae c.d),.str b],.sl (Vaa a) 1 d] (Vad o):=pK [] 3 4 (.n 25 .nil) (.c f (.c g .nil))
theorem adN (a o:Oq) (q c:RQ) (d:Bool) (b:List UInt8) (ks vs h e:List AV) (g:CO 220 [.agg (Vac a),qA c] (Vak q)) (f:CO 215 [qA q] (Vad o)):CO 193 [.agg [.mp ks vs,.mp h e],.agg [ω 22,.bool c.neg,.str (ae c.n),.str (ae c.d),.str b],.sl (Vaa a) 1 d] (Vad o):=pK [] 4 8 (.n 26 .nil) (.c f (.c g .nil))
theorem adO (a o:Oq) (q c:RQ) (d:Bool) (b:List UInt8) (ks vs h e:List AV) (g:CO 218 [.agg (Vac a),qA c] (Vak q)) (f:CO 215 [qA q] (Vad o)):CO 193 [.agg [.mp ks vs,.mp h e],.agg [ω 23,.bool c.neg,.str (ae c.n),.str (ae c.d),.str b],.sl (Vaa a) 1 d] (Vad o):=pK [] 4 0 (.n 26 .nil) (.c f (.c g .nil))
theorem adP (c:Oq) (i e lb:Bool) (k f a n:List UInt8) (u1 u2:Int) (ks vs b d h:List AV) (o:Nat) (j:bY (.tup [(Xwc (dO b d (.str a)) (.agg [.str [],ω 0,ω 0,.nilS])),.bool (Xz3 (dO b d (.str a)))]) (.tup [.agg [.str n,ω u1,ω u2,.sl h o false],.bool lb])) (h0:lit true (!lb)=true) (m:(Xwa b (Q_ 9))=true) (g:CO 119 [ω 12] VaH):CO 193 [.agg [.mp ks vs,.mp b d],.agg [ω 24,.bool i,.str k,.str f,.str a],.sl (Vaa c) 1 e] VaH:=pK [] 3 6 (.k 5 h0 (.k 2 m (.n 11 .nil))) (.c g (.v 43 j .nil))
abbrev Vab (a:Nat):Prop:=ω (γ .i64 ((a:Int)+((1:Nat):Int)))=ω ((a+1:Nat):Int)
abbrev Vaz (a:List Lk) (b:Bool) (c:Nat) (d:List Sc) (e:Bool) (f:List AV) (g:List AV):St:=⟨[(1,.ptr 0 0 0),(2,.ptr 1 0 0),(3,.ptr 2 0 0),(17,.sl (eQ a) a.length b),(18,ω (a.length:Int)),(19,ω (c:Int))],(NV a d b e f g [] []),.dead,[]⟩
theorem alm (ks vs:List AV) (k:Nat) (a:List Lk) (cs:List Sc) (x:Lk) (b d e:Bool) (m:List AV) (c n:Oq) {nt:Nat} (j:68<=nt) (p:(ε ((δ (k:Int))*6) (eQ a))=lkC x++m) (o:Yxc [(Xwc (dO ks vs (.agg [ω x.op,.str x.nm])) VaP),.bool (Xz3 (dO ks vs (.agg [ω x.op,.str x.nm])))]=Yxc [gQ n,.bool e]) (q:Vab k) (h0:(Xwa ks (Q_ 222))=true) (r:lit true (!e)=true) (g:Va3 k) (i:(decide ((k:Int)<(a.length:Int)))=true) (h:lit true (decide ((k:Int)<(a.length:Int)))=true) (f:CO 188 [.agg [.bool x.n,.str x.a,.str x.d,ω x.e]] (Vad c)):ψ nt f165 (Vaz a b k cs d ks vs) (.normal) ⟨[(1,.ptr 0 0 0),(2,.ptr 1 0 0),(3,.ptr 2 0 0),(17,.sl (eQ a) a.length b),(18,ω (a.length:Int)),(19,ω ((k+1:Nat):Int))],(NV a cs b d (vT ks (.agg [ω x.op,.str x.nm])) (oQ ks vs (.agg [ω x.op,.str x.nm]) (gQ c)) [] []),.dead,[]⟩:=pN 165 [] 2 3 (.k 1 h0 (.k 7 r (.k 2 h0 (.k 13 g (.c i (.c h .nil)))))) (.v 43 (.eq q) (.c f (.v 32 (.eq o) (.v 21 (.ppt p) .nil)))) j
theorem aln (ks vs:List AV) (k:Nat) (a:List Lk) (cs:List Sc) (x:Lk) (b c d:Bool) (i:List AV) (j:Oq) {nt:Nat} (h:68<=nt) (n:(ε ((δ (k:Int))*6) (eQ a))=lkC x++i) (m:Yxc [(Xwc (dO ks vs (.agg [ω x.op,.str x.nm])) VaP),.bool (Xz3 (dO ks vs (.agg [ω x.op,.str x.nm])))]=Yxc [gQ j,.bool d]) (o:Vab k) (h0:lit false (!d)=true) (p:(Xwa ks (Q_ 222))=true) (e:Va3 k) (g:(decide ((k:Int)<(a.length:Int)))=true) (f:lit true (decide ((k:Int)<(a.length:Int)))=true):ψ nt f165 (Vaz a b k cs c ks vs) (.normal) ⟨[(1,.ptr 0 0 0),(2,.ptr 1 0 0),(3,.ptr 2 0 0),(17,.sl (eQ a) a.length b),(18,ω (a.length:Int)),(19,ω ((k+1:Nat):Int))],(NV a cs b c ks vs [] []),.dead,[]⟩:=pN 165 [] 2 1 (.c h0 (.k 2 p (.k 13 e (.c g (.c f .nil))))) (.v 43 (.eq o) (.v 32 (.eq m) (.v 21 (.ppt n) .nil))) h
theorem alo (ks vs:List AV) (k:Nat) (a:List Lk) (cs:List Sc) (b c:Bool) {nt:Nat} (d:68<=nt) (h0:lit false (decide ((k:Int)<(a.length:Int)))=true):ψ nt f165 (Vaz a b k cs c ks vs) (.exit 0) ⟨[(1,.ptr 0 0 0),(2,.ptr 1 0 0),(3,.ptr 2 0 0)],(NV a cs b c ks vs [] []),.dead,[]⟩:=pN 165 [] 1 0 (.c h0 .nil) (.nil) d
abbrev VaD (a:List Sc) (b:Bool) (c:Nat):List (Nat × AV):=[(1,.ptr 0 0 0),(2,.ptr 1 0 0),(3,.ptr 2 0 0),(45,.sl (lT a) a.length b),(46,ω (a.length:Int)),(47,ω (c:Int))]
theorem alp (t:List UInt8) (u1 u2:Int) (ks vs a b o:List AV) (u k:Nat) (f:List Lk) (cs:List Sc) (c:Sc) (e d g:Bool) (n:List AV) {nt:Nat} (m:68<=nt) (q:(ε ((δ (k:Int))*4) (lT cs))=scC c++n) (p:bY (.tup [(Xwc (dO a b (.str c.name)) (.agg [.str [],ω 0,ω 0,.nilS])),.bool (Xz3 (dO a b (.str c.name)))]) (.tup [.agg [.str t,ω u1,ω u2,.sl o u false],.bool g])) (r:Vab k) (h0:(Xwa a (Q_ 9))=true) (s:lit true (!g)=true) (h:Va3 k) (j:(decide ((k:Int)<(cs.length:Int)))=true) (i:lit true (decide ((k:Int)<(cs.length:Int)))=true):ak prog ap [] nt (af 2 (ax f165)) ⟨(VaD cs d k),(NV f cs e d ks vs a b),.dead,[]⟩ (.normal) ⟨[(1,.ptr 0 0 0),(2,.ptr 1 0 0),(3,.ptr 2 0 0),(45,.sl (lT cs) cs.length d),(46,ω (cs.length:Int)),(47,ω ((k+1:Nat):Int))],(NV f cs e d ks vs (vT a (.str c.name)) (oQ a b (.str c.name) (.agg [.str c.name,ω c.u1,ω c.u2,.sl c.bx c.bn false]))),.dead,[]⟩:=pN 165 [] 2 3 (.k 1 h0 (.k 6 s (.k 2 h0 (.k 7 h (.c j (.c i .nil)))))) (.v 66 (.eq r) (.v 56 p (.v 49 (.ppt q) .nil))) m
theorem alq (t:List UInt8) (u1 u2:Int) (ks vs a b o:List AV) (u k:Nat) (f:List Lk) (cs:List Sc) (c:Sc) (e d g:Bool) (n:List AV) {nt:Nat} (m:68<=nt) (q:(ε ((δ (k:Int))*4) (lT cs))=scC c++n) (p:bY (.tup [(Xwc (dO a b (.str c.name)) (.agg [.str [],ω 0,ω 0,.nilS])),.bool (Xz3 (dO a b (.str c.name)))]) (.tup [.agg [.str t,ω u1,ω u2,.sl o u false],.bool g])) (r:Vab k) (h0:lit false (!g)=true) (s:(Xwa a (Q_ 9))=true) (h:Va3 k) (j:(decide ((k:Int)<(cs.length:Int)))=true) (i:lit true (decide ((k:Int)<(cs.length:Int)))=true):ak prog ap [] nt (af 2 (ax f165)) ⟨(VaD cs d k),(NV f cs e d ks vs a b),.dead,[]⟩ (.normal) ⟨[(1,.ptr 0 0 0),(2,.ptr 1 0 0),(3,.ptr 2 0 0),(45,.sl (lT cs) cs.length d),(46,ω (cs.length:Int)),(47,ω ((k+1:Nat):Int))],(NV f cs e d ks vs a b),.dead,[]⟩:=pN 165 [] 2 1 (.c h0 (.k 2 s (.k 7 h (.c j (.c i .nil))))) (.v 66 (.eq r) (.v 56 p (.v 49 (.ppt q) .nil))) m
theorem alr (ks vs e c:List AV) (k:Nat) (d:List Lk) (cs:List Sc) (b a:Bool) {nt:Nat} (f:68<=nt) (h0:lit false (decide ((k:Int)<(cs.length:Int)))=true):ak prog ap [] nt (af 2 (ax f165)) ⟨(VaD cs a k),(NV d cs b a ks vs e c),.dead,[]⟩ (.exit 2) ⟨[(1,.ptr 0 0 0),(2,.ptr 1 0 0),(3,.ptr 2 0 0)],(NV d cs b a ks vs e c),.dead,[]⟩:=pN 165 [] 1 0 (.c h0 .nil) (.nil) f
theorem aih (ks vs e d:List AV) (a:List Lk) (cs:List Sc) (b c:Bool) (g:LB 68 0 f165 ⟨[(0,.agg [.sl (eQ a) a.length b,.sl (lT cs) cs.length c]),(1,.ptr 0 0 0),(2,.ptr 1 0 0),(3,.ptr 2 0 0),(5,.dead),(6,.dead),(8,.dead),(10,.dead),(12,.dead),(17,.sl (eQ a) a.length b),(18,ω (a.length:Int)),(19,ω 0),(20,.dead),(36,.dead),(45,.dead),(46,.dead),(47,.dead),(48,.dead),(60,.dead)],(NV a cs b c [] [] [] []),.dead,[]⟩ (.normal) ⟨[(1,.ptr 0 0 0),(2,.ptr 1 0 0),(3,.ptr 2 0 0)],(NV a cs b c ks vs [] []),.dead,[]⟩) (f:LB 68 2 f165 ⟨[(0,.dead),(1,.ptr 0 0 0),(2,.ptr 1 0 0),(3,.ptr 2 0 0),(5,.dead),(6,.dead),(8,.dead),(10,.dead),(12,.dead),(17,.dead),(18,.dead),(19,.dead),(20,.dead),(36,.dead),(45,.sl (lT cs) cs.length c),(46,ω (cs.length:Int)),(47,ω 0),(48,.dead),(60,.dead)],(NV a cs b c ks vs [] []),.dead,[]⟩ (.normal) ⟨[(1,.ptr 0 0 0),(2,.ptr 1 0 0),(3,.ptr 2 0 0)],(NV a cs b c ks vs e d),.dead,[]⟩):CO 165 [.agg [.sl (eQ a) a.length b,.sl (lT cs) cs.length c]] (.ret (.agg [.mp ks vs,.mp e d])):=pK [0,2] 0 0 (.n 8 .nil) (.l f (.l g .nil))
theorem ah_ (o:Oq) (f c:Bool) (h e a:List UInt8) (b:Int) (ks vs g d:List AV) (h0:lit true (decide (b<=((4:Nat):Int)))=true) (i:CO 190 [.agg [.mp ks vs,.mp g d],.agg [ω b,.bool f,.str h,.str e,.str a],.sl [] 0 c] (Vad o)):CO 166 [.agg [.mp ks vs,.mp g d],.agg [ω b,.bool f,.str h,.str e,.str a],.sl [] 0 c] (Vad o):=pK [] 2 1 (.k 13 h0 (.n 3 .nil)) (.c i .nil)
abbrev Vat (a:Int):Prop:=lit false (decide (a<=((4:Nat):Int)))=true
theorem aia (o:Oq) (f c:Bool) (h e a:List UInt8) (b:Int) (ks vs g d:List AV) (h0:lit true (decide (b<=((8:Nat):Int)))=true) (i:Vat b) (j:CO 191 [.agg [.mp ks vs,.mp g d],.agg [ω b,.bool f,.str h,.str e,.str a],.sl [] 0 c] (Vad o)):CO 166 [.agg [.mp ks vs,.mp g d],.agg [ω b,.bool f,.str h,.str e,.str a],.sl [] 0 c] (Vad o):=pK [] 3 2 (.k 13 h0 (.k 1 i (.n 3 .nil))) (.c j .nil)
abbrev VaA (a:Int):Prop:=lit false (decide (a<=((8:Nat):Int)))=true
theorem aib (a:Oq) (h d:Bool) (m g b:List UInt8) (c:Int) (ks vs j f:List AV) (h0:lit true (!(a.e==((0:Nat):Int)))=true) (i:lit false (c==((15:Nat):Int))=true) (k:VaA c) (e:Vat c):CO 166 [.agg [.mp ks vs,.mp j f],.agg [ω c,.bool h,.str m,.str g,.str b],.sl (Vaa a) 1 d] (Vad a):=pK [] 6 56 (.k 9 h0 (.k 12 i (.k 1 k (.k 1 e (.n 3 .nil))))) (.nil)
theorem aic (a o:Oq) (g d:Bool) (i f b:List UInt8) (c:Int) (ks vs h e:List AV) (h0:lit false (!(a.e==((0:Nat):Int)))=true) (k:lit false (c==((15:Nat):Int))=true) (n:VaA c) (j:Vat c) (m:CO 193 [.agg [.mp ks vs,.mp h e],.agg [ω c,.bool g,.str i,.str f,.str b],.sl (Vaa a) 1 d] (Vad o)):CO 166 [.agg [.mp ks vs,.mp h e],.agg [ω c,.bool g,.str i,.str f,.str b],.sl (Vaa a) 1 d] (Vad o):=pK [] 7 24 (.k 11 h0 (.k 12 k (.k 1 n (.k 1 j (.n 3 .nil))))) (.c m .nil)
theorem aid (a d:Oq) (i e:Bool) (n h b:List UInt8) (c:Int) (ks vs k g:List AV) (h0:lit true (!(a.e==((0:Nat):Int)))=true) (j:lit false (c==((15:Nat):Int))=true) (m:VaA c) (f:Vat c):CO 166 [.agg [.mp ks vs,.mp k g],.agg [ω c,.bool i,.str n,.str h,.str b],.sl (Va2 a d) 2 e] (Vad a):=pK [] 6 48 (.k 9 h0 (.k 10 j (.k 1 m (.k 1 f (.n 3 .nil))))) (.nil)
theorem aie (b a:Oq) (j e:Bool) (o i c:List UInt8) (d:Int) (ks vs m h:List AV) (h0:lit true (!(a.e==((0:Nat):Int)))=true) (k:lit false (!(b.e==((0:Nat):Int)))=true) (n:lit false (d==((15:Nat):Int))=true) (g:VaA d) (f:Vat d):CO 166 [.agg [.mp ks vs,.mp m h],.agg [ω d,.bool j,.str o,.str i,.str c],.sl (Va2 b a) 2 e] (Vad a):=pK [] 8 208 (.k 9 h0 (.k 9 k (.k 10 n (.k 1 g (.k 1 f (.n 3 .nil)))))) (.nil)
theorem aif (a b o:Oq) (i e:Bool) (j f c:List UInt8) (d:Int) (ks vs g h:List AV) (h0:lit false (!(b.e==((0:Nat):Int)))=true) (q:lit false (!(a.e==((0:Nat):Int)))=true) (m:lit false (d==((15:Nat):Int))=true) (p:VaA d) (n:Vat d) (k:CO 189 [.agg [.mp ks vs,.mp g h],.agg [ω d,.bool i,.str j,.str f,.str c],.sl (Va2 a b) 2 e] (Vad o)):CO 166 [.agg [.mp ks vs,.mp g h],.agg [ω d,.bool i,.str j,.str f,.str c],.sl (Va2 a b) 2 e] (Vad o):=pK [] 9 80 (.k 11 h0 (.k 9 q (.k 10 m (.k 1 p (.k 1 n (.n 3 .nil)))))) (.c k .nil)
theorem aig (b d a o:Oq) (i f:Bool) (k h c:List UInt8) (e:Int) (ks vs j g:List AV) (h0:lit true (e==((15:Nat):Int))=true) (m:VaA e) (p:Vat e) (n:CO 192 (Va4 ks vs j g e i k h c b d a f) (Vad o)):CO 166 (Va4 ks vs j g e i k h c b d a f) (Vad o):=pK [] 3 4 (.k 12 h0 (.k 1 m (.k 1 p (.n 3 .nil)))) (.c n .nil)
def JP (m:List AV × List AV) (k v:AV):List AV × List AV:=if (dO m.1 m.2 k).isSome then m else (vT m.1 k,oQ m.1 m.2 k v)
theorem H6 (k v q:AV):∀ (ks vs:List AV),ks.length=vs.length->dO (ks++ [k]) (vs++ [v]) q=(dO ks vs q).or (if wX q k then some v else none)
 | [],[],_=>by simp [dO];cases wX q k<;>rfl
 |a::ks,b::vs,h=>by
  simp only [Xqt,dO];cases wX q a with
  |true=>rfl
  |false=>exact H6 k v q ks vs (by simpa using h)
 | [],_::_,h=>by simp at h
 |_::_,[],h=>by simp at h
theorem KJ (q v:AV):∀ (ks vs:List AV),ks.length=vs.length->dO ks vs q=none->ks.any (wX q)=false/\oQ ks vs q v=vs++ [v]
 | [],[],_,_=> ⟨rfl,rfl⟩
 | a::ks,b::vs,h,hf=>by
  simp only [dO] at hf;cases c:wX q a with
  |true=>rw [c] at hf;cases hf
  |false=>
   rw [c] at hf;obtain ⟨e,d⟩:=KJ q v ks vs (by simpa using h) hf;exact ⟨by simp [c,e],by simp [oQ,c,d]⟩
 | [],_::_,h,_=>by simp at h
 |_::_,[],h,_=>by simp at h
structure Wv {α:Type} (kf vf:α->AV) (p:List α) (m:List AV × List AV):Prop where
 len:m.1.length=m.2.length
 find:∀ y,dO m.1 m.2 (kf y)=(p.find? λx=>wX (kf y) (kf x)).map vf
 keys:∀ k ∈ m.1,∃ x,k=kf x
theorem Wv.step {α:Type} {a vf:α->AV} (g:∀ x y,wX (a x) (a y)=true->a x=a y) {p:List α} {m:List AV × List AV} (h:Wv a vf p m) (x:α):Wv a vf (p++ [x]) (JP m (a x) (vf x)):=by
 unfold JP;cases hs:dO m.1 m.2 (a x) with
 | some v=>
  rw [if_pos (by rfl)];refine ⟨h.len,λy=> ?_,h.keys⟩;rw [h.find y,Xwp];cases hp:p.find? (λx=>wX (a y) (a x)) with
  |some z=>rfl
  | none=>
   have d:=h.find x;rw [hs] at d;cases c:wX (a y) (a x) with
   |false=>simp [c]
   |true=>
    rw [<- g y x c,hp] at d;cases d
 | none=>
  obtain ⟨i,f⟩:=KJ (a x) (vf x) m.1 m.2 h.len hs;have e:vT m.1 (a x)=m.1++ [a x]:=by unfold vT;rw [i]
  rw [if_neg (by simp),e,f];refine ⟨by simp [h.len],λy=> ?_,λk b=> ?_⟩
  .rw [H6 _ _ _ _ _ h.len,h.find y,Xwp];cases hp:p.find? (λx=>wX (a y) (a x)) with
   |some z=>rfl
   |none=>cases c:wX (a y) (a x)<;>simp [c]
  .rcases List.mem_append.1 b with b|b
   .exact h.keys k b
   .rw [Xwi] at b;exact ⟨x,b⟩
def JY {α:Type} (kf vf:α->AV) (p:List α):List AV × List AV:=p.foldl (λm x=>JP m (kf x) (vf x)) ([],[])
theorem DY {α:Type} (a vf:α->AV) (p:List α) (x:α):JY a vf (p++ [x])=JP (JY a vf p) (a x) (vf x):=by unfold JY;rw [List.foldl_append];rfl
theorem II {α:Type} {a vf:α->AV} (b:∀ x y,wX (a x) (a y)=true->a x=a y) (l:List α):Wv a vf l (JY a vf l):=by
 have key:∀ (r p:List α),Wv a vf p (JY a vf p)->Wv a vf (p++r) (JY a vf (p++r)):=by
  intro r
  induction r with
  |nil=>intro p h;simpa using h
  |cons x r ih=>
   intro p h;have c:=h.step b x;rw [<- DY] at c;have:=ih (p++ [x]) c;simpa using this
 exact key l [] ⟨rfl,λy=>rfl,λk b=>by simp [JY] at b⟩
def YG (x:Lk):AV:= .agg [ω x.op,.str x.nm]
def lkV (x:Lk):Oq:=CU x.n x.a x.d x.e
def DR (ls:List Lk):List AV × List AV:=JY YG (λx=>gQ (lkV x)) ls
theorem U9 (x y:Lk) (h:wX (YG x) (YG y)=true):YG x=YG y:=by
 simp only [YG,wX,JU,FB,Xwo,τ,beq_iff_eq] at h;unfold YG;rw [h.1,h.2]
def scK (c:Sc):AV:= .str c.name
def Gp (cs:List Sc):List AV × List AV:=JY scK (λc=> .agg (scC c)) cs
theorem VH (x y:Sc) (h:wX (scK x) (scK y)=true):scK x=scK y:=by
 simp only [scK,wX,beq_iff_eq] at h;unfold scK;rw [h]
def Rf (ls:List Lk) (op:Int) (nm:List UInt8):Option Oq:=(ls.find? λy=>(op==y.op) && (nm==y.nm)).map lkV
def scO (cs:List Sc) (nm:List UInt8):Option Sc:=cs.find? λc=>nm==c.name
theorem PO (a:List Lk) (b:Int) (c:List UInt8):dO (DR a).1 (DR a).2 (.agg [ω b,.str c])=(Rf a b c).map (λo=>gQ o):=by
 have h:=(II (vf:=λx=>gQ (lkV x)) U9 a).find ⟨b,c,false,[],[],0⟩;unfold DR Rf;rw [Option.map_map];refine h.trans ?_;congr 1;congr 1;funext y;simp [YG,wX,JU,FB]
theorem QB (cs:List Sc) (a:List UInt8):dO (Gp cs).1 (Gp cs).2 (.str a)=(scO cs a).map (λc=> .agg (scC c)):=by
 have h:=(II (vf:=λc=>Yj2 (scC c)) VH cs).find ⟨a,0,0,[],0⟩;exact h
theorem aga {α:Type} {a vf:α->AV} (b:∀ x y,wX (a x) (a y)=true->a x=a y) (t:Nat) (d:∀ x,Q_ t (a x)=true) (l:List α):Xwa (JY a vf l).1 (Q_ t)=true:=by
 rw [Xzo];intro k c;obtain ⟨x,rfl⟩:=(II (vf:=vf) b l).keys k c;exact d x
theorem aiJ (x:Lk):Q_ 222 (YG x)=true:=by kernel_rfl
theorem aiK (c:Sc):Q_ 9 (scK c)=true:=by kernel_rfl
theorem Gf (a:List Lk):Xwa (DR a).1 (Q_ 222)=true:=aga U9 222 aiJ a
theorem Oh (cs:List Sc):Xwa (Gp cs).1 (Q_ 9)=true:=aga VH 9 aiK cs
def zO:Oq:= .val ⟨false,0,0⟩
theorem aqi:gQ zO= .agg [.bool false,.str [],.str [],ω 0]:=by
 show Yj2 [.bool false,.str (ae 0),.str (ae 0),ω 0]=_;rw [dX]
theorem agw (a:List Lk) (c:Int) (b:List UInt8):Yxc [(Xwc (dO (DR a).1 (DR a).2 (.agg [ω c,.str b])) (.agg [.bool false,.str [],.str [],ω 0])),.bool (Xz3 (dO (DR a).1 (DR a).2 (.agg [ω c,.str b])))]=Yxc [gQ ((Rf a c b).getD zO),.bool (Rf a c b).isSome]:=by
 rw [PO];cases Rf a c b with
 |none=>simp only [Option.map_none,Option.getD_none,Option.isSome_none];rw [aqi]
 |some x=>rfl
theorem aaw {l:List Lk} {k:Nat} (h:k<l.length):ε (δ (k:Int)*6) (eQ l)=lkC l[k]++eQ (l.drop (k+1)):=by
 rw [aJ];exact Nr lkC 6 (λ_=>rfl) h
theorem bY.tupL {l r:List AV} (h:jd l r):bY (.tup l) (.tup r):=by
 intro g m S v a;simp only [VR] at a ⊢;obtain ⟨vs,e,a⟩:=a;exact ⟨vs,e,h g m S vs a⟩
theorem bY.zsc:bY (.tup [.agg [.str [],ω 0,ω 0,.nilS],.bool false]) (.tup [.agg [.str [],ω 0,ω 0,.sl [] 0 false],.bool false]):=
 bY.tupL (jd.cons (bY.agg (jd.cons (bY.refl _) (jd.cons (bY.refl _) (jd.cons (bY.refl _) (jd.cons (bY.nilS false rfl) (jd.refl _)))))) (jd.refl _))
abbrev apv (ls:List Lk) (cs:List Sc) (nl ns:Bool) (p:Nat × (List AV × List AV)):St:=⟨[(1,.ptr 0 0 0),(2,.ptr 1 0 0),(3,.ptr 2 0 0),(17,.sl (eQ ls) ls.length nl),(18,ω (ls.length:Int)),(19,ω (p.1:Int))],NV ls cs nl ns p.2.1 p.2.2 [] [],.dead,[]⟩
abbrev opO (ls:List Lk) (cs:List Sc) (nl ns:Bool) (a b:List AV × List AV):St:=⟨[(1,.ptr 0 0 0),(2,.ptr 1 0 0),(3,.ptr 2 0 0)],NV ls cs nl ns a.1 a.2 b.1 b.2,.dead,[]⟩
abbrev apw (ls:List Lk) (cs:List Sc) (nl ns:Bool) (a:List AV × List AV) (p:Nat × (List AV × List AV)):St:=⟨[(1,.ptr 0 0 0),(2,.ptr 1 0 0),(3,.ptr 2 0 0),(45,.sl (lT cs) cs.length ns),(46,ω (cs.length:Int)),(47,ω (p.1:Int))],NV ls cs nl ns a.1 a.2 p.2.1 p.2.2,.dead,[]⟩
theorem YS {m:List AV × List AV} {k v:AV} (h:(dO m.1 m.2 k).isSome=true):JP m k v=m:=by unfold JP;rw [if_pos h]
theorem YR {m:List AV × List AV} {k v:AV} (h:(dO m.1 m.2 k).isSome=false):JP m k v=(vT m.1 k,oQ m.1 m.2 k v):=by unfold JP;rw [if_neg (by rw [h];simp)]
theorem aeT {nt:Nat} (n:68<=nt) (a:List Lk) (cs:List Sc) (f d:Bool) (t:a.length<2^60) (hs:∀ x ∈ a,x.a.length<2^36/\x.d.length<2^36):∀ (r p:List Lk),a=p++r->
  aF prog ap [] nt (af 0 (ax f165)) (λ_=> .exit 0) (apv a cs f d) (λq:List AV × List AV=>opO a cs f d q ([],[])) (p.length,DR p) (DR a):=by
 intro r
 induction r with
 |nil=>
  intro p hp;rw [Xqd] at hp;subst hp;exact .done (alo _ _ _ a cs f d n (az (Yq1 (by omega))))
 | cons x r ih=>
  intro p hp;have m:p.length<a.length:=by rw [hp];simp
  have j:=aaw m;rw [show a[p.length]=x by subst hp;simp] at j;have b:=ih (p++ [x]) (by rw [hp];simp);rw [ν,Θ] at b;have e:DR (p++ [x])=JP (DR p) (YG x) (gQ (lkV x)):=DY _ _ p x;rw [e] at b;have i:=agw p x.op x.nm;have g:=congrArg Xz3 (PO p x.op x.nm);rw [Option.isSome_map] at g;have o:decide (((0:Nat):Int)<=(p.length:Int))=true:=Yq0 (by omega);have h:decide ((p.length:Int)<(a.length:Int))=true:=Yq0 (by omega);have c:=hs x (by rw [hp];simp);cases s:(Rf p x.op x.nm).isSome with
  |true=>
   rw [s] at i g;rw [YS (k:=YG x) g] at b;exact .next (aln _ _ p.length a cs x f d true _ _ n j i (A7 (by omega)) rfl (Gf p) o h (aA h)) b
  |false=>
   rw [s] at i g;rw [YR (k:=YG x) g] at b;exact .next (alm _ _ p.length a cs x f d false _ (lkV x) _ n j i (A7 (by omega)) (Gf p) rfl o h (aA h) (LM x.n x.a x.d x.e c.1 c.2)) b
theorem aeW {nt:Nat} (n:68<=nt) (f:List Lk) (cs:List Sc) (h g:Bool) (a:List AV × List AV) (t:cs.length<2^60):∀ (r p:List Sc),cs=p++r->
  aF prog ap [] nt (af 2 (ax f165)) (λ_=> .exit 2) (apw f cs h g a) (λq:List AV × List AV=>opO f cs h g a q) (p.length,Gp p) (Gp cs):=by
 intro r
 induction r with
 |nil=>
  intro p hp;rw [Xqd] at hp;subst hp;exact .done (alr _ _ _ _ _ f cs h g n (az (Yq1 (by omega))))
 | cons x r ih=>
  intro p hp;have m:p.length<cs.length:=by rw [hp];simp
  have j:=abV m;rw [show cs[p.length]=x by subst hp;simp] at j;have b:=ih (p++ [x]) (by rw [hp];simp);rw [ν,Θ] at b;have e:Gp (p++ [x])=JP (Gp p) (scK x) (.agg (scC x)):=DY _ _ p x;rw [e] at b;have d:=QB p x.name;have o:decide (((0:Nat):Int)<=(p.length:Int))=true:=Yq0 (by omega);have i:decide ((p.length:Int)<(cs.length:Int))=true:=Yq0 (by omega);cases s:scO p x.name with
  |some c=>
   rw [s] at d;rw [YS (k:=scK x) (show (dO (Gp p).1 (Gp p).2 (.str x.name)).isSome=true by rw [d];rfl)] at b;exact .next (alq _ _ _ a.1 a.2 _ _ _ _ p.length f cs x h g true _ n j (by rw [d];exact bY.refl _) (A7 (by omega)) rfl (Oh p) o i (aA i)) b
  |none=>
   rw [s] at d;rw [YR (k:=scK x) (show (dO (Gp p).1 (Gp p).2 (.str x.name)).isSome=false by rw [d];rfl)] at b;exact .next (alp [] 0 0 a.1 a.2 _ _ [] 0 p.length f cs x h g false _ n j (by rw [d];exact bY.zsc) (A7 (by omega)) (Oh p) rfl o i (aA i)) b
theorem Zu (a:List Lk) (cs:List Sc) (b c:Bool) (f:a.length<2^60) (e:cs.length<2^60) (hs:∀ x ∈ a,x.a.length<2^36/\x.d.length<2^36):CO 165 [.agg [.sl (eQ a) a.length b,.sl (lT cs) cs.length c]] (.ret (.agg [.mp (DR a).1 (DR a).2,.mp (Gp cs).1 (Gp cs).2])):=
 aih _ _ _ _ a cs b c
  (aF.blk (id:=0) (e':= .normal) (s:=⟨_,_,_,_⟩) (s':=opO a cs b c (DR a) ([],[])) (λnt d=>aeT d a cs b c f hs a [] rfl) (by simp) rfl (aK.of ⟨rfl,rfl,rfl,rfl,rfl,rfl,trivial⟩) (aK.refl _))
  (aF.blk (id:=2) (e':= .normal) (s:=⟨_,_,_,_⟩) (s':=opO a cs b c (DR a) (Gp cs)) (λnt d=>aeW d a cs b c (DR a) e cs [] rfl) (by simp) rfl (aK.of ⟨rfl,rfl,rfl,rfl,rfl,rfl,trivial⟩) (aK.refl _))
structure Sq where
 nm:List UInt8
 u1:Int
 u2:Int
 l:List Br
def Sq.c (q:Sq):Sc:=⟨q.nm,q.u1,q.u2,brL q.l,q.l.length⟩
def adc:List AV->List Br
 | .bool a::.str b::.str c::.bool d::.str e::.str f::r=> ⟨a,b,c,d,e,f⟩::adc r
 |_=> []
def xf (cmp:Br->Br->Int) (x:Sc):Int:=ckQ cmp (adc x.bx)
def xh (cmp:Br->Br->Int) (x:Sc):Bool:=(ckQ cmp (adc x.bx)==((0:Nat):Int)) && !((adc x.bx).any alC)
theorem Cc (e:List Nd) (c:Bool) (qs:List Sq) (g:Bool) (cmp:Br->Br->Int) (d:Int) (a:List UInt8) (b:∀ y ∈ e,y.sm) (f:e.length<2^40) (j:qs= []):
  CO 28 [.sl (aX e) e.length c,.sl (lT (qs.map Sq.c)) qs.length g,ω d,.str a] (.ret (ω ((kF (xf cmp) (xh cmp) e (qs.map Sq.c) d a:Nat):Int))):=by
 subst j;have h:=abX e c ([].map Sq.c) g (xf cmp) (xh cmp) d a b f (by decide) rfl
  (λi=>af9 e c (dE e) [] (by rw [show (dE e==((0:Nat):Int))=false from beq_eq_false_iff_ne.2 i];rfl) (xA e c b))
 rw [Xqp] at h;exact h
theorem pq {p q:Prop} (h:p) (e:p=q):q:=e ▸ h
theorem Om {a:List Nd} (h:a.all (λx=>Xqn (x.num.length+1) 8589934592 && Xqn (x.den.length+1) 8589934592)=true):∀ x ∈ a,x.sm:=by
 intro x b;have:=List.all_eq_true.1 h x b;rw [τ] at this;exact ⟨Xzi this.1,Xzi this.2⟩
def fB (y x:Br):Int:=iH (vQ y.fn y.fa y.fd) (vQ x.fn x.fa x.fd)
theorem LW {n:Bool} {a d:List UInt8} (h:jG n a d=true):vQ n a d=⟨n,ag a,ag d⟩:=by unfold vQ;rw [if_pos h]
structure jA where
 ls:List Lk
 qs:List Sq
abbrev aoi (E:jA):AV:= .agg [.mp (DR E.ls).1 (DR E.ls).2,.mp (Gp (E.qs.map Sq.c)).1 (Gp (E.qs.map Sq.c)).2]
def Ye (qs:List Sq) (op:Int) (nm:List UInt8) (st:RQ) (a:Oq):Oq:=
 if op=20 then (if a.bit then Q4 (!a.one) else .err 13)
 else if op=24 then .err 12
 else if op=21 then uU (lu a.q st) else if op=22 then uU (Yt a.q st) else uU (XH a.q st)
def jg (E:jA) (x:Nd) (l:List Oq):Oq:=
 if x.op<=4 then CU x.neg x.num x.den 0 else if x.op<=8 then (Rf E.ls x.op x.name).getD (.err 12)
 else match l with
 | [a]=>if a.e=0 then Ye E.qs x.op x.name (vQ x.neg x.num x.den) a else a
 | [a,b]=>if a.e=0 then (if b.e=0 then sN x.op a b else b) else a
 | [a,b,c]=>RN a b c
 |_=> .err 11
def acl (x:Nd):Prop:=21<=x.op->x.op<=23->eP x.neg x.num x.den=true/\0<rU x.neg x.num x.den
theorem Tv {a s:RQ} (c:oJ a=true) (b:oJ s=true):zx 10000 (XH a s)/\zx 10000 (Yt a s)/\zx 10000 (lu a s):=by
 have sd:=MX c b;have e:zx 51 s:=fC b;have d:=Ui sd (e.mono (show 51<=208 by decide));refine ⟨?_, ?_,sd.mono (by decide)⟩
 .unfold XH;split
  .exact d.mono (by decide)
  .exact sd.mono (by decide)
 .unfold Yt;split
  .exact zx.mono (L:=51) (fC c) (by decide)
  .exact d.mono (by decide)
theorem Oy {a s:RQ} (b:a.ok) (hs:s.ok):(Yt a s).ok/\(XH a s).ok:=by
 constructor
 .unfold Yt;split
  .exact b
  .exact jr (iZ hs) hs
 .unfold XH;split
  .exact jr (iZ hs) hs
  .exact iZ hs
theorem Sv (E:jA) (x:Nd) (B:Bool) (a:Oq) (n:20<=x.op/\x.op<=24) (k:acl x) (H:a.ok) (I:a.e=0) (u:E.qs= []):
  CO 193 [aoi E,.agg (xg x),.sl (Qa a) 1 B] (.ret (gQ (Ye E.qs x.op x.name (vQ x.neg x.num x.den) a))):=by
 obtain ⟨q,rfl,i,h⟩:=Dp H I;obtain ⟨f,w,y,v,t⟩:=x;unfold Ye;simp only at n k ⊢;have step:21<=f->f<=23->∃ b:RQ,vQ w y v=b/\b.ok/\oJ b=true/\0<jQ b/\y=ae b.n/\v=ae b.d/\w=b.neg:=by
  intro m o;obtain ⟨G,F⟩:=k m o;obtain ⟨g,D⟩:=oL G;refine ⟨_,rfl,fJ _ _ _,by rw [LW g];exact D,by rw [<- AQ];exact F, ?_, ?_, ?_⟩
  .rw [LW g];exact (nK g).1.symm
  .rw [LW g];exact (nK g).2.symm
  .rw [LW g]
 have s:∀ {r:RQ},zx 10000 r->r.ok->CO 215 [qA r] (.ret (gQ (uU r))):=λm o=>uu o (χ m.1 (by decide)) (χ m.2 (by decide))
 have h5:f=20\/f=21\/f=22\/f=23\/f=24:=by omega
 rcases h5 with rfl|rfl|rfl|rfl|rfl
 .rw [if_pos rfl];have z:=qj (.val q);generalize Oq.bit (.val q)=w2 at*
  generalize Oq.one (.val q)=w1 at*
  cases w2 with
  |false=>exact adK (.val q) _ _ _ _ _ _ _ _ _ _ _ rfl z (kY 13)
  |true=>exact adL (.val q) _ _ _ _ _ _ _ _ _ _ _ _ rfl z (nI _)
 .obtain ⟨b,e,d,c,j,rfl,rfl,rfl⟩:=step (by decide) (by decide);rw [e,if_neg (by decide),if_neg (by decide),if_pos rfl];exact adM (.val q) _ _ b _ _ _ _ _ _ (BH i h d c j) (s (Tv h c).2.2 (iZ d))
 .obtain ⟨b,e,d,c,j,rfl,rfl,rfl⟩:=step (by decide) (by decide);rw [e,if_neg (by decide),if_neg (by decide),if_neg (by decide),if_pos rfl];exact adN (.val q) _ _ b _ _ _ _ _ _ (aiw i h d c j) (s (Tv h c).2.1 (Oy i d).1)
 .obtain ⟨b,e,d,c,j,rfl,rfl,rfl⟩:=step (by decide) (by decide);rw [e,if_neg (by decide),if_neg (by decide),if_neg (by decide),if_neg (by decide)];exact adO (.val q) _ _ b _ _ _ _ _ _ (Zr i h d c j) (s (Tv h c).1 (Oy i d).2)
 .rw [if_neg (by decide),if_pos rfl];obtain ⟨C,p⟩:=E;have u:p= []:=u;subst u;have A:=QB (([]:List Sq).map Sq.c) t;rw [show scO (([]:List Sq).map Sq.c) t=none from rfl] at A;exact adP (.val q) _ _ false _ _ t [] 0 0 _ _ _ _ [] 0 (by rw [A];exact bY.zsc) rfl (Oh _) (kY 12)
def rF (l:List Oq):List AV:=l.flatMap Qa
theorem Zt (E:jA) (x:Nd) (f:Bool) (l:List Oq) (h0:1<=x.op) (q:x.op<=24) (s:acl x) (n:l.length=j_ x.op) (w:∀ o ∈ l,o.ok) (r:x.sm) (B:E.qs= []):
  CO 166 [aoi E,.agg (xg x),.sl (rF l) l.length f] (.ret (gQ (jg E x l))):=by
 obtain ⟨d,i,j,g,e⟩:=x;unfold jg;simp only at h0 q s n ⊢;have k:∀ {p:Prop} [Decidable p],¬ p->lit false (decide p)=true:=λh=>az (Yq1 h)
 have v:∀ o:Oq,o.e=0->lit false (!(o.e==((0:Nat):Int)))=true:=λo h=>by rw [h];rfl
 have z:∀ o:Oq,¬ o.e=0->lit true (!(o.e==((0:Nat):Int)))=true:=λo h=>by rw [show (o.e==((0:Nat):Int))=false from beq_eq_false_iff_ne.2 h];rfl
 by_cases h4:d<=4
 .rw [if_pos h4];have:j_ d=0:=by unfold j_;rw [if_neg (by omega),if_neg (by omega),if_neg (by omega)]
  rw [this,Xke] at n;subst n;exact ah_ _ i f j g e d _ _ _ _ (aA (Yq0 h4)) (ah7 i f j g e d _ _ _ _ _ [] 0 (Pn i j g (Xzj r.1 (by decide)) (Xzj r.2 (by decide))))
 .rw [if_neg h4];by_cases h8:d<=8
  .rw [if_pos h8];have:j_ d=0:=by unfold j_;rw [if_neg (by omega),if_neg (by omega),if_neg (by omega)]
   rw [this,Xke] at n;subst n;refine aia _ i f j g e d _ _ _ _ (aA (Yq0 h8)) (k h4) ?_;have u:=agw E.ls d e;cases t:Rf E.ls d e with
   |none=>
    rw [t] at u;exact ah8 i f false j g e d _ _ _ _ _ [] 0 u rfl (Gf _) (kY 12)
   |some o=>
    rw [t] at u;exact ah9 i f true j g e d o _ _ _ _ [] 0 u rfl (Gf _)
  .rw [if_neg h8];by_cases h15:d=15
   .have:j_ d=3:=by unfold j_;rw [if_pos h15]
    rw [this] at n
    match l,n with
    | [a,b,c],_=>
     exact aig a b c _ i f j g e d _ _ _ _ (aA (by rw [h15];rfl)) (k h8) (k h4) (Sj d i f j g e _ _ _ _ a b c)
   .have m:lit false (d==((15:Nat):Int))=true:=by rw [show (d==((15:Nat):Int))=false from beq_eq_false_iff_ne.2 h15];rfl
    by_cases h19:d<=19
    .have:j_ d=2:=by unfold j_;rw [if_neg (by omega),if_pos (by omega)]
     rw [this] at n
     match l,n with
     | [a,b],_=>
      have y:=w a (by simp);have A:=w b (by simp);simp only;by_cases za:a.e=0
      .rw [if_pos za];by_cases zb:b.e=0
       .rw [if_pos zb];exact aif a b _ i f j g e d _ _ _ _ (v b zb) (v a za) m (k h8) (k h4) (Zv d i f j g e _ _ _ _ a b (by omega) y za A zb)
       .rw [if_neg zb];exact aie a b i f j g e d _ _ _ _ (z b zb) (v a za) m (k h8) (k h4)
      .rw [if_neg za];exact aid a b i f j g e d _ _ _ _ (z a za) m (k h8) (k h4)
    .have:j_ d=1:=by unfold j_;rw [if_neg (by omega),if_neg (by omega),if_pos (by omega)]
     rw [this] at n
     match l,n with
     | [a],_=>
      have y:=w a (by simp);simp only;by_cases za:a.e=0
      .rw [if_pos za];exact aic a _ i f j g e d _ _ _ _ (v a za) m (k h8) (k h4) (Sv E ⟨d,i,j,g,e⟩ f a ⟨by show 20<=d;omega,q⟩ s y za B)
      .rw [if_neg za];exact aib a i f j g e d _ _ _ _ (z a za) m (k h8) (k h4)
theorem abj {g:Int} {a b:Oq} (e:a.ok) (f:b.ok) (j:a.e=0) (i:b.e=0):(sN g a b).ok:=by
 obtain ⟨q,rfl,c,k⟩:=Dp e j;obtain ⟨r,rfl,d,m⟩:=Dp f i;unfold sN
 repeat' split
 all_goals first|exact wG (jr c d)|exact wG (Dc c d)|exact wG (Ce c d)|exact (by decide:(13:Int) ≠ 0)|exact f|exact e|exact Gu _|exact (by decide:(16:Int) ≠ 0)|(rename_i h;exact wG (qc c (Nat.pos_of_ne_zero h)))
theorem afF {qs:List Sq} {d:Int} {f:List UInt8} {b:RQ} {a:Oq} (ks:b.ok) (e:a.ok) (g:a.e=0):(Ye qs d f b a).ok:=by
 obtain ⟨q,rfl,c,h⟩:=Dp e g;unfold Ye
 repeat' split
 all_goals first|exact Gu _|exact (by decide:(13:Int) ≠ 0)|exact (by decide:(12:Int) ≠ 0)|exact wG (iZ ks)|exact wG (Oy c ks).1|exact wG (Oy c ks).2
theorem aiQ {a:List Lk} {c:Int} {b:List UInt8}:((Rf a c b).getD (.err 12)).ok:=by
 unfold Rf;cases a.find? _ with
 |none=>exact (by decide:(12:Int) ≠ 0)
 |some x=>exact Oj _ _ _ _
theorem IW {E:jA} {x:Nd} {l:List Oq} (d:∀ o ∈ l,o.ok):(jg E x l).ok:=by
 unfold jg;split
 .exact Oj _ _ _ _
 .split
  .exact aiQ
  .split
   .rename_i a;split
    .exact afF (fJ _ _ _) (d a (by simp)) (by assumption)
    .exact d a (by simp)
   .rename_i a b;split
    .split
     .exact abj (d a (by simp)) (d b (by simp)) (by assumption) (by assumption)
     .exact d b (by simp)
    .exact d a (by simp)
   .rename_i a b c;unfold RN
    repeat' split
    all_goals first|exact (by decide:(13:Int) ≠ 0)|exact d _ (by simp)
   .exact (by decide:(11:Int) ≠ 0)
abbrev QW (ls:List Lk) (cs:List Sc) (nl ns:Bool) (k1 v1 k2 v2:List AV):Hp:= [(0,⟨[.sl (eQ ls) ls.length nl,.sl (lT cs) cs.length ns],0,false,0,0,true⟩),(1,⟨[.mp k1 v1,.mp k2 v2],0,false,0,0,true⟩)]
abbrev Vap (a:Nat) (b:List Nd):Bool:=decide ((a:Int)<(b.length:Int))
abbrev VaT (a:Nat) (b:List (List Nat)):Prop:=(decide ((a:Int)<(b.length:Int)))=true
theorem adR (x:Nd) (o:Oq) (i f h d:Bool) (k:Nat) (c v1 a b s j:List AV) (e:List Nd) (A:List (List Nat)) (g:List Lk) (cs:List Sc) {nt:Nat} (q:56<=nt) (r:(ε ((δ (k:Int))*5) (aX e))=xg x++s) (u:(ε ((δ (k:Int))*1) (bG A))= [.sl [] 0 false]++j) (t:Vab k) (h0:Va3 k) (v:VaT k A) (n:(Vap k e)=true) (p:lit true (Vap k e)=true) (m:CO 166 [.agg [.mp c v1,.mp a b],.agg [ω x.op,.bool x.neg,.str x.num,.str x.den,.str x.name],.nilS] (Vad o)):ψ nt f118 ⟨[(3,.ptr 0 0 0),(5,.sl (bG A) A.length d),(7,.ptr 1 0 0),(8,.nilS),(23,.sl (aX e) e.length i),(24,ω (e.length:Int)),(25,ω (k:Int))],(QW g cs f h c v1 a b),.dead,[]⟩ (.normal) ⟨[(3,.ptr 0 0 0),(5,.sl (bG A) A.length d),(7,.ptr 1 0 0),(8,.ref 2 0 0 1),(23,.sl (aX e) e.length i),(24,ω (e.length:Int)),(25,ω ((k+1:Nat):Int))],(QW g cs f h c v1 a b++ [(2,⟨(Vaa o),0,false,0,4,true⟩)]),.dead,[]⟩:=pN 118 [] 3 1 (.k 12 h0 (.c v (.k 6 h0 (.c n (.c p .nil))))) (.v 54 (.eq t) (.c m (.v 32 (.ppt u) (.v 28 (.ppt r) .nil)))) q
theorem adS (f a i j:Bool) (k:Nat) (g v1 b h:List AV) (e:List Nd) (A:List (List Nat)) (d:List Lk) (cs:List Sc) {nt:Nat} (c:56<=nt) (h0:lit false (Vap k e)=true):ψ nt f118 ⟨[(3,.ptr 0 0 0),(5,.sl (bG A) A.length j),(7,.ptr 1 0 0),(8,.nilS),(23,.sl (aX e) e.length f),(24,ω (e.length:Int)),(25,ω (k:Int))],(QW d cs a i g v1 b h),.dead,[]⟩ (.exit 0) ⟨[(8,.nilS)],[],.dead,[]⟩:=pN 118 [] 1 0 (.c h0 .nil) (.nil) c
abbrev Va5 (a:List (List Nat)) (b:Bool) (c:List Oq) (d:List Nd) (e:Bool) (f:Nat) (g:List Lk) (h:List Sc) (i:Bool) (j:Bool) (k:List AV) (l:List AV) (m:List AV) (n:List AV):St:=⟨[(3,.ptr 0 0 0),(5,.sl (bG a) a.length b),(7,.ptr 1 0 0),(8,.ref 2 0 0 c.length),(23,.sl (aX d) d.length e),(24,ω (d.length:Int)),(25,ω (f:Int))],(QW g h i j k l m n++ [(2,⟨(rF c),0,false,0,4,true⟩)]),.dead,[]⟩
abbrev Va9 (a:List (List Nat)) (b:Bool) (c:List Oq) (d:List Nd) (e:Bool) (f:Nat) (g:List Lk) (h:List Sc) (i:Bool) (j:Bool) (k:List AV) (l:List AV) (m:List AV) (n:List AV) (o:Oq):St:=⟨[(3,.ptr 0 0 0),(5,.sl (bG a) a.length b),(7,.ptr 1 0 0),(8,.ref 2 0 0 (c.length+1)),(23,.sl (aX d) d.length e),(24,ω (d.length:Int)),(25,ω ((f+1:Nat):Int))],(QW g h i j k l m n++ [(2,⟨(rF (c++ [o])),0,false,0,4,true⟩)]),.dead,[]⟩
abbrev VaO (a:List Oq) (b:Oq):Prop:=((π (a.length*4) (rF a))++ (Vaa b))=(rF (a++ [b]))
theorem aip (x:Nd) (o:Oq) (m h j g:Bool) (k:Nat) (d v1 a c u n:List AV) (e:List Nd) (A:List (List Nat)) (os:List Oq) (i:List Lk) (cs:List Sc) {nt:Nat} (s:56<=nt) (t:(ε ((δ (k:Int))*5) (aX e))=xg x++u) (w:(ε ((δ (k:Int))*1) (bG A))= [.sl [] 0 false]++n) (b:VaO os o) (v:Vab k) (h0:(Xqn (os.length+1) 1099511627776)=true) (y:(Xqn (os.length*4) (θ (rF os)))=true) (f:Va3 k) (r:VaT k A) (q:(Vap k e)=true) (h5:lit true (Vap k e)=true) (p:CO 166 [.agg [.mp d v1,.mp a c],.agg [ω x.op,.bool x.neg,.str x.num,.str x.den,.str x.name],.nilS] (Vad o)):ψ nt f118 (Va5 A g os e m k i cs h j d v1 a c) (.normal) (Va9 A g os e m k i cs h j d v1 a c o):=pN 118 [] 2 1 (.k 1 h0 (.c y (.k 10 f (.c r (.k 6 f (.c q (.c h5 .nil))))))) (.v 54 (.eq v) (.b 53 b (.c p (.v 32 (.ppt w) (.v 28 (.ppt t) .nil))))) s
theorem aiq (f a i j:Bool) (k:Nat) (g v1 b h:List AV) (e:List Nd) (A:List (List Nat)) (os:List Oq) (d:List Lk) (cs:List Sc) {nt:Nat} (c:56<=nt) (h0:lit false (Vap k e)=true):ψ nt f118 (Va5 A j os e f k d cs a i g v1 b h) (.exit 0) (VP os.length (rF os)):=pN 118 [] 1 0 (.c h0 .nil) (.nil) c
abbrev VaB (a:Nat) (b:List Oq):Prop:=(decide ((a:Int)<(b.length:Int)))=true
abbrev VaM (a:Nat) (b:List Oq) (c:Oq) (d:List AV):Prop:=(ε ((0+(δ (a:Int)))*4) (rF b))=Qa c++d
theorem air (x:Nd) (o b:Oq) (q j p i:Bool) (k c:Nat) (h v1 d g B r y:List AV) (e:List Nd) (A:List (List Nat)) (os:List Oq) (n:List Lk) (cs:List Sc) {nt:Nat} (w:56<=nt) (z:(ε ((δ (k:Int))*5) (aX e))=xg x++B) (D:(ε ((δ (k:Int))*1) (bG A))= [.sl [ω (c:Int)] 1 false]++r) (a:VaM c os b y) (f:VaO os o) (C:Vab k) (h0:(Xqn (os.length+1) 1099511627776)=true) (F:(Xqn (os.length*4) (θ (rF os)))=true) (t:Va3 c) (u:VaB c os) (m:Va3 k) (h5:VaT k A) (v:(Vap k e)=true) (h7:lit true (Vap k e)=true) (s:CO 166 [.agg [.mp h v1,.mp d g],.agg [ω x.op,.bool x.neg,.str x.num,.str x.den,.str x.name],.sl (Vaa b) 1 true] (Vad o)):ψ nt f118 (Va5 A i os e q k n cs j p h v1 d g) (.normal) (Va9 A i os e q k n cs j p h v1 d g o):=pN 118 [] 4 3 (.k 1 h0 (.c F (.n 12 (.a (vz [.bool,.str,.str,.int .i64] a rfl) (.c t (.c u (.k 5 m (.c h5 (.k 6 m (.c v (.c h7 .nil))))))))))) (.v 54 (.eq C) (.b 53 f (.c s (.v 43 (.rd [.bool,.str,.str,.int .i64] a rfl) (.v 32 (.ppt D) (.v 28 (.ppt z) .nil)))))) w
theorem ais (x:Nd) (o c d:Oq) (t p s n:Bool) (k g f:Nat) (m v1 h j I u F G:List AV) (e:List Nd) (A:List (List Nat)) (os:List Oq) (r:List Lk) (cs:List Sc) {nt:Nat} (B:56<=nt) (H:(ε ((δ (k:Int))*5) (aX e))=xg x++I) (K:(ε ((δ (k:Int))*1) (bG A))= [.sl [ω (g:Int),ω (f:Int)] 2 false]++u) (b:VaM g os c F) (a:VaM f os d G) (i:VaO os o) (J:Vab k) (h0:(Xqn (os.length+1) 1099511627776)=true) (L:(Xqn (os.length*4) (θ (rF os)))=true) (w:Va3 f) (z:VaB f os) (y:Va3 g) (h5:VaB g os) (q:Va3 k) (h7:VaT k A) (C:(Vap k e)=true) (D:lit true (Vap k e)=true) (v:CO 166 [.agg [.mp m v1,.mp h j],.agg [ω x.op,.bool x.neg,.str x.num,.str x.den,.str x.name],.sl (Va2 c d) 2 true] (Vad o)):ψ nt f118 (Va5 A n os e t k r cs p s m v1 h j) (.normal) (Va9 A n os e t k r cs p s m v1 h j o):=pN 118 [] 5 11 (.k 1 h0 (.c L (.n 13 (.a (vz [.bool,.str,.str,.int .i64] a rfl) (.c w (.c z (.n 7 (.a (vz [.bool,.str,.str,.int .i64] b rfl) (.c y (.c h5 (.k 5 q (.c h7 (.k 6 q (.c C (.c D .nil))))))))))))))) (.v 54 (.eq J) (.b 53 i (.c v (.v 43 (.rd [.bool,.str,.str,.int .i64] a rfl) (.v 43 (.rd [.bool,.str,.str,.int .i64] b rfl) (.v 32 (.ppt K) (.v 28 (.ppt H) .nil))))))) B
theorem ait (x:Nd) (o f g a:Oq) (z u y t:Bool) (k i h j:Nat) (s v1 m q O B L M J:List AV) (e:List Nd) (A:List (List Nat)) (os:List Oq) (w:List Lk) (cs:List Sc) {nt:Nat} (I:56<=nt) (N:(ε ((δ (k:Int))*5) (aX e))=xg x++O) (R:(ε ((δ (k:Int))*1) (bG A))= [.sl [ω (i:Int),ω (h:Int),ω (j:Int)] 3 false]++B) (c:VaM i os f L) (b:VaM h os g M) (d:VaM j os a J) (p:VaO os o) (Q:Vab k) (h0:(Xqn (os.length+1) 1099511627776)=true) (S:(Xqn (os.length*4) (θ (rF os)))=true) (D:Va3 j) (G:VaB j os) (F:Va3 h) (h5:VaB h os) (H:Va3 i) (h7:VaB i os) (v:Va3 k) (K:VaT k A) (n:(Vap k e)=true) (r:lit true (Vap k e)=true) (C:CO 166 [.agg [.mp s v1,.mp m q],.agg [ω x.op,.bool x.neg,.str x.num,.str x.den,.str x.name],.sl [.bool f.n,.str f.a,.str f.d,ω f.e,.bool g.n,.str g.a,.str g.d,ω g.e,.bool a.n,.str a.a,.str a.d,ω a.e] 3 true] (Vad o)):ψ nt f118 (Va5 A t os e z k w cs u y s v1 m q) (.normal) (Va9 A t os e z k w cs u y s v1 m q o):=pN 118 [] 6 27 (.k 1 h0 (.c S (.n 13 (.a (vz [.bool,.str,.str,.int .i64] d rfl) (.c D (.c G (.n 8 (.a (vz [.bool,.str,.str,.int .i64] b rfl) (.c F (.c h5 (.n 7 (.a (vz [.bool,.str,.str,.int .i64] c rfl) (.c H (.c h7 (.k 5 v (.c K (.k 6 v (.c n (.c r .nil))))))))))))))))))) (.v 54 (.eq Q) (.b 53 p (.c C (.v 43 (.rd [.bool,.str,.str,.int .i64] d rfl) (.v 43 (.rd [.bool,.str,.str,.int .i64] b rfl) (.v 43 (.rd [.bool,.str,.str,.int .i64] c rfl) (.v 32 (.ppt R) (.v 28 (.ppt N) .nil)))))))) I
abbrev Vau (a:List Nd) (b:Bool) (c:List Lk) (d:Bool) (e:List Sc) (f:Bool):List AV:=[.sl (aX a) a.length b,.agg [.sl (eQ c) c.length d,.sl (lT e) e.length f]]
theorem aly (c b d i:Bool) (g v1 f h:List AV) (e:List Nd) (A:List (List Nat)) (os:List Oq) (a:List Lk) (cs:List Sc) (k:CO 59 (VaQ e c) (.ret (.tup [.sl (bG A) A.length i,.bool true]))) (j:CO 165 [.agg [.sl (eQ a) a.length b,.sl (lT cs) cs.length d]] (.ret (.agg [.mp g v1,.mp f h]))) (m:LB 56 0 f118 ⟨[(0,.sl (aX e) e.length c),(1,.agg [.sl (eQ a) a.length b,.sl (lT cs) cs.length d]),(3,.ptr 0 0 0),(4,.nilS),(5,.sl (bG A) A.length i),(6,.bool true),(7,.ptr 1 0 0),(8,.nilS),(9,.dead),(10,.dead),(11,.dead),(13,.dead),(20,.bool false),(23,.sl (aX e) e.length c),(24,ω (e.length:Int)),(25,ω 0),(26,.dead),(33,.dead),(34,.dead),(35,.dead),(36,.dead)],(QW a cs b d g v1 f h),.dead,[]⟩ (.normal) (VP os.length (rF os))):CO 118 (Vau e c a b cs d) (.ret (.own (π (os.length*4) (rF os)) os.length 4)):=pK [0] 1 0 (.n 4 .nil) (.l m (.c j (.c k .nil)))
theorem alz (b c f:Bool) (e:List Nd) (a:List Lk) (cs:List Sc) (d:CO 59 (VaQ e b) (.ret (.tup [.nilS,.bool false]))):CO 118 (Vau e b a c cs f) (.ret (.nilS)):=pK [] 1 1 (.n 1 .nil) (.c d .nil)
theorem alg (o:Oq) (d b f:Bool) (k:Nat) (r:List AV) (e:List Nd) (os:List Oq) (a:List Lk) (cs:List Sc) (c:VaM k os o r) (g:ω (γ .i64 ((os.length:Int) - ((1:Nat):Int)))=ω (k:Int)) (h0:Va3 k) (h:VaB k os) (j:lit false ((os.length:Int)==((0:Nat):Int))=true) (i:CO 118 (Vau e d a b cs f) (.ret (.own (rF os) os.length 4))):CO 73 (Vau e d a b cs f) (Vad o):=pK [] 1 0 (.n 5 (.a (vz [.bool,.str,.str,.int .i64] c rfl) (.c h0 (.c h (.c j (.n 2 .nil)))))) (.v 18 (.rd [.bool,.str,.str,.int .i64] c rfl) (.v 16 (.eq g) (.c i .nil)))
theorem alf (c b d:Bool) (e:List Nd) (a:List Lk) (cs:List Sc) (g:CO 118 (Vau e c a b cs d) (.ret (.nilS))) (f:CO 119 [ω 11] (.ret (.agg [.bool false,.str [],.str [],ω 11]))):CO 73 (Vau e c a b cs d) (.ret (.agg [.bool false,.str [],.str [],ω 11])):=pK [] 1 1 (.n 8 .nil) (.c f (.c g .nil))
def Yn (E:jA) (A:List (List Nat)):List Nd->List Oq->List Oq
 | [],os=>os
 |x::r,os=>Yn E A r (os++ [jg E x ((A.getD os.length []).map λj=>os.getD j zO)])
def fO (E:jA) (e:List Nd):List Oq:=Yn E (bP e) e []
def m_ (E:jA) (e:List Nd):Oq:=if dE e=0 then (fO E e).getLastD (.err 11) else .err 11
theorem NS (l:List Oq):(rF l).length=l.length*4:=Z7 Qa 4 (λ_=>rfl) l
theorem qY {l:List Oq} {k:Nat} (h:k<l.length):ε ((0+δ (k:Int))*4) (rF l)=Qa (l.getD k zO)++rF (l.drop (k+1)):=by
 rw [aJ,Δ,ξ,μ h];exact Nr Qa 4 (λ_=>rfl) h
theorem Cm (l:List Oq) (o:Oq):π (l.length*4) (rF l)++ [.bool o.n,.str o.a,.str o.d,ω o.e]=rF (l++ [o]):=by
 rw [φ (by rw [NS];exact κ _)];unfold rF;rw [Xx9];rfl
def teO (os:List Oq):AV:=match os with| []=> .nilS|_::_=> .ref 2 0 0 os.length
def teB (os:List Oq):Hp:=match os with| []=> []|_::_=> [(2,⟨rF os,0,false,0,4,true⟩)]
abbrev teS (E:jA) (nl ns ne na:Bool) (e:List Nd) (A:List (List Nat)) (os:List Oq):St:=⟨[(3,.ptr 0 0 0),(5,.sl (bG A) A.length na),(7,.ptr 1 0 0),(8,teO os),(23,.sl (aX e) e.length ne),(24,ω (e.length:Int)),(25,ω (os.length:Int))],QW E.ls (E.qs.map Sq.c) nl ns (DR E.ls).1 (DR E.ls).2 (Gp (E.qs.map Sq.c)).1 (Gp (E.qs.map Sq.c)).2++teB os,.dead,[]⟩
def ahg (os:List Oq):St:=match os with| []=> ⟨[(8,.nilS)],[],.dead,[]⟩|_::_=>(VP os.length (rF os))
theorem acv (E:jA) (b d c f:Bool) (e:List Nd) (A:List (List Nat)) (os:List Oq) (o:Oq):teS E b d c f e A (os++ [o])=⟨[(3,.ptr 0 0 0),(5,.sl (bG A) A.length f),(7,.ptr 1 0 0),(8,.ref 2 0 0 (os.length+1)),(23,.sl (aX e) e.length c),(24,ω (e.length:Int)),(25,ω ((os.length+1:Nat):Int))],QW E.ls (E.qs.map Sq.c) b d (DR E.ls).1 (DR E.ls).2 (Gp (E.qs.map Sq.c)).1 (Gp (E.qs.map Sq.c)).2++ [(2,⟨rF (os++ [o]),0,false,0,4,true⟩)],.dead,[]⟩:=by
 cases os with
 |nil=>rfl
 |cons a r=>
  show (⟨[(3,_),(5,_),(7,_),(8,.ref 2 0 0 (a::r++ [o]).length),(23,_),(24,_),(25,ω (((a::r++ [o]).length:Nat):Int))],_,_,_⟩:St)=_;rw [show (a::r++ [o]).length=(a::r).length+1 from ν];rfl
theorem JC (E:jA) (b d c f:Bool) (e:List Nd) (A:List (List Nat)) {os:List Oq} (h:0<os.length):teS E b d c f e A os=⟨[(3,.ptr 0 0 0),(5,.sl (bG A) A.length f),(7,.ptr 1 0 0),(8,.ref 2 0 0 os.length),(23,.sl (aX e) e.length c),(24,ω (e.length:Int)),(25,ω (os.length:Int))],QW E.ls (E.qs.map Sq.c) b d (DR E.ls).1 (DR E.ls).2 (Gp (E.qs.map Sq.c)).1 (Gp (E.qs.map Sq.c)).2++ [(2,⟨rF os,0,false,0,4,true⟩)],.dead,[]⟩:=by
 cases os with
 |nil=>simp at h
 |cons a r=>rfl
theorem V8 {x:Nd} (h:aQ x=0):acl x:=by
 intro d b;have a:jW x=true:=by
  cases c:jW x with
  |true=>rfl
  |false=>
   exfalso;unfold aQ at h;rw [c] at h;cases e:(!inI x.op||(!PZ x.op && !(x.name== [])))<;>rw [e] at h<;>cases h
 unfold jW at a;rw [show (x.op==((4:Nat):Int))=false from beq_eq_false_iff_ne.2 (by omega),show PL x.op=false from Yq1 (by omega),show Ug x.op=true from Yq0 ⟨d,b⟩] at a;simp only [cond,τ] at a;exact ⟨a.1,by have:=of_decide_eq_true a.2;omega⟩
theorem UF:∀ (r:List Nd) (d k:Nat),pY r d= .inl k->∀ x ∈ r,aQ x=0
 | [],_,_,_,x,hx=>by cases hx
 | y::r,d,k,h,x,hx=>by
  simp only [pY] at h;split at h
  .rename_i a;split at h
   .cases h
   .rcases List.mem_cons.1 hx with rfl|hx
    .exact a
    .exact UF r _ k h x hx
  .cases h
theorem ui {e:List Nd} (h:dE e=0):(∀ x ∈ e,aQ x=0)/\e.length<=60/\0<e.length:=by
 unfold dE at h;split at h
 .cases h
 .rename_i b;cases a:pY e 0 with
  |inl d=>
   refine ⟨UF e 0 d a,by omega, ?_⟩;cases e with
   |nil=>simp only [pY] at a;cases a;simp [pY] at h
   |cons _ _=>simp
  |inr w=>
   rw [a] at h;exact absurd h (MP _ _ _ a)
structure jA.sm (E:jA):Prop where
 ls:E.ls.length<2^40
 qs:E.qs.length<2^40
 lk:∀ x ∈ E.ls,x.a.length<2^36/\x.d.length<2^36
 sq:E.qs= []
theorem afL {nt:Nat} (F:56<=nt) (E:jA) (w z B v:Bool) {e:List Nd} (hE:E.sm) (Y:dE e=0) (U:∀ x ∈ e,x.sm):∀ (r p:List Nd) (os:List Oq),e=p++r->os.length=p.length->(∀ o ∈ os,o.ok)->
  aF prog ap [] nt (af 0 (ax f118)) (λ_=> .exit 0) (teS E w z B v e (bP e)) ahg os (Yn E (bP e) r os):=by
 obtain ⟨hw,h60,Z⟩:=ui Y;obtain ⟨hal,T⟩:=qG Y;intro r
 induction r with
 |nil=>
  intro p os hp f C;rw [Xqd] at hp;subst hp;cases os with
  |nil=>exact .done (adS B w z v 0 _ _ _ _ e (bP e) E.ls (E.qs.map Sq.c) F (az (Yq1 (by simp at f;omega))))
  |cons a r=>exact .done (aiq B w z v (a::r).length _ _ _ _ e (bP e) (a::r) E.ls (E.qs.map Sq.c) F (az (Yq1 (by omega))))
 | cons x r ih=>
  intro p os hp f C;have I:os.length<e.length:=by rw [hp,f];simp
  have M:e[os.length]=x:=by subst hp;simp [f]
  have G:x ∈ e:=by rw [<- M];exact Xxj I
  have N:ε (δ (os.length:Int)*5) (aX e)=xg x++aX r:=by subst hp;exact Gi f
  obtain ⟨b,d⟩:=T os.length x (by rw [μ I,M]);have J:=u_ (A:=bP e) (k:=os.length) (by omega);have y:=yC (hw x G);have t:=λ(nn:Bool) (l:List Oq) (V:l.length=j_ x.op) (hk:∀ o ∈ l,o.ok)=>Zt E x nn l y.1 y.2 (V8 (hw x G)) V hk (U x G) hE.sq
  have O:∀ j,(os.getD j zO).ok\/os.length<=j:=λj=>by
   rcases Nat.lt_or_ge j os.length with h|h
   .left;rw [ξ,μ h];exact C _ (Xxj h)
   .exact .inr h
  have c:∀ j ∈ (bP e).getD os.length [],(os.getD j zO).ok:=λj R=>(O j).resolve_right (by have:=d j R;omega)
  have H:∀ l:List Nat,(∀ j ∈ l,(os.getD j zO).ok)->∀ o ∈ os++ [jg E x (l.map λj=>os.getD j zO)],o.ok:=λl V o u=>by
   rcases List.mem_append.1 u with u|u
   .exact C o u
   .rw [Xwi] at u;subst u;exact IW λo u=>by
     obtain ⟨j,R,rfl⟩:=List.mem_map.1 u;exact V j R
  have nx:=ih (p++ [x]) (os++ [jg E x (((bP e).getD os.length []).map λj=>os.getD j zO)]) (by rw [hp];simp) (by simp [f]) (H _ c);refine .next ?_ nx
  rw [acv];have K:decide (((0:Nat):Int)<=(os.length:Int))=true:=Yq0 (by omega);have L:decide ((os.length:Int)<(((bP e).length:Nat):Int))=true:=Yq0 (by omega);have s:decide ((os.length:Int)<(e.length:Int))=true:=Yq0 (by omega);have n:=A7 (i:=os.length) (by omega);have Q:Xqn (os.length+1) 1099511627776=true:=Γ (by omega);have S:Xqn (os.length*4) (θ (rF os))=true:=Γ (by rw [NS];exact κ _);have g:∀ j,j<os.length->decide (((0:Nat):Int)<=(j:Int))=true/\decide ((j:Int)<(os.length:Int))=true:=λj R=> ⟨Yq0 (by omega),Yq0 (by omega)⟩
  generalize (bP e).getD os.length []=al at*
  have h3:=Rt x.op
  match al,b with
  | [],b=>
   have X:=(t false [] b (by simp)).args (jd.cons (bY.refl _) (jd.cons (bY.refl _) (jd.cons (bY.nilS false rfl) (jd.refl _))));cases os with
   |nil=>exact adR x _ B w z v 0 _ _ _ _ _ _ e (bP e) E.ls (E.qs.map Sq.c) F N J n K L s (aA s) X
   |cons a q=>
    exact aip x _ B w z v _ _ _ _ _ _ _ e (bP e) (a::q) E.ls (E.qs.map Sq.c) F N J (Cm _ _) n Q S K L s (aA s) X
  | [i],b=>
   have m:=d i (by simp);rw [JC _ _ _ _ _ _ _ (by omega)];exact air x _ (os.getD i zO) B w z v _ i _ _ _ _ _ _ _ e (bP e) os E.ls (E.qs.map Sq.c) F N J (qY m) (Cm _ _) n Q S (g i m).1 (g i m).2 K L s (aA s) (t true [os.getD i zO] b (by simpa using c i (by simp)))
  | [i,j],b=>
   have m:=d i (by simp);have D:=d j (by simp);rw [JC _ _ _ _ _ _ _ (by omega)];exact ais x _ (os.getD i zO) (os.getD j zO) B w z v _ i j _ _ _ _ _ _ _ _ e (bP e) os E.ls (E.qs.map Sq.c) F N J (qY m) (qY D) (Cm _ _) n Q S (g j D).1 (g j D).2 (g i m).1 (g i m).2 K L s (aA s) (t true [os.getD i zO,os.getD j zO] b (by
    intro o f;simp at f;rcases f with rfl|rfl
    .exact c i (by simp)
    .exact c j (by simp)))
  | [i,j,h],b=>
   have m:=d i (by simp);have D:=d j (by simp);have W:=d h (by simp);rw [JC _ _ _ _ _ _ _ (by omega)];exact ait x _ (os.getD i zO) (os.getD j zO) (os.getD h zO) B w z v _ i j h _ _ _ _ _ _ _ _ _ e (bP e) os E.ls (E.qs.map Sq.c) F N J (qY m) (qY D) (qY W) (Cm _ _) n Q S (g h W).1 (g h W).2 (g j D).1 (g j D).2 (g i m).1 (g i m).2 K L s (aA s) (t true [os.getD i zO,os.getD j zO,os.getD h zO] b (by
    intro o f;simp at f;rcases f with rfl|rfl|rfl
    .exact c i (by simp)
    .exact c j (by simp)
    .exact c h (by simp)))
  |_::_::_::_::_,b=>simp only [ο] at b;omega
theorem Gt (E:jA) (A:List (List Nat)):∀ (r:List Nd) (os:List Oq),(Yn E A r os).length=os.length+r.length
 | [],os=>by simp [Yn]
 |x::r,os=>by rw [Yn,Gt E A r];simp;omega
theorem Xe (E:jA) (c d a:Bool) {e:List Nd} (f:dE e ≠ 0) (b:∀ x ∈ e,x.sm):CO 118 [.sl (aX e) e.length a,.agg [.sl (eQ E.ls) E.ls.length c,.sl (lT (E.qs.map Sq.c)) (E.qs.map Sq.c).length d]] (.ret .nilS):=
 alz a c d e E.ls (E.qs.map Sq.c) (af9 e a (dE e) [] (by rw [show (dE e==((0:Nat):Int))=false from beq_eq_false_iff_ne.2 f];rfl) (xA e a b))
theorem Xf (E:jA) (b d c:Bool) {e:List Nd} (g:E.sm) (i:dE e=0) (f:∀ x ∈ e,x.sm):CO 118 [.sl (aX e) e.length c,.agg [.sl (eQ E.ls) E.ls.length b,.sl (lT (E.qs.map Sq.c)) (E.qs.map Sq.c).length d]] (.ret (.own (rF (fO E e)) (fO E e).length 4)):=by
 have k:(fO E e).length=e.length:=by unfold fO;rw [Gt];simp
 have j:=(ui i).2.2;have n:=Zu E.ls (E.qs.map Sq.c) b d (Xzj g.ls (by decide)) (by rw [Xqp];exact Xzj g.qs (by decide)) g.lk;have o:∀ nt,56<=nt->aF prog ap [] nt (af 0 (ax f118)) (λ_=> .exit 0) (teS E b d c true e (bP e)) ahg [] (fO E e):=λnt p=>afL p E b d c true g i f e [] [] rfl rfl (by simp)
 have m:=aF.blk (id:=0) (e':= .normal) (s:=⟨[(0,.sl (aX e) e.length c),(1,.agg [.sl (eQ E.ls) E.ls.length b,.sl (lT (E.qs.map Sq.c)) (E.qs.map Sq.c).length d]),(3,.ptr 0 0 0),(4,.nilS),(5,.sl (bG (bP e)) (bP e).length true),(6,.bool true),(7,.ptr 1 0 0),(8,.nilS),(9,.dead),(10,.dead),(11,.dead),(13,.dead),(20,.bool false),(23,.sl (aX e) e.length c),(24,ω (e.length:Int)),(25,ω 0),(26,.dead),(33,.dead),(34,.dead),(35,.dead),(36,.dead)],QW E.ls (E.qs.map Sq.c) b d (DR E.ls).1 (DR E.ls).2 (Gp (E.qs.map Sq.c)).1 (Gp (E.qs.map Sq.c)).2,.dead,[]⟩) (s':=(VP ((fO E e).length) (rF (fO E e)))) o (by simp) rfl (aK.of ⟨rfl,rfl,rfl,rfl,rfl,rfl,rfl,trivial⟩) (by
  generalize fO E e=t at k;cases t with
  |nil=>simp at k;omega
  |cons a r=>exact aK.refl _)
 have h:=aly c b d true _ _ _ _ e (bP e) (fO E e) E.ls (E.qs.map Sq.c) (GZ e c f i) n m;rw [φ (by rw [NS];exact κ _)] at h;exact h
theorem Zq (E:jA) (a d c:Bool) {e:List Nd} (i:E.sm) (b:∀ x ∈ e,x.sm):CO 73 [.sl (aX e) e.length c,.agg [.sl (eQ E.ls) E.ls.length a,.sl (lT (E.qs.map Sq.c)) (E.qs.map Sq.c).length d]] (.ret (gQ (m_ E e))):=by
 unfold m_;by_cases hc:dE e=0
 .rw [if_pos hc];have j:=Xf E a d c i hc b;have k:(fO E e).length=e.length:=by unfold fO;rw [Gt];simp
  obtain ⟨_,h,f⟩:=ui hc;have g:(fO E e).length - 1<(fO E e).length:=by omega
  have hlast:(fO E e).getLastD (.err 11)=(fO E e).getD ((fO E e).length - 1) zO:=by
   rw [Xwv,Xww,ξ,μ g];rfl
  rw [hlast];refine alg _ c a d ((fO E e).length - 1) _ e (fO E e) E.ls (E.qs.map Sq.c) (qY g) ?_ (Yq0 (by omega)) (Yq0 (by omega)) ?_ j
  .congr 1;rw [show (((fO E e).length:Nat):Int) - ((1:Nat):Int)=(((fO E e).length - 1:Nat):Int) by omega];exact bF (by omega)
  .rw [show ((((fO E e).length:Nat):Int)==((0:Nat):Int))=false from beq_eq_false_iff_ne.2 (by omega)];rfl
 .rw [if_neg hc];exact alf c a d e E.ls (E.qs.map Sq.c) (Xe E a d c hc b) (kY 11)
end Go.Proofs.Tryz
set_option maxRecDepth 100000
set_option linter.unusedVariables false
open Go AM
namespace AM
variable {P:Program} {ap:AP}
theorem aF.goD {α σ β:Type} {h0:List aU} {nt:Nat} {b:Code} {e:β->bI} {c:Nat × σ->St} {out:β->St} (F:σ->α->σ ⊕ β) (a:σ->β) (L:List α) (Inv:List α->σ->Prop)
  (hstep:∀ p x r s,L=p++x::r->Inv p s->(∃ s',F s x= .inl s'/\ak P ap h0 nt b (c (p.length,s)) .normal (c (p.length+1,s'))/\Inv (p++ [x]) s')\/∃ q,F s x= .inr q/\ak P ap h0 nt b (c (p.length,s)) (e q) (out q))
  (hend:∀ s,Inv L s->ak P ap h0 nt b (c (L.length,s)) (e (a s)) (out (a s))) (s:σ) (h:Inv [] s):aF P ap h0 nt b e c out (0,s) (AM.goL F a L s):=by
 refine aF.goL F a L Inv ?_ hend L [] s rfl h;intro p x r s g i;rcases hstep p x r s g i with ⟨s',f,d,j⟩|⟨q,f,d⟩
 .rw [f];exact ⟨d,j⟩
 .rw [f];exact d
end AM
namespace Go.Proofs.Tryz
theorem qL {α:Type} {f:α->List AV} {n:Nat} (a:∀ x,(f x).length=n) (l:List α):(l.flatMap f).length=l.length*n:=by
 induction l with
 |nil=>simp
 |cons x r ih=>rw [Xxx,ν,ih,a,ο,Xvx];omega
theorem fD {α:Type} {f:α->List AV} {n:Nat} (a:∀ x,(f x).length=n) {p r l:List α} {x:α} (h:l=p++x::r):ε (δ (p.length:Int)*n) (l.flatMap f)=f x++r.flatMap f:=by
 subst h;rw [aJ,Xx9,<- qL a p,Xv1,Xxx]
theorem ad3 {α:Type} {f:α->List AV} {n:Nat} (a:∀ x,(f x).length=n) (l:List α) (x:α) {k:Nat} (h:l.length=k):π (k*n) (l.flatMap f)++f x=(l++ [x]).flatMap f:=by
 rw [φ (by rw [qL a,h];exact κ _),Xx9,Xxx,List.flatMap_nil,Xqd]
theorem k0 (k:Nat):decide (((0:Nat):Int)<=(k:Int))=true:=Yq0 (by omega)
theorem kl {k n:Nat} (h:k<n):decide ((k:Int)<(n:Int))=true:=Yq0 (by omega)
theorem kn {k n:Nat} (h:n<=k):decide ((k:Int)<(n:Int))=false:=Yq1 (by omega)
theorem wZ {α:Type} {p r l:List α} {x:α} (h:l=p++x::r):p.length<l.length:=by subst h;simp
theorem Rh {k:Nat} (h:k<2^62):ω (γ .i64 ((k:Int)+((1:Nat):Int)))= ω ((k+1:Nat):Int):=by
 have e:γ .i64 ((k:Int)+((1:Nat):Int))=((k+1:Nat):Int):=by rw [dM]<;>omega
 rw [e]
structure Rw where
 n:Bool
 a:List UInt8
 d:List UInt8
deriving DecidableEq
abbrev Rw.c (x:Rw):List AV:= [.bool x.n,.str x.a,.str x.d]
abbrev Rw.v (x:Rw):RQ:=vQ x.n x.a x.d
def dF (l:List Rw):List AV:=l.flatMap Rw.c
theorem rw3 (x:Rw):x.c.length=3:=rfl
theorem jc (l:List Rw):(dF l).length=l.length*3:=qL rw3 l
def Xb (x y:Rw):Bool:=(x.n==y.n) && ((x.a==y.a) && ((x.d==y.d) && true))
theorem adI {x y:Rw}:Xb x y=decide (x=y):=by
 obtain ⟨n,a,d⟩:=x;obtain ⟨m,b,e⟩:=y;simp only [Xb,Xwo,Rw.mk.injEq];rw [Xzx];simp
def eqF (_:Unit) (x:Rw × Rw):Unit ⊕ Bool:=if Xb x.1 x.2 then .inl () else .inr false
theorem nT {α β:Type} {a:List α} {b:List β} (e:a.length=b.length) {p r:List (α × β)} {x:α} {y:β} (h:a.zip b=p++(x,y)::r):a=p.map (·.1)++x::r.map (·.1)/\b=p.map (·.2)++y::r.map (·.2):=by
 have d:=congrArg (Xz1 Prod.fst) h;have c:=congrArg (Xz1 Prod.snd) h;rw [List.map_fst_zip (by omega)] at d;rw [List.map_snd_zip (by omega)] at c;simp only [Xq5,Xqg] at d c;exact ⟨d,c⟩
theorem Nc:∀ {a b:List Rw},a.length=b.length->goL eqF (λ_=>true) (a.zip b) ()=decide (a=b)
 | [],[],_=>rfl
 |x::a,y::b,h=>by
  have c:=Nc (a:=a) (b:=b) (by simpa using h);simp only [Xzn,goL,eqF,adI];by_cases e:x=y
  .simp only [e,decide_true,if_true,List.cons.injEq,true_and];exact c
  .simp [e]
 | [],_::_,h=>by simp at h
 |_::_,[],h=>by simp at h
theorem ZK (x y:Rw):CO 83 [.agg x.c,.agg y.c] (.ret (.bool (Xb x y))):=pK [] 0 0 (.n 6 .nil) (.nil)
def ZP (a b:List Rw) (na nb:Bool) (p:Nat × Unit):St:=⟨[(0,.sl (dF a) a.length na),(1,.sl (dF b) b.length nb),(2,.fn 83 [] []),(15,.sl (dF a) a.length na),(16,ω (a.length:Int)),(17,ω (p.1:Int))],[],.dead,[]⟩
def YF:Bool->bI
 |true=> .exit 0
 |false=> .ret
def ZO:Bool->St
 |true=>C9
 |false=>VQ
theorem ZQ {nt:Nat} (d:32<=nt) (a b:List Rw) (g e:Bool) (f:a.length=b.length) (i:a.length<2^40):aF prog ap [] nt (af 0 (ax f129)) YF (ZP a b g e) ZO (0,()) (decide (a=b)):=by
 rw [<- Nc f];have t:(a.zip b).length=a.length:=by rw [Xzk];omega
 refine aF.goD eqF (λ_=>true) (a.zip b) (λ_ _=>True) ?_ ?_ () trivial
 .rintro p ⟨x,y⟩ r _ hL _
  obtain ⟨o,n⟩:=nT f hL;have m:(ε ((δ (p.length:Int))*3) (dF a))=x.c++dF (r.map (·.1)):=by have:=fD rw3 o;rwa [Xqp] at this
  have j:(ε ((δ (p.length:Int))*3) (dF b))=y.c++dF (r.map (·.2)):=by have:=fD rw3 n;rwa [Xqp] at this
  have c:(decide ((p.length:Int)<(a.length:Int)))=true:=kl (by have:=wZ hL;omega);have h:(decide ((p.length:Int)<(b.length:Int)))=true:=by rw [<- f];exact c
  have s:p.length<2^62:=by have:=wZ hL;omega
  show (∃ s',_/\ak _ _ _ _ _ (ZP a b g e (p.length,())) _ _/\_)\/∃ q,_/\ak _ _ _ _ _ (ZP a b g e (p.length,())) _ _;generalize p.length=k at*
  clear hL o n;rcases tf (Xb x y) with b0|b0
  .exact .inl ⟨_,by simp only [eqF,b0,if_true];rfl,pN 129 [] 2 1 (.c (aP b0) (.k 10 (k0 k) (.c h (.k 4 (k0 k) (.c c (.c (aA c) .nil)))))) (.v 31 (.eq (Rh s)) (.c (ZK x y) (.v 24 (.ppt j) (.v 20 (.ppt m) .nil)))) d,trivial⟩
  .exact .inr ⟨_,by simp only [eqF,b0,Xqy,if_false];rfl,pN 129 [] 2 3 (.c (dC b0) (.k 10 (k0 k) (.c h (.k 4 (k0 k) (.c c (.c (aA c) .nil)))))) (.c (ZK x y) (.v 24 (.ppt j) (.v 20 (.ppt m) .nil))) d⟩
 .intro _ _;rw [t];exact pN 129 [] 1 0 (.c (az (kn (κ a.length))) .nil) (.nil) d
theorem aij (a b:List Rw) (c e:Bool) (f:a.length<2^40):CO 129 [.sl (dF a) a.length c,.sl (dF b) b.length e,.fn 83 [] []] (.ret (.bool (decide (a=b)))):=by
 by_cases hl:a.length=b.length
 .have g:((a.length:Int)==(b.length:Int))=true:=by rw [hl];exact beq_self_eq_true _
  have hloop:=λnt (hn:32<=nt)=>ZQ hn a b c e hl f
  cases hd:decide (a=b) with
  |true=>
   rw [hd] at hloop;have j:=aF.blk (id:=0) (e':= .normal) (s:=ZP a b c e (0,())) (s':=ZO true) hloop (by simp [YF]) rfl (aK.refl _) (aK.refl _);have i:LB 32 0 f129 (VS (.sl (dF a) a.length c) (.sl (dF b) b.length e) (.fn 83 [] []) (!((a.length:Int)==(b.length:Int))) (.sl (dF a) a.length c) a.length) (.normal) C9:=(λnt d=>(j nt d).weak (aK.of ⟨rfl,rfl,rfl,rfl,rfl,rfl,trivial⟩) (aK.refl _))
   exact pK [0] 1 0 (.c (aP g) .nil) (.l i .nil)
  |false=>
   rw [hd] at hloop;have j:=aF.blk (id:=0) (e':= .ret) (s:=ZP a b c e (0,())) (s':=ZO false) hloop (by simp [YF]) rfl (aK.refl _) (aK.refl _);have i:LB 32 0 f129 (VS (.sl (dF a) a.length c) (.sl (dF b) b.length e) (.fn 83 [] []) (!((a.length:Int)==(b.length:Int))) (.sl (dF a) a.length c) a.length) (.ret) VQ:=(λnt d=>(j nt d).weak (aK.of ⟨rfl,rfl,rfl,rfl,rfl,rfl,trivial⟩) (aK.refl _))
   exact pK [0] 1 0 (.c (aP g) .nil) (.l i .nil)
 .have g:((a.length:Int)==(b.length:Int))=false:=beq_eq_false_iff_ne.2 (by omega);rw [Yq1 (λh=>hl (by rw [h]))];exact pK [0] 1 1 (.c (dC g) .nil) (.nil)
theorem Np (a b:List Rw) (e d:Bool) (c:a.length<2^40):CO 45 [.sl (dF a) a.length e,.sl (dF b) b.length d] (.ret (.bool (decide (a=b)))):=
 have h:CO 82 [.sl (dF a) a.length e,.sl (dF b) b.length d,.fn 83 [] []] (.ret (.bool (decide (a=b)))):=pK [] 0 0 .nil (.c (aij a b e d c) .nil)
 pK [] 0 0 .nil (.c h .nil)
abbrev fZ (v:List Rw):AV:= .sl (dF v) v.length false
def vw (c:List (List Rw)):List AV:=c.flatMap λv=> [fZ v]
theorem ch1 (v:List Rw):([fZ v]:List AV).length=1:=rfl
theorem FW (l:List (List Rw)):vw l=l.map fZ:=by
 induction l with
 |nil=>rfl
 |cons x l ih=>rw [Xqg,<- ih];rfl
def ZM (_:Unit) (x:List Rw × List Rw):Unit ⊕ Bool:=if (decide (x.1=x.2)) then .inl () else .inr false
theorem Hz:∀ {a b:List (List Rw)},a.length=b.length->goL ZM (λ_=>true) (a.zip b) ()=decide (a=b)
 | [],[],_=>rfl
 |x::a,y::b,h=>by
  have c:=Hz (a:=a) (b:=b) (by simpa using h);simp only [Xzn,goL,ZM];by_cases e:x=y
  .simp only [e,decide_true,if_true,List.cons.injEq,true_and];exact c
  .simp [e]
 | [],_::_,h=>by simp at h
 |_::_,[],h=>by simp at h
def Pm (a b:List (List Rw)) (na nb:Bool) (p:Nat × Unit):St:=⟨[(0,.sl (vw a) a.length na),(1,.sl (vw b) b.length nb),(2,.fn 45 [] []),(15,.sl (vw a) a.length na),(16,ω (a.length:Int)),(17,ω (p.1:Int))],[],.dead,[]⟩
def aii:Bool->bI
 |true=> .exit 0
 |false=> .ret
def Su:Bool->St
 |true=>C9
 |false=>VQ
theorem Xc {nt:Nat} (h:32<=nt) (a b:List (List Rw)) (g e:Bool) (f:a.length=b.length) (n:a.length<2^40) (j:∀ v ∈ a,v.length<2^40):aF prog ap [] nt (af 0 (ax f84)) aii (Pm a b g e) Su (0,()) (decide (a=b)):=by
 rw [<- Hz f];have u:(a.zip b).length=a.length:=by rw [Xzk];omega
 refine aF.goD ZM (λ_=>true) (a.zip b) (λ_ _=>True) ?_ ?_ () trivial
 .rintro p ⟨x,y⟩ r _ hL _
  obtain ⟨i,s⟩:=nT f hL;have t:(ε ((δ (p.length:Int))*1) (vw a))= [fZ x]++vw (r.map (·.1)):=by have:=fD ch1 i;rwa [Xqp] at this
  have o:(ε ((δ (p.length:Int))*1) (vw b))= [fZ y]++vw (r.map (·.2)):=by have:=fD ch1 s;rwa [Xqp] at this
  have d:(decide ((p.length:Int)<(a.length:Int)))=true:=kl (by have:=wZ hL;omega);have m:(decide ((p.length:Int)<(b.length:Int)))=true:=by rw [<- f];exact d
  have c:x.length<2^40:=j x (by rw [i];simp);have w:p.length<2^62:=by have:=wZ hL;omega
  show (∃ s',_/\ak _ _ _ _ _ (Pm a b g e (p.length,())) _ _/\_)\/∃ q,_/\ak _ _ _ _ _ (Pm a b g e (p.length,())) _ _;generalize p.length=k at*
  clear hL i s;rcases tf (decide (x=y)) with b0|b0
  .exact .inl ⟨_,by simp only [ZM,b0,if_true];rfl,pN 84 [] 2 1 (.c (aP b0) (.k 1 (k0 k) (.c m (.k 1 (k0 k) (.c d (.c (aA d) .nil)))))) (.v 31 (.eq (Rh w)) (.c (Np x y false false c) (.v 24 (.ppt o) (.v 20 (.ppt t) .nil)))) h,trivial⟩
  .exact .inr ⟨_,by simp only [ZM,b0,Xqy,if_false];rfl,pN 84 [] 2 3 (.c (dC b0) (.k 1 (k0 k) (.c m (.k 1 (k0 k) (.c d (.c (aA d) .nil)))))) (.c (Np x y false false c) (.v 24 (.ppt o) (.v 20 (.ppt t) .nil))) h⟩
 .intro _ _;rw [u];exact pN 84 [] 1 0 (.c (az (kn (κ a.length))) .nil) (.nil) h
theorem adJ (a b:List (List Rw)) (c e:Bool) (f:a.length<2^40) (j:∀ v ∈ a,v.length<2^40):CO 84 [.sl (vw a) a.length c,.sl (vw b) b.length e,.fn 45 [] []] (.ret (.bool (decide (a=b)))):=by
 by_cases hl:a.length=b.length
 .have g:((a.length:Int)==(b.length:Int))=true:=by rw [hl];exact beq_self_eq_true _
  have hloop:=λnt (hn:32<=nt)=>Xc hn a b c e hl f j
  cases hd:decide (a=b) with
  |true=>
   rw [hd] at hloop;have k:=aF.blk (id:=0) (e':= .normal) (s:=Pm a b c e (0,())) (s':=Su true) hloop (by simp [aii]) rfl (aK.refl _) (aK.refl _);have i:LB 32 0 f84 (VS (.sl (vw a) a.length c) (.sl (vw b) b.length e) (.fn 45 [] []) (!((a.length:Int)==(b.length:Int))) (.sl (vw a) a.length c) a.length) (.normal) C9:=(λnt d=>(k nt d).weak (aK.of ⟨rfl,rfl,rfl,rfl,rfl,rfl,trivial⟩) (aK.refl _))
   exact pK [0] 1 0 (.c (aP g) .nil) (.l i .nil)
  |false=>
   rw [hd] at hloop;have k:=aF.blk (id:=0) (e':= .ret) (s:=Pm a b c e (0,())) (s':=Su false) hloop (by simp [aii]) rfl (aK.refl _) (aK.refl _);have i:LB 32 0 f84 (VS (.sl (vw a) a.length c) (.sl (vw b) b.length e) (.fn 45 [] []) (!((a.length:Int)==(b.length:Int))) (.sl (vw a) a.length c) a.length) (.ret) VQ:=(λnt d=>(k nt d).weak (aK.of ⟨rfl,rfl,rfl,rfl,rfl,rfl,trivial⟩) (aK.refl _))
   exact pK [0] 1 0 (.c (aP g) .nil) (.l i .nil)
 .have g:((a.length:Int)==(b.length:Int))=false:=beq_eq_false_iff_ne.2 (by omega);rw [Yq1 (λh=>hl (by rw [h]))];exact pK [0] 1 1 (.c (dC g) .nil) (.nil)
theorem Z8 (a b:List (List Rw)) (f e:Bool) (c:a.length<2^40) (d:∀ v ∈ a,v.length<2^40):CO 46 [.sl (vw a) a.length f,.sl (vw b) b.length e,.fn 45 [] []] (.ret (.bool (decide (a=b)))):=pK [] 0 0 .nil (.c (adJ a b f e c d) .nil)
theorem TC {a b:Nat} (c:a<18446744073709551616) (d:b<18446744073709551616):Xxe (Xqh (Xqb .i64) (a:Int)|||Xqh (Xqb .i64) (b:Int))=a|||b:=MK (w:=64) c d
theorem amo {b a:Nat} (h:b<4294967296):b|||4294967296*a=b+4294967296*a:=by
 have:=Nat.two_pow_add_eq_or_of_lt (i:=32) (by simpa using h) a;rw [Nat.or_comm];have e:(2:Nat)^32=4294967296:=by decide
 rw [e] at this;omega
def wY (x:Nat):Int × Bool:=if x<9223372036854775808 then (x,true) else (0,false)
theorem XC (x:Nat) (q:(ae x).length<2^36):CO 117 [.str (ae x)] (.ret (.tup [ω (wY x).1,.bool (wY x).2])):=by
 have h:=TB (ae x) (by omega);rw [aI] at h;unfold dS at h;have p:=nX x;have f:=λk (e:(digs x).length=k+1)=>MV e
 have i:=fA x;have d:∀ k,(digs x).getD k 0<4294967296:=λk=>by rw [xE];exact Nat.mod_lt _ (by decide)
 generalize digs x=ds at*
 match ds with
 | []=>
  have:x=0:=by simpa [aH] using i.symm
  subst this;have h:CO 164 [.str (ae 0)] (.ret (.sl [] 0 false)):=h;exact pK [] 4 0 (.n 4 .nil) (.c h .nil)
 | [lo]=>
  have e:x=lo:=by rw [<- i];simp [aH]
  have h0:lo<4294967296:=d 0;have h:CO 164 [.str (ae x)] (.ret (.sl [.int .u32 (lo:Int)] 1 false)):=h;have g:CO 117 [.str (ae x)] (.ret (.tup [ω (γ .i64 (Xxe (Xqh (Xqb .i64) ((0:Nat):Int)|||Xqh (Xqb .i64) (γ .i64 ((γ .i64 (lo:Int))*2^(min 0 64)))))),.bool true])):=pK [] 5 8 (.n 9 .nil) (.c h .nil);have w0:γ .i64 (lo:Int)=(lo:Int):=bF (by omega);rw [show min 0 64=0 from rfl,Yjf,w0,Yjt,w0,TC (by omega) (by omega),Yju,w0] at g;unfold wY;rw [if_pos (by omega),e];rw [e] at g;exact g
 | [lo,hi]=>
  have e:x=lo+4294967296*hi:=by rw [<- i];simp [aH]
  have h0:lo<4294967296:=d 0;have t:hi<4294967296:=d 1;have h:CO 164 [.str (ae x)] (.ret (.sl [.int .u32 (lo:Int),.int .u32 (hi:Int)] 2 false)):=h;rcases tf (decide (((2147483647:Nat):Int)<(hi:Int))) with b0|b0
  .have:¬ x<9223372036854775808:=by have:=of_decide_eq_true b0;omega
   unfold wY;rw [if_neg this];exact pK [] 3 6 (.c (aA b0) (.n 5 .nil)) (.c h .nil)
  .have u:hi<=2147483647:=by have:=of_decide_eq_false b0;omega
   have g:CO 117 [.str (ae x)] (.ret (.tup [ω (γ .i64 (Xxe (Xqh (Xqb .i64) (γ .i64 (Xxe (Xqh (Xqb .i64) ((0:Nat):Int)|||Xqh (Xqb .i64) (γ .i64 ((γ .i64 (lo:Int))*2^(min 0 64))))))|||Xqh (Xqb .i64) (γ .i64 ((γ .i64 (hi:Int))*2^(min 32 64)))))),.bool true])):=pK [] 6 26 (.k 11 (az b0) (.n 5 .nil)) (.c h .nil);have w0:γ .i64 (lo:Int)=(lo:Int):=bF (by omega);have w1:γ .i64 (hi:Int)=(hi:Int):=bF (by omega);have m:γ .i64 ((4294967296*hi:Nat):Int)=((4294967296*hi:Nat):Int):=bF (by omega);have j:γ .i64 ((lo+4294967296*hi:Nat):Int)=((lo+4294967296*hi:Nat):Int):=bF (by omega);rw [show min 0 64=0 from rfl,Yjf,w0,Yjt,w0,TC (by omega) (by omega),Yju,w0,w1,show min 32 64=32 from rfl,Ew,show (2:Nat)^32=4294967296 by decide,m,TC (by omega) (by omega),amo h0,j,<- e] at g;unfold wY;rw [if_pos (by omega)];exact g
 | a::b::c::r=>
  have s:=f (r.length+2) (by simp);have:¬ x<9223372036854775808:=by
   have:=Nat.pow_le_pow_right (n:=4294967296) (by decide) (show 2<=r.length+2 by omega);have e:(4294967296:Nat)^2=18446744073709551616:=by decide
   omega
  unfold wY;rw [if_neg this];have o:decide (((2:Nat):Int)<(((a::b::c::r).length:Nat):Int))=true:=Yq0 (by simp only [ο];omega);generalize a::b::c::r=ds at*
  exact pK [0] 2 3 (.k 1 (aA o) .nil) (.c h .nil)
theorem XD:CO 116 [ω 1] (.ret (.str (ae 1))):=Cj 1 (by decide)
theorem Ci {n:Nat}:(ae n==ae 1)=decide (n=1):=by
 rw [Xzx,beq_iff_eq,decide_eq_true_eq];exact ⟨λh=>by have:=congrArg ag h;rwa [aI,aI] at this,λh=>by rw [h]⟩
def aV (a s:Rw):Int:=if s.v.n=0 then -1 else if jG a.n a.a a.d=true/\(bQ a.v s.v).neg=false/\(bQ a.v s.v).d=1/\(bQ a.v s.v).n<=200 then (((bQ a.v s.v).n:Nat):Int) else -1
def Rw.sm (x:Rw):Prop:=x.a.length<2^28/\x.d.length<2^28
theorem JE (a s:Rw) (m:a.sm) (hs:s.sm):CO 71 [.agg a.c,.agg s.c] (.ret (ω (aV a s))):=by
 obtain ⟨t,n⟩:=m;obtain ⟨s1,p⟩:=hs;unfold aV;by_cases h0:s.v.n=0
 .rw [if_pos h0];exact pK [] 4 15 (.n 11 .nil) (.c (Qv a.n s.n a.a a.d s.a s.d (by omega) (by omega) (by omega) (by omega) h0) .nil)
 rw [if_neg h0];have i:=Jo a.n s.n a.a a.d s.a s.d (by omega) (by omega) (by omega) (by omega) (by show 0<s.v.n;omega);have d:=uM a.n a.a a.d;have g:=XD;have k:(ae (bQ a.v s.v).n).length<2^36:=by
  have r:(ae a.v.n).length<=a.a.length/\(ae a.v.d).length<=a.d.length+1:=iJ a.n a.a a.d;have o:(ae s.v.n).length<=s.a.length/\(ae s.v.d).length<=s.d.length+1:=iJ s.n s.a s.d;have j:=Uj (L:=2^28) (a:=a.v) (b:=s.v) ⟨by omega,by omega⟩ ⟨by omega,by omega⟩;exact χ j.1 (by decide)
 have ci:=XC _ k;show CO _ _ (.ret (ω (if _/\(bQ a.v s.v).neg=false/\(bQ a.v s.v).d=1/\(bQ a.v s.v).n<=200 then _ else _)));generalize bQ a.v s.v=q at*
 have c:CO 114 [.agg a.c,.agg s.c] (.ret (.tup [.agg [.bool q.neg,.str (ae q.n),.str (ae q.d)],.bool true])):=i;rcases tf (jG a.n a.a a.d) with b0|b0
 .rcases tf q.neg with b1|b1
  .rw [if_neg (by rintro ⟨x1,x2,x3,x4⟩;first|exact absurd (x1.symm.trans b0) (by decide)|exact absurd (x2.symm.trans b1) (by decide))];exact pK [] 4 12 (.k 1 (aA b1) (.k 1 (aP b0) (.n 11 .nil))) (.c d (.c c .nil))
  .rcases tf ((ae q.d)==(ae 1)) with b2|b2
   .rcases tf ((wY q.n).2) with b3|b3
    .rcases tf (decide ((wY q.n).1<=((200:Nat):Int))) with b4|b4
     .have f:q.d=1:=by rw [Ci] at b2;exact of_decide_eq_true b2
      have e:q.n<9223372036854775808↔(wY q.n).2=true:=by unfold wY;split<;>simp [*]
      have h:(wY q.n).1=(q.n:Int):=by unfold wY;rw [if_pos (e.2 b3)]
      rw [if_pos ⟨b0,b1,f,by have:=of_decide_eq_true b4;rw [h] at this;omega⟩,<- h];exact pK [] 6 48 (.c (aA b4) (.c (aA b3) (.k 1 (aP b2) (.k 1 (az b1) (.k 1 (aP b0) (.n 11 .nil)))))) (.c ci (.c g (.c d (.c c .nil))))
     .have f:q.d=1:=by rw [Ci] at b2;exact of_decide_eq_true b2
      have e:q.n<9223372036854775808↔(wY q.n).2=true:=by unfold wY;split<;>simp [*]
      have h:(wY q.n).1=(q.n:Int):=by unfold wY;rw [if_pos (e.2 b3)]
      rw [if_neg (by rintro ⟨x1,x2,x3,x4⟩;have:=of_decide_eq_false b4;rw [h] at this;omega)];exact pK [] 6 16 (.c (az b4) (.c (aA b3) (.k 1 (aP b2) (.k 1 (az b1) (.k 1 (aP b0) (.n 11 .nil)))))) (.c ci (.c g (.c d (.c c .nil))))
    .have f:q.d=1:=by rw [Ci] at b2;exact of_decide_eq_true b2
     have e:q.n<9223372036854775808↔(wY q.n).2=true:=by unfold wY;split<;>simp [*]
     rw [if_neg (by rintro ⟨x1,x2,x3,x4⟩;rw [e.1 (by omega)] at b3;cases b3)];exact pK [] 6 0 (.k 1 (az b3) (.k 1 (aP b2) (.k 1 (az b1) (.k 1 (aP b0) (.n 11 .nil))))) (.c ci (.c g (.c d (.c c .nil))))
   .have f:¬ q.d=1:=by rw [Ci] at b2;exact of_decide_eq_false b2
    rw [if_neg (by rintro ⟨x1,x2,x3,x4⟩;first|exact absurd (x1.symm.trans b0) (by decide)|exact absurd (x2.symm.trans b1) (by decide)|exact f x3)];exact pK [] 4 8 (.c (dC b2) (.k 1 (az b1) (.k 1 (aP b0) (.n 11 .nil)))) (.c g (.c d (.c c .nil)))
 .rw [if_neg (by rintro ⟨x1,x2,x3,x4⟩;first|exact absurd (x1.symm.trans b0) (by decide))];exact pK [] 4 14 (.k 2 (dC b0) (.n 11 .nil)) (.c d (.c c .nil))
theorem amQ (g s1:Bool) (f d c e:List UInt8) (a b r:RQ) (k:CO 47 [Ω g f d] (Va0 a)) (j:CO 47 [Ω s1 c e] (Va0 b)) (i:CO 48 [.str (ae a.n),.str (ae b.n)] (.ret (.str (ae (a.n*b.n))))) (m:VaF a b) (h:CO 49 [.bool (!(a.neg==b.neg)),.str (ae (a.n*b.n)),.str (ae (a.d*b.d))] (Va0 r)):CO 38 [Ω g f d,Ω s1 c e] (Va0 r):=pK [] 0 0 (.n 18 .nil) (.c h (.c m (.c i (.c j (.c k .nil)))))
theorem Qg (g s1:Bool) (e f c d:List UInt8) (s:e.length<=3) (n:f.length<=2) (q:c.length<=3) (p:d.length<=2):CO 38 [Ω g e f,Ω s1 c d] (.ret (qA (gJ (vQ g e f) (vQ s1 c d)))):=by
 have i:=oU g e f;have k:=oU s1 c d;obtain ⟨t,m⟩:=iJ g e f;obtain ⟨u,o⟩:=iJ s1 c d;have j:=fJ g e f;have h:=fJ s1 c d;generalize vQ g e f=a at*
 generalize vQ s1 c d=b at*
 have r:=dH a.n b.n;have v:=dH a.d b.d;exact amQ g s1 e f c d a b (gJ a b) i k (I9 a.n b.n) (I9 a.d b.d) (uK _ _ _ (by omega) (by omega) (Nat.mul_pos j.1 h.1))
def GV {α:Type} (P:α->α->Bool) (_:Unit) (x:α × α):Unit ⊕ Bool:=if P x.1 x.2=true then .inl () else .inr false
theorem uh {α:Type} {P:α->α->Bool}:∀ {l:List (α × α)},goL (GV P) (λ_=>true) l ()=l.all λp=>P p.1 p.2
 | []=>rfl
 |x::l=>by
  have a:=uh (P:=P) (l:=l);simp only [goL,GV,List.all_cons];by_cases e:P x.1 x.2=true
  .rw [if_pos e,e,Xx1];exact a
  .rw [if_neg e,Bool.eq_false_iff.2 e,Xx6]
def TU:Bool->St
 |true=>C9
 |false=>(zt (.bool false))
def Qr (a b:List Rw) (na nb:Bool) (p:Nat × Unit):St:=(CW (.sl (dF a) a.length na) (.sl (dF b) b.length nb) (p.1:Int))
theorem abz {nt:Nat} (d:26<=nt) (a b:List Rw) (f e:Bool) (o:a.length=b.length) (h:a.length<2^40):aF prog ap [] nt (af 0 (ax f17)) YF (Qr a b f e) TU (0,()) ((a.zip b).all λp=>Xb p.1 p.2):=by
 rw [<- uh];have t:(a.zip b).length=a.length:=by rw [Xzk];omega
 refine aF.goD (GV Xb) (λ_=>true) (a.zip b) (λ_ _=>True) ?_ ?_ () trivial
 .rintro p ⟨x,y⟩ r _ hL _
  obtain ⟨n,m⟩:=nT o hL;have j:(ε ((δ (p.length:Int))*3) (dF a))=x.c++dF (r.map (·.1)):=by have:=fD rw3 n;rwa [Xqp] at this
  have i:(ε ((δ (p.length:Int))*3) (dF b))=y.c++dF (r.map (·.2)):=by have:=fD rw3 m;rwa [Xqp] at this
  have c:(decide ((p.length:Int)<(a.length:Int)))=true:=kl (by have:=wZ hL;omega);have g:(decide ((p.length:Int)<(b.length:Int)))=true:=by rw [<- o];exact c
  have s:p.length<2^62:=by have:=wZ hL;omega
  skip
  show (∃ s',_/\ak _ _ _ _ _ (Qr a b f e (p.length,())) _ _/\_)\/∃ q,_/\ak _ _ _ _ _ (Qr a b f e (p.length,())) _ _;generalize p.length=k at*
  clear hL n m;rcases tf ((x.n==y.n) && ((x.a==y.a) && ((x.d==y.d) && true))) with b0|b0
  .exact .inl ⟨_,by rw [GV,if_pos (show Xb x y=true from b0)],pN 17 [] 2 1 (.c (aP b0) (.k 3 (k0 k) (.c g (.k 3 (k0 k) (.c c (.c (aA c) .nil)))))) (.v 16 (.eq (Rh s)) (.v 23 (.ppt i) (.v 19 (.ppt j) .nil))) d,trivial⟩
  .exact .inr ⟨_,by rw [GV,if_neg (show ¬ Xb x y=true by rw [show Xb x y=false from b0];exact Xxu)],pN 17 [] 2 3 (.c (dC b0) (.k 3 (k0 k) (.c g (.k 3 (k0 k) (.c c (.c (aA c) .nil)))))) (.v 23 (.ppt i) (.v 19 (.ppt j) .nil)) d⟩
 .intro _ _;rw [t];exact pN 17 [] 1 0 (.c (az (kn (κ a.length))) .nil) (.nil) d
theorem afr (a b:List Rw) (e d:Bool) (f:a.length<2^40):CO 17 [.sl (dF a) a.length e,.sl (dF b) b.length d] (.ret (.bool (decide (a.length=b.length) && (a.zip b).all λp=>Xb p.1 p.2))):=by
 by_cases hl:a.length=b.length
 .have g:((a.length:Int)==(b.length:Int))=true:=by rw [hl];exact beq_self_eq_true _
  rw [Yq0 hl,Xx1];have hloop:=λnt (hn:26<=nt)=>abz hn a b e d hl f
  cases hd:((a.zip b).all λp=>Xb p.1 p.2) with
  |true=>
   rw [hd] at hloop;have i:=aF.blk (id:=0) (e':= .normal) (s:=Qr a b e d (0,())) (s':=TU true) hloop (by simp [YF]) rfl (aK.refl _) (aK.refl _);have h:LB 26 0 f17 ⟨[(0,.sl (dF a) a.length e),(1,.sl (dF b) b.length d),(4,.bool false),(5,ω 0),(10,.bool (!((a.length:Int)==(b.length:Int)))),(14,.dead),(25,.dead)],[],.dead,[]⟩ (.normal) C9:=(λnt c=>(i nt c).weak (aK.of ⟨rfl,rfl,rfl,trivial⟩) (aK.refl _))
   exact pK [0] 1 0 (.c (aP g) .nil) (.l h .nil)
  |false=>
   rw [hd] at hloop;have i:=aF.blk (id:=0) (e':= .ret) (s:=Qr a b e d (0,())) (s':=TU false) hloop (by simp [YF]) rfl (aK.refl _) (aK.refl _);have h:LB 26 0 f17 ⟨[(0,.sl (dF a) a.length e),(1,.sl (dF b) b.length d),(4,.bool false),(5,ω 0),(10,.bool (!((a.length:Int)==(b.length:Int)))),(14,.dead),(25,.dead)],[],.dead,[]⟩ (.ret) (zt (.bool false)):=(λnt c=>(i nt c).weak (aK.of ⟨rfl,rfl,rfl,trivial⟩) (aK.refl _))
   exact pK [0] 1 0 (.c (aP g) .nil) (.l h .nil)
 .have g:((a.length:Int)==(b.length:Int))=false:=beq_eq_false_iff_ne.2 (by omega);rw [Yq1 hl,Xx6];exact pK [0] 1 1 (.c (dC g) .nil) (.nil)
theorem Ji (a b:List Rw) (f d:Bool) (c:a.length<2^40):CO 17 [.sl (dF a) a.length f,.sl (dF b) b.length d] (.ret (.bool (decide (a=b)))):=by
 have h:=afr a b f d c;have e:(decide (a.length=b.length) && (a.zip b).all λp=>Xb p.1 p.2)=decide (a=b):=by
  by_cases hl:a.length=b.length
  .rw [Yq0 hl,Xx1,<- Nc hl,<- uh];rfl
  .rw [Yq1 hl,Xx6,Yq1 (λh=>hl (by rw [h]))]
 rwa [e] at h
def Rw.ti (x:Rw):Prop:=x.a.length<=3/\x.d.length<=2
theorem Rw.ti.sm {x:Rw} (h:x.ti):x.sm:=⟨χ h.1 (by decide),χ h.2 (by decide)⟩
def leW (x y:Rw):Bool:= !decide (((0:Nat):Int)<iH x.v y.v)
def Td:Bool->St
 |true=>C9
 |false=>(zt (.bool false))
def PU (a b:List Rw) (na nb:Bool) (p:Nat × Unit):St:=(CW (.sl (dF a) a.length na) (.sl (dF b) b.length nb) (p.1:Int))
theorem aaH {nt:Nat} (g:27<=nt) (a b:List Rw) (e d:Bool) (m:a.length=b.length) (o:a.length<2^40) (f:∀ x ∈ a,x.ti) (j:∀ x ∈ b,x.ti):aF prog ap [] nt (af 0 (ax f24)) YF (PU a b e d) Td (0,()) ((a.zip b).all λp=>leW p.1 p.2):=by
 rw [<- uh];have v:(a.zip b).length=a.length:=by rw [Xzk];omega
 refine aF.goD (GV leW) (λ_=>true) (a.zip b) (λ_ _=>True) ?_ ?_ () trivial
 .rintro p ⟨x,y⟩ r _ hL _
  obtain ⟨i,h⟩:=nT m hL;have u:(ε ((δ (p.length:Int))*3) (dF a))=x.c++dF (r.map (·.1)):=by have:=fD rw3 i;rwa [Xqp] at this
  have s:(ε ((δ (p.length:Int))*3) (dF b))=y.c++dF (r.map (·.2)):=by have:=fD rw3 h;rwa [Xqp] at this
  have c:(decide ((p.length:Int)<(a.length:Int)))=true:=kl (by have:=wZ hL;omega);have n:(decide ((p.length:Int)<(b.length:Int)))=true:=by rw [<- m];exact c
  have B:p.length<2^62:=by have:=wZ hL;omega
  obtain ⟨z,C⟩:=f x (by rw [i];simp);obtain ⟨w,A⟩:=j y (by rw [h];simp);have t:=ae4 x.n y.n x.a x.d y.a y.d z C w A;show (∃ s',_/\ak _ _ _ _ _ (PU a b e d (p.length,())) _ _/\_)\/∃ q,_/\ak _ _ _ _ _ (PU a b e d (p.length,())) _ _;generalize p.length=k at*
  clear hL i h;rcases tf (decide (((0:Nat):Int)<(iH x.v y.v))) with b0|b0
  .exact .inr ⟨_,by rw [GV,if_neg (show ¬ leW x y=true by unfold leW;rw [b0];decide)],pN 24 [] 2 3 (.c (aA b0) (.k 3 (k0 k) (.c n (.k 3 (k0 k) (.c c (.c (aA c) .nil)))))) (.c t (.v 23 (.ppt s) (.v 19 (.ppt u) .nil))) g⟩
  .exact .inl ⟨_,by rw [GV,if_pos (show leW x y=true by unfold leW;rw [b0];rfl)],pN 24 [] 2 1 (.c (az b0) (.k 3 (k0 k) (.c n (.k 3 (k0 k) (.c c (.c (aA c) .nil)))))) (.v 16 (.eq (Rh B)) (.c t (.v 23 (.ppt s) (.v 19 (.ppt u) .nil)))) g,trivial⟩
 .intro _ _;rw [v];exact pN 24 [] 1 0 (.c (az (kn (κ a.length))) .nil) (.nil) g
theorem ael (a b:List Rw) (e d:Bool) (f:a.length<2^40) (h:∀ x ∈ a,x.ti) (i:∀ x ∈ b,x.ti):CO 24 [.sl (dF a) a.length e,.sl (dF b) b.length d] (.ret (.bool (decide (a.length=b.length) && (a.zip b).all λp=>leW p.1 p.2))):=by
 by_cases hl:a.length=b.length
 .have g:((a.length:Int)==(b.length:Int))=true:=by rw [hl];exact beq_self_eq_true _
  rw [Yq0 hl,Xx1];have hloop:=λnt (hn:27<=nt)=>aaH hn a b e d hl f h i
  cases hd:((a.zip b).all λp=>leW p.1 p.2) with
  |true=>
   rw [hd] at hloop;have k:=aF.blk (id:=0) (e':= .normal) (s:=PU a b e d (0,())) (s':=Td true) hloop (by simp [YF]) rfl (aK.refl _) (aK.refl _);have j:LB 27 0 f24 ⟨[(0,.sl (dF a) a.length e),(1,.sl (dF b) b.length d),(4,.bool false),(5,ω 0),(10,.bool (!((a.length:Int)==(b.length:Int)))),(14,.dead),(26,.dead)],[],.dead,[]⟩ (.normal) C9:=(λnt c=>(k nt c).weak (aK.of ⟨rfl,rfl,rfl,trivial⟩) (aK.refl _))
   exact pK [0] 1 0 (.c (aP g) .nil) (.l j .nil)
  |false=>
   rw [hd] at hloop;have k:=aF.blk (id:=0) (e':= .ret) (s:=PU a b e d (0,())) (s':=Td false) hloop (by simp [YF]) rfl (aK.refl _) (aK.refl _);have j:LB 27 0 f24 ⟨[(0,.sl (dF a) a.length e),(1,.sl (dF b) b.length d),(4,.bool false),(5,ω 0),(10,.bool (!((a.length:Int)==(b.length:Int)))),(14,.dead),(26,.dead)],[],.dead,[]⟩ (.ret) (zt (.bool false)):=(λnt c=>(k nt c).weak (aK.of ⟨rfl,rfl,rfl,trivial⟩) (aK.refl _))
   exact pK [0] 1 0 (.c (aP g) .nil) (.l j .nil)
 .have g:((a.length:Int)==(b.length:Int))=false:=beq_eq_false_iff_ne.2 (by omega);rw [Yq1 hl,Xx6];exact pK [0] 1 1 (.c (dC g) .nil) (.nil)
def eqV (x y:List Rw):Bool:=decide (x=y)
def TV:Bool->St
 |true=>C9
 |false=>(zt (.bool false))
def Qu (a b:List (List Rw)) (na nb:Bool) (p:Nat × Unit):St:=(CW (.sl (vw a) a.length na) (.sl (vw b) b.length nb) (p.1:Int))
theorem abD {nt:Nat} (f:29<=nt) (a b:List (List Rw)) (e d:Bool) (i:a.length=b.length) (m:a.length<2^40) (h:∀ v ∈ a,v.length<2^40):aF prog ap [] nt (af 0 (ax f31)) YF (Qu a b e d) TV (0,()) ((a.zip b).all λp=>eqV p.1 p.2):=by
 rw [<- uh];have u:(a.zip b).length=a.length:=by rw [Xzk];omega
 refine aF.goD (GV eqV) (λ_=>true) (a.zip b) (λ_ _=>True) ?_ ?_ () trivial
 .rintro p ⟨x,y⟩ r _ hL _
  obtain ⟨g,s⟩:=nT i hL;have t:(ε ((δ (p.length:Int))*1) (vw a))= [fZ x]++vw (r.map (·.1)):=by have:=fD ch1 g;rwa [Xqp] at this
  have n:(ε ((δ (p.length:Int))*1) (vw b))= [fZ y]++vw (r.map (·.2)):=by have:=fD ch1 s;rwa [Xqp] at this
  have c:(decide ((p.length:Int)<(a.length:Int)))=true:=kl (by have:=wZ hL;omega);have j:(decide ((p.length:Int)<(b.length:Int)))=true:=by rw [<- i];exact c
  have w:p.length<2^62:=by have:=wZ hL;omega
  have o:CO 17 [.sl (dF x) x.length false,.sl (dF y) y.length false] (.ret (.bool (eqV x y))):=Ji x y false false (h x (by rw [g];simp));show (∃ s',_/\ak _ _ _ _ _ (Qu a b e d (p.length,())) _ _/\_)\/∃ q,_/\ak _ _ _ _ _ (Qu a b e d (p.length,())) _ _;generalize p.length=k at*
  clear hL g s;rcases tf (eqV x y) with b0|b0
  .exact .inl ⟨_,by rw [GV,if_pos (b0)],pN 31 [] 2 1 (.c (aP b0) (.k 1 (k0 k) (.c j (.k 1 (k0 k) (.c c (.c (aA c) .nil)))))) (.v 17 (.eq (Rh w)) (.c o (.v 24 (.ppt n) (.v 20 (.ppt t) .nil)))) f,trivial⟩
  .exact .inr ⟨_,by rw [GV,if_neg (show ¬ eqV x y=true by rw [b0];exact Xxu)],pN 31 [] 2 3 (.c (dC b0) (.k 1 (k0 k) (.c j (.k 1 (k0 k) (.c c (.c (aA c) .nil)))))) (.c o (.v 24 (.ppt n) (.v 20 (.ppt t) .nil))) f⟩
 .intro _ _;rw [u];exact pN 31 [] 1 0 (.c (az (kn (κ a.length))) .nil) (.nil) f
theorem afw (a b:List (List Rw)) (e d:Bool) (f:a.length<2^40) (i:∀ v ∈ a,v.length<2^40):CO 31 [.sl (vw a) a.length e,.sl (vw b) b.length d] (.ret (.bool (decide (a.length=b.length) && (a.zip b).all λp=>eqV p.1 p.2))):=by
 by_cases hl:a.length=b.length
 .have g:((a.length:Int)==(b.length:Int))=true:=by rw [hl];exact beq_self_eq_true _
  rw [Yq0 hl,Xx1];have hloop:=λnt (hn:29<=nt)=>abD hn a b e d hl f i
  cases hd:((a.zip b).all λp=>eqV p.1 p.2) with
  |true=>
   rw [hd] at hloop;have j:=aF.blk (id:=0) (e':= .normal) (s:=Qu a b e d (0,())) (s':=TV true) hloop (by simp [YF]) rfl (aK.refl _) (aK.refl _);have h:LB 29 0 f31 (ag1 (.sl (vw a) a.length e) (.sl (vw b) b.length d) (!((a.length:Int)==(b.length:Int)))) (.normal) C9:=(λnt c=>(j nt c).weak (aK.of ⟨rfl,rfl,rfl,trivial⟩) (aK.refl _))
   exact pK [0] 1 0 (.c (aP g) .nil) (.l h .nil)
  |false=>
   rw [hd] at hloop;have j:=aF.blk (id:=0) (e':= .ret) (s:=Qu a b e d (0,())) (s':=TV false) hloop (by simp [YF]) rfl (aK.refl _) (aK.refl _);have h:LB 29 0 f31 (ag1 (.sl (vw a) a.length e) (.sl (vw b) b.length d) (!((a.length:Int)==(b.length:Int)))) (.ret) (zt (.bool false)):=(λnt c=>(j nt c).weak (aK.of ⟨rfl,rfl,rfl,trivial⟩) (aK.refl _))
   exact pK [0] 1 0 (.c (aP g) .nil) (.l h .nil)
 .have g:((a.length:Int)==(b.length:Int))=false:=beq_eq_false_iff_ne.2 (by omega);rw [Yq1 hl,Xx6];exact pK [0] 1 1 (.c (dC g) .nil) (.nil)
theorem Qs (a b:List (List Rw)) (g f:Bool) (c:a.length<2^40) (d:∀ v ∈ a,v.length<2^40):CO 31 [.sl (vw a) a.length g,.sl (vw b) b.length f] (.ret (.bool (decide (a=b)))):=by
 have h:=afw a b g f c d;have e:(decide (a.length=b.length) && (a.zip b).all λp=>eqV p.1 p.2)=decide (a=b):=by
  by_cases hl:a.length=b.length
  .rw [Yq0 hl,Xx1,<- Hz hl,<- uh];rfl
  .rw [Yq1 hl,Xx6,Yq1 (λh=>hl (by rw [h]))]
 rwa [e] at h
structure a_ where
 sd:Int
 ix:Int
 nm:List UInt8
 tr:Bool
 tm:Int
 td:Int
 body:List Nd
 ch:Bool
 st:Rw
 cp:Rw
abbrev ZL (x:a_):List AV:= [ω x.sd,ω x.ix,.str x.nm,.bool x.tr,ω x.tm,ω x.td,.sl (aX x.body) x.body.length false,.bool x.ch,.bool x.st.n,.str x.st.a,.str x.st.d,.bool x.cp.n,.str x.cp.a,.str x.cp.d]
def bV (l:List a_):List AV:=l.flatMap ZL
theorem DD (x:a_):(ZL x).length=14:=rfl
def eF (l:List (List Lk)):List AV:=l.flatMap λls=> [.sl (eQ ls) ls.length false]
def uC (x:a_):AV:= .agg [ω x.sd,.str x.nm]
def Xr (l:List a_):List AV:=l.map uC
def vsE (l:List a_):List AV:=l.map λ_=> .bool true
def OE (l:List a_):List AV:=l.map λx=> .str x.nm
def uQ (x y:a_):Bool:=(x.sd==y.sd) && (x.nm==y.nm)
theorem HY (x y:a_):wX (uC x) (uC y)=uQ x y:=by simp [uC,wX,JU,FB,uQ]
theorem KL (x:a_):∀ l:List a_,dO (Xr l) (vsE l) (uC x)=if l.any (uQ x) then some (.bool true) else none
 | []=>rfl
 |y::r=>by
  have a:=KL x r;show (match wX (uC x) (uC y) with|true=>some (Yxa true)|false=>dO (Xr r) (vsE r) (uC x))=_;rw [HY,a,Xvj];cases uQ x y<;>rfl
theorem YV (x:a_) (l:List a_):(Xr l).any (wX (uC x))=l.any (uQ x):=by
 unfold Xr;rw [List.any_map];congr 1;funext y;exact HY x y
theorem abl {x:a_} {l:List a_} (h:l.any (uQ x)=false):vT (Xr l) (uC x)=Xr (l++ [x]):=by
 unfold vT;rw [YV,h];simp [Xr]
theorem Qe {x:a_}:∀ {l:List a_},l.any (uQ x)=false->oQ (Xr l) (vsE l) (uC x) (.bool true)=vsE (l++ [x])
 | [],_=>rfl
 |y::r,h=>by
  rw [Xvj,Xvi] at h;have a:=Qe h.2;show (match wX (uC x) (uC y) with|true=>Yxa true::vsE r|false=>Yxa true::oQ (Xr r) (vsE r) (uC x) (.bool true))=_;rw [HY,h.1,a];rfl
theorem aap (x:a_):Q_ 132 (uC x)=true:=by kernel_rfl
theorem aiL (l:List a_):(Xwa (Xr l) (Q_ 132))=true:=by
 rw [Xzo];intro k a;obtain ⟨x,_,rfl⟩:=List.mem_map.1 a;exact aap x
theorem wmS {k:Nat} (h:0<k) (a:k<2^62):ω (γ .i64 ((k:Int) - ((1:Nat):Int)))= ω ((k - 1:Nat):Int):=by
 rw [dM]<;>first|omega|(congr 1;omega)
def MJ (y x:a_):Bool:=decide (y.sd<x.sd)||((y.sd==x.sd) && decide (y.ix<x.ix))
theorem Rx (y x:a_):CO 63 [.agg [ω y.sd,ω y.ix],.agg [ω x.sd,ω x.ix]] (.ret (.bool (MJ y x))):=by
 rcases tf (decide (y.sd<x.sd)) with b0|b0
 .rw [show MJ y x=true by unfold MJ;rw [b0]<;>rfl];exact pK [] 1 1 (.c (aA b0) (.n 2 .nil)) (.nil)
 .rcases tf (y.sd==x.sd) with b1|b1
  .rw [show MJ y x=(decide (y.ix<x.ix)) by unfold MJ;rw [b0,b1]<;>rfl];exact pK [] 2 2 (.k 2 (aA b1) (.k 2 (az b0) (.n 2 .nil))) (.nil)
  .rw [show MJ y x=false by unfold MJ;rw [b0,b1]<;>rfl];exact pK [] 2 0 (.c (az b1) (.k 2 (az b0) (.n 2 .nil))) (.nil)
def lm (n:Nat) (l:List a_) (x:a_):Bool:=decide (x.sd<((0:Nat):Int))||(decide ((n:Int)<=x.sd)||(decide (x.ix<((0:Nat):Int))||((match l.getLast? with|none=>false|some y=> !MJ y x)||l.any (uQ x))))
abbrev CkS:=List a_ × List AV × List AV
def tK (n:Nat) (s:CkS) (x:a_):CkS ⊕ Option (List a_ × List AV × List AV):=if lm n s.1 x then .inr none else .inl (s.1++ [x],vT s.2.1 (uC x),oQ s.2.1 s.2.2 (uC x) (.bool true))
theorem NP (l:List a_):(OE l).length=l.length:=Xqp ..
theorem aeD {l:List a_} {k:Nat} (h:l.length=k) (x:a_):π (k*1) (OE l)++ [AV.str x.nm]=OE (l++ [x]):=by
 rw [φ (by rw [NP];omega)];simp [OE]
def ZY (es:List a_) (ss:List (List Lk)) (ne ns:Bool) (p:Nat × CkS):St:=match p.2.1 with
 | []=> ⟨[(1,.ptr 0 0 0),(3,.mr 1 0),(4,.nilS),(35,.sl (bV es) es.length ne),(36,.int .i64 (es.length:Int)),(37,.int .i64 (p.1:Int))],[(0,⟨[.sl (bV es) es.length ne,.sl (eF ss) ss.length ns,.sl [] 0 false],0,false,0,0,true⟩),(1,⟨[.agg p.2.2.1,.agg p.2.2.2],0,false,0,4611686018427387904,true⟩)],.dead,[]⟩
 |a::r=>(ab_ ((a::r).length) (.sl (bV es) es.length ne) es.length p.1 [.sl (bV es) es.length ne,.sl (eF ss) ss.length ns,.sl [] 0 false] [.agg p.2.2.1,.agg p.2.2.2] (OE (a::r)))
def ZX (es:List a_) (ss:List (List Lk)) (ne ns:Bool):Option CkS->St
 |none=>(E8 1)
 |some p=>match p.1 with
  | []=> ⟨[(1,.ptr 0 0 0),(3,.mr 1 0),(4,.nilS)],[(0,⟨[.sl (bV es) es.length ne,.sl (eF ss) ss.length ns,.sl [] 0 false],0,false,0,0,true⟩),(1,⟨[.agg p.2.1,.agg p.2.2],0,false,0,4611686018427387904,true⟩)],.dead,[]⟩
  |a::r=>(agY ((a::r).length) [.sl (bV es) es.length ne,.sl (eF ss) ss.length ns,.sl [] 0 false] [.agg p.2.1,.agg p.2.2] (OE (a::r)))
def fkE:Option CkS->bI
 |none=> .ret
 |some _=> .exit 0
theorem UT (es:List a_) (ss:List (List Lk)) (a b:Bool) {k:Nat} {l:List a_} {ks vs:List AV} (h:l ≠ []):ZY es ss a b (k,l,ks,vs)=(ab_ l.length (.sl (bV es) es.length a) es.length k [.sl (bV es) es.length a,.sl (eF ss) ss.length b,.sl [] 0 false] [.agg ks,.agg vs] (OE l)):=by cases l with|nil=>exact absurd rfl h|cons _ _=>rfl
theorem Xk (es:List a_) (ss:List (List Lk)) (a b:Bool) {k:Nat} {l:List a_} {x:a_} {ks vs:List AV}:ZY es ss a b (k,l++ [x],ks,vs)=(ab_ (l.length+1) (.sl (bV es) es.length a) es.length k [.sl (bV es) es.length a,.sl (eF ss) ss.length b,.sl [] 0 false] [.agg ks,.agg vs] (OE (l++ [x]))):=by rw [UT _ _ _ _ (by simp),ν,Θ]
theorem adW {nt:Nat} (g:126<=nt) (es:List a_) (ss:List (List Lk)) (A w:Bool) (B:es.length<2^39):aF prog ap [] nt (af 0 (ax f33)) fkE (ZY es ss A w) (ZX es ss A w) (0,[],[],[]) (goL (tK ss.length) some es ([],[],[])):=by
 refine aF.goD (tK ss.length) some es (λp s=>s.1=p/\s.2.1=Xr p/\s.2.2=vsE p) ?_ ?_ ([],[],[]) ⟨rfl,rfl,rfl⟩
 .rintro p x r ⟨l,ks,vs⟩ hL ⟨hp,hks,hvs⟩
  simp only at hp hks hvs;subst hp;have j:(ε ((δ (l.length:Int))*14) (bV es))=ZL x++bV r:=fD DD hL;have d:(decide ((l.length:Int)<(es.length:Int)))=true:=kl (wZ hL);have z:=wZ hL;have i:(Xwa ks (Q_ 132))=true:=by rw [hks];exact aiL l
  have o:(Xwc (dO ks vs (.agg [ω x.sd,.str x.nm])) (.bool false))= .bool (l.any (uQ x)):=by
   rw [hks,hvs];show Xwc (dO (Xr l) (vsE l) (uC x)) (.bool false)=_;rw [KL];cases l.any (uQ x)<;>rfl
  have f:l.any (uQ x)=false->vT ks (uC x)=Xr (l++ [x])/\oQ ks vs (uC x) (.bool true)=vsE (l++ [x]):=λh=>by
   rw [hks,hvs];exact ⟨abl h,Qe h⟩
  clear hks hvs;rcases Xzf l with rfl|⟨b,y,rfl⟩
  .have m:(decide (((0:Nat):Int)<((([]:List a_).length:Nat):Int)))=false:=kn (κ 0);have c:([]:List a_).getLast? =none:=rfl;have n:([]:List a_).length<2^62:=by decide
   rcases tf (decide (x.sd<((0:Nat):Int))) with b0|b0
   .exact .inr ⟨none,by rw [tK,if_pos (show lm ss.length ([]:List a_) x=true by simp only [lm,b0,Xj8,Xx3,Xzu,Xj4,Xxl,Xq8,c])],pN 33 [] 6 63 (.k 4 (aA b0) (.k 19 (k0 ([]:List a_).length) (.c d (.c (aA d) .nil)))) (.v 40 (.ppt j) .nil) g⟩
   .rcases tf (decide ((ss.length:Int)<=x.sd)) with b1|b1
    .exact .inr ⟨none,by rw [tK,if_pos (show lm ss.length ([]:List a_) x=true by simp only [lm,b0,b1,Xj8,Xx3,Xzu,Xj4,Xxl,Xq8,c])],pN 33 [] 6 61 (.k 3 (aA b1) (.k 2 (az b0) (.k 19 (k0 ([]:List a_).length) (.c d (.c (aA d) .nil))))) (.v 40 (.ppt j) .nil) g⟩
    .rcases tf (decide (x.ix<((0:Nat):Int))) with b2|b2
     .exact .inr ⟨none,by rw [tK,if_pos (show lm ss.length ([]:List a_) x=true by simp only [lm,b0,b1,b2,Xj8,Xx3,Xzu,Xj4,Xxl,Xq8,c])],pN 33 [] 6 57 (.k 2 (aA b2) (.k 1 (az b1) (.k 2 (az b0) (.k 19 (k0 ([]:List a_).length) (.c d (.c (aA d) .nil)))))) (.v 40 (.ppt j) .nil) g⟩
     .rcases tf (([]:List a_).any (uQ x)) with b3|b3
      .exact .inr ⟨none,by rw [tK,if_pos (show lm ss.length ([]:List a_) x=true by simp only [lm,b0,b1,b2,b3,Xj8,Xx3,Xzu,Xj4,Xxl,Xq8,c])],pN 33 [] 7 65 (.c (aA b3) (.k 1 i (.k 3 (az m) (.c (az b2) (.k 1 (az b1) (.k 2 (az b0) (.k 19 (k0 ([]:List a_).length) (.c d (.c (aA d) .nil))))))))) (.v 88 (.eq o) (.v 40 (.ppt j) .nil)) g⟩
      .exact .inl ⟨_,by rw [tK,if_neg (show ¬ lm ss.length ([]:List a_) x=true by rw [show lm ss.length ([]:List a_) x=false by simp only [lm,b0,b1,b2,b3,Xj8,Xx3,Xzu,Xj4,Xxl,Xq8,c]];exact Xxu)],pN 33 [] 8 1 (.k 5 i (.k 2 (az b3) (.k 1 i (.k 3 (az m) (.c (az b2) (.k 1 (az b1) (.k 2 (az b0) (.k 19 (k0 ([]:List a_).length) (.c d (.c (aA d) .nil)))))))))) (.v 98 (.eq (Rh n)) (.v 88 (.eq o) (.v 40 (.ppt j) .nil))) g,rfl,(f b3).1,(f b3).2⟩
  .simp only [List.concat_eq_append] at*
   have q:(ε ((δ ((((b++ [y]).length - 1):Nat):Int))*14) (bV es))=ZL y++bV (x::r):=by
    have e:es=b++y::x::r:=by rw [hL];simp
    rw [show (b++ [y]).length - 1=b.length by simp];exact fD DD e
   have c:(b++ [y]).getLast? =some y:=by simp
   have k:0<(b++ [y]).length:=by simp
   have m:(decide (((0:Nat):Int)<(((b++ [y]).length:Nat):Int)))=true:=kl k;have n:(b++ [y]).length<2^62:=by omega
   have v:b++ [y] ≠ []:=by simp
   have u:(b++ [y]).length=(b++ [y]).length:=rfl;have hble1:(Xqn ((b++ [y]).length+1) 1099511627776)=true:=Γ (by omega);have hble2:(Xqn ((b++ [y]).length*1) (θ (OE (b++ [y]))))=true:=Γ (by rw [NP];omega);have t:(decide (((((b++ [y]).length - 1):Nat):Int)<(es.length:Int)))=true:=kl (by omega);rw [UT _ _ _ _ v];rcases tf (decide (x.sd<((0:Nat):Int))) with b0|b0
   .exact .inr ⟨none,by rw [tK,if_pos (show lm ss.length (b++ [y]) x=true by simp only [lm,b0,Xj8,Xx3,Xzu,Xj4,Xxl,Xq8,c])],pN 33 [] 6 63 (.k 4 (aA b0) (.k 19 (k0 (b++ [y]).length) (.c d (.c (aA d) .nil)))) (.v 40 (.ppt j) .nil) g⟩
   .rcases tf (decide ((ss.length:Int)<=x.sd)) with b1|b1
    .exact .inr ⟨none,by rw [tK,if_pos (show lm ss.length (b++ [y]) x=true by simp only [lm,b0,b1,Xj8,Xx3,Xzu,Xj4,Xxl,Xq8,c])],pN 33 [] 6 61 (.k 3 (aA b1) (.k 2 (az b0) (.k 19 (k0 (b++ [y]).length) (.c d (.c (aA d) .nil))))) (.v 40 (.ppt j) .nil) g⟩
    .rcases tf (decide (x.ix<((0:Nat):Int))) with b2|b2
     .exact .inr ⟨none,by rw [tK,if_pos (show lm ss.length (b++ [y]) x=true by simp only [lm,b0,b1,b2,Xj8,Xx3,Xzu,Xj4,Xxl,Xq8,c])],pN 33 [] 6 57 (.k 2 (aA b2) (.k 1 (az b1) (.k 2 (az b0) (.k 19 (k0 (b++ [y]).length) (.c d (.c (aA d) .nil)))))) (.v 40 (.ppt j) .nil) g⟩
     .rcases tf (MJ y x) with b3|b3
      .rcases tf ((b++ [y]).any (uQ x)) with b4|b4
       .exact .inr ⟨none,by rw [tK,if_pos (show lm ss.length (b++ [y]) x=true by simp only [lm,b0,b1,b2,b3,b4,Xj8,Xx3,Xzu,Xj4,Xxl,Xq8,c])],pN 33 [] 7 81 (.c (aA b4) (.k 1 i (.k 2 (aP b3) (.k 4 (k0 ((b++ [y]).length - 1)) (.c t (.k 1 (aA m) (.c (az b2) (.k 1 (az b1) (.k 2 (az b0) (.k 19 (k0 (b++ [y]).length) (.c d (.c (aA d) .nil)))))))))))) (.v 88 (.eq o) (.c (Rx y x) (.v 76 (.ppt q) (.v 75 (.eq (wmS k n)) (.v 40 (.ppt j) .nil))))) g⟩
       .refine .inl ⟨_,by rw [tK,if_neg (show ¬ lm ss.length (b++ [y]) x=true by rw [show lm ss.length (b++ [y]) x=false by simp only [lm,b0,b1,b2,b3,b4,Xj8,Xx3,Xzu,Xj4,Xxl,Xq8,c]];exact Xxu)], ?_,rfl,(f b4).1,(f b4).2⟩;rw [Xk];exact pN 33 [] 7 17 (.k 1 hble1 (.c hble2 (.k 3 i (.k 2 (az b4) (.k 1 i (.k 2 (aP b3) (.k 4 (k0 ((b++ [y]).length - 1)) (.c t (.k 1 (aA m) (.c (az b2) (.k 1 (az b1) (.k 2 (az b0) (.k 19 (k0 (b++ [y]).length) (.c d (.c (aA d) .nil))))))))))))))) (.v 98 (.eq (Rh n)) (.b 97 (aeD u x) (.v 88 (.eq o) (.c (Rx y x) (.v 76 (.ppt q) (.v 75 (.eq (wmS k n)) (.v 40 (.ppt j) .nil))))))) g
      .exact .inr ⟨none,by rw [tK,if_pos (show lm ss.length (b++ [y]) x=true by simp only [lm,b0,b1,b2,b3,Xj8,Xx3,Xzu,Xj4,Xxl,Xq8,c])],pN 33 [] 7 113 (.k 1 (dC b3) (.k 4 (k0 ((b++ [y]).length - 1)) (.c t (.k 1 (aA m) (.c (az b2) (.k 1 (az b1) (.k 2 (az b0) (.k 19 (k0 (b++ [y]).length) (.c d (.c (aA d) .nil)))))))))) (.c (Rx y x) (.v 76 (.ppt q) (.v 75 (.eq (wmS k n)) (.v 40 (.ppt j) .nil)))) g⟩
 .rintro ⟨l,ks,vs⟩ ⟨hp,_,_⟩
  simp only at hp;subst hp;have d:(decide ((l.length:Int)<(l.length:Int)))=false:=kn (κ _);cases l with
  |nil=>exact pN 33 [] 1 0 (.c (az d) .nil) (.nil) g
  |cons a r=>exact pN 33 [] 1 0 (.c (az d) .nil) (.nil) g
def abv (so sp:List UInt8->Nat) (x:List UInt8):Bool:= !(decide (((1:Nat):Int)<((so x:Nat):Int))) && !(decide (((1:Nat):Int)<((sp x:Nat):Int)))
end Go.Proofs.Tryz
open Go AM Go.RowKit Go.Shelf
namespace Go.Proofs.Tryz
attribute [local go_sem] Oper.semAt_some
theorem gp {W W':World} (h:Below W.heap.size W W'):iV (bf W) (bf W'):=by
 intro k o v b;have a:=oG b;rw [<- b];unfold bf;rw [h.block k a,World.cell?_of_block (h.block k a)]
theorem xN {W W':World} (h:Below W.heap.size W W') (f:dY ap (bf W)):dY ap (bf W'):=by
 intro k e c;obtain ⟨vs,d,b⟩:=f k e c;exact ⟨vs,bD (gp h) _ d,λj u a=> ⟨gp h _ _ _ (b j u a).1,(b j u a).2⟩⟩
theorem aox {W:World} (a:dY ap (bf W)) (m:aW):b_ ap (bz []) m (bf W) W:=
 ⟨λb c B B' h=>by simp [bz] at h,λb B h=>by simp [bz] at h,λk o v h=>h,λb B h=>by simp [bz] at h,a⟩
theorem yO {f:Nat} {args:List AV} {g:IntKind} {x:Int} (i:CO f args (.ret (.int g x))) {W:World} (o:dY ap (bf W)) {cargs:List Value} (m:bT (bf W) args cargs) {n:Nat}:
  CallsIn Fence.wide n prog f cargs.toArray W λe W'=>e= .returned (.int g x)/\Below W.heap.size W W':=by
 refine callsIn_wide.2 ?_;refine (i.calls (λ_=>(0,0)) (bf W) W cargs (aox o _) (bU _ m)).mono ?_
 rintro e W' ⟨m',S',hF⟩
 obtain ⟨_,a,c⟩:=hF;obtain ⟨cv,rfl,d⟩:=c;simp only [zi,VR,PR] at d;subst d;exact ⟨rfl,a.os,a.tape,a.output,a.size,λk j=>a.rest k j λb B h=>by simp [bz] at h⟩
theorem ja {W W':World} (h:Below W.heap.size W W') (a:Option Nat):W.grownBy W' a:=
 ⟨h.os,h.tape,h.output,h.size,λk b _=>h.block k b⟩
def mO (f g:Nat->Int) (k:Nat):List Int:=(Xqo k).flatMap λj=> [f j,g j]
theorem wF (f g:Nat->Int) (k:Nat):mO f g (k+1)=mO f g k++ [f k]++ [g k]:=by simp [mO,List.range_succ]
theorem wE (f g:Nat->Int) (k:Nat):(mO f g k).length=2*k:=by
 induction k with
 |zero=>rfl
 |succ k ih=>rw [wF];simp [ih];omega
theorem Yw (f g:Nat->Int) {k n:Nat} (h:k<=n):mO f g k<+:mO f g n:=by
 induction n with
 |zero=>
  obtain rfl:k=0:=by omega
  exact Xwx _
 |succ n ih=>
  by_cases hk:k=n+1
  .subst hk;exact Xwx _
  .exact (ih (by omega)).trans (by rw [wF,Xqe];exact Xvy _ _)
set_option maxRecDepth 100000 in
set_option maxHeartbeats 4000000 in
theorem T_ (n:Nat) (hn:2<=n) (l kn ke ks n₀ b off len cap:Nat) (E SC:AV) (ue us:Value) (ns:Nat->List UInt8) (so sp:Nat->Int) (hreach:len*16<=140737488351232)
  (hso:∀ k,k<len->CO 28 [E,SC,.int .i64 6,.str (ns k)] (.ret (.int .i64 (so k)))) (hsp:∀ k,k<len->CO 28 [E,SC,.int .i64 8,.str (ns k)] (.ret (.int .i64 (sp k))))
  (J Jx:List Int->World->Prop) (W:World) (hAJ:AbidesFrom W.heap.size J)
  (hY:∀ pre x W1,J pre W1->pre.length<2*len->YieldAt Fence.wide (n - 1) prog l #[.int .i64 x] W1 λe W'=>
   (e= .returned (.bool true)/\J (pre++ [x]) W'/\Below n₀ W1 W')\/(e= .returned (.bool false)/\Jx (pre++ [x]) W'))
  (hn0:n₀<=W.heap.size) (hbn:b<n₀) (hkn:kn<n₀) (hke:ke<n₀) (hks:ks<n₀)
  (w0:World) (hw0:w0.heap.size=n₀) (hW:Below n₀ w0 W) (hg:dY ap (bf w0)) (hpr:bT (bf w0) [E,SC] [ue,us])
  (cn:w0.cell? ⟨kn,0,none⟩=some (.slice (some ⟨b,off,none⟩) len cap)) (ce:w0.cell? ⟨ke,0,none⟩=some ue) (cs:w0.cell? ⟨ks,0,none⟩=some us)
  (hc:∀ j,j<len->w0.cell? ⟨b,off+j,none⟩=some (.string ⟨(ns j).toArray⟩)) (h0:J [] W):
  CallsIn Fence.wide n prog 151 #[.func (.yield l) #[] #[],.pointer (some ⟨kn,0,none⟩),.pointer (some ⟨ke,0,none⟩),.pointer (some ⟨ks,0,none⟩)] W λe W'=>(∃ v,e= .returned v)/\
   ((∃ ys,ys=mO so sp len/\J ys W')\/(∃ pre,pre<+:mO so sp len/\Jx pre W')):=by
 have kee:∀ (w:World),Below n₀ w0 w->∀ (k j:Nat) (v:Value),k<n₀->w0.cell? ⟨k,j,none⟩=some v->w.cell? ⟨k,j,none⟩=some v:=λw h k j v hk hv=>(Below.cell h (p:=⟨k,j,none⟩) hk).trans hv
 have cn':=kee _ hW _ _ _ hkn cn;refine callsIn_of_wp Tryz.func151 rfl trivial ?_ rfl;simp only [Tryz.ntmps151,Xxh,ο,Xqa,Xzd,Xze,Array.replicate_succ,Array.replicate_zero,Xjd,Xx0,Xqc,Xqt]
 gi_wp2
 gi_loopw [9] (λi wr=> ∃ k:Nat,k<=len/\i= .int .i64 k/\J (mO so sp k) wr/\Below n₀ w0 wr/\W.heap.size<=wr.heap.size)
  (λi _=>len - (intOf i).toNat)
 case atStart=>exact ⟨0,Xq7 _,rfl,h0,hW,κ _⟩
 case round=>
  obtain ⟨k,hk,rfl,hJs,hnx,hsz⟩:=hrel;have hcx:k<len->wr.cell? ⟨b,off+k,none⟩=some (.string ⟨(ns k).toArray⟩):=λh=>kee _ hnx _ _ _ hbn (hc k h)
  have ce1:=kee _ hnx _ _ _ hke ce;have cs1:=kee _ hnx _ _ _ hks cs;by_cases hlt:k<len
  .have hcx':=hcx hlt;have bW1:∀ (w:World),Below n₀ w0 w->Below w0.heap.size w0 w:=λw h=>by rw [hw0];exact h
   have PR4:∀ (w:World) (op:Int),Below n₀ w0 w->bT (bf w) [E,SC,.int .i64 op,.str (ns k)] [ue,us,.int .i64 op,.string ⟨(ns k).toArray⟩]:=λw op h=>by
    have h2:=bD (gp (bW1 w h)) _ hpr;simp only [bT,PR] at h2 ⊢;exact ⟨h2.1,h2.2.1,trivial,trivial,trivial⟩
   have LE1:mO so sp len=mO so sp k++ [so k]++ [sp k]++(mO so sp len).drop (2*(k+1)):=by
    rw [<- wF];obtain ⟨r,hr⟩:=Yw so sp (show k+1<=len by omega)
    conv=>rhs;rw [<- hr]
    rw [Xks (wE ..)];exact hr.symm
   have hf14:Fence.wide.fn 28:=trivial;have h1n:1<=n:=by omega
   gi_wp2_with (gi_at_call 28;refine (yO (hso k hlt) (xN (bW1 _ hnx) hg) (PR4 _ 6 hnx)).mono ?_;rintro e W1 ⟨rfl,hb1⟩;have hJ1:=hAJ _ _ _ none hJs (ja hb1 none) (λr e=>by cases e);have hnx1:Below n₀ w0 W1:=hnx.trans (hb1.mono (by omega));obtain ⟨fn,tmps,assign,body,hy,hR⟩:=hY _ (so k) W1 hJ1 (by rw [wE];omega))
   refine hR.mono ?_
   rintro e W3 (⟨rfl,hJ3,hk3⟩|⟨rfl,hJx3⟩)
   .have hnx3:=hnx1.trans hk3;have ce3:=kee _ hnx3 _ _ _ hke ce;have cs3:=kee _ hnx3 _ _ _ hks cs
    gi_wp2_with (gi_at_call 28;refine (yO (hsp k hlt) (xN (bW1 _ hnx3) hg) (PR4 _ 8 hnx3)).mono ?_;rintro e W4 ⟨rfl,hb4⟩;have hJ4:=hAJ _ _ _ none hJ3 (ja hb4 none) (λr e=>by cases e);have hnx4:Below n₀ w0 W4:=hnx3.trans (hb4.mono (by rw [<- hw0];exact hnx3.size));obtain ⟨fn4,tmps4,assign4,body4,hy4,hR4⟩:=hY _ (sp k) W4 hJ4 (by rw [ν,wE,Θ];omega))
    refine hR4.mono ?_
    rintro e W5 (⟨rfl,hJ5,hk5⟩|⟨rfl,hJx5⟩)
    .gi_wp2
     go_roundw
     case rel=>exact ⟨k+1,by omega,by simp,by rw [wF];exact hJ5,hnx4.trans hk5,by have:=hb1.size;have:=hk3.size;have:=hb4.size;have:=hk5.size;omega⟩
     case measure=>simp [intOf];omega
    .gi_wp2
     refine bodyPost_ret (results_none rfl _ _ _) rfl ?_;exact ⟨⟨_,rfl⟩,.inr ⟨_,by rw [LE1];exact Xvy _ _,hJx5⟩⟩
   .gi_wp2_with (refine ⟨λ_ _=>trivial, ?_⟩)
    refine bodyPost_ret (results_none rfl _ _ _) rfl ?_;exact ⟨⟨_,rfl⟩,.inr ⟨_,by rw [LE1,Xqe];exact Xvy _ _,hJx3⟩⟩
  .obtain rfl:k=len:=by omega
   gi_wp2
   go_end0
   exact ⟨⟨_,rfl⟩,.inl ⟨_,rfl,hJs⟩⟩
attribute [local go_sem] Oper.semAt_some
theorem X_ (a1 a2 a3:Option Addr) (l1 l2 l3 c1 c2 c3:Nat) (n:Nat) (w:World):
  CallsIn Fence.wide n prog 108 #[.slice a1 l1 c1,.slice a2 l2 c2,.slice a3 l3 c3] w λe w'=>e= .returned (.func (.func 151) #[] #[.pointer (some ⟨w.heap.size+2,0,none⟩),.pointer (some ⟨w.heap.size,0,none⟩),.pointer (some ⟨w.heap.size+1,0,none⟩)])/\w'=((w.alloc (.cells #[.slice a1 l1 c1] 63)).alloc (.cells #[.slice a2 l2 c2] 35)).alloc (.cells #[.slice a3 l3 c3] 130):=by
 refine callsIn_of_wp Tryz.func108 rfl trivial ?_ rfl;simp only [Tryz.ntmps108,Xxh,ο,Xqa,Xzd,Xze,Array.replicate_succ,Array.replicate_zero,Xjd,Xx0,Xqc,Xqt]
 gi_wp2
 go_ret
 refine ⟨?_,rfl⟩;simp
theorem abt {w:World} {tmps:Array Value} {k:Nat} {b:Bool} (d:tmps.getD 6 undef= .pointer (some ⟨k,0,none⟩)) (f:w.cell? ⟨k,0,none⟩=some (.bool b)):(results f66 tmps).run prog w= .ok (.bool b) w:=by
 refine oV (vs:= [.bool b]) rfl ?_;intro i r v c a
 match i with
 | 0=>
  simp only [Xxb,Option.some.injEq] at a;subst a;have:r= .cell 6 4:=by
   have h0:f66.results.toList[0]? =some (.cell 6 4):=rfl;rw [h0] at c;exact (Option.some.inj c).symm
  subst this;have e:prog.underlying 4=some .bool:=by kernel_rfl
  simp only [zJ,d];simp [asAddr,loadVar,e,f,go_sem]
 |n+1=>simp at a
theorem XZ (E:AV) (x:Int) (hx:x ≠ 0) (hck:CO 64 [E] (.ret (.int .i64 x))) (n:Nat) (hn:3<=n) (ue us un:Value) (w:World) (hg:dY ap (bf w)) (hpr:bT (bf w) [E] [ue]):
  CallsIn Fence.wide n prog 66 #[ue,us,un] w λe w'=>e= .returned (.bool false)/\Below w.heap.size w w':=by
 have h21:Fence.wide.fn 64:=trivial;have h1n:1<=n:=by omega
 have ha:Below w.heap.size w (w.alloc (.cells #[.bool false] 4)):=(Below.refl _ w).alloc (κ _) _;have hx':decide (x=0)=false:=Yq1 hx;refine callsIn_of_wp_marks Tryz.func66 rfl trivial ?_ rfl;simp only [Tryz.ntmps66,Xxh,ο,Xqa,Xzd,Xze,Array.replicate_succ,Array.replicate_zero,Xjd,Xx0,Xqc,Xqt]
 gi_wp2_with (gi_at_call 64;refine (yO hck (xN ha hg) (bD (gp ha) _ hpr)).mono ?_;rintro e W1 ⟨rfl,hb1⟩;have hc1:=(hb1.cell (p:=⟨w.heap.size,0,none⟩) (by simp)).trans (show (w.alloc (.cells #[.bool false] 4)).cell? ⟨w.heap.size,0,none⟩=some (.bool false) by simp);have hf1:=(hb1.frozen (p:=⟨w.heap.size,0,none⟩) (by simp)).trans (show (w.alloc (.cells #[.bool false] 4)).frozen? ⟨w.heap.size,0,none⟩=false by simp))
 exact ⟨_,abt rfl (World.cell?_setCell_same' _ _ _ (by rw [hc1];rfl)),rfl,(ha.trans (hb1.mono (by simp))).setCell (p:=⟨w.heap.size,0,none⟩) (κ _) _⟩
attribute [local go_sem] Oper.semAt_some
set_option maxRecDepth 100000 in
set_option maxHeartbeats 1000000 in
theorem QD (n:Nat) (l kn ke ks cap:Nat) (an:Option Addr) (so sp:Nat->Int) (J Jx:List Int->World->Prop) (W:World) (cn:W.cell? ⟨kn,0,none⟩=some (.slice an 0 cap)) (h0:J [] W):
  CallsIn Fence.wide n prog 151 #[.func (.yield l) #[] #[],.pointer (some ⟨kn,0,none⟩),.pointer (some ⟨ke,0,none⟩),.pointer (some ⟨ks,0,none⟩)] W λe W'=>(∃ v,e= .returned v)/\
   ((∃ ys,ys=mO so sp 0/\J ys W')\/(∃ pre,pre<+:mO so sp 0/\Jx pre W')):=by
 refine callsIn_of_wp Tryz.func151 rfl trivial ?_ rfl;simp only [Tryz.ntmps151,Xxh,ο,Xqa,Xzd,Xze,Array.replicate_succ,Array.replicate_zero,Xjd,Xx0,Xqc,Xqt]
 gi_wp2
 gi_loopw [9] (λi wr=>i= .int .i64 0/\J [] wr) (λ_ _=>0)
 case atStart=>exact ⟨rfl,h0⟩
 case round=>
  obtain ⟨rfl,hJs⟩:=hrel
  gi_wp2
  go_end0
  exact ⟨⟨_,rfl⟩,.inl ⟨_,rfl,hJs⟩⟩
theorem Oi (n:Nat) (A:2<=n) (kn e ks b c cap:Nat) (r:Option Addr) (E SC:AV) (q i:Value) (a:List (List UInt8)) (g m:List UInt8->Int) (hreach:a.length*16<=140737488351232)
  (hso:∀ s ∈ a,CO 28 [E,SC,.int .i64 6,.str s] (.ret (.int .i64 (g s)))) (hsp:∀ s ∈ a,CO 28 [E,SC,.int .i64 8,.str s] (.ret (.int .i64 (m s))))
  (w:World) (hg:dY ap (bf w)) (hpr:bT (bf w) [E,SC] [q,i]) (hkn:kn<w.heap.size) (hke:e<w.heap.size) (hks:ks<w.heap.size)
  (cn:w.cell? ⟨kn,0,none⟩=some (.slice r a.length cap)) (ce:w.cell? ⟨e,0,none⟩=some q) (cs:w.cell? ⟨ks,0,none⟩=some i)
  (hc:0<a.length->r=some ⟨b,c,none⟩/\b<w.heap.size/\∀ j,j<a.length->w.cell? ⟨b,c+j,none⟩=some (.string ⟨((a[j]?).getD []).toArray⟩)):
  SeqStopsK Fence.wide n prog 151 #[.pointer (some ⟨kn,0,none⟩),.pointer (some ⟨e,0,none⟩),.pointer (some ⟨ks,0,none⟩)] (λx:Int=> #[Value.int .i64 x]) (Below w.heap.size)
   (λu=>u=mO (λk=>g ((a[k]?).getD [])) (λk=>m ((a[k]?).getD [])) a.length) (λpre=>pre<+:mO (λk=>g ((a[k]?).getD [])) (λk=>m ((a[k]?).getD [])) a.length) (2*a.length) w:=by
 intro l J Jx W o B _ v h0;have t:∀ k,k<a.length->(a[k]?).getD [] ∈ a:=λk d=>by rw [μ d];exact Xxj d
 by_cases h:0<a.length
 .obtain ⟨rfl,y,f⟩:=hc h;exact T_ n A l kn e ks w.heap.size b c a.length cap E SC q i (λk=>(a[k]?).getD []) _ _ hreach (λk d=>hso _ (t k d)) (λk d=>hsp _ (t k d)) J Jx W B v o.size y hkn hke hks w rfl o hg hpr cn ce cs f h0
 .have z:a.length=0:=by omega
  rw [z] at cn ⊢;exact QD n l kn e ks cap r _ _ J Jx W ((o.cell (p:=⟨kn,0,none⟩) hkn).trans cn) h0
set_option maxRecDepth 100000 in
set_option maxHeartbeats 2000000 in
theorem TR (E SC:AV) (hck:CO 64 [E] (.ret (.int .i64 0))) (ns:List (List UInt8)) (so sp:List UInt8->Int) (hreach:ns.length*16<=140737488351232)
  (hso:∀ s ∈ ns,CO 28 [E,SC,.int .i64 6,.str s] (.ret (.int .i64 (so s)))) (hsp:∀ s ∈ ns,CO 28 [E,SC,.int .i64 8,.str s] (.ret (.int .i64 (sp s)))) (n:Nat) (hn:4<=n)
  (a1 a2 an:Option Addr) (l1 l2 c1 c2 cap b off:Nat) (w:World) (hg:dY ap (bf w)) (hpr:bT (bf w) [E,SC] [.slice a1 l1 c1,.slice a2 l2 c2])
  (hc:0<ns.length->an=some ⟨b,off,none⟩/\∀ j,j<ns.length->w.cell? ⟨b,off+j,none⟩=some (.string ⟨((ns[j]?).getD []).toArray⟩)):
  CallsIn Fence.wide n prog 66 #[.slice a1 l1 c1,.slice a2 l2 c2,.slice an ns.length cap] w λe w'=>e= .returned (.bool ((mO (λk=>so ((ns[k]?).getD [])) (λk=>sp ((ns[k]?).getD [])) ns.length).all λx=>decide (x<=1)))/\Below w.heap.size w w':=by
 have h21:Fence.wide.fn 64:=trivial;have h47:Fence.wide.fn 108:=trivial;have h1n:1<=n:=by omega
 have ha:Below w.heap.size w (w.alloc (.cells #[.bool false] 4)):=(Below.refl _ w).alloc (κ _) _;have hpe:bT (bf w) [E] [.slice a1 l1 c1]:=by simp only [bT] at hpr ⊢;exact ⟨hpr.1,trivial⟩
 refine callsIn_of_wp_marks Tryz.func66 rfl trivial ?_ rfl;simp only [Tryz.ntmps66,Xxh,ο,Xqa,Xzd,Xze,Array.replicate_succ,Array.replicate_zero,Xjd,Xx0,Xqc,Xqt]
 gi_wp2_with (first
  |(gi_at_call 64;refine (yO hck (xN ha hg) (bD (gp ha) _ hpe)).mono ?_;rintro e W1 ⟨rfl,hb1⟩)
  |(gi_at_call 108;refine (X_ a1 a2 an l1 l2 ns.length c1 c2 cap _ _).mono ?_;rintro e W2 ⟨rfl,rfl⟩)
  |gi_in)
 obtain ⟨W3,hW3⟩:∃ W3,((W1.alloc (.cells #[.slice a1 l1 c1] 63)).alloc (.cells #[.slice a2 l2 c2] 35)).alloc (.cells #[.slice an ns.length cap] 130)=W3:=⟨_,rfl⟩
 rw [hW3];have hs3:W3.heap.size=W1.heap.size+3:=by rw [<- hW3];simp
 have hb3:Below W1.heap.size W1 W3:=by rw [<- hW3];exact (((Below.refl _ W1).alloc (κ _) _).alloc (by simp) _).alloc (by simp;omega) _
 have hs1:w.heap.size+1<=W1.heap.size:=by have:=hb1.size;simpa using this
 have hwW1:Below w.heap.size w W1:=ha.trans (hb1.mono (by simp));have hw3:Below w.heap.size w W3:=hwW1.trans (hb3.mono (by omega));have k1:W3.cell? ⟨W1.heap.size,0,none⟩=some (.slice a1 l1 c1):=by rw [<- hW3];exact (((Boxed.new W1 63 (.slice a1 l1 c1)).alloc _).alloc _).cell
 have k2:W3.cell? ⟨W1.heap.size+1,0,none⟩=some (.slice a2 l2 c2):=by
  have:=((Boxed.new (W1.alloc (.cells #[.slice a1 l1 c1] 63)) 35 (.slice a2 l2 c2)).alloc (.cells #[.slice an ns.length cap] 130)).cell;rw [World.size_alloc] at this;rw [<- hW3];exact this
 have k3:W3.cell? ⟨W1.heap.size+2,0,none⟩=some (.slice an ns.length cap):=by
  have:=(Boxed.new ((W1.alloc (.cells #[.slice a1 l1 c1] 63)).alloc (.cells #[.slice a2 l2 c2] 35)) 130 (.slice an ns.length cap)).cell;rw [World.size_alloc,World.size_alloc] at this;rw [<- hW3];exact this
 have kc:W3.cell? ⟨w.heap.size,0,none⟩=some (.bool false):=((hb3.cell (p:=⟨w.heap.size,0,none⟩) hs1).trans (hb1.cell (p:=⟨w.heap.size,0,none⟩) (by simp))).trans (Boxed.new w 4 (.bool false)).cell;have kf:W3.frozen? ⟨w.heap.size,0,none⟩=false:=((hb3.frozen (p:=⟨w.heap.size,0,none⟩) hs1).trans (hb1.frozen (p:=⟨w.heap.size,0,none⟩) (by simp))).trans (Boxed.new w 4 (.bool false)).frozen;have hc3:0<ns.length->an=some ⟨b,off,none⟩/\b<W3.heap.size/\∀ j,j<ns.length->W3.cell? ⟨b,off+j,none⟩=some (.string ⟨((ns[j]?).getD []).toArray⟩):=by
  intro h;obtain ⟨h1,h2⟩:=hc h;have hbl:b<w.heap.size:=World.block_lt_of_cell? w ⟨b,off+0,none⟩ (h2 0 h);exact ⟨h1,by omega,λj hj=>(hw3.cell (p:=⟨b,off+j,none⟩) hbl).trans (h2 j hj)⟩
 have oB:∀ {A B:World} {row:Option Nat},Below w.heap.size w A->A.grownBy B row->(∀ r,row=some r->W3.heap.size<=r/\∃ o:Obj,A.heap[r]? =some o/\o.isCells=false)->Below w.heap.size w B:=
  λh hg hr=>ownFrom_below (β:=Unit) (n₀:=w.heap.size) (B:=W3.heap.size) (w₀:=w) (κ _) hw3.size () _ _ _ h hg hr
 have oC:∀ {A:World} {D:Nat} {o:Obj} {v:Value},W3.heap.size<=D->A.cell? ⟨w.heap.size,0,none⟩=some v->(A.putObj D o).cell? ⟨w.heap.size,0,none⟩=some v:=
  fun {A D o v} hD hv=>(World.cell?_of_block (World.putObj_heap_other (show w.heap.size ≠ D by omega))).trans hv
 have pB:∀ {A:World} {D:Nat} {o:Obj},W3.heap.size<=D->Below w.heap.size w A->Below w.heap.size w (A.putObj D o):=
  fun {A D o} hD h=>h.trans ((Below.refl _ A).grown (grownBy_putObj' A D o) h.size (λk e=>by cases e;omega))
 refine wpIn_rangeFunc_ownF rfl h1n (gf:=151) (lb:=#[.pointer (some ⟨W1.heap.size+2,0,none⟩),.pointer (some ⟨W1.heap.size,0,none⟩),.pointer (some ⟨W1.heap.size+1,0,none⟩)]) rfl trivial (enters_of Tryz.func151 (by kernel_rfl) rfl)
  (Oi (n - 1) (by omega) (W1.heap.size+2) W1.heap.size (W1.heap.size+1) b off cap an E SC _ _ ns so sp hreach hso hsp W3 (xN hw3 hg) (bD (gp hw3) _ hpr) (by omega) (by omega) (by omega) k3 k1 k2 hc3)
  (λh k=>h.trans k) (λW l o o' hl h hc hw=>belowK_b (κ _) W l o o' hl h hc hw) (Below.refl _ _) (λ_=>rfl)
  (λpre W=>(∀ x ∈ pre,x<=1)/\W.cell? ⟨w.heap.size,0,none⟩=some (.bool false)/\W.frozen? ⟨w.heap.size,0,none⟩=false/\Below w.heap.size w W)
  (λc pre W=>c= .ret/\(∃ x ∈ pre,¬ x<=1)/\W.cell? ⟨w.heap.size,0,none⟩=some (.bool false)/\Below w.heap.size w W)
  (λs A B row hs hg hr=> ⟨hs.1,cell_kept hs.2.1 hg (λr e=>(hr r e).2),(frozen_kept hs.2.1 hg (λr e=>(hr r e).2)).trans hs.2.2.1,oB hs.2.2.2 hg hr⟩)
  (λc s A B row hs hg hr=> ⟨hs.1,hs.2.1,cell_kept hs.2.2.1 hg (λr e=>(hr r e).2),oB hs.2.2.2 hg hr⟩)
  ⟨by simp,kc,kf,hw3⟩
  (λx=> {tmps:=#[.slice a1 l1 c1,.slice a2 l2 c2,.slice an ns.length cap,undef,undef,undef,.pointer (some ⟨w.heap.size,0,none⟩),.int .i64 x,.slice a1 l1 c1,.int .i64 0,.bool false,.slice a1 l1 c1,.slice a2 l2 c2,.slice an ns.length cap,.func (.func 151) #[] #[.pointer (some ⟨W1.heap.size+2,0,none⟩),.pointer (some ⟨W1.heap.size,0,none⟩),.pointer (some ⟨W1.heap.size+1,0,none⟩)],.int .i64 x,undef,undef],defers:= []}) ?assign ?body ?done ?stop
 case assign=>
  intro l x W K hK
  gi_wp2
  exact hK
 case body=>
  rintro l pre x W ⟨hp,hcW,hfW,hbW⟩ _
  by_cases hx:x<=1
  .have hx1:¬ (1<x):=by omega
   gi_wp2
   exact ⟨KeepsOthers.refl _,Below.refl _ _,(λy hy=>by rcases List.mem_append.1 hy with h|h;exact hp y h;rw [List.mem_singleton.1 h];exact hx),hcW,hfW,hbW⟩
  .have hx1:1<x:=by omega
   gi_wp2
   exact ⟨KeepsOthers.setCell _ _ _,rfl,⟨x,by simp,hx⟩,World.cell?_setCell_same' _ _ _ (by rw [hcW];rfl),hbW.setCell (p:=⟨w.heap.size,0,none⟩) (κ _) _⟩
 case done=>
  rintro D xs W hD rfl ⟨hp,hcW,hfW,hbW⟩ hK
  gi_wp2
  have hK':(W.setCell ⟨w.heap.size,0,none⟩ (.bool true)).heap[D]? =some (.deferred (some [])):=(Below.heap_setCell W ⟨w.heap.size,0,none⟩ (.bool true) D (by show D ≠ w.heap.size;omega)).trans hK;refine ⟨by simp,.inl ⟨_,_,rfl,run_takeDeferred hK', ?_⟩⟩;refine ⟨_,abt rfl (oC hD (World.cell?_setCell_same' _ _ _ (by rw [hcW];rfl))), ?_,pB hD (hbW.setCell (p:=⟨w.heap.size,0,none⟩) (κ _) _)⟩;congr 2;exact (List.all_eq_true.2 λx hx=>Yq0 (hp x hx)).symm
 case stop=>
  rintro D c pre W hD hSp ⟨rfl,⟨x,hx,hx1⟩,hcW,hbW⟩ hK
  gi_wp2
  refine ⟨by simp,.inl ⟨_,_,rfl,run_takeDeferred hK, ?_⟩⟩;refine ⟨_,abt rfl (oC hD hcW), ?_,pB hD hbW⟩;congr 2;obtain ⟨r,hr⟩:=hSp;symm;rw [Bool.eq_false_iff];intro h;rw [<- hr] at h;have h2:=of_decide_eq_true (List.all_eq_true.1 h x (List.mem_append.2 (.inl hx)));omega
def ad8 (x:AV):Prop:=x= .nilS\/∃ l n b,x= .sl l n b
theorem ad8.val {S:aO} {x:AV} {v:Value} (h:ad8 x) (d:PR S x v):∃ a l c,v= .slice a l c:=by
 rcases h with rfl|⟨l,n,b,rfl⟩
 .simp only [PR] at d;exact ⟨_,_,_,d⟩
 .simp only [PR] at d;obtain ⟨a,cap,rfl,_⟩:=d;exact ⟨_,_,_,rfl⟩
def acm (ns:List (List UInt8)) (b:Bool):AV:= .sl (ns.map .str) ns.length b
theorem acn {S:aO} {d:List (List UInt8)} {b:Bool} {v:Value} (e:PR S (acm d b) v):∃ an cap k c,v= .slice an d.length cap/\(0<d.length->an=some ⟨k,c,none⟩/\∀ j,j<d.length->S k (c+j)=some (.string ⟨((d[j]?).getD []).toArray⟩)):=by
 simp only [acm,PR] at e;obtain ⟨a,cap,rfl,_,h⟩:=e;rcases h with ⟨_,_,h,_⟩|⟨k,c,vs,rfl,i,g⟩
 .exact ⟨a,cap,0,0,rfl,λn=>absurd h (by omega)⟩
 .refine ⟨_,cap,k,c,rfl,λ_=> ⟨rfl,λj f=> ?_⟩⟩;obtain ⟨u,m,hp⟩:=Md i j (x:= .str ((d[j]?).getD [])) (by rw [List.getElem?_map,μ f];rfl);simp only [PR] at hp;rw [<- hp];exact (g j u m).1
theorem alk:zU prog 66:=enters_of Tryz.func66 (by kernel_rfl) rfl
theorem Jg {args:List AV} {b:Bool} (h:∀ w cargs,dY ap (bf w)->bT (bf w) args cargs->CallsIn Fence.wide 9 prog 66 cargs.toArray w λe w'=>e= .returned (.bool b)/\Below w.heap.size w w'):CO 66 args (.ret (.bool b)):=by
 refine ⟨κ _,alk, ?_⟩;intro m S w cargs d p;have a:iV S (bf w):=λk o v c=>d.sealed k o v c
 have i:dY ap (bf w):=by
  intro k q c;obtain ⟨vs,n,f⟩:=d.glob k q c;exact ⟨vs,bD a _ n,λj u g=> ⟨a _ _ _ (f j u g).1,(f j u g).2⟩⟩
 refine (callsIn_wide.1 (h w cargs i (bD a _ (iQ (m:=m) _ p)))).mono ?_
 rintro e w' ⟨rfl,hb⟩
 refine ⟨m,S, ?_, ?_,⟨_,rfl, ?_⟩⟩
 .exact ⟨λb r B B' h=>by simp [bz,lS,kE] at h,λb B h=>by simp [bz,lS,kE] at h,λk o v h=>gp hb k o v (a k o v h),λb B h=>by simp [bz,lS,kE] at h,d.glob⟩
 .exact ⟨Ge.refl _ _,iV.refl S,hb.os,hb.tape,hb.output,hb.size,λk c _=>hb.block k c,λ_ B h=>by simp [bz,lS,kE] at h,λ_ _ _ h=> .inl h⟩
 .simp only [zi,VR,PR]
theorem abw (E SC NM:AV) (x:Int) (d:x ≠ 0) (b:CO 64 [E] (.ret (ω x))):CO 66 [E,SC,NM] (.ret (.bool false)):=by
 refine Jg λw cargs c a=> ?_
 match cargs,a with
 | [ue,us,un],a=>
  simp only [bT] at a;exact XZ E x d b 9 (by omega) ue us un w c (by simp only [bT];exact ⟨a.1,trivial⟩)
theorem abx (E SC:AV) (b:Bool) (A:ad8 E) (m:ad8 SC) (o:CO 64 [E] (.ret (ω 0))) (a:List (List UInt8)) (c d:List UInt8->Int) (hreach:a.length*16<=140737488351232)
  (hso:∀ s ∈ a,CO 28 [E,SC,ω 6,.str s] (.ret (ω (c s)))) (hsp:∀ s ∈ a,CO 28 [E,SC,ω 8,.str s] (.ret (ω (d s)))):
  CO 66 [E,SC,acm a b] (.ret (.bool (a.all λs=>decide (c s<=1) && decide (d s<=1)))):=by
 have e:(a.all λs=>decide (c s<=1) && decide (d s<=1))=(mO (λk=>c ((a[k]?).getD [])) (λk=>d ((a[k]?).getD [])) a.length).all λx=>decide (x<=1):=by
  have:a=(Xqo a.length).map λk=>(a[k]?).getD []:=by
   apply List.ext_getElem
   .simp
   .intro i g n;simp [μ g]
  conv=>lhs;rw [this]
  simp [mO,List.all_flatMap,List.all_map,Function.comp_def]
 rw [e];refine Jg λw cargs B f=> ?_
 match cargs,f with
 | [ue,us,un],f=>
  simp only [bT] at f;obtain ⟨g,n,y,_⟩:=f;obtain ⟨z,D,u,rfl⟩:=A.val g;obtain ⟨C,r,t,rfl⟩:=m.val n;obtain ⟨F,cap,k,p,rfl,q⟩:=acn y;exact TR E SC o a c d hreach hso hsp 9 (by omega) z C F D r u t cap k p w B (by simp only [bT];exact ⟨g,n,trivial⟩) λh=> ⟨(q h).1,λj v=>nH ((q h).2 j v) rfl⟩
theorem afj (b a:List UInt8->Nat) (x:List UInt8):abv b a x=(decide (((b x:Nat):Int)<=1) && decide (((a x:Nat):Int)<=1)):=by
 unfold abv;congr 1
 .by_cases h:((b x:Nat):Int)<=1
  .rw [Yq0 h,Yq1 (by omega)];rfl
  .rw [Yq1 h,Yq0 (by omega)];rfl
 .by_cases h:((a x:Nat):Int)<=1
  .rw [Yq0 h,Yq1 (by omega)];rfl
  .rw [Yq1 h,Yq0 (by omega)];rfl
def Gm (cmp:Br->Br->Int) (e:List Nd) (qs:List Sq) (nl:List (List UInt8)):Bool:=
 (dE e==((0:Nat):Int)) && nl.all (abv (λx=>kF (xf cmp) (xh cmp) e (qs.map Sq.c) 6 x) (λx=>kF (xf cmp) (xh cmp) e (qs.map Sq.c) 8 x))
theorem JZ (e:List Nd) (d:Bool) (qs:List Sq) (f:Bool) (cmp:Br->Br->Int) (a:List (List UInt8)) (g:Bool) (b:∀ y ∈ e,y.sm) (c:e.length<2^40) (i:qs= []) (j:a.length<2^40):
  CO 66 [.sl (aX e) e.length d,.sl (lT (qs.map Sq.c)) qs.length f,.sl (Xz1 AV.str a) a.length g] (.ret (.bool (Gm cmp e qs a))):=by
 have ck:=xA e d b;unfold Gm;by_cases hq:dE e=0
 .rw [hq] at ck;have h:=abx (.sl (aX e) e.length d) (.sl (lT (qs.map Sq.c)) qs.length f) g (.inr ⟨_,_,_,rfl⟩) (.inr ⟨_,_,_,rfl⟩) ck a
   (λx=>((kF (xf cmp) (xh cmp) e (qs.map Sq.c) 6 x:Nat):Int)) (λx=>((kF (xf cmp) (xh cmp) e (qs.map Sq.c) 8 x:Nat):Int)) (by omega)
   (λx _=>Cc e d qs f cmp 6 x b c i) (λx _=>Cc e d qs f cmp 8 x b c i)
  rw [hq,show ((0:Int)==((0:Nat):Int))=true from rfl,Xx1];rw [show a.all (abv (λx=>kF (xf cmp) (xh cmp) e (qs.map Sq.c) 6 x) (λx=>kF (xf cmp) (xh cmp) e (qs.map Sq.c) 8 x))=a.all λs=>decide (((kF (xf cmp) (xh cmp) e (qs.map Sq.c) 6 s:Nat):Int)<=1) && decide (((kF (xf cmp) (xh cmp) e (qs.map Sq.c) 8 s:Nat):Int)<=1) from by congr 1;funext x;exact afj _ _ x];exact h
 .rw [show (dE e==((0:Nat):Int))=false from beq_eq_false_iff_ne.2 hq,Xx6];exact abw _ _ _ (dE e) hq ck
abbrev prC (x:a_):List AV:= [.str x.nm,.bool x.tr,ω x.tm,ω x.td,.sl (aX x.body) x.body.length false,.bool x.ch,.bool x.st.n,.str x.st.a,.str x.st.d,.bool x.cp.n,.str x.cp.a,.str x.cp.d]
def jD (x:a_):Bool:=eP x.st.n x.st.a x.st.d && (eP x.cp.n x.cp.a x.cp.d && (decide (((0:Nat):Int)<rU x.st.n x.st.a x.st.d) && decide (((0:Nat):Int)<aV x.cp x.st)))
structure a_.sm (x:a_):Prop where
 body:∀ y ∈ x.body,y.sm
 len:x.body.length<2^40
 st:x.st.sm
 cp:x.cp.sm
theorem WI (x:a_) (h:x.sm):CO 65 [.agg (prC x)] (.ret (.bool (jD x))):=by
 obtain ⟨s1,b⟩:=h.st;obtain ⟨c,a⟩:=h.cp;rcases tf (eP x.st.n x.st.a x.st.d) with b0|b0
 .rcases tf (eP x.cp.n x.cp.a x.cp.d) with b1|b1
  .rcases tf (decide (((0:Nat):Int)<(rU x.st.n x.st.a x.st.d))) with b2|b2
   .rw [show jD x=(decide (((0:Nat):Int)<(aV x.cp x.st))) by simp only [jD,b0,b1,b2,Xx1,Xx6]];exact pK [] 3 7 (.k 6 (aA b2) (.k 3 (aA b1) (.k 3 (aA b0) (.n 3 .nil)))) (.c (JE x.cp x.st ⟨c,a⟩ ⟨s1,b⟩) (.c (kP x.st.n x.st.a x.st.d (by omega) (by omega)) (.c (eu x.cp.n x.cp.a x.cp.d) (.c (eu x.st.n x.st.a x.st.d) .nil))))
   .rw [show jD x=false by simp only [jD,b0,b1,b2,Xx1,Xx6]];exact pK [] 3 3 (.c (az b2) (.k 3 (aA b1) (.k 3 (aA b0) (.n 3 .nil)))) (.c (kP x.st.n x.st.a x.st.d (by omega) (by omega)) (.c (eu x.cp.n x.cp.a x.cp.d) (.c (eu x.st.n x.st.a x.st.d) .nil)))
  .rw [show jD x=false by simp only [jD,b0,b1,Xx1,Xx6]];exact pK [] 3 1 (.k 1 (az b1) (.k 3 (aA b0) (.n 3 .nil))) (.c (eu x.cp.n x.cp.a x.cp.d) (.c (eu x.st.n x.st.a x.st.d) .nil))
 .rw [show jD x=false by simp only [jD,b0,Xx1,Xx6]];exact pK [] 3 0 (.k 2 (az b0) (.n 3 .nil)) (.c (eu x.st.n x.st.a x.st.d) .nil)
def Tn (es:List a_):List (List UInt8):=es.map (·.nm)
theorem ai2 (es:List a_):OE es=Xz1 AV.str (Tn es):=by simp [OE,Tn]
def Jf (es:List a_) (x:a_):Bool:=Gm fB x.body [] (Tn es)
def G6 (es:List a_) (_:Unit) (x:a_):Unit ⊕ Option Int:=if (!(dE x.body==((0:Nat):Int)))=true then .inr (some (dE x.body)) else if (!jD x)=true then .inr (some 1) else if (!Jf es x)=true then .inr (some 17) else .inl ()
theorem afk (es:List a_) (x:a_) (h:x.sm) (a:es.length<2^39):CO 66 [.sl (aX x.body) x.body.length false,.sl [] 0 false,.sl (OE es) es.length false] (.ret (.bool (Jf es x))):=by
 have:=JZ x.body false [] false fB (Tn es) false h.body h.len rfl (by simp only [Tn,Xqp];omega);rw [<- ai2,show (Tn es).length=es.length from Xqp ..] at this;exact this
def Xj (es:List a_) (ss:List (List Lk)) (ne ns:Bool) (ks vs:List AV) (p:Nat × Unit):St:=⟨[(1,.ptr 0 0 0),(3,.mr 1 0),(4,.sl (OE es) es.length false),(100,.sl (bV es) es.length ne),(101,ω (es.length:Int)),(102,ω (p.1:Int))],[(0,⟨[.sl (bV es) es.length ne,.sl (eF ss) ss.length ns,.sl [] 0 false],0,false,0,0,true⟩),(1,⟨[.agg ks,.agg vs],0,false,0,4611686018427387904,true⟩)],.dead,[]⟩
def ZU (es:List a_) (ss:List (List Lk)) (ne ns:Bool) (ks vs:List AV):Option Int->St
 |none=> ⟨[(3,.mr 0 0)],[(0,⟨[.agg ks,.agg vs],0,false,0,4611686018427387904,true⟩)],.dead,[]⟩
 |some e=>(E8 e)
def fbE:Option Int->bI
 |none=> .exit 2
 |some _=> .ret
theorem adV {nt:Nat} (c:126<=nt) (es:List a_) (ss:List (List Lk)) (g d:Bool) (ks vs:List AV) (i:es.length<2^39) (h:∀ x ∈ es,x.sm):aF prog ap [] nt (af 2 (ax f33)) fbE (Xj es ss g d ks vs) (ZU es ss g d ks vs) (0,()) (goL (G6 es) (λ_=>none) es ()):=by
 refine aF.goD (G6 es) (λ_=>none) es (λ_ _=>True) ?_ ?_ () trivial
 .intro p x r _ b _;have e:(ε ((δ (p.length:Int))*14) (bV es))=ZL x++bV r:=fD DD b;have a:(decide ((p.length:Int)<(es.length:Int)))=true:=kl (wZ b);have j:=h x (by rw [b];simp);have m:=WI x j;have f:=xA x.body false j.body;have n:=afk es x j i;have o:p.length<2^62:=by have:=wZ b;omega
  show (∃ s',_/\ak _ _ _ _ _ (Xj es ss g d ks vs (p.length,())) _ _/\_)\/∃ q,_/\ak _ _ _ _ _ (Xj es ss g d ks vs (p.length,())) _ _;generalize p.length=k at*
  clear b;rcases tf ((dE x.body)==((0:Nat):Int)) with b0|b0
  .rcases tf (jD x) with b1|b1
   .rcases tf (Jf es x) with b2|b2
    .exact .inl ⟨(),by simp only [G6,b0,b1,b2,Xq8,Xxl,Xqy,if_true,if_false],pN 33 [] 4 1 (.c (aP b2) (.k 2 (aP b1) (.k 12 (aP b0) (.k 16 (k0 k) (.c a (.c (aA a) .nil)))))) (.v 125 (.eq (Rh o)) (.c n (.c m (.c f (.v 104 (.ppt e) .nil))))) c,trivial⟩
    .exact .inr ⟨some 17,by simp only [G6,b0,b1,b2,Xq8,Xxl,Xqy,if_true,if_false],pN 33 [] 4 9 (.c (dC b2) (.k 2 (aP b1) (.k 12 (aP b0) (.k 16 (k0 k) (.c a (.c (aA a) .nil)))))) (.c n (.c m (.c f (.v 104 (.ppt e) .nil)))) c⟩
   .exact .inr ⟨some 1,by simp only [G6,b0,b1,Xq8,Xxl,Xqy,if_true,if_false],pN 33 [] 3 5 (.c (dC b1) (.k 12 (aP b0) (.k 16 (k0 k) (.c a (.c (aA a) .nil))))) (.c m (.c f (.v 104 (.ppt e) .nil))) c⟩
  .exact .inr ⟨some (dE x.body),by simp only [G6,b0,Xq8,Xxl,Xqy,if_true,if_false],pN 33 [] 2 3 (.c (dC b0) (.k 16 (k0 k) (.c a (.c (aA a) .nil)))) (.c f (.v 104 (.ppt e) .nil)) c⟩
 .intro _ _;exact pN 33 [] 1 0 (.c (az (kn (κ es.length))) .nil) (.nil) c
theorem al1 (a s:Rw) (u:Nat) (d:CO 85 [.agg a.c] (.ret (.bool true))) (c:CO 32 [.agg a.c,.agg s.c] (.ret (.tup [Ω false (ae u) (ae 1),.bool true]))) (b:CO 58 [ω 1] VaG) (ci:CO 95 [.str (ae u)] (Vas u)):CO 57 [.agg a.c,.agg s.c,ω 200] (.ret (.tup [ω (u:Int),.bool (decide ((u:Int)<=((200:Nat):Int)))])):=pK [] 5 16 (.k 2 (aP (beq_self_eq_true (ae 1))) (.n 15 .nil)) (.c ci (.c b (.c c (.c d .nil))))
theorem aeu (a s:Rw) (o:a.ti) (hs:s.ti) (h:0<=aV a s):CO 57 [.agg a.c,.agg s.c,ω 200] (.ret (.tup [ω (aV a s),.bool true])):=by
 obtain ⟨t,q⟩:=o;obtain ⟨s1,r⟩:=hs;unfold aV at h ⊢;split at h
 .exact absurd h (by decide)
 .rename_i h0;split at h
  .rename_i n;obtain ⟨d,c,j,m⟩:=n;rw [if_neg h0,if_pos ⟨d,c,j,m⟩];have f:=Au a.n a.a a.d (by omega) (by omega);rw [d] at f;have p:=Gj a.n s.n a.a a.d s.a s.d (by omega) (by omega) (by omega) (by omega) (show 0<s.v.n by omega);have e:qA (bQ a.v s.v)= Ω false (ae (bQ a.v s.v).n) (ae 1):=by
    show Yj2 [.bool (bQ a.v s.v).neg,.str (ae (bQ a.v s.v).n),.str (ae (bQ a.v s.v).d)]=_;rw [c,j]
   have b:CO 32 [.agg a.c,.agg s.c] (.ret (.tup [Ω false (ae (bQ a.v s.v).n) (ae 1),.bool true])):=by rw [<- e];exact p
   have i:=aao (ae (bQ a.v s.v).n) (χ (dw (k:=8) (by omega)) (by decide)) (by rw [aI];omega);rw [aI] at i;have g:=al1 a s (bQ a.v s.v).n f b (mM 1) i;rw [Yq0 (show (((bQ a.v s.v).n:Nat):Int)<=((200:Nat):Int) by omega)] at g;exact g
  .exact absurd h (by decide)
theorem Y5 (x:a_) (hs:x.st.ti) (d:x.cp.ti) (h:jD x=true):CO 26 [.agg (prC x)] (.ret (.tup [ω (aV x.cp x.st),.bool true])):=by
 obtain ⟨s1,n⟩:=id hs;obtain ⟨o,j⟩:=id d;unfold jD at h;simp only [τ,decide_eq_true_eq] at h;obtain ⟨f,g,m,k⟩:=h;have e:=Lm x.st.n x.st.a x.st.d;have b:=Lm x.cp.n x.cp.a x.cp.d;rw [f] at e;rw [g] at b;have cs:=Lp x.st.n x.st.a x.st.d;have i:=aeu x.cp x.st d hs (by omega);have a:(decide ((rU x.st.n x.st.a x.st.d)<=((0:Nat):Int)))=false:=Yq1 (by omega);have c:CO 26 [.agg (prC x)] (.ret (.tup [ω (aV x.cp x.st),.bool (decide (((0:Nat):Int)<(aV x.cp x.st)))])):=pK [] 4 8 (.k 7 (az a) (.n 11 .nil)) (.c i (.c cs (.c b (.c e .nil))));rw [Yq0 (show ((0:Nat):Int)<aV x.cp x.st by omega)] at c;exact c
theorem qm {a b c:Rat} (h:0<=c) (d:a<=b):a*c<=b*c:=by
 by_cases e:c=0
 .rw [e];grind
 .exact (Ar (by grind)).2 d
theorem Og {q:RQ} (h:q.ok):(q.neg=false->0<=q.rt)/\(q.neg=true->q.rt<=0):=by
 have hs:=wu h;unfold jQ at hs;constructor<;>intro a<;>rw [a] at hs<;>by_cases h0:q.n=0<;>simp [h0] at hs<;>grind
theorem OU {a b c d:RQ} (f:a.ok) (e:b.ok) (g:c.ok) (hd:d.ok) (h:a.rt<=b.rt) (i:c.rt<=d.rt):(mV a c).rt<=(mV b d).rt:=by rw [AB f g,AB e hd];grind
theorem QT {a b c d:RQ} (f:a.ok) (e:b.ok) (g:c.ok) (hd:d.ok) (h:a.rt<=b.rt) (i:d.rt<=c.rt):(kR a c).rt<=(kR b d).rt:=by rw [Gn f g,Gn e hd];grind
theorem PY {a b c:RQ} (g:a.ok) (f:b.ok) (d:c.ok) (h:a.rt<=b.rt):(c.neg=false->(gJ c a).rt<=(gJ c b).rt/\(gJ a c).rt<=(gJ b c).rt)/\(c.neg=true->(gJ c b).rt<=(gJ c a).rt/\(gJ b c).rt<=(gJ a c).rt):=by
 rw [AC d g,AC d f,AC g d,AC f d];constructor
 .intro e;have:=qm ((Og d).1 e) h;exact ⟨by grind,this⟩
 .intro e;have:=qm (c:= -c.rt) (by have:=(Og d).2 e;grind) h;exact ⟨by grind,by grind⟩
theorem abn {a b c:RQ} (i:a.ok) (g:b.ok) (d:c.ok) (h0:0<c.n) (h:a.rt<=b.rt):(c.neg=false->(bQ a c).rt<=(bQ b c).rt)/\(c.neg=true->(bQ b c).rt<=(bQ a c).rt):=by
 rw [Ec i d h0,Ec g d h0,Rat.div_def,Rat.div_def];have k:c.rt ≠ 0:=by
  have:=(wu d).2.1;unfold jQ at this;rw [if_neg (by omega)] at this;intro e;have:=this.2 e;split at this<;>cases this
 constructor
 .intro f;have hp:0<c.rt:=by have:=(Og d).1 f;grind
  exact qm (by have:=Rat.inv_pos.2 hp;grind) h
 .intro f;have hp:0< -c.rt:=by have:=(Og d).2 f;grind
  have j:=Rat.inv_pos.2 hp;have e:(-c.rt)⁻¹= -(c.rt⁻¹):=by grind
  have:=qm (c:=(-c.rt)⁻¹) (by grind) h;grind
theorem PX {a b c d:RQ} (f:a.ok) (e:b.ok) (g:c.ok) (hd:d.ok) (h:a.rt<=b.rt) (i:c.rt<=d.rt):(if 0<iH a c then c else a).rt<=(if 0<iH b d then d else b).rt/\(if iH a c<0 then c else a).rt<=(if iH b d<0 then d else b).rt:=by
 have k:=vC f g;have j:=vC e hd;constructor
 .split<;>split<;>grind
 .split<;>split<;>grind
theorem FZ {a b s:RQ} (d:a.ok) (c:b.ok) (hs:s.ok) (hp:0<jQ s) (h:a.rt<=b.rt):(lu a s).rt<=(lu b s).rt:=by
 obtain ⟨p,h0⟩:=Jl hs hp;obtain ⟨f,k,i⟩:=Jj d hs h0;obtain ⟨e,g,j⟩:=Jj c hs h0;have m:a.rt / s.rt<=b.rt / s.rt:=by
  rw [Rat.div_def,Rat.div_def];exact qm (by have:=Rat.inv_pos.2 p;grind) h
 have:((tZ (bQ a s):Int):Rat)<((tZ (bQ b s)+1:Int):Rat):=by rw [Rat.intCast_add,Rat.intCast_one];grind
 rw [Rat.intCast_lt_intCast] at this;have:((tZ (bQ a s):Int):Rat)<=((tZ (bQ b s):Int):Rat):=by rw [Rat.intCast_le_intCast];omega
 rw [f,e];exact qm (by grind) this
theorem afX {a b s:RQ} (d:a.ok) (c:b.ok) (hs:s.ok) (hp:0<jQ s) (h:a.rt<=b.rt):(Yt a s).rt<=(Yt b s).rt:=by
 rw [<- aho d hs hp,<- aho c hs hp,yl,yl];have:=FZ (qW c) (qW d) hs hp (by rw [yl,yl];grind);grind
theorem aeG {a b s:RQ} (e:a.ok) (d:b.ok) (hs:s.ok) (hp:0<jQ s) (h:a.rt<=b.rt):(XH a s).rt<=(XH b s).rt:=by
 rw [<- agC e hs hp,<- agC d hs hp];have c:(bQ s (vK 2)).ok:=qc hs (by decide);exact FZ (jr e c) (jr d c) hs hp (OU e d c c h (by grind))
theorem eX {q y:RQ} (h:uU q= .val y):y=q:=by
 unfold uU at h;split at h<;>cases h;rfl
section
variable {ι:Type}
structure nU (s:ι->Nat) (a b:Oq):Prop where
 same:(∀ i,s i=0)->a=b
 up:(∀ i,s i<=1)->∀ p q,a= .val p->b= .val q->p.rt<=q.rt
 dn:(∀ i,s i=0\/s i=2)->∀ p q,a= .val p->b= .val q->q.rt<=p.rt
theorem nU.three {s:ι->Nat} {a b:Oq} (h:∃ i,3<=s i):nU s a b:=by
 obtain ⟨i,h⟩:=h;exact ⟨λz=>by have:=z i;omega,λz=>by have:=z i;omega,λz=>by have:=z i;omega⟩
theorem nU.eq {s:ι->Nat} {a b:Oq} (h:a=b):nU s a b:=⟨λ_=>h,λ_ p q hp c=>by rw [h] at hp;rw [hp] at c;cases c;grind,λ_ p q hp c=>by rw [h] at hp;rw [hp] at c;cases c;grind⟩
theorem nU.of {s t:ι->Nat} {a b:Oq} (h:∀ i,t i=s i) (c:nU s a b):nU t a b:=by rw [show t=s from funext h];exact c
theorem ahk {s:Nat} (h:jR s=0):s=0:=by unfold jR at h;split at h<;>omega
theorem ahl {s:Nat} (h:jR s<=1):s=0\/s=2:=by unfold jR at h;split at h<;>omega
theorem ahm {s:Nat} (h:jR s=0\/jR s=2):s<=1:=by unfold jR at h;split at h<;>omega
theorem nU.turn {s:ι->Nat} {a b:Oq} (h:nU s a b):nU (λi=>jR (s i)) b a:=
 ⟨λz=>(h.same λi=>ahk (z i)).symm,λz p q hp c=>h.dn (λi=>ahl (z i)) q p c hp,λz p q hp c=>h.up (λi=>ahm (z i)) q p c hp⟩
theorem Io {s t:Nat} (h:eH s t=0):s=0/\t=0:=by unfold eH at h;(repeat' split at h)<;>omega
theorem KR {s t:Nat} (h:eH s t<=1):s<=1/\t<=1:=by unfold eH at h;(repeat' split at h)<;>omega
theorem KT {s t:Nat} (h:eH s t=0\/eH s t=2):(s=0\/s=2)/\(t=0\/t=2):=by unfold eH at h;(repeat' split at h)<;>omega
def op2 (g:Oq->Oq->Oq) (a c:Oq):Oq:=if a.e=0 then (if c.e=0 then g a c else c) else a
theorem sV {g:Oq->Oq->Oq} {a c:Oq} {y:RQ} (d:a.ok) (i:c.ok) (h:op2 g a c= .val y):∃ p q:RQ,a= .val p/\c= .val q/\p.ok/\q.ok/\g (.val p) (.val q)= .val y:=by
 unfold op2 at h;split at h
 .rename_i b;split at h
  .rename_i zc;obtain ⟨p,rfl,f,_⟩:=Dp d b;obtain ⟨q,rfl,e,_⟩:=Dp i zc;exact ⟨p,q,rfl,rfl,f,e,h⟩
  .rename_i zc;rw [h] at zc;exact absurd rfl zc
 .rename_i b;rw [h] at b;exact absurd rfl b
theorem nU.two {g:Oq->Oq->Oq} (F:∀ p j q k y n:RQ,p.ok->j.ok->q.ok->k.ok->p.rt<=j.rt->q.rt<=k.rt->g (.val p) (.val q)= .val y->g (.val j) (.val k)= .val n->y.rt<=n.rt)
  {s t:ι->Nat} {a b c d:Oq} (ka:a.ok) (kb:b.ok) (kc:c.ok) (kd:d.ok) (h:nU s a b) (h':nU t c d):nU (λi=>eH (s i) (t i)) (op2 g a c) (op2 g b d):=by
 refine ⟨λB=> ?_,λD y n v e=> ?_,λC y n v e=> ?_⟩
 .have o:=λi=>(Io (B i)).1
  have r:=λi=>(Io (B i)).2
  rw [h.same o,h'.same r]
 .obtain ⟨p,q,rfl,rfl,z,u,A⟩:=sV ka kc v;obtain ⟨j,k,rfl,rfl,m,f,w⟩:=sV kb kd e;have o:=λi=>(KR (D i)).1
  have r:=λi=>(KR (D i)).2
  exact F p j q k y n z m u f (h.up o _ _ rfl rfl) (h'.up r _ _ rfl rfl) A w
 .obtain ⟨p,q,rfl,rfl,z,u,A⟩:=sV ka kc v;obtain ⟨j,k,rfl,rfl,m,f,w⟩:=sV kb kd e;have o:=λi=>(KT (C i)).1
  have r:=λi=>(KT (C i)).2
  exact F j p k q n y m z f u (h.dn o _ _ rfl rfl) (h'.dn r _ _ rfl rfl) w A
def op1 (g:Oq->Oq) (a:Oq):Oq:=if a.e=0 then g a else a
theorem sK {g:Oq->Oq} {a:Oq} {y:RQ} (c:a.ok) (h:op1 g a= .val y):∃ p:RQ,a= .val p/\p.ok/\g (.val p)= .val y:=by
 unfold op1 at h;split at h
 .rename_i b;obtain ⟨p,rfl,d,_⟩:=Dp c b;exact ⟨p,rfl,d,h⟩
 .rename_i b;rw [h] at b;exact absurd rfl b
theorem nU.one {g:Oq->Oq} (n:∀ p d y f:RQ,p.ok->d.ok->p.rt<=d.rt->g (.val p)= .val y->g (.val d)= .val f->y.rt<=f.rt)
  {s:ι->Nat} {a b:Oq} (ka:a.ok) (kb:b.ok) (h:nU s a b):nU s (op1 g a) (op1 g b):=by
 refine ⟨λo=> ?_,λr y f i c=> ?_,λq y f i c=> ?_⟩
 .rw [h.same o]
 .obtain ⟨p,rfl,m,k⟩:=sK ka i;obtain ⟨d,rfl,e,j⟩:=sK kb c;exact n p d y f m e (h.up r _ _ rfl rfl) k j
 .obtain ⟨p,rfl,m,k⟩:=sK ka i;obtain ⟨d,rfl,e,j⟩:=sK kb c;exact n d p f y e m (h.dn q _ _ rfl rfl) j k
theorem aaQ (p b q a y c:RQ) (j:p.ok) (d:b.ok) (g:q.ok) (f:a.ok) (h:p.rt<=b.rt) (i:q.rt<=a.rt) (e:sN 9 (.val p) (.val q)= .val y) (e':sN 9 (.val b) (.val a)= .val c):y.rt<=c.rt:=by
 rw [eX (q:=mV p q) e,eX (q:=mV b a) e'];exact OU j d g f h i
theorem aaS (p b q a y c:RQ) (k:p.ok) (f:b.ok) (i:q.ok) (g:a.ok) (h:p.rt<=b.rt) (j:q.rt<=a.rt) (e:sN 13 (.val p) (.val q)= .val y) (e':sN 13 (.val b) (.val a)= .val c):y.rt<=c.rt:=by
 have m:y=if 0<iH p q then q else p:=by
  have e:(if 0<iH p q then Oq.val q else .val p)= .val y:=e;split at e<;>cases e<;>simp [*]
 have d:c=if 0<iH b a then a else b:=by
  have e':(if 0<iH b a then Oq.val a else .val b)= .val c:=e';split at e'<;>cases e'<;>simp [*]
 rw [m,d];exact (PX k f i g h j).1
theorem aaR (p b q a y c:RQ) (k:p.ok) (f:b.ok) (i:q.ok) (g:a.ok) (h:p.rt<=b.rt) (j:q.rt<=a.rt) (e:sN 14 (.val p) (.val q)= .val y) (e':sN 14 (.val b) (.val a)= .val c):y.rt<=c.rt:=by
 have m:y=if iH p q<0 then q else p:=by
  have e:(if iH p q<0 then Oq.val q else .val p)= .val y:=e;split at e<;>cases e<;>simp [*]
 have d:c=if iH b a<0 then a else b:=by
  have e':(if iH b a<0 then Oq.val a else .val b)= .val c:=e';split at e'<;>cases e'<;>simp [*]
 rw [m,d];exact (PX k f i g h j).2
theorem P8 {E:jA} {x:Nd} {a b:Oq} (h:9<=x.op):jg E x [a,b]=op2 (sN x.op) a b:=by
 unfold jg;rw [if_neg (by omega),if_neg (by omega)];rfl
theorem P7 {E:jA} {x:Nd} {a:Oq} (h:9<=x.op):jg E x [a]=op1 (Ye E.qs x.op x.name (vQ x.neg x.num x.den)) a:=by
 unfold jg;rw [if_neg (by omega),if_neg (by omega)];rfl
theorem nU.sub {s t:ι->Nat} {a b c d:Oq} (D:a.ok) (H:b.ok) (B:c.ok) (G:d.ok) (h:nU s a b) (I:nU t c d):nU (λi=>eH (s i) (jR (t i))) (op2 (sN 10) a c) (op2 (sN 10) b d):=by
 have z:=I.turn;refine ⟨λC=> ?_,λF y J v e=> ?_,λA y J v e=> ?_⟩
 .have j:=λi=>(Io (C i)).1
  have k:=λi=>(Io (C i)).2
  rw [h.same j,z.same k]
 .obtain ⟨p,q,rfl,rfl,u,n,w⟩:=sV D B v;obtain ⟨m,o,rfl,rfl,f,g,r⟩:=sV H G e;have j:=λi=>(KR (F i)).1
  have k:=λi=>(KR (F i)).2
  rw [eX (q:=kR p q) w,eX (q:=kR m o) r];exact QT u f n g (h.up j _ _ rfl rfl) (z.up k _ _ rfl rfl)
 .obtain ⟨p,q,rfl,rfl,u,n,w⟩:=sV D B v;obtain ⟨m,o,rfl,rfl,f,g,r⟩:=sV H G e;have j:=λi=>(KT (A i)).1
  have k:=λi=>(KT (A i)).2
  rw [eX (q:=kR p q) w,eX (q:=kR m o) r];exact QT f u g n (h.dn j _ _ rfl rfl) (z.dn k _ _ rfl rfl)
theorem nU.scale {d:Bool} {f:RQ->RQ} (v:∀ p c:RQ,p.ok->c.ok->p.rt<=c.rt->(d=false->(f p).rt<=(f c).rt)/\(d=true->(f c).rt<=(f p).rt)) {s:ι->Nat} {a b:Oq} (n:a.ok) (w:b.ok) (h:nU s a b):
  nU (λi=>yu d (s i)) (op1 (λo=>uU (f o.q)) a) (op1 (λo=>uU (f o.q)) b):=by
 cases d with
 |false=>
  exact nU.one (λp c y z k D C e e'=>by rw [eX (q:=f p) e,eX (q:=f c) e'];exact (v p c k D C).1 rfl) n w h
 | true=>
  show nU (λi=>jR (s i)) _ _;refine ⟨λA=>by rw [h.same λi=>ahk (A i)],λF y z m g=> ?_,λB y z m g=> ?_⟩
  .obtain ⟨p,rfl,u,t⟩:=sK n m;obtain ⟨c,rfl,j,r⟩:=sK w g;rw [eX (q:=f p) t,eX (q:=f c) r];exact (v c p j u (h.dn (λi=>ahl (F i)) _ _ rfl rfl)).2 rfl
  .obtain ⟨p,rfl,u,t⟩:=sK n m;obtain ⟨c,rfl,j,r⟩:=sK w g;rw [eX (q:=f p) t,eX (q:=f c) r];exact (v p c u j (h.up (λi=>ahm (B i)) _ _ rfl rfl)).2 rfl
theorem nU.cho {s t:ι->Nat} {a b c d:Oq} {x f:Oq} (g:x=f) (h:nU s a b) (e:nU t c d):nU (λi=>eH (s i) (t i)) (RN x a c) (RN f b d):=by
 subst g;unfold RN;split
 .split
  .split
   .exact ⟨λz=>h.same λi=>(Io (z i)).1,λz=>h.up λi=>(KR (z i)).1,λz=>h.dn λi=>(KT (z i)).1⟩
   .exact ⟨λz=>e.same λi=>(Io (z i)).2,λz=>e.up λi=>(KR (z i)).2,λz=>e.dn λi=>(KT (z i)).2⟩
  .exact nU.eq rfl
 .exact nU.eq rfl
structure Dif (E E':jA) (op:ι->Int) (nm:ι->List UInt8):Prop where
 qs:E.qs=E'.qs
 nil:E.qs= []
 lk:∀ o n,(∀ i,¬ (o=op i/\n=nm i))->Rf E.ls o n=Rf E'.ls o n
 atN:∀ i p q,(Rf E.ls (op i) (nm i)).getD (.err 12)= .val p->(Rf E'.ls (op i) (nm i)).getD (.err 12)= .val q->p.rt<=q.rt
def Ri (x:Nd) (o:Oq):Prop:=pG x.op=true->o= .val (vQ x.neg x.num x.den)/\(vQ x.neg x.num x.den).neg=x.neg
theorem PN {E:jA} {x:Nd} {l:List Oq} (a:aQ x=0):Ri x (jg E x l):=by
 intro h;have e:x.op=1\/x.op=2\/x.op=3:=by simpa [pG] using h
 have b:jW x=true:=by
  cases c:jW x with
  |true=>rfl
  |false=>
   exfalso;unfold aQ at a;rw [c] at a;cases d:(!inI x.op||(!PZ x.op && !(x.name== [])))<;>rw [d] at a<;>cases a
 unfold jW at b;rw [show (x.op==((4:Nat):Int))=false from beq_eq_false_iff_ne.2 (by omega),show PL x.op=true from Yq0 (by omega)] at b;unfold jg;rw [if_pos (by omega)];unfold CU;rw [if_pos rfl,if_pos (show eP x.neg x.num x.den=true from b),LW (oL b).1];exact ⟨rfl,rfl⟩
variable {E E':jA} {op:ι->Int} {nm:ι->List UInt8}
theorem XF (a:Dif E E' op nm) {x:Nd} {l:List Oq} (h:∀ i,¬ (x.op=op i/\x.name=nm i)):jg E x l=jg E' x l:=by
 unfold jg;rw [a.lk x.op x.name h,a.qs]
theorem aeF (e:Dif E E' op nm) (a:∀ i,5<=op i/\op i<=8) {x:Nd} {l d:List Oq} {i:ι} (h:x.op=op i/\x.name=nm i):∀ p q,jg E x l= .val p->jg E' x d= .val q->p.rt<=q.rt:=by
 have:=a i;have b:¬ x.op<=4:=by omega
 have c:x.op<=8:=by omega
 unfold jg;rw [if_neg b,if_neg b,if_pos c,if_pos c,h.1,h.2];exact e.atN i
theorem GX {A:List (List Nat)} {ss:List Nat} {k:Nat} (h0:iF A ss k=0):∀ j ∈ A.getD k [],ss.getD j 0=0:=by
 unfold iF at h0;have key:∀ (l:List Nat) (s:Nat),l.foldl (λs i=>eH s (ss.getD i 0)) s=0->s=0/\∀ j ∈ l,ss.getD j 0=0:=by
  intro l
  induction l with
  |nil=>intro s h;exact ⟨h,by simp⟩
  | cons a l ih=>
   intro s h;obtain ⟨e,f⟩:=ih _ h;obtain ⟨d,c⟩:=Io e;exact ⟨d,λj b=>by
    rcases List.mem_cons.1 b with rfl|b
    .exact c
    .exact f j b⟩
 exact (key _ 0 h0).2
theorem agu (a:Nat):eH 0 a=a:=by unfold eH;rw [if_pos rfl]
theorem ajH (b:Bool):yu b 0=0:=by cases b<;>rfl
theorem abq (U:Dif E E' op nm) (Z:∀ i,5<=op i/\op i<=8) {e:List Nd} {A:List (List Nat)} {ss:ι->List Nat} {os os':List Oq} {k:Nat} {x:Nd} (hw:aQ x=0) (n:(A.getD k []).length=j_ x.op)
  (hr:∀ j ∈ A.getD k [],nU (λu=>(ss u).getD j 0) (os.getD j zO) (os'.getD j zO)/\(os.getD j zO).ok/\(os'.getD j zO).ok/\Ri (e.getD j kH) (os.getD j zO)/\Ri (e.getD j kH) (os'.getD j zO)):
  nU (λu=>rq (xf fB) (xh fB) e A (E.qs.map Sq.c) (op u) (nm u) (ss u) k x) (jg E x ((A.getD k []).map λj=>os.getD j zO)) (jg E' x ((A.getD k []).map λj=>os'.getD j zO)):=by
 obtain ⟨o1,o24⟩:=yC hw;have hst:=V8 hw;by_cases hat:∃ u,x.op=op u/\x.name=nm u
 .obtain ⟨u,m⟩:=hat;have M:rq (xf fB) (xh fB) e A (E.qs.map Sq.c) (op u) (nm u) (ss u) k x=1:=by
   unfold rq;rw [m.1,m.2,beq_self_eq_true,beq_self_eq_true];rfl
  exact ⟨λz=>by have:=z u;simp only [M] at this;omega,λ_=>aeF U Z m,λz=>by have:=z u;simp only [M] at this;omega⟩
 have F:∀ u,¬ (x.op=op u/\x.name=nm u):=λu h=>hat ⟨u,h⟩
 rw [<- XF U F];have hq:∀ u,rq (xf fB) (xh fB) e A (E.qs.map Sq.c) (op u) (nm u) (ss u) k x=cond (((iF A (ss u) k:Nat):Int)==((0:Nat):Int)) 0 (iT (xf fB) (xh fB) e A (E.qs.map Sq.c) (ss u) k x):=by
  intro u;unfold rq;rw [show (x.op==op u && x.name==nm u)=false by
   rw [Bool.and_eq_false_iff,Yq2,Yq2];by_cases h:x.op=op u
   .exact .inr λh'=>F u ⟨h,h'⟩
   .exact .inl h]
  rfl
 by_cases hz:∀ u,iF A (ss u) k=0
 .refine nU.eq ?_;congr 1;refine List.map_congr_left λj s=>(hr j s).1.same λu=>GX (hz u) j s
 obtain ⟨u0,hu0⟩:∃ u,iF A (ss u) k ≠ 0:=Classical.not_forall.1 hz;have hthree:∀ {a b:Oq},iT (xf fB) (xh fB) e A (E.qs.map Sq.c) (ss u0) k x=3->nU (λu=>rq (xf fB) (xh fB) e A (E.qs.map Sq.c) (op u) (nm u) (ss u) k x) a b:=λh=>by
  refine nU.three ⟨u0, ?_⟩;show 3<=rq _ _ _ _ _ _ _ _ _ _;rw [hq,h,show (((iF A (ss u0) k:Nat):Int)==((0:Nat):Int))=false from beq_eq_false_iff_ne.2 (by omega)];exact κ 3
 have g:∀ {f:ι->Nat} {a b:Oq},(∀ u,iT (xf fB) (xh fB) e A (E.qs.map Sq.c) (ss u) k x=f u)->(∀ u,(∀ j ∈ A.getD k [],(ss u).getD j 0=0)->f u=0)->nU f a b->nU (λu=>rq (xf fB) (xh fB) e A (E.qs.map Sq.c) (op u) (nm u) (ss u) k x) a b:=λM h2 V=>by
  refine nU.of (λu=> ?_) V;rw [hq,M];cases hb:(((iF A (ss u) k:Nat):Int)==((0:Nat):Int)) with
  |true=>exact (h2 u (GX (by have:=beq_iff_eq.1 hb;omega))).symm
  |false=>rfl
 have hru:∀ u,iT (xf fB) (xh fB) e A (E.qs.map Sq.c) (ss u) k x=iT (xf fB) (xh fB) e A (E.qs.map Sq.c) (ss u) k x:=λ_=>rfl
 have ha:j_ x.op=0\/j_ x.op=1\/j_ x.op=2\/j_ x.op=3:=by have:=Rt x.op;omega
 have r:∀ u,iT (xf fB) (xh fB) e A (E.qs.map Sq.c) (ss u) k x=iT (xf fB) (xh fB) e [A.getD k []] (E.qs.map Sq.c) (ss u) 0 x:=λu=>by
  unfold iT iF iP FH Hq MQ yR iP;rfl
 clear hru;have Y:∀ u,iF A (ss u) k=0->∀ j ∈ A.getD k [],(ss u).getD j 0=0:=λu h=>GX h
 have X:=r;simp only [r] at hthree g;clear r;generalize A.getD k []=al at*
 match al,n with
 | [],n=>
  have h8:x.op<=8:=by
   unfold j_ at n;simp only [Xqa] at n
   repeat' split at n
   all_goals omega
  refine hthree ?_;unfold iT;rw [if_neg (by omega),if_neg (by omega),if_neg (by omega),if_neg (by omega),if_neg (by omega),if_neg (by omega)]
 | [i],n=>
  have M:20<=x.op:=by
   unfold j_ at n;simp only [ο,Xqa] at n
   repeat' split at n
   all_goals omega
  obtain ⟨t,D,w,_,_⟩:=hr i (by simp);rw [Xqg,Xjh,Xqg,Xjh,P7 (by omega),P7 (by omega)];have hstep:21<=x.op->x.op<=23->(vQ x.neg x.num x.den).ok/\0<jQ (vQ x.neg x.num x.den):=λa b=> ⟨fJ _ _ _,by rw [<- AQ];exact (hst a b).2⟩
  have hs5:x.op=20\/(x.op=21\/x.op=22\/x.op=23)\/x.op=24:=by omega
  rcases hs5 with h|h|h
  .refine hthree ?_;unfold iT;rw [if_neg (by omega),if_neg (by omega),if_neg (by omega),if_neg (by omega),if_neg (by omega),if_neg (by omega)]
  .refine g (f:=λu=>(ss u).getD i 0) (λu=> ?_) (λu m=>m i (by simp)) ?_
   .unfold iT iF;rw [if_pos (by omega)];exact agu _
   .obtain ⟨s1,W⟩:=hstep (by omega) (by omega);rcases h with h|h|h
    .rw [h];exact nU.one (λp G y y' B C d e e'=>by
      rw [eX (q:=lu p _) e,eX (q:=lu G _) e'];exact FZ B C s1 W d) D w t
    .rw [h];exact nU.one (λp G y y' B C d e e'=>by
      rw [eX (q:=Yt p _) e,eX (q:=Yt G _) e'];exact afX B C s1 W d) D w t
    .rw [h];exact nU.one (λp G y y' B C d e e'=>by
      rw [eX (q:=XH p _) e,eX (q:=XH G _) e'];exact aeG B C s1 W d) D w t
  .have r:∀ u,iT (xf fB) (xh fB) e [[i]] (E.qs.map Sq.c) (ss u) 0 x=Qh (xf fB) (xh fB) x.name (E.qs.map Sq.c) ((ss u).getD i 0):=λu=>by
    unfold iT;rw [if_neg (by omega),if_neg (by omega),if_neg (by omega),if_neg (by omega),if_neg (by omega),if_pos h];rfl
   rw [h];refine hthree ?_;rw [r,U.nil];rfl
 | [i, j],n=>
  have M:9<=x.op/\x.op<=19/\x.op ≠ 15:=by
   unfold j_ at n;simp only [ο,Xqa] at n
   repeat' split at n
   all_goals omega
  obtain ⟨t,D,w,t1,t2⟩:=hr i (by simp);obtain ⟨H,K,L,T,t4⟩:=hr j (by simp);simp only [Xqg,Xjh];rw [P8 (by omega),P8 (by omega)];have I:x.op=9\/x.op=13\/x.op=14->∀ u,iT (xf fB) (xh fB) e [[i,j]] (E.qs.map Sq.c) (ss u) 0 x=eH ((ss u).getD i 0) ((ss u).getD j 0):=λh u=>by
   unfold iT iF;rw [if_pos (by omega)];show eH (eH 0 _) _=_;rw [agu]
  have J:∀ u,(∀ q ∈ [i,j],(ss u).getD q 0=0)->eH ((ss u).getD i 0) ((ss u).getD j 0)=0:=λu m=>by rw [m i (by simp),m j (by simp)];rfl
  have h8:x.op=9\/x.op=10\/x.op=11\/x.op=12\/x.op=13\/x.op=14\/16<=x.op:=by omega
  rcases h8 with h|h|h|h|h|h|h
  .refine g (I (by omega)) J ?_;rw [h];exact nU.two aaQ D w K L t H
  .refine g (f:=λu=>eH ((ss u).getD i 0) (jR ((ss u).getD j 0))) (λu=> ?_) (λu m=>by rw [m i (by simp),m j (by simp)];rfl) ?_
   .unfold iT;rw [if_neg (by omega),if_pos h];rfl
   .rw [h];exact nU.sub D w K L t H
  .have r:∀ u,iT (xf fB) (xh fB) e [[i,j]] (E.qs.map Sq.c) (ss u) 0 x=FH e [[i,j]] (ss u) 0:=λu=>by
    unfold iT;rw [if_neg (by omega),if_neg (by omega),if_pos h]
   rw [h];cases R:pG (e.getD i kH).op with
   | true=>
    obtain ⟨S,N⟩:=t1 R;obtain ⟨Q,_⟩:=t2 R;rw [S,Q];have O:=fJ (e.getD i kH).neg (e.getD i kH).num (e.getD i kH).den;refine g (f:=λu=>yu (e.getD i kH).neg ((ss u).getD j 0)) (λu=> ?_) (λu m=>by rw [m j (by simp)];exact ajH _) ?_
    .rw [r];show cond (pG (e.getD i kH).op) _ _=_;rw [R];rfl
    .exact nU.scale (f:=λp=>gJ (vQ (e.getD i kH).neg (e.getD i kH).num (e.getD i kH).den) p) (λp G B C d=>by
      have:=PY B C O d;rw [N] at this;exact ⟨λz=>(this.1 z).1,λz=>(this.2 z).1⟩) K L H
   | false=>
    cases s:pG (e.getD j kH).op with
    | true=>
     obtain ⟨S,N⟩:=T s;obtain ⟨Q,_⟩:=t4 s;rw [S,Q];have O:=fJ (e.getD j kH).neg (e.getD j kH).num (e.getD j kH).den;refine g (f:=λu=>yu (e.getD j kH).neg ((ss u).getD i 0)) (λu=> ?_) (λu m=>by rw [m i (by simp)];exact ajH _) ?_
     .rw [r];show cond (pG (e.getD i kH).op) _ (cond (pG (e.getD j kH).op) _ _)=_;rw [R,s];rfl
     .exact nU.scale (f:=λp=>gJ p (vQ (e.getD j kH).neg (e.getD j kH).num (e.getD j kH).den)) (λp G B C d=>by
       have:=PY B C O d;rw [N] at this;exact ⟨λz=>(this.1 z).2,λz=>(this.2 z).2⟩) D w t
    |false=>
     refine hthree ?_;rw [r];show cond (pG (e.getD i kH).op) _ (cond (pG (e.getD j kH).op) _ _)=_;rw [R,s];rfl
  .have r:∀ u,iT (xf fB) (xh fB) e [[i,j]] (E.qs.map Sq.c) (ss u) 0 x=cond (pG (e.getD j kH).op) (cond (rU (e.getD j kH).neg (e.getD j kH).num (e.getD j kH).den==((0:Nat):Int)) 3 (yu (e.getD j kH).neg ((ss u).getD i 0))) 3:=λu=>by
    unfold iT;rw [if_neg (by omega),if_neg (by omega),if_neg (by omega),if_pos h];rfl
   rw [h];cases s:pG (e.getD j kH).op with
   |false=>exact hthree (by rw [r,s];rfl)
   | true=>
    cases hs:(rU (e.getD j kH).neg (e.getD j kH).num (e.getD j kH).den==((0:Nat):Int)) with
    |true=>exact hthree (by rw [r,s,hs];rfl)
    | false=>
     obtain ⟨S,N⟩:=T s;obtain ⟨Q,_⟩:=t4 s;rw [S,Q];refine g (f:=λu=>yu (e.getD j kH).neg ((ss u).getD i 0)) (λu=>by rw [r,s,hs];rfl) (λu m=>by rw [m i (by simp)];exact ajH _) ?_;have O:=fJ (e.getD j kH).neg (e.getD j kH).num (e.getD j kH).den;have hs:rU (e.getD j kH).neg (e.getD j kH).num (e.getD j kH).den ≠ 0:=beq_eq_false_iff_ne.1 hs;rw [AQ] at hs;generalize vQ (e.getD j kH).neg (e.getD j kH).num (e.getD j kH).den=c at*
     have h0:0<c.n:=by
      unfold jQ at hs;split at hs
      .exact absurd rfl hs
      .omega
     have ee:∀ a:Oq,op2 (sN 12) a (.val c)=op1 (λo=>uU (bQ o.q c)) a:=λa=>by
      unfold op2 op1;split
      .show (if c.n=0 then Oq.err 16 else uU (bQ a.q c))=_;rw [if_neg (by omega)]
      .rfl
     rw [ee,ee];exact nU.scale (f:=λp=>bQ p c) (λp G B C d=>by
      have:=abn B C O h0 d;rw [N] at this;exact this) D w t
  .refine g (I (by omega)) J ?_;rw [h];exact nU.two aaS D w K L t H
  .refine g (I (by omega)) J ?_;rw [h];exact nU.two aaR D w K L t H
  .refine hthree ?_;unfold iT;rw [if_neg (by omega),if_neg (by omega),if_neg (by omega),if_neg (by omega),if_neg (by omega),if_neg (by omega)]
 | [i,j,h],n=>
  have h15:x.op=15:=by
   unfold j_ at n;simp only [ο,Xqa] at n
   repeat' split at n
   all_goals omega
  obtain ⟨t,D,w,t1,t2⟩:=hr i (by simp);obtain ⟨H,K,L,T,t4⟩:=hr j (by simp);obtain ⟨r3,k5,k6,t5,t6⟩:=hr h (by simp);have r:∀ u,iT (xf fB) (xh fB) e [[i,j,h]] (E.qs.map Sq.c) (ss u) 0 x=cond ((((ss u).getD i 0:Nat):Int)==((0:Nat):Int)) (eH ((ss u).getD j 0) ((ss u).getD h 0)) 3:=λu=>by
   unfold iT;rw [if_neg (by omega),if_neg (by omega),if_neg (by omega),if_neg (by omega),if_pos h15];rfl
  by_cases hc0:∀ u,(ss u).getD i 0=0
  .refine g (f:=λu=>eH ((ss u).getD j 0) ((ss u).getD h 0)) (λu=>by rw [r,hc0 u];rfl) (λu m=>by rw [m j (by simp),m h (by simp)];rfl) ?_;simp only [Xqg,Xjh];unfold jg;rw [if_neg (by omega),if_neg (by omega),if_neg (by omega),if_neg (by omega)];exact nU.cho (t.same hc0) H r3
  .obtain ⟨v,hv⟩:=Classical.not_forall.1 hc0;have V:iT (xf fB) (xh fB) e [[i,j,h]] (E.qs.map Sq.c) (ss v) 0 x=3:=by
    rw [r,show ((((ss v).getD i 0:Nat):Int)==((0:Nat):Int))=false from beq_eq_false_iff_ne.2 (by omega)];rfl
   refine nU.three ⟨v, ?_⟩;show 3<=rq _ _ _ _ _ _ _ _ _ _;rw [hq,show (((iF A (ss v) k:Nat):Int)==((0:Nat):Int))=false from beq_eq_false_iff_ne.2 (λhb=>hv (Y v (by omega) i (by simp)))];rw [X,V];exact κ 3
 |_::_::_::_::_,n=>simp only [ο] at n;omega
theorem Yg (S:Dif E E' op nm) (G:∀ i,5<=op i/\op i<=8) {e:List Nd} (I:dE e=0):∀ (r p:List Nd) (ss:ι->List Nat) (os os':List Oq),e=p++r->(∀ u,(ss u).length=e.length)->os.length=p.length->os'.length=p.length->
  (∀ j,j<p.length->nU (λu=>(ss u).getD j 0) (os.getD j zO) (os'.getD j zO)/\(os.getD j zO).ok/\(os'.getD j zO).ok/\Ri (e.getD j kH) (os.getD j zO)/\Ri (e.getD j kH) (os'.getD j zO))->
  ∀ j,j<e.length->nU (λu=>(zM (xf fB) (xh fB) e (bP e) (E.qs.map Sq.c) (op u) (nm u) r p.length (ss u)).getD j 0) ((Yn E (bP e) r os).getD j zO) ((Yn E' (bP e) r os').getD j zO):=by
 obtain ⟨F,X,K⟩:=ui I;obtain ⟨R,v⟩:=qG I;intro r
 induction r with
 |nil=>
  intro p ss os os' hp hs t a n j w;rw [Xqd] at hp;exact (n j (by rw [<- hp];exact w)).1
 | cons x r ih=>
  intro p ss os os' hp hs t a n j w;have c:p.length<e.length:=by rw [hp];simp
  have d:e[p.length]=x:=by subst hp;simp
  have f:x ∈ e:=by rw [<- d];exact Xxj c
  obtain ⟨C,m⟩:=v p.length x (by rw [μ c,d]);have T:=abq S G (e:=e) (A:=bP e) (ss:=ss) (os:=os) (os':=os') (k:=p.length) (F x f) C (λi b=>n i (m i b));have J:∀ (E0:jA) (D:List Oq),(∀ i ∈ (bP e).getD p.length [],(D.getD i zO).ok)->(jg E0 x (((bP e).getD p.length []).map λj=>D.getD j zO)).ok:=λE0 D h=>IW λo O=>by
   obtain ⟨i,b,rfl⟩:=List.mem_map.1 O;exact h i b
  have W:=J E os (λi b=>(n i (m i b)).2.1);have N:=J E' os' (λi b=>(n i (m i b)).2.2.1);have U:Ri x _:=PN (E:=E) (l:=((bP e).getD p.length []).map λj=>os.getD j zO) (F x f);have M:Ri x _:=PN (E:=E') (l:=((bP e).getD p.length []).map λj=>os'.getD j zO) (F x f);simp only [Yn,zM];rw [t,a];generalize jg E x (((bP e).getD p.length []).map λj=>os.getD j zO)=o at*
  generalize jg E' x (((bP e).getD p.length []).map λj=>os'.getD j zO)=o' at*
  generalize H:(λu=>rq (xf fB) (xh fB) e (bP e) (E.qs.map Sq.c) (op u) (nm u) (ss u) p.length x)=s at*
  have z:∀ u,rq (xf fB) (xh fB) e (bP e) (E.qs.map Sq.c) (op u) (nm u) (ss u) p.length x=s u:=λu=>congrFun H u
  simp only [z];have L:=ih (p++ [x]) (λu=>(ss u).set p.length (s u)) (os++ [o]) (os'++ [o']) (by rw [hp];simp) (λu=>by simp [hs u]) (by simp [t]) (by simp [a]) ?_ j w
  .rw [ν,Θ] at L;exact L
  .intro i b;rw [ν,Θ] at b;have g:∀ (l:List Oq) (y:Oq),l.length=p.length->(l++ [y]).getD i zO=if i=p.length then y else l.getD i zO:=λl y V=>by
    rw [ξ,ξ];split
    .rename_i h;rw [h,<- V];simp
    .rename_i h;rw [List.getElem?_append_left (by omega)]
   have Q:∀ u,((ss u).set p.length (s u)).getD i 0=if i=p.length then s u else (ss u).getD i 0:=λu=>by
    rw [ξ,List.getElem?_set];by_cases h:i=p.length
    .rw [if_pos h,if_pos h.symm,if_pos (by rw [hs u];omega)];rfl
    .rw [if_neg h,if_neg (λq=>h q.symm),<- ξ]
   simp only [Q];rw [g os o t,g os' o' a];by_cases h:i=p.length
   .simp only [if_pos h];rw [h];have B:e.getD p.length kH=x:=by rw [ξ,μ c,d];rfl
    rw [B];exact ⟨T,W,N,U,M⟩
   .simp only [if_neg h];exact n i (by omega)
theorem Yf (g:Dif E E' op nm) (a:∀ i,5<=op i/\op i<=8) (e:List Nd) (hs:∀ u,kF (xf fB) (xh fB) e (E.qs.map Sq.c) (op u) (nm u)<=1) (p q:RQ) (hp:m_ E e= .val p) (b:m_ E' e= .val q):p.rt<=q.rt:=by
 unfold kF at hs;unfold m_ at hp b;by_cases hc:dE e=0
 .obtain ⟨_,k,c⟩:=ui hc;rw [if_pos hc] at hp b;have h:=Yg g a hc e [] (λ_=>ζ e.length 0) [] [] rfl (λ_=>by simp) rfl rfl (λj d=>absurd d (Nat.not_lt_zero _)) (e.length - 1) (by omega);have f:∀ E0:jA,(fO E0 e).getLastD (.err 11)=(Yn E0 (bP e) e []).getD (e.length - 1) zO:=λE0=>by
   have m:(Yn E0 (bP e) e []).length=e.length:=by rw [Gt];simp
   unfold fO;rw [Xwv,Xww,m,ξ,μ (by omega)];rfl
  rw [f] at hp b;refine h.up (λu=> ?_) p q hp b;have:=hs u;rw [if_pos ⟨hc,(a u).1,(a u).2⟩] at this;exact this
 .rw [if_neg hc] at hp;cases hp
end
theorem Vm (n:Nat):∀ (r l:List a_) (ks vs:List AV) (p:CkS),goL (tK n) some r (l,ks,vs)=some p->p.1=l++r
 | [],l,ks,vs,p,h=>by cases h;simp
 | x::r,l,ks,vs,p,h=>by
  simp only [goL] at h;cases a:lm n l x with
  |true=>rw [tK,if_pos (show lm n (l,ks,vs).1 x=true from a)] at h;cases h
  |false=>
   rw [tK,if_neg (show ¬ lm n (l,ks,vs).1 x=true by rw [show lm n (l,ks,vs).1 x=false from a];exact Xxu)] at h;have:=Vm n r (l++ [x]) _ _ p h;rw [this,Xqe];rfl
def wV (n:Nat) (es:List a_):Int:=
 if (decide ((n:Int)<((1:Nat):Int)))=true then 1 else if (decide (((2:Nat):Int)<(n:Int)))=true then 1 else if (decide ((es.length:Int)<((1:Nat):Int)))=true then 1 else if (decide (((60:Nat):Int)<(es.length:Int)))=true then 1 else
 match goL (tK n) some es ([],[],[]) with
 |none=>1
 |some _=>(goL (G6 es) (λ_=>none) es ()).getD 0
theorem ql (es:List a_) (ss:List (List Lk)) (b c:Bool) (g:es.length<2^39) (m:∀ x ∈ es,x.sm):CO 33 [.agg [.sl (bV es) es.length b,.sl (eF ss) ss.length c,.sl [] 0 false]] (.ret (ω (wV ss.length es))):=by
 unfold wV;rcases tf (decide ((ss.length:Int)<((1:Nat):Int))) with b0|b0
 .rw [if_pos b0];exact pK [0,2] 4 15 (.k 3 (aA b0) (.n 1 .nil)) (.nil)
 rw [if_neg (by rw [b0];exact Xxu)];rcases tf (decide (((2:Nat):Int)<(ss.length:Int))) with b1|b1
 .rw [if_pos b1];exact pK [0,2] 4 14 (.k 2 (aA b1) (.k 1 (az b0) (.n 1 .nil))) (.nil)
 rw [if_neg (by rw [b1];exact Xxu)];rcases tf (decide ((es.length:Int)<((1:Nat):Int))) with b2|b2
 .rw [if_pos b2];exact pK [0,2] 4 12 (.k 1 (aA b2) (.k 1 (az b1) (.k 1 (az b0) (.n 1 .nil)))) (.nil)
 rw [if_neg (by rw [b2];exact Xxu)];rcases tf (decide (((60:Nat):Int)<(es.length:Int))) with b3|b3
 .rw [if_pos b3];exact pK [0,2] 4 8 (.c (aA b3) (.k 1 (az b2) (.k 1 (az b1) (.k 1 (az b0) (.n 1 .nil))))) (.nil)
 rw [if_neg (by rw [b3];exact Xxu)];have hloop:=λnt (i:126<=nt)=>adW i es ss b c g
 cases n:goL (tK ss.length) some es ([],[],[]) with
 |none=>
  rw [n] at hloop;have q:=aF.blk (id:=0) (e':= .ret) (s:=ZY es ss b c (0,[],[],[])) (s':=ZX es ss b c none) hloop (by simp [fkE]) rfl (aK.refl _) (aK.refl _);have j:LB 126 0 f33 (agZ (.agg [.sl (bV es) es.length b,.sl (eF ss) ss.length c,.sl [] 0 false]) (decide (((60:Nat):Int)<(es.length:Int))) (.sl (bV es) es.length b) es.length [.sl (bV es) es.length b,.sl (eF ss) ss.length c,.sl [] 0 false]) (.ret) (E8 1):=(λnt d=>(q nt d).weak (aK.of ⟨rfl,rfl,rfl,rfl,rfl,rfl,trivial⟩) (aK.refl _))
  exact pK [0,2] 4 0 (.k 1 (az b3) (.k 1 (az b2) (.k 1 (az b1) (.k 1 (az b0) (.n 1 .nil))))) (.l j .nil)
 | some p=>
  rw [n] at hloop;have hp:=Vm _ _ _ _ _ _ n;obtain ⟨l,ks,vs⟩:=p;simp only [Xqc] at hp;subst hp;have q:=aF.blk (id:=0) (e':= .normal) (s:=ZY l ss b c (0,[],[],[])) (s':=ZX l ss b c (some (l,ks,vs))) hloop (by simp [fkE]) rfl (aK.refl _) (aK.refl _);have v:1<=l.length:=by have:=of_decide_eq_false b2;omega
  have j:LB 126 0 f33 (agZ (.agg [.sl (bV l) l.length b,.sl (eF ss) ss.length c,.sl [] 0 false]) (decide (((60:Nat):Int)<(l.length:Int))) (.sl (bV l) l.length b) l.length [.sl (bV l) l.length b,.sl (eF ss) ss.length c,.sl [] 0 false]) (.normal) (agY l.length [.sl (bV l) l.length b,.sl (eF ss) ss.length c,.sl [] 0 false] [.agg ks,.agg vs] (OE l)):=by
   cases l with
   |nil=>simp at v
   |cons a r=>exact (λnt d=>(q nt d).weak (aK.of ⟨rfl,rfl,rfl,rfl,rfl,rfl,trivial⟩) (aK.of ⟨rfl,rfl,rfl,trivial⟩))
  have f:=λnt (i:126<=nt)=>adV i l ss b c ks vs g m
  show CO _ _ (.ret (ω ((goL (G6 l) (λ_=>none) l ()).getD 0)));have t:∀ {e:bI} {s2:St},LB 126 2 f33 (Xj l ss b c ks vs (0,())) e s2->LB 126 2 f33 ⟨[(1,.ptr 0 0 0),(3,.mr 1 0),(4,.ref 2 0 0 l.length),(100,.sl (bV l) l.length b),(101,ω (l.length:Int)),(102,ω ((0:Nat):Int))],[(0,⟨[.sl (bV l) l.length b,.sl (eF ss) ss.length c,.sl [] 0 false],0,false,0,0,true⟩),(1,⟨[.agg ks,.agg vs],0,false,0,4611686018427387904,true⟩),(2,⟨(OE l),0,false,0,1,true⟩)],.dead,[]⟩ e s2:=λh nt i=>
   ak.ahead 2 ⟨OE l,0,false,0,1,true⟩ (h nt i) (Xq7 _) rfl ⟨Fz.same rfl,Fz.same rfl,.fit .ref (by rw [Nat.zero_mul,List.drop_zero,φ (by rw [NP];show l.length<=l.length*1;omega)];exact bY.sl _ _ _),Fz.same rfl,Fz.same rfl,Fz.same rfl,trivial⟩ ⟨rfl,zX.same rfl,by decide,rfl,zX.same rfl,by decide,rfl⟩
  cases u:goL (G6 l) (λ_=>none) l () with
  |none=>
   rw [u] at f;have k:=t (aF.blk (id:=2) (e':= .normal) (s:=Xj l ss b c ks vs (0,())) (s':=ZU l ss b c ks vs none) f (by simp [fbE]) rfl (aK.refl _) (aK.refl _));have o:LB 126 2 f33 (ag0 l.length (.sl (bV l) l.length b) l.length [.sl (bV l) l.length b,.sl (eF ss) ss.length c,.sl [] 0 false] [.agg ks,.agg vs] (OE l)) (.normal) ⟨[(3,.mr 0 0)],[(0,⟨[.agg ks,.agg vs],0,false,0,4611686018427387904,true⟩)],.dead,[]⟩:=(λnt d=>(k nt d).weak (aK.of ⟨rfl,rfl,rfl,rfl,rfl,rfl,trivial⟩) (aK.of ⟨rfl,trivial⟩))
   exact pK [0,2] 4 0 (.k 2 (az b3) (.k 1 (az b2) (.k 1 (az b1) (.k 1 (az b0) (.n 1 .nil))))) (.l o (.l j .nil))
  |some er=>
   rw [u] at f;have k:=t (aF.blk (id:=2) (e':= .ret) (s:=Xj l ss b c ks vs (0,())) (s':=ZU l ss b c ks vs (some er)) f (by simp [fbE]) rfl (aK.refl _) (aK.refl _));have o:LB 126 2 f33 (ag0 l.length (.sl (bV l) l.length b) l.length [.sl (bV l) l.length b,.sl (eF ss) ss.length c,.sl [] 0 false] [.agg ks,.agg vs] (OE l)) (.ret) (E8 er):=(λnt d=>(k nt d).weak (aK.of ⟨rfl,rfl,rfl,rfl,rfl,rfl,trivial⟩) (aK.of ⟨rfl,trivial⟩))
   exact pK [0,2] 4 0 (.k 2 (az b3) (.k 1 (az b2) (.k 1 (az b1) (.k 1 (az b0) (.n 1 .nil))))) (.l o (.l j .nil))
def zG (sd:Int) (p:a_ × Rw):Lk:=⟨if (p.1.sd==sd)=true then 6 else 8,p.1.nm,p.2.n,p.2.a,p.2.d,0⟩
theorem lk6 (x:Lk):(lkC x).length=6:=rfl
theorem xR (l:List Lk):(eQ l).length=l.length*6:=qL lk6 l
theorem KY {sd:Int} {x:a_} {y:Rw} {l:List Lk} {k:Nat} (b:l.length=k) (o:Int) (a:(if (x.sd==sd)=true then (6:Int) else 8)=o):π (k*6) (eQ l)++ [ω o,.str x.nm,.bool y.n,.str y.a,.str y.d,ω 0]=eQ (l++ [zG sd (x,y)]):=by
 subst a;exact ad3 lk6 l (zG sd (x,y)) b
def Xg (es:List a_) (ss:List (List Lk)) (v:List Rw) (ne ns nv:Bool) (sd:Int) (p:Nat × List Lk):St:=match p.2 with
 | []=> ⟨[(1,.sl (dF v) v.length nv),(2,.int .i64 sd),(3,.ptr 0 0 0),(6,.ptr 1 0 0),(7,.nilS),(13,.sl (bV es) es.length ne),(14,.int .i64 (es.length:Int)),(15,.int .i64 (p.1:Int))],[(0,⟨[.sl (bV es) es.length ne,.sl (eF ss) ss.length ns,.sl [] 0 false],0,false,0,0,true⟩),(1,⟨[.nilS,.nilS],0,false,0,0,true⟩)],.dead,[]⟩
 |a::r=>(VT (.sl (dF v) v.length nv) sd ((a::r).length) (.sl (bV es) es.length ne) es.length p.1 [.sl (bV es) es.length ne,.sl (eF ss) ss.length ns,.sl [] 0 false] (eQ (a::r)))
def agl (es:List a_) (ss:List (List Lk)) (v:List Rw) (ne ns nv:Bool) (sd:Int):List Lk->St
 | []=>(CX (.int .i64 sd) (.ptr 0 0 0) (.ptr 1 0 0) (.nilS) [.sl (bV es) es.length ne,.sl (eF ss) ss.length ns,.sl [] 0 false] [.nilS,.nilS])
 |a::r=>(ag3 sd ((a::r).length) [.sl (bV es) es.length ne,.sl (eF ss) ss.length ns,.sl [] 0 false] (eQ (a::r)))
theorem UO (es:List a_) (ss:List (List Lk)) (v:List Rw) (a c b:Bool) (sd:Int) {k:Nat} {l:List Lk} (h:l ≠ []):Xg es ss v a c b sd (k,l)=(VT (.sl (dF v) v.length b) sd l.length (.sl (bV es) es.length a) es.length k [.sl (bV es) es.length a,.sl (eF ss) ss.length c,.sl [] 0 false] (eQ l)):=by cases l with|nil=>exact absurd rfl h|cons _ _=>rfl
theorem Xh (es:List a_) (ss:List (List Lk)) (v:List Rw) (a c b:Bool) (sd:Int) {k:Nat} {l:List Lk} {x:Lk}:Xg es ss v a c b sd (k,l++ [x])=(VT (.sl (dF v) v.length b) sd (l.length+1) (.sl (bV es) es.length a) es.length k [.sl (bV es) es.length a,.sl (eF ss) ss.length c,.sl [] 0 false] (eQ (l++ [x]))):=by rw [UO _ _ _ _ _ _ _ (by simp),ν,Θ]
theorem adT {nt:Nat} (f:53<=nt) (es:List a_) (ss:List (List Lk)) (v:List Rw) (d e g:Bool) (sd:Int) (A:es.length<2^39) (t:es.length=v.length):aF prog ap [] nt (af 0 (ax f72)) (λ_=> .exit 0) (Xg es ss v d e g sd) (agl es ss v d e g sd) (0,[]) ((es.zip v).map (zG sd)):=by
 have s:(es.zip v).length=es.length:=by rw [Xzk];omega
 refine aF.mapL (zG sd) (es.zip v) ?_ ?_
 .rintro p ⟨x,y⟩ r hL
  obtain ⟨w,u⟩:=nT t hL;have i:(ε ((δ (p.length:Int))*14) (bV es))=ZL x++bV (r.map (·.1)):=by have:=fD DD w;rwa [Xqp] at this
  have h:(ε ((δ (p.length:Int))*3) (dF v))=y.c++dF (r.map (·.2)):=by have:=fD rw3 u;rwa [Xqp] at this
  have b:(decide ((p.length:Int)<(es.length:Int)))=true:=kl (by have:=wZ hL;omega);have j:(decide ((p.length:Int)<(v.length:Int)))=true:=by rw [<- t];exact b
  have B:=wZ hL;have c:(p.map (zG sd)).length=p.length:=Xqp ..;have m:p.length<2^62:=by omega
  rcases Xzf (p.map (zG sd)) with n|⟨q,z,n⟩
  .have hp:p= []:=List.map_eq_nil_iff.1 n;subst hp;show ak _ _ _ _ _ (Xg es ss v d e g sd (([]:List (a_ × Rw)).length,[])) _ (Xg es ss v d e g sd (([]:List (a_ × Rw)).length+1,[zG sd (x,y)]));rcases tf (x.sd==sd) with b0|b0
   .rw [show zG sd (x,y)=⟨6,x.nm,y.n,y.a,y.d,0⟩ by simp only [zG,b0,if_true,Xqy,if_false]];exact pN 72 [] 3 3 (.k 10 (aA b0) (.k 5 (k0 ([]:List (a_ × Rw)).length) (.c j (.k 16 (k0 ([]:List (a_ × Rw)).length) (.c b (.c (aA b) .nil)))))) (.v 39 (.eq (Rh m)) (.v 25 (.ppt h) (.v 18 (.ppt i) .nil))) f
   .rw [show zG sd (x,y)=⟨8,x.nm,y.n,y.a,y.d,0⟩ by simp only [zG,b0,if_true,Xqy,if_false]];exact pN 72 [] 3 1 (.k 9 (az b0) (.k 5 (k0 ([]:List (a_ × Rw)).length) (.c j (.k 16 (k0 ([]:List (a_ × Rw)).length) (.c b (.c (aA b) .nil)))))) (.v 39 (.eq (Rh m)) (.v 25 (.ppt h) (.v 18 (.ppt i) .nil))) f
  .have o:p.map (zG sd) ≠ []:=by rw [n];simp
   clear n;rw [Xh,UO _ _ _ _ _ _ _ o,c];generalize p.map (zG sd)=l at*
   generalize p.length=k at*
   have hble1:(Xqn (k+1) 1099511627776)=true:=Γ (by omega);have hble2:(Xqn (k*6) (θ (eQ l)))=true:=Γ (by rw [xR];omega);clear hL w u;rcases tf (x.sd==sd) with b0|b0
   .exact pN 72 [] 2 3 (.k 1 hble1 (.c hble2 (.k 8 (aA b0) (.k 5 (k0 k) (.c j (.k 16 (k0 k) (.c b (.c (aA b) .nil)))))))) (.v 39 (.eq (Rh m)) (.b 38 (KY (sd:=sd) (x:=x) (y:=y) c 6 (if_pos b0)) (.v 25 (.ppt h) (.v 18 (.ppt i) .nil)))) f
   .exact pN 72 [] 2 1 (.k 1 hble1 (.c hble2 (.k 7 (az b0) (.k 5 (k0 k) (.c j (.k 16 (k0 k) (.c b (.c (aA b) .nil)))))))) (.v 39 (.eq (Rh m)) (.b 38 (KY (sd:=sd) (x:=x) (y:=y) c 8 (if_neg (by rw [b0];exact Xxu))) (.v 25 (.ppt h) (.v 18 (.ppt i) .nil)))) f
 .have c:((es.zip v).map (zG sd)).length=es.length:=by rw [Xqp,s]
  rw [s];generalize (es.zip v).map (zG sd)=l at*
  have b:(decide ((es.length:Int)<(es.length:Int)))=false:=kn (κ _);cases l with
  |nil=>exact pN 72 [] 1 0 (.c (az b) .nil) (.nil) f
  |cons a r=>
   show ak _ _ _ _ _ (VT (.sl (dF v) v.length g) sd ((a::r).length) (.sl (bV es) es.length d) es.length es.length [.sl (bV es) es.length d,.sl (eF ss) ss.length e,.sl [] 0 false] (eQ (a::r))) _ (ag3 sd ((a::r).length) [.sl (bV es) es.length d,.sl (eF ss) ss.length e,.sl [] 0 false] (eQ (a::r)));exact pN 72 [] 1 0 (.c (az b) .nil) (.nil) f
theorem aiP {l:List Lk} {n:Nat} (h:l.length=n) (a:List Lk):π (n*6) (eQ l)++eQ a=eQ (l++a):=by
 rw [φ (by rw [xR];omega)];unfold eQ;rw [Xx9]
def rD (es:List a_) (v:List Rw) (ss:List (List Lk)) (i:Nat):List Lk:=(es.zip v).map (zG (i:Int))++ss.getD i []
theorem Nl (es:List a_) (ss:List (List Lk)) (v:List Rw) (b c d:Bool) (k:es.length<2^39) (m:es ≠ []) (B:es.length=v.length) (i:Nat) (o:i<ss.length) (q:∀ ls ∈ ss,ls.length<2^39):CO 72 [.agg [.sl (bV es) es.length b,.sl (eF ss) ss.length c,.sl [] 0 false],.sl (dF v) v.length d,ω (i:Int)] (.ret (.agg [.sl (eQ (rD es v ss i)) (rD es v ss i).length true,.sl [] 0 false])):=by
 have C:=aF.blk (id:=0) (e':= .normal) (s:=Xg es ss v b c d (i:Int) (0,[])) (s':=agl es ss v b c d (i:Int) ((es.zip v).map (zG (i:Int)))) (λnt (t:53<=nt)=>adT t es ss v b c d (i:Int) k B) (by simp) rfl (aK.refl _) (aK.refl _);have t:((es.zip v).map (zG (i:Int))).length=es.length:=by rw [Xqp,Xzk];omega
 have j:ss.getD i []=ss[i]:=by rw [ξ,μ o];rfl
 have hs:(ε ((δ (i:Int))*1) (eF ss))= [Xvk (eQ (ss.getD i [])) (ss.getD i []).length false]++eF (ss.drop (i+1)):=by
  rw [j];have e:ss=ss.take i++ss[i]::ss.drop (i+1):=by simp
  have:=fD (f:=λls:List Lk=> [Xvk (eQ ls) ls.length false]) (n:=1) (λ_=>rfl) e;rwa [Xqz,Xx5 (by omega)] at this
 have z:(ss.getD i []).length<2^39:=q _ (by rw [j];exact Xxj o);unfold rD;generalize ss.getD i []=ls at*
 generalize (es.zip v).map (zG (i:Int))=l at*
 cases l with
 |nil=>exact absurd (List.length_eq_zero_iff.1 t.symm) m
 |cons a r=>
  have A:LB 53 0 f72 ⟨[(0,.agg [.sl (bV es) es.length b,.sl (eF ss) ss.length c,.sl [] 0 false]),(1,.sl (dF v) v.length d),(2,ω (i:Int)),(3,.ptr 0 0 0),(6,.ptr 1 0 0),(7,.nilS),(8,.dead),(9,.dead),(10,.dead),(13,.sl (bV es) es.length b),(14,ω (es.length:Int)),(15,ω 0),(16,.dead),(33,.dead)],[(0,⟨[.sl (bV es) es.length b,.sl (eF ss) ss.length c,.sl [] 0 false],0,false,0,0,true⟩),(1,⟨[.nilS,.nilS],0,false,0,0,true⟩)],.dead,[]⟩ (.normal) ⟨[(3,.ptr 0 0 0),(2,ω (i:Int)),(6,.ptr 1 0 0),(7,.ref 2 0 0 (a::r).length)],[(0,⟨[.sl (bV es) es.length b,.sl (eF ss) ss.length c,.sl [] 0 false],0,false,0,0,true⟩),(1,⟨[.nilS,.nilS],0,false,0,0,true⟩),(2,⟨(eQ (a::r)),0,false,0,6,true⟩)],.dead,[]⟩:=(λnt w=>(C nt w).weak (aK.of ⟨rfl,rfl,rfl,rfl,rfl,rfl,rfl,rfl,trivial⟩) (aK.of ⟨rfl,rfl,rfl,rfl,trivial⟩))
  generalize a::r=l at*
  obtain ⟨n,g⟩:∃ n,l.length=n:=⟨_,rfl⟩
  have u:(Nat.beq (θ (eQ ls)) (ls.length*6))=true:=by rw [xR];exact Nat.beq_refl _
  have p:(Xqn (l.length+ls.length) 1099511627776)=true:=Γ (by omega);have y:(Xqn (l.length*6) (θ (eQ l)))=true:=Γ (by rw [xR];exact κ _);have g:l.length=l.length:=rfl;have h:CO 72 [.agg [.sl (bV es) es.length b,.sl (eF ss) ss.length c,.sl [] 0 false],.sl (dF v) v.length d,ω (i:Int)] (.ret (.agg [.sl (π ((l.length+ls.length)*6) (eQ (l++ls))) (l.length+ls.length) true,.sl [] 0 false])):=pK [0] 0 0 (.k 4 u (.c p (.c y (.k 2 (k0 i) (.c (kl o) (.n 2 .nil)))))) (.b 48 (aiP g ls) (.v 45 (.ppt hs) (.l A .nil)));rw [φ (by rw [xR,ν];exact κ _),<- ν] at h;exact h
def evL (l:List (List Lk)):List AV:=l.flatMap λls=> [.sl (eQ ls) ls.length true,.sl [] 0 false]
def wQ (q:RQ):Rw:=⟨q.neg,ae q.n,ae q.d⟩
theorem FN {q:RQ} (h:q.ok):(wQ q).v=q:=jS h
theorem anm {x:Rw} (h:jG x.n x.a x.d=true):Yj2 x.c=qA x.v:=by
 obtain ⟨b,a⟩:=nK h;unfold qA;show _=Yj2 [.bool (vQ x.n x.a x.d).neg,.str (ae (vQ x.n x.a x.d).n),.str (ae (vQ x.n x.a x.d).d)];unfold vQ;rw [if_pos h,b,a]
theorem ZW {q:RQ} (h:q.ok):eP q.neg (ae q.n) (ae q.d)=oJ q:=by
 unfold eP oJ;rw [xO q h,aI,aI];rfl
def zn (o:Oq) (x:a_):Int ⊕ Rw:=match o with
 | .err e=> .inl e
 | .val q=>if (lu q x.st.v).neg=true then .inr (wQ q0) else if ((0:Nat):Int)<iH (lu q x.st.v) x.cp.v then .inr x.cp else if oJ (lu q x.st.v)=true then .inr (wQ (lu q x.st.v)) else .inl 3
def abY (k:Nat) (cs l:List AV):List AV:=π ((0+(δ (k:Int)))*3) cs++l++ε (((0+(δ (k:Int)))*3)+3) cs
def frF (EL:List (List Lk)) (s:List Rw × List AV) (x:a_):(List Rw × List AV) ⊕ (Int ⊕ (List Rw × List AV)):=match zn (m_ ⟨EL.getD (δ x.sd) [],[]⟩ x.body) x with
 | .inl e=> .inr (.inl e)
 | .inr w=> .inl (s.1++ [w],abY s.1.length s.2 w.c)
def zW:Rw:=⟨false,[],[]⟩
def jO (l:List Rw) (n:Nat):List AV:=dF (l++ζ (n - l.length) zW)
theorem VI {l:List Rw} {n:Nat} (h:l.length<n) (w:Rw):abY l.length (jO l n) w.c=jO (l++ [w]) n:=by
 unfold abY jO;obtain ⟨m,a⟩:∃ m,n - l.length=m+1:=⟨n - l.length - 1,by omega⟩
 rw [ν,Θ,show n - (l.length+1)=m by omega,a,Δ,Xv6,Xxc];have b:dF (l++zW::ζ m zW)=dF l++(zW.c++dF (ζ m zW)):=by simp [dF,Xx9]
 rw [b,<- jc,List.take_left',<- Xjs,Xks]
 .show dF l++w.c++dF (ζ m zW)=_;simp [dF,Xx9]
 .rfl
 .rfl
theorem afO {e:List Nd} (k:dE e=0) (E:jA):∀ (r p:List Nd) (os:List Oq),e=p++r->os.length=p.length->(∀ o ∈ os,o.ok)->∀ o ∈ Yn E (bP e) r os,o.ok:=by
 obtain ⟨n,c⟩:=qG k;intro r
 induction r with
 |nil=>intro p os hp d b;exact b
 | cons x r ih=>
  intro p os hp d b;have g:p.length<e.length:=by rw [hp];simp
  have f:e[p.length]=x:=by subst hp;simp
  obtain ⟨j,h⟩:=c p.length x (by rw [μ g,f]);simp only [Yn];refine ih (p++ [x]) _ (by rw [hp];simp) (by simp [d]) ?_;intro o a;rcases List.mem_append.1 a with a|a
  .exact b o a
  .rw [Xwi] at a;rw [a,d];refine IW λq s=> ?_
   obtain ⟨i,m,rfl⟩:=List.mem_map.1 s;have:=h i m;rw [ξ,μ (by omega)];exact b _ (Xxj _)
theorem xI (E:jA) (e:List Nd):(m_ E e).ok:=by
 unfold m_;by_cases hc:dE e=0
 .rw [if_pos hc,Xwv];cases h:(fO E e).getLast? with
  |none=>exact (by decide:(11:Int) ≠ 0)
  |some o=>exact afO hc E e [] [] rfl rfl (λo h=>by cases h) o (List.mem_of_getLast? h)
 .rw [if_neg hc];exact (by decide:(11:Int) ≠ 0)
theorem VO {x:Nat} (h:x<2^128):(ae x).length<2^36:=χ (dw (k:=16) h) (by decide)
theorem nf {b:Bool} (h:b=false):¬ b=true:=by rw [h];exact Xxu
theorem nd {p:Prop} [Decidable p] (h:decide p=false):¬ p:=of_decide_eq_false h
def Nu (es:List a_) (ss:List (List Lk)) (ne ns:Bool) (EL:List (List Lk)) (n0:Nat) (p:Nat × List Rw × List AV):St:=(aca (.sl (evL EL) EL.length true) n0 (.sl (bV es) es.length ne) es.length (p.1:Int) [.sl (bV es) es.length ne,.sl (eF ss) ss.length ns,.sl [] 0 false] p.2.2)
def Pv (es:List a_) (ss:List (List Lk)) (ne ns:Bool) (EL:List (List Lk)) (n0:Nat):Int ⊕ (List Rw × List AV)->St
 | .inl e=> ⟨[(4,.nilS),(5,.int .i64 e)],[],.dead,[]⟩
 | .inr s=>(acb n0 [.sl (bV es) es.length ne,.sl (eF ss) ss.length ns,.sl [] 0 false] s.2)
def frE:Int ⊕ (List Rw × List AV)->bI
 | .inl _=> .ret
 | .inr _=> .exit 2
structure GG (n:Nat) (x:a_):Prop where
 sm:x.sm
 lo:0<=x.sd
 hi:x.sd<n
 cap:jD x=true
theorem nG {x:a_} (h:jD x=true):eP x.st.n x.st.a x.st.d=true/\eP x.cp.n x.cp.a x.cp.d=true/\0<jQ x.st.v/\0<aV x.cp x.st:=by
 unfold jD at h;simp only [τ,decide_eq_true_eq] at h;obtain ⟨c,b,a,d⟩:=h;refine ⟨c,b, ?_,by omega⟩;rw [AQ] at a;exact a
theorem UQ {x:Rw} (h:eP x.n x.a x.d=true):x.v.ok/\oJ x.v=true:=by
 have a:=oL h;refine ⟨fJ _ _ _, ?_⟩;show oJ (vQ x.n x.a x.d)=true;unfold vQ;rw [if_pos a.1];exact a.2
theorem UU {nt:Nat} (k:91<=nt) (es:List a_) (ss:List (List Lk)) (O M:Bool) (EL:List (List Lk)) (g:Nat) (hes:es.length<2^39) (R:∀ x ∈ es,GG EL.length x) (hn0:es.length=g) (I:∀ ls ∈ EL,jA.sm ⟨ls,[]⟩):aF prog ap [] nt (af 2 (ax f41)) frE (Nu es ss O M EL g) (Pv es ss O M EL g) (0,[],jO [] g) (goL (frF EL) .inr es ([],jO [] g)):=by
 refine aF.goD (frF EL) .inr es (λp s=>s.1.length=p.length/\s.2=jO s.1 g) ?_ ?_ ([],jO [] g) ⟨rfl,rfl⟩
 .rintro p x r ⟨l,cs⟩ hL ⟨hp,hcs⟩
  simp only at hp hcs;have S:=wZ hL;have t:(ε ((δ (p.length:Int))*14) (bV es))=ZL x++bV r:=fD DD hL;have b:=R x (by rw [hL];simp);obtain ⟨i,K⟩:∃ i:Nat,x.sd=(i:Int):=⟨x.sd.toNat,by have:=b.lo;omega⟩
  have j:i<EL.length:=by have:=b.hi;omega
  have B:(decide (((0:Nat):Int)<=x.sd))=true:=by rw [K];exact k0 i
  have z:(decide (x.sd<(EL.length:Int)))=true:=by rw [K];exact kl j
  have C:EL.getD (δ x.sd) []=EL[i]:=by rw [K,Xv6,ξ,μ j];rfl
  have A:(ε ((δ x.sd)*2) (evL EL))= [Xvk (eQ (EL.getD (δ x.sd) [])) (EL.getD (δ x.sd) []).length true,.sl [] 0 false]++evL (EL.drop (i+1)):=by
   rw [C,K];have e:EL=EL.take i++EL[i]::EL.drop (i+1):=by simp
   have:=fD (f:=λls:List Lk=> [Xvk (eQ ls) ls.length true,Xvk [] 0 false]) (n:=2) (λ_=>rfl) e;rwa [Xqz,Xx5 (by omega)] at this
  have v:jA.sm ⟨EL.getD (δ x.sd) [],[]⟩:=I _ (by rw [C];exact Xxj j);have y:=Zq ⟨EL.getD (δ x.sd) [],[]⟩ false false false v b.sm.body;have L:(m_ ⟨EL.getD (δ x.sd) [],[]⟩ x.body).ok:=xI _ _;have d:(decide ((p.length:Int)<(es.length:Int)))=true:=kl S;have F:(decide ((p.length:Int)<(g:Int)))=true:=kl (by omega);have G:p.length<2^62:=by omega
  have H:(Xqn (((0+(δ (p.length:Int)))*3)+3) (θ cs))=true:=Γ (by
   rw [hcs,jO,jc,Xv6,ν,Xxa];omega)
  have inv:∀ w:Rw,(l++ [w]).length=(p++ [x]).length/\abY l.length cs w.c=jO (l++ [w]) g:=λw=> ⟨by simp [hp],by rw [hcs];exact VI (by omega) w⟩
  obtain ⟨N,m,f3,f4⟩:=nG b.cap;obtain ⟨v1,Z⟩:=UQ N;obtain ⟨v3,v4⟩:=UQ m;have s1:=(oL N).1;have s2:=(oL m).1;have U:∀ e,zn (m_ ⟨EL.getD (δ x.sd) [],[]⟩ x.body) x= .inl e->frF EL (l,cs) x= .inr (.inl e):=λe h=>by unfold frF;rw [h]
  have V:∀ w,zn (m_ ⟨EL.getD (δ x.sd) [],[]⟩ x.body) x= .inr w->frF EL (l,cs) x= .inl (l++ [w],abY l.length cs w.c):=λw h=>by unfold frF;rw [h]
  rw [<- hp] at t d F G H ⊢;generalize m_ ⟨EL.getD (δ x.sd) [],[]⟩ x.body=o at*
  generalize EL.getD (δ x.sd) []=ls at*
  have I:=U;have X:=V;show (∃ s',_/\ak _ _ _ _ _ (Nu es ss O M EL g (l.length,l,cs)) _ _/\_)\/∃ q,_/\ak _ _ _ _ _ (Nu es ss O M EL g (l.length,l,cs)) _ _;cases o with
  |err e=>
   have h5:((Oq.err e).e==((0:Nat):Int))=false:=beq_eq_false_iff_ne.2 L;exact .inr ⟨_,I _ rfl,pN 41 [] 2 3 (.k 1 (dC h5) (.k 4 B (.c z (.k 17 (k0 l.length) (.c d (.c (aA d) .nil)))))) (.c y (.v 51 (.ppt A) (.v 42 (.ppt t) .nil))) k⟩
  | val q=>
   have h5:((Oq.val q).e==((0:Nat):Int))=true:=rfl;have u:=BH L.1 L.2 v1 Z f3;rw [<- anm s1] at u;have D:(lu q x.st.v).ok:=iZ v1;obtain ⟨W,Q⟩:=MX (s:=x.st.v) L.2 Z;have T:CO 76 [qA (lu q x.st.v),.agg x.cp.c] (.ret (ω (iH (lu q x.st.v) x.cp.v))):=by
    have:=Jn (lu q x.st.v).neg x.cp.n (ae (lu q x.st.v).n) (ae (lu q x.st.v).d) x.cp.a x.cp.d (χ W (by decide)) (χ Q (by decide)) b.sm.cp.1 b.sm.cp.2;rw [jS D] at this;exact this
   have fa:=eu (lu q x.st.v).neg (ae (lu q x.st.v).n) (ae (lu q x.st.v).d) (χ W (by decide)) (χ Q (by decide));rw [ZW D] at fa;have fc:=eu x.cp.n x.cp.a x.cp.d (Xzj b.sm.cp.1 (by decide)) (Xzj b.sm.cp.2 (by decide));rw [m] at fc;have c0:CO 75 [ω 0] (.ret (qA q0)):=Ja 0 (by decide);have Y:=eu q0.neg (ae q0.n) (ae q0.d) (VO (by decide)) (VO (by decide));rw [ZW ET,show oJ q0=true by decide] at Y;have J:zn (.val q) x=if (lu q x.st.v).neg=true then .inr (wQ q0) else if ((0:Nat):Int)<iH (lu q x.st.v) x.cp.v then .inr x.cp else if oJ (lu q x.st.v)=true then .inr (wQ (lu q x.st.v)) else .inl 3:=rfl
   generalize iH (lu q x.st.v) x.cp.v=c at*
   clear W Q;generalize lu q x.st.v=a at*
   have N:=fc;have m:=fa;rcases tf a.neg with b0|b0
   .exact .inl ⟨_,X (wQ q0) (by rw [J,if_pos b0]),pN 41 [] 4 5 (.c H (.c (k0 l.length) (.c F (.k 8 (aA b0) (.k 8 (aP h5) (.k 4 B (.c z (.k 17 (k0 l.length) (.c d (.c (aA d) .nil)))))))))) (.v 89 (.eq (Rh G)) (.c Y (.c c0 (.c u (.c y (.v 51 (.ppt A) (.v 42 (.ppt t) .nil))))))) k,inv (wQ q0)⟩
   .rcases tf (decide (((0:Nat):Int)<c)) with b1|b1
    .exact .inl ⟨_,X (x.cp) (by rw [J,if_neg (nf b0),if_pos (of_decide_eq_true b1)]),pN 41 [] 5 9 (.c H (.c (k0 l.length) (.c F (.k 11 (aA b1) (.k 6 (az b0) (.k 8 (aP h5) (.k 4 B (.c z (.k 17 (k0 l.length) (.c d (.c (aA d) .nil))))))))))) (.v 89 (.eq (Rh G)) (.c N (.c T (.c u (.c y (.v 51 (.ppt A) (.v 42 (.ppt t) .nil))))))) k,inv (x.cp)⟩
    .rcases tf (oJ a) with b2|b2
     .exact .inl ⟨_,X (wQ a) (by rw [J,if_neg (nf b0),if_neg (nd b1),if_pos b2]),pN 41 [] 5 1 (.c H (.c (k0 l.length) (.c F (.k 3 (aP b2) (.k 3 (az b1) (.k 6 (az b0) (.k 8 (aP h5) (.k 4 B (.c z (.k 17 (k0 l.length) (.c d (.c (aA d) .nil)))))))))))) (.v 89 (.eq (Rh G)) (.c m (.c T (.c u (.c y (.v 51 (.ppt A) (.v 42 (.ppt t) .nil))))))) k,inv (wQ a)⟩
     .exact .inr ⟨_,I 3 (by rw [J,if_neg (nf b0),if_neg (nd b1),if_neg (nf b2)]),pN 41 [] 5 17 (.c (dC b2) (.k 3 (az b1) (.k 6 (az b0) (.k 8 (aP h5) (.k 4 B (.c z (.k 17 (k0 l.length) (.c d (.c (aA d) .nil))))))))) (.c m (.c T (.c u (.c y (.v 51 (.ppt A) (.v 42 (.ppt t) .nil)))))) k⟩
 .rintro ⟨l,cs⟩ ⟨hp,hcs⟩
  have d:(decide ((es.length:Int)<(es.length:Int)))=false:=kn (κ _);exact pN 41 [] 1 0 (.c (az d) .nil) (.nil) k
def qf (EL:List (List Lk)):List a_->Int ⊕ List Rw
 | []=> .inr []
 | x::r=>match zn (m_ ⟨EL.getD (δ x.sd) [],[]⟩ x.body) x with
  | .inl e=> .inl e
  | .inr w=>match qf EL r with
   | .inl e=> .inl e
   | .inr l=> .inr (w::l)
def H_ (n:Nat) (l:List Rw):Int ⊕ List Rw->Int ⊕ (List Rw × List AV)
 | .inl e=> .inl e
 | .inr m=> .inr (l++m,jO (l++m) n)
theorem TS (EL:List (List Lk)) (n:Nat):∀ (r:List a_) (l:List Rw),l.length+r.length<=n->goL (frF EL) .inr r (l,jO l n)=H_ n l (qf EL r)
 | [],l,_=>by simp [goL,qf,H_]
 | x::r,l,h=>by
  simp only [ο] at h;simp only [goL,frF,qf];cases zn (m_ ⟨EL.getD (δ x.sd) [],[]⟩ x.body) x with
  |inl e=>rfl
  |inr w=>
   have a:=TS EL n r (l++ [w]) (by rw [ν,Θ];omega);simp only [VI (show l.length<n by omega),a];cases qf EL r with
   |inl e=>rfl
   |inr m=>simp [H_,Xqe]
theorem uN {EL:List (List Lk)}:∀ {es:List a_} {w:List Rw},qf EL es= .inr w->w.length=es.length
 | [],w,h=>by cases h;rfl
 | x::r,w,h=>by
  simp only [qf] at h;split at h
  .cases h
  .split at h
   .cases h
   .rename_i m a;cases h;simp [uN a]
theorem CE (n:Nat):gB n [Yxa false,.str [],.str []]=jO [] n:=by
 unfold jO;rw [Xqc,Xqa,Nat.sub_zero]
 induction n with
 |zero=>rfl
 |succ n ih=>rw [Xxc];show _=zW.c++dF (ζ n zW);rw [<- ih];rfl
def J5:Int ⊕ List Rw->AV
 | .inl e=> .tup [.nilS,.int .i64 e]
 | .inr w=> .tup [.sl (dF w) w.length false,.int .i64 0]
theorem X3 (es:List a_) (A:List Lk) (v:List Rw) (a b f:Bool) (g:es.length<2^39) (n:es ≠ []) (o:es.length=v.length) (q:∀ j ∈ ([A]:List (List Lk)),j.length<2^39) (c:∀ x ∈ es,GG 1 x) (C:∀ i,i<1->jA.sm ⟨rD es v [A] i,[]⟩):CO 41 [.agg [.sl (bV es) es.length a,.sl [.sl (eQ A) A.length false] 1 b,.sl [] 0 false],.sl (dF v) v.length f] (.ret (J5 (qf ((Xqo 1).map (rD es v [A])) es))):=by
 have u:=Nl es [A] v a b f g n o 0 (by simp) q;have c:∀ x ∈ es,GG ((Xqo 1).map (rD es v [A])).length x:=λx h=>c x h
 have p:∀ j ∈ (Xqo 1).map (rD es v [A]),jA.sm ⟨j,[]⟩:=λj h=>by
  obtain ⟨i,D,rfl⟩:=List.mem_map.1 h;exact C i (List.mem_range.1 D)
 rw [show (Xqo 1).map (rD es v [A])= [rD es v [A] 0] from rfl] at*
 clear C;generalize rD es v [A] 0=L0 at*
 have hloop:=λnt (r:91<=nt)=>UU r es [A] a b [L0] v.length g c o p
 rw [TS [L0] v.length es [] (by simp;omega)] at hloop;have z:∀ {e:bI} {s:St},LB 91 2 f41 (Nu es [A] a b [L0] v.length (0,[],jO [] v.length)) e s->LB 91 2 f41 (ag4 1 v.length (.sl (bV es) es.length a) es.length [.sl (bV es) es.length a,.sl [.sl (eQ A) A.length false] 1 b,.sl [] 0 false] [.sl (eQ L0) L0.length true,.sl [] 0 false] (jO [] v.length)) e s:=λh nt r=>
  ak.before 1 ⟨[.sl (eQ L0) L0.length true,.sl [] 0 false],0,false,0,2,true⟩ (ak.tidy (s:=(ag5 (.sl (evL [L0]) 1 true) v.length (.sl (bV es) es.length a) es.length [.sl (bV es) es.length a,.sl [.sl (eQ A) A.length false] 1 b,.sl [] 0 false] (jO [] v.length))) (s1:=(aca (.sl (evL [L0]) 1 true) v.length (.sl (bV es) es.length a) es.length 0 [.sl (bV es) es.length a,.sl [.sl (eQ A) A.length false] 1 b,.sl [] 0 false] (jO [] v.length))) [2,4,5,6,8,37,38,39] (h nt r) (by kernel_rfl) rfl) (Xq7 _) rfl ⟨Fz.same rfl,Fz.same rfl,Fz.same rfl,.ref,Fz.same rfl,Fz.same rfl,Fz.same rfl,Fz.same rfl,trivial⟩ (.step (zX.same rfl) (by decide) (.here (.cons (zX.same rfl) (by decide) .nil)))
 have h0:(decide (((0:Nat):Int)<=(v.length:Int)))=true:=k0 _;have B:(decide ((v.length:Int)=(v.length:Int)))=true:=Yq0 rfl;have y:(decide ((v.length:Int)<=((1099511627776:Nat):Int)))=true:=Yq0 (by omega);cases k:qf [L0] es with
 | inl e=>
  rw [k] at hloop;simp only [H_] at hloop;have t:=z (aF.blk (id:=2) (e':= .ret) (s:=Nu es [A] a b [L0] v.length (0,[],jO [] v.length)) (s':=Pv es [A] a b [L0] v.length (.inl e)) hloop (by simp [frE]) rfl (aK.refl _) (aK.refl _));have m:LB 91 2 f41 (VU (.agg [.sl (bV es) es.length a,.sl [.sl (eQ A) A.length false] 1 b,.sl [] 0 false]) (.sl (dF v) v.length f) 1 0 (δ (v.length:Int)) 1 1 (.sl (bV es) es.length a) es.length [.sl (bV es) es.length a,.sl [.sl (eQ A) A.length false] 1 b,.sl [] 0 false] [.sl (eQ L0) L0.length true,.sl [] 0 false] (gB (δ (v.length:Int)) [.bool false,.str [],.str []])) (.ret) ⟨[(4,.nilS),(5,ω e)],[],.dead,[]⟩:=by
   rw [CE,aJ];exact (λnt d=>(t nt d).weak (aK.of ⟨rfl,rfl,rfl,rfl,rfl,rfl,rfl,rfl,trivial⟩) (aK.of ⟨rfl,rfl,trivial⟩))
  exact pK [2] 2 1 (.k 1 h0 (.c B (.c y (.n 12 .nil)))) (.l m (.c u .nil))
 | inr w=>
  rw [k] at hloop;have F:=uN k;have hloop:=hloop;simp only [H_,Xqc] at hloop;have t:=z (aF.blk (id:=2) (e':= .normal) (s:=Nu es [A] a b [L0] v.length (0,[],jO [] v.length)) (s':=Pv es [A] a b [L0] v.length (.inr (w,jO w v.length))) hloop (by simp [frE]) rfl (aK.refl _) (aK.refl _));have m:LB 91 2 f41 (VU (.agg [.sl (bV es) es.length a,.sl [.sl (eQ A) A.length false] 1 b,.sl [] 0 false]) (.sl (dF v) v.length f) 1 0 (δ (v.length:Int)) 1 1 (.sl (bV es) es.length a) es.length [.sl (bV es) es.length a,.sl [.sl (eQ A) A.length false] 1 b,.sl [] 0 false] [.sl (eQ L0) L0.length true,.sl [] 0 false] (gB (δ (v.length:Int)) [.bool false,.str [],.str []])) (.normal) (acb v.length [.sl (bV es) es.length a,.sl [.sl (eQ A) A.length false] 1 b,.sl [] 0 false] (jO w v.length)):=by
   rw [CE,aJ];exact (λnt d=>(t nt d).weak (aK.of ⟨rfl,rfl,rfl,rfl,rfl,rfl,rfl,rfl,trivial⟩) (aK.of ⟨rfl,rfl,trivial⟩))
  have h:CO 41 [.agg [.sl (bV es) es.length a,.sl [.sl (eQ A) A.length false] 1 b,.sl [] 0 false],.sl (dF v) v.length f] (.ret (.tup [.own (π (v.length*3) (jO w v.length)) v.length 3,ω 0])):=pK [2] 2 1 (.k 1 h0 (.c B (.c y (.n 12 .nil)))) (.l m (.c u .nil));have e:π (v.length*3) (jO w v.length)=dF w:=by
   unfold jO;rw [F,o,Xz8,Xza,Xqd,φ (by rw [jc];omega)]
  rw [e] at h;have h:=h.thaw (by simp);simp only [sU,Xz1,thaw] at h;rw [φ (by rw [jc];omega)] at h;have G:bY (.sl (dF w) v.length true) (.sl (dF w) w.length false):=by rw [show w.length=v.length by omega];exact bY.sl _ _ _
  exact h.out (kJ.tup (.fit rfl rfl G (.same .nil)))
theorem X4 (es:List a_) (A B:List Lk) (v:List Rw) (a b g:Bool) (c:es.length<2^39) (j:es ≠ []) (n:es.length=v.length) (k:∀ m ∈ ([A,B]:List (List Lk)),m.length<2^39) (d:∀ x ∈ es,GG 2 x) (F:∀ i,i<2->jA.sm ⟨rD es v [A,B] i,[]⟩):CO 41 [.agg [.sl (bV es) es.length a,.sl [.sl (eQ A) A.length false,.sl (eQ B) B.length false] 2 b,.sl [] 0 false],.sl (dF v) v.length g] (.ret (J5 (qf ((Xqo 2).map (rD es v [A,B])) es))):=by
 have y:=Nl es [A,B] v a b g c j n 0 (by simp) k;have u:=Nl es [A,B] v a b g c j n 1 (by simp) k;have d:∀ x ∈ es,GG ((Xqo 2).map (rD es v [A,B])).length x:=λx h=>d x h
 have q:∀ m ∈ (Xqo 2).map (rD es v [A,B]),jA.sm ⟨m,[]⟩:=λm h=>by
  obtain ⟨i,G,rfl⟩:=List.mem_map.1 h;exact F i (List.mem_range.1 G)
 rw [show (Xqo 2).map (rD es v [A,B])= [rD es v [A,B] 0,rD es v [A,B] 1] from rfl] at*
 clear F;generalize rD es v [A,B] 0=L0 at*
 generalize rD es v [A,B] 1=L1 at*
 have hloop:=λnt (r:91<=nt)=>UU r es [A,B] a b [L0,L1] v.length c d n q
 rw [TS [L0,L1] v.length es [] (by simp;omega)] at hloop;have C:∀ {e:bI} {s:St},LB 91 2 f41 (Nu es [A,B] a b [L0,L1] v.length (0,[],jO [] v.length)) e s->LB 91 2 f41 (ag4 2 v.length (.sl (bV es) es.length a) es.length [.sl (bV es) es.length a,.sl [.sl (eQ A) A.length false,.sl (eQ B) B.length false] 2 b,.sl [] 0 false] [.sl (eQ L0) L0.length true,.sl [] 0 false,.sl (eQ L1) L1.length true,.sl [] 0 false] (jO [] v.length)) e s:=λh nt r=>
  ak.before 1 ⟨[.sl (eQ L0) L0.length true,.sl [] 0 false,.sl (eQ L1) L1.length true,.sl [] 0 false],0,false,0,2,true⟩ (ak.tidy (s:=(ag5 (.sl (evL [L0,L1]) 2 true) v.length (.sl (bV es) es.length a) es.length [.sl (bV es) es.length a,.sl [.sl (eQ A) A.length false,.sl (eQ B) B.length false] 2 b,.sl [] 0 false] (jO [] v.length))) (s1:=(aca (.sl (evL [L0,L1]) 2 true) v.length (.sl (bV es) es.length a) es.length 0 [.sl (bV es) es.length a,.sl [.sl (eQ A) A.length false,.sl (eQ B) B.length false] 2 b,.sl [] 0 false] (jO [] v.length))) [2,4,5,6,8,37,38,39] (h nt r) (by kernel_rfl) rfl) (Xq7 _) rfl ⟨Fz.same rfl,Fz.same rfl,Fz.same rfl,.ref,Fz.same rfl,Fz.same rfl,Fz.same rfl,Fz.same rfl,trivial⟩ (.step (zX.same rfl) (by decide) (.here (.cons (zX.same rfl) (by decide) .nil)))
 have h0:(decide (((0:Nat):Int)<=(v.length:Int)))=true:=k0 _;have D:(decide ((v.length:Int)=(v.length:Int)))=true:=Yq0 rfl;have z:(decide ((v.length:Int)<=((1099511627776:Nat):Int)))=true:=Yq0 (by omega);cases o:qf [L0,L1] es with
 | inl e=>
  rw [o] at hloop;simp only [H_] at hloop;have t:=C (aF.blk (id:=2) (e':= .ret) (s:=Nu es [A,B] a b [L0,L1] v.length (0,[],jO [] v.length)) (s':=Pv es [A,B] a b [L0,L1] v.length (.inl e)) hloop (by simp [frE]) rfl (aK.refl _) (aK.refl _));have p:LB 91 2 f41 (VU (.agg [.sl (bV es) es.length a,.sl [.sl (eQ A) A.length false,.sl (eQ B) B.length false] 2 b,.sl [] 0 false]) (.sl (dF v) v.length g) 2 1 (δ (v.length:Int)) 2 2 (.sl (bV es) es.length a) es.length [.sl (bV es) es.length a,.sl [.sl (eQ A) A.length false,.sl (eQ B) B.length false] 2 b,.sl [] 0 false] [.sl (eQ L0) L0.length true,.sl [] 0 false,.sl (eQ L1) L1.length true,.sl [] 0 false] (gB (δ (v.length:Int)) [.bool false,.str [],.str []])) (.ret) ⟨[(4,.nilS),(5,ω e)],[],.dead,[]⟩:=by
   rw [CE,aJ];exact (λnt f=>(t nt f).weak (aK.of ⟨rfl,rfl,rfl,rfl,rfl,rfl,rfl,rfl,trivial⟩) (aK.of ⟨rfl,rfl,trivial⟩))
  exact pK [2] 3 3 (.k 1 h0 (.c D (.c z (.n 19 .nil)))) (.l p (.c u (.c y .nil)))
 | inr w=>
  rw [o] at hloop;have H:=uN o;have hloop:=hloop;simp only [H_,Xqc] at hloop;have t:=C (aF.blk (id:=2) (e':= .normal) (s:=Nu es [A,B] a b [L0,L1] v.length (0,[],jO [] v.length)) (s':=Pv es [A,B] a b [L0,L1] v.length (.inr (w,jO w v.length))) hloop (by simp [frE]) rfl (aK.refl _) (aK.refl _));have p:LB 91 2 f41 (VU (.agg [.sl (bV es) es.length a,.sl [.sl (eQ A) A.length false,.sl (eQ B) B.length false] 2 b,.sl [] 0 false]) (.sl (dF v) v.length g) 2 1 (δ (v.length:Int)) 2 2 (.sl (bV es) es.length a) es.length [.sl (bV es) es.length a,.sl [.sl (eQ A) A.length false,.sl (eQ B) B.length false] 2 b,.sl [] 0 false] [.sl (eQ L0) L0.length true,.sl [] 0 false,.sl (eQ L1) L1.length true,.sl [] 0 false] (gB (δ (v.length:Int)) [.bool false,.str [],.str []])) (.normal) (acb v.length [.sl (bV es) es.length a,.sl [.sl (eQ A) A.length false,.sl (eQ B) B.length false] 2 b,.sl [] 0 false] (jO w v.length)):=by
   rw [CE,aJ];exact (λnt f=>(t nt f).weak (aK.of ⟨rfl,rfl,rfl,rfl,rfl,rfl,rfl,rfl,trivial⟩) (aK.of ⟨rfl,rfl,trivial⟩))
  have h:CO 41 [.agg [.sl (bV es) es.length a,.sl [.sl (eQ A) A.length false,.sl (eQ B) B.length false] 2 b,.sl [] 0 false],.sl (dF v) v.length g] (.ret (.tup [.own (π (v.length*3) (jO w v.length)) v.length 3,ω 0])):=pK [2] 3 3 (.k 1 h0 (.c D (.c z (.n 19 .nil)))) (.l p (.c u (.c y .nil)));have e:π (v.length*3) (jO w v.length)=dF w:=by
   unfold jO;rw [H,n,Xz8,Xza,Xqd,φ (by rw [jc];omega)]
  rw [e] at h;have h:=h.thaw (by simp);simp only [sU,Xz1,thaw] at h;rw [φ (by rw [jc];omega)] at h;have I:bY (.sl (dF w) v.length true) (.sl (dF w) w.length false):=by rw [show w.length=v.length by omega];exact bY.sl _ _ _
  exact h.out (kJ.tup (.fit rfl rfl I (.same .nil)))
theorem Jh (es:List a_) (ss:List (List Lk)) (v:List Rw) (g h f:Bool) (e:ss.length=1\/ss.length=2) (a:es.length<2^39) (d:es ≠ []) (j:es.length=v.length) (b:∀ ls ∈ ss,ls.length<2^39) (c:∀ x ∈ es,GG ss.length x) (k:∀ i,i<ss.length->jA.sm ⟨rD es v ss i,[]⟩):CO 41 [.agg [.sl (bV es) es.length g,.sl (eF ss) ss.length h,.sl [] 0 false],.sl (dF v) v.length f] (.ret (J5 (qf ((Xqo ss.length).map (rD es v ss)) es))):=by
 match ss,e with
 | [A],_=>exact X3 es A v g h f a d j b c k
 | [A,B],_=>exact X4 es A B v g h f a d j b c k
def Oc (_:Unit) (p:a_ × Rw):Unit ⊕ Bool:=if 0<=aV p.2 p.1.st/\aV p.2 p.1.st<=aV p.1.cp p.1.st then .inl () else .inr false
def AA (es:List a_) (v:List Rw):Bool:=decide (v.length=es.length) && goL Oc (λ_=>true) (es.zip v) ()
def aae (es:List a_) (ss:List (List Lk)) (v:List Rw) (ne ns nv:Bool) (p:Nat × Unit):St:=⟨[(1,.sl (dF v) v.length nv),(2,.ptr 0 0 0),(15,.sl (bV es) es.length ne),(16,ω (es.length:Int)),(17,ω (p.1:Int))],[(0,⟨[.sl (bV es) es.length ne,.sl (eF ss) ss.length ns,.sl [] 0 false],0,false,0,0,true⟩)],.dead,[]⟩
def ghE:Bool->bI
 |true=> .exit 0
 |false=> .ret
def aad (es:List a_) (ss:List (List Lk)) (v:List Rw) (ne ns nv:Bool):Bool->St
 |true=>C9
 |false=>(zt (.bool false))
theorem adZ {nt:Nat} (d:44<=nt) (es:List a_) (ss:List (List Lk)) (v:List Rw) (e c b:Bool) (t:es.length<2^39) (o:es.length=v.length) (f:∀ x ∈ es,x.sm) (A:∀ y ∈ v,y.sm):aF prog ap [] nt (af 0 (ax f40)) ghE (aae es ss v e c b) (aad es ss v e c b) (0,()) (goL Oc (λ_=>true) (es.zip v) ()):=by
 have u:(es.zip v).length=es.length:=by rw [Xzk];omega
 refine aF.goD Oc (λ_=>true) (es.zip v) (λ_ _=>True) ?_ ?_ () trivial
 .rintro p ⟨x,y⟩ r _ hL _
  obtain ⟨n,m⟩:=nT o hL;have h:(ε ((δ (p.length:Int))*14) (bV es))=ZL x++bV (r.map (·.1)):=by have:=fD DD n;rwa [Xqp] at this
  have g:(ε ((δ (p.length:Int))*3) (dF v))=y.c++dF (r.map (·.2)):=by have:=fD rw3 m;rwa [Xqp] at this
  have z:=wZ hL;have a:(decide ((p.length:Int)<(es.length:Int)))=true:=kl (by omega);have i:(decide ((p.length:Int)<(v.length:Int)))=true:=by rw [<- o];exact a
  have w:p.length<2^62:=by omega
  have j:=f x (by rw [n];simp);have cy:=JE y x.st (A y (by rw [m];simp)) j.st;have s:=JE x.cp x.st j.cp j.st;show (∃ s',_/\ak _ _ _ _ _ (aae es ss v e c b (p.length,())) _ _/\_)\/∃ q,_/\ak _ _ _ _ _ (aae es ss v e c b (p.length,())) _ _;generalize p.length=k at*
  clear hL n m;rcases tf (decide ((aV y x.st)<((0:Nat):Int))) with b0|b0
  .exact .inr ⟨false,by rw [Oc,if_neg (show ¬ (0<=aV y x.st/\aV y x.st<=aV x.cp x.st) from by have:=of_decide_eq_true b0;omega)],pN 40 [] 3 7 (.k 1 (aA b0) (.k 6 (k0 k) (.c i (.k 15 (k0 k) (.c a (.c (aA a) .nil)))))) (.c cy (.v 24 (.ppt g) (.v 20 (.ppt h) .nil))) d⟩
  .rcases tf (decide ((aV x.cp x.st)<(aV y x.st))) with b1|b1
   .exact .inr ⟨false,by rw [Oc,if_neg (show ¬ (0<=aV y x.st/\aV y x.st<=aV x.cp x.st) from by have:=of_decide_eq_true b1;omega)],pN 40 [] 3 5 (.c (aA b1) (.k 6 (az b0) (.k 6 (k0 k) (.c i (.k 15 (k0 k) (.c a (.c (aA a) .nil))))))) (.c s (.c cy (.v 24 (.ppt g) (.v 20 (.ppt h) .nil)))) d⟩
   .exact .inl ⟨(),by rw [Oc,if_pos (show 0<=aV y x.st/\aV y x.st<=aV x.cp x.st by have:=of_decide_eq_false b0;have:=of_decide_eq_false b1;omega)],pN 40 [] 3 1 (.c (az b1) (.k 6 (az b0) (.k 6 (k0 k) (.c i (.k 15 (k0 k) (.c a (.c (aA a) .nil))))))) (.v 43 (.eq (Rh w)) (.c s (.c cy (.v 24 (.ppt g) (.v 20 (.ppt h) .nil))))) d,trivial⟩
 .intro _ _;rw [u];exact pN 40 [] 1 0 (.c (az (kn (κ es.length))) .nil) (.nil) d
theorem XX (es:List a_) (ss:List (List Lk)) (v:List Rw) (a b c:Bool) (f:es.length<2^39) (g:∀ x ∈ es,x.sm) (k:∀ y ∈ v,y.sm):CO 40 [.agg [.sl (bV es) es.length a,.sl (eF ss) ss.length b,.sl [] 0 false],.sl (dF v) v.length c] (.ret (.bool (AA es v))):=by
 unfold AA;by_cases hl:es.length=v.length
 .have e:((v.length:Int)==(es.length:Int))=true:=by rw [hl];exact beq_self_eq_true _
  rw [Yq0 hl.symm,Xx1];have hloop:=λnt (hn:44<=nt)=>adZ hn es ss v a b c f hl g k
  cases hd:goL Oc (λ_=>true) (es.zip v) () with
  |true=>
   rw [hd] at hloop;have j:=aF.blk (id:=0) (e':= .normal) (s:=aae es ss v a b c (0,())) (s':=aad es ss v a b c true) hloop (by simp [ghE]) rfl (aK.refl _) (aK.refl _);have i:LB 44 0 f40 (ag2 (.agg [.sl (bV es) es.length a,.sl (eF ss) ss.length b,.sl [] 0 false]) (.sl (dF v) v.length c) (!((v.length:Int)==(es.length:Int))) (.sl (bV es) es.length a) es.length [.sl (bV es) es.length a,.sl (eF ss) ss.length b,.sl [] 0 false]) (.normal) C9:=(λnt d=>(j nt d).weak (aK.of ⟨rfl,rfl,rfl,rfl,rfl,trivial⟩) (aK.refl _))
   exact pK [0] 1 0 (.k 1 (aP e) (.n 1 .nil)) (.l i .nil)
  |false=>
   rw [hd] at hloop;have j:=aF.blk (id:=0) (e':= .ret) (s:=aae es ss v a b c (0,())) (s':=aad es ss v a b c false) hloop (by simp [ghE]) rfl (aK.refl _) (aK.refl _);have i:LB 44 0 f40 (ag2 (.agg [.sl (bV es) es.length a,.sl (eF ss) ss.length b,.sl [] 0 false]) (.sl (dF v) v.length c) (!((v.length:Int)==(es.length:Int))) (.sl (bV es) es.length a) es.length [.sl (bV es) es.length a,.sl (eF ss) ss.length b,.sl [] 0 false]) (.ret) (zt (.bool false)):=(λnt d=>(j nt d).weak (aK.of ⟨rfl,rfl,rfl,rfl,rfl,trivial⟩) (aK.refl _))
   exact pK [0] 1 0 (.k 1 (aP e) (.n 1 .nil)) (.l i .nil)
 .have e:((v.length:Int)==(es.length:Int))=false:=beq_eq_false_iff_ne.2 (by omega);rw [Yq1 (λh=>hl h.symm),Xx6];exact pK [0] 1 1 (.c (dC e) (.n 1 .nil)) (.nil)
def kz (ss:List (List Lk)) (es:List a_) (v:List Rw):Int ⊕ List Rw:=if (wV ss.length es==((0:Nat):Int))=true then (if AA es v=true then qf ((Xqo ss.length).map (rD es v ss)) es else .inl 1) else .inl (wV ss.length es)
theorem Dx {n:Nat} {es:List a_} (h:wV n es=0) (i:∀ x ∈ es,x.sm):(n=1\/n=2)/\es ≠ []/\es.length<=60/\(∀ x ∈ es,GG n x)/\(∀ x ∈ es,dE x.body=0/\Jf es x=true)/\∃ p,goL (tK n) some es ([],[],[])=some p:=by
 unfold wV at h;simp only [decide_eq_true_eq] at h;split at h
 .cases h
 rename_i q;split at h
 .cases h
 rename_i m;split at h
 .cases h
 rename_i k;split at h
 .cases h
 rename_i o;split at h
 .cases h
 rename_i s hs;have c:∀ (r:List a_),(goL (G6 es) (λ_=>none) r ()).getD 0=0->∀ x ∈ r,dE x.body=0/\jD x=true/\Jf es x=true:=by
  intro r
  induction r with
  |nil=>intro _ x a;cases a
  | cons y r ih=>
   intro h0;simp only [goL,G6] at h0;cases b:(dE y.body==((0:Nat):Int)) with
   |false=>
    simp only [b,Xq8,if_true,Xzp] at h0;rw [h0] at b;cases b
   | true=>
    cases f:jD y with
    |false=>simp only [b,f,Xxl,Xq8,Xqy,if_false,if_true,Xzp] at h0;cases h0
    | true=>
     cases j:Jf es y with
     |false=>simp only [b,f,j,Xxl,Xq8,Xqy,if_false,if_true,Xzp] at h0;cases h0
     |true=>
      simp only [b,f,j,Xxl,Xqy,if_false] at h0;intro x a;rcases List.mem_cons.1 a with rfl|a
      .exact ⟨by have:=beq_iff_eq.1 b;omega,f,j⟩
      .exact ih h0 x a
 have c:=c es h;have d:∀ (r l:List a_) (ks vs:List AV) (p:CkS),goL (tK n) some r (l,ks,vs)=some p->∀ x ∈ r,0<=x.sd/\x.sd<n:=by
  intro r
  induction r with
  |nil=>intro _ _ _ _ _ x a;cases a
  | cons y r ih=>
   intro l ks vs p h0;simp only [goL,tK] at h0;cases g:lm n l y with
   |true=>simp only [g,if_true] at h0;cases h0
   | false=>
    simp only [g,Xqy,if_false] at h0;intro x a;rcases List.mem_cons.1 a with rfl|a
    .unfold lm at g;simp only [Xvi,decide_eq_false_iff_not] at g;omega
    .exact ih _ _ _ _ h0 x a
 have d:=d es [] [] [] s hs;refine ⟨by omega,λe=>k (by rw [e];decide),by omega,λx a=> ⟨i x a,(d x a).1,(d x a).2,(c x a).2.1⟩,λx a=> ⟨(c x a).1,(c x a).2.2⟩,⟨s,hs⟩⟩
theorem YO (es:List a_) (ss:List (List Lk)) (v:List Rw) (e d f:Bool) (b:es.length<2^39) (c:∀ x ∈ es,x.sm) (q:∀ y ∈ v,y.sm) (k:∀ ls ∈ ss,ls.length<2^39) (p:∀ i,i<ss.length->jA.sm ⟨rD es v ss i,[]⟩):CO 15 [.agg [.sl (bV es) es.length e,.sl (eF ss) ss.length d,.sl [] 0 false],.sl (dF v) v.length f] (.ret (J5 (kz ss es v))):=by
 have ck:=ql es ss e d b c;have m:=XX es ss v e d f b c q;unfold kz;rcases tf ((wV ss.length es)==((0:Nat):Int)) with b0|b0
 .rw [if_pos b0];rcases tf (AA es v) with b1|b1
  .rw [if_pos b1];obtain ⟨j,h,_,g,_⟩:=Dx (by have:=beq_iff_eq.1 b0;omega) c;have o:es.length=v.length:=by
    unfold AA at b1;simp only [τ,decide_eq_true_eq] at b1;exact b1.1.symm
   have a:=Jh es ss v e d f j b h o k g p;cases n:qf ((Xqo ss.length).map (rD es v ss)) es with
   |inl we=>
    rw [n] at a;have a:CO 41 [.agg [.sl (bV es) es.length e,.sl (eF ss) ss.length d,.sl [] 0 false],.sl (dF v) v.length f] (.ret (.tup [.nilS,ω we])):=a;exact pK [] 2 0 (.k 3 (aP b1) (.k 3 (aP b0) (.n 3 .nil))) (.c a (.c m (.c ck .nil)))
   |inr w=>
    rw [n] at a;have a:CO 41 [.agg [.sl (bV es) es.length e,.sl (eF ss) ss.length d,.sl [] 0 false],.sl (dF v) v.length f] (.ret (.tup [.sl (dF w) w.length false,ω 0])):=a;exact pK [] 2 0 (.k 3 (aP b1) (.k 3 (aP b0) (.n 3 .nil))) (.c a (.c m (.c ck .nil)))
  .rw [if_neg (nf b1)];exact pK [] 2 2 (.c (dC b1) (.k 3 (aP b0) (.n 3 .nil))) (.c m (.c ck .nil))
 .rw [if_neg (nf b0)];exact pK [] 1 1 (.c (dC b0) (.n 3 .nil)) (.c ck .nil)
end Go.Proofs.Tryz
