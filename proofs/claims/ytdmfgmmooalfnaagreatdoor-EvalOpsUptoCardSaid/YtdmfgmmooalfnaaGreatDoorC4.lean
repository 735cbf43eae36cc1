/- Contracts of functions that the law reaches, each by its own hypotheses; joined by a program of mine. -/
import Derived.Test.YtdmfgmmooalfnaaGreatDoorC3
import Derived.Test.YtdmfgmmooalfnaaGreatDoorM5
import Derived.Test.YtdmfgmmooalfnaaGreatDoorC1
import Derived.Test.YtdmfgmmooalfnaaGreatDoorM4
import Derived.Test.YtdmfgmmooalfnaaGreatDoorCards
import Derived.Test.YtdmfgmmooalfnaaGreatDoorTie
import Derived.Deep.DeepHandedRow
import Derived.Test.YtdmfgmmooalfnaaGreatDoorC2
import Derived.Laws.IdiomArrays
set_option linter.unusedSimpArgs false
set_option linter.unusedVariables false
set_option maxRecDepth 100000
set_option linter.unusedVariables false
open Go AM
open List renaming drop→ε,flatMap_append→Xjb,flatMap_cons→Xjc,append_nil→Θ,length_append→θ,mem_of_getElem?→Xqh,length→η,getElem_mem→Xxe,length_singleton→σ,length_map→Xx0,find?_cons_of_pos→Xv4,find?_cons_of_neg→Xwl,mem_singleton→Xze,length_cons→μ,take→ν,length_take→Xq2,take_of_length_le→Xqc,mem_of_mem_take→Xxg
open Int renaming toNat→δ,natAbs_neg→Xvi,natAbs_natCast→Xje
open IntKind renaming wrap→γ
open Nat renaming div_one→Xzz,div_le_self→Xjp,le_trans→Xqy,le_refl→Δ,min_eq_left→Xx7,min_le_right→Xvz,lt_of_le_of_lt→φ
open Bool renaming and_eq_true→ο
open AV renaming sl→Xkv
namespace Go.Proofs.Tryz
abbrev zcc4_0 : List AV := [ω 4,.bool false,.str [1],.str [1],.str [],ω 3,.bool false,.str [1],.str [1],.str [],ω 3,.bool false,.str [1],.str [1],.str [],ω 3,.bool false,.str [],.str [1],.str [],ω 12,.bool false,.str [],.str [],.str [],ω 15,.bool false,.str [],.str [],.str []]
abbrev zcc4_1 : List AV := [ω 4,.bool false,.str [],.str [1],.str [],ω 3,.bool false,.str [1],.str [1],.str [],ω 3,.bool false,.str [1],.str [1],.str [],ω 3,.bool false,.str [],.str [1],.str [],ω 12,.bool false,.str [],.str [],.str [],ω 15,.bool false,.str [],.str [],.str []]
abbrev zcc4_2 : List AV := [ω 3,.bool false,.str [2],.str [1],.str [],ω 3,.bool false,.str [1],.str [1],.str [],ω 3,.bool false,.str [],.str [1],.str [],ω 12,.bool false,.str [],.str [],.str [],ω 19,.bool false,.str [],.str [],.str []]
abbrev zcc4_3 : List AV := [ω 6,.bool false,.str [],.str [],.str [120],ω 3,.bool false,.str [1],.str [1],.str [],ω 3,.bool false,.str [],.str [1],.str [],ω 12,.bool false,.str [],.str [],.str [],ω 9,.bool false,.str [],.str [],.str []]
abbrev zcc4_4 : List AV := [.bool false,.str [],.str [1],.bool false,.str [],.str [1],.bool false,.str [100],.str [1],.bool false,.str [1],.str [10],.bool false,.str [1,44],.str [1],.bool false,.str [1],.str [4]]
abbrev zcc4_5 : List AV := [ω 4,.bool false,.str [1],.str [1],.str [],ω 3,.bool false,.str [2],.str [1],.str [],ω 18,.bool false,.str [],.str [],.str []]
abbrev zcc4_6 : List AV := [ω 1,.bool false,.str [1],.str [2],.str [],ω 1,.bool false,.str [1],.str [3],.str [],ω 9,.bool false,.str [],.str [],.str []]
abbrev zcc4_7 : List AV := [.bool false,.str [1],.str [1],ω 0,.bool false,.str [3],.str [1],ω 0,.bool true,.str [2],.str [1],ω 0]
abbrev zcc4_8 : List AV := [ω 1,.bool false,.str [200],.str [1],.str [],ω 24,.bool false,.str [],.str [],.str [115]]
abbrev zcc4_9 : List AV := [ω 3,.bool false,.str [5],.str [4],.str [],ω 23,.bool false,.str [1],.str [2],.str []]
abbrev zcc4_10 : List AV := [ω 3,.bool true,.str [1],.str [4],.str [],ω 21,.bool false,.str [1],.str [2],.str []]
abbrev zcc4_11 : List AV := [ω 6,.str [120],.bool false,.str [5],.str [1],ω 0]
abbrev zcc4_12 : List AV := [ω 6,.str [120],.bool false,.str [],.str [],ω 17]
abbrev zcc4_13 : List AV := [ω 6,.bool false,.str [],.str [],.str [120]]
abbrev zcc4_14 : List AV := [ω 3,.bool false,.str [1],.str [1],.str []]
theorem ag4 (a b:List Oq) (o q:Oq) (d e:Bool) (k:Nat) (g rb:List AV) {nt:Nat} (f:26≤nt) (i:(ε ((δ (k:Int))*4) (gJ a))=zU o++g) (j:(ε ((δ (k:Int))*4) (gJ b))=zU q++rb) (m:lit true (!((o.n==q.n) && ((o.a==q.a) && ((o.d==q.d) && ((o.e==q.e) && true)))))=true) (c:(decide (((0:Nat):Int)≤(k:Int)))=true) (p:(decide ((k:Int)<(b.length:Int)))=true) (h:(decide ((k:Int)<(a.length:Int)))=true) (n:lit true (decide ((k:Int)<(a.length:Int)))=true):ψ nt f18 ⟨[(0,.sl (gJ a) a.length d),(1,.sl (gJ b) b.length e),(5,ω (k:Int))],[],.dead,[]⟩ (.ret) ⟨[(4,.bool false)],[],.dead,[]⟩:=pN 18 [] 2 3 (.c m (.k 4 c (.c p (.k 4 c (.c h (.c n .nil)))))) (.v 23 (.ppt j) (.v 19 (.ppt i) .nil)) f
theorem ag5 (a b:List Oq) (o q:Oq) (c e:Bool) (k:Nat) (n rb:List AV) {nt:Nat} (i:26≤nt) (r:(ε ((δ (k:Int))*4) (gJ a))=zU o++n) (f:(ε ((δ (k:Int))*4) (gJ b))=zU q++rb) (h:ω (γ .i64 ((k:Int)+((1:Nat):Int)))=ω ((k+1:Nat):Int)) (p:lit false (!((o.n==q.n) && ((o.a==q.a) && ((o.d==q.d) && ((o.e==q.e) && true)))))=true) (d:(decide (((0:Nat):Int)≤(k:Int)))=true) (g:(decide ((k:Int)<(b.length:Int)))=true) (j:(decide ((k:Int)<(a.length:Int)))=true) (m:lit true (decide ((k:Int)<(a.length:Int)))=true):ψ nt f18 ⟨[(0,.sl (gJ a) a.length c),(1,.sl (gJ b) b.length e),(5,ω (k:Int))],[],.dead,[]⟩ (.normal) ⟨[(0,.sl (gJ a) a.length c),(1,.sl (gJ b) b.length e),(5,ω ((k+1:Nat):Int))],[],.dead,[]⟩:=pN 18 [] 2 1 (.c p (.k 4 d (.c g (.k 4 d (.c j (.c m .nil)))))) (.v 5 (.eq h) (.v 23 (.ppt f) (.v 19 (.ppt r) .nil))) i
theorem ag6 (a b:List Oq) (c d:Bool) (k:Nat) {nt:Nat} (e:26≤nt) (f:lit false (decide ((k:Int)<(a.length:Int)))=true):ψ nt f18 ⟨[(0,.sl (gJ a) a.length c),(1,.sl (gJ b) b.length d),(5,ω (k:Int))],[],.dead,[]⟩ (.exit 0) ⟨[(4,.dead)],[],.dead,[]⟩:=pN 18 [] 1 0 (.c f .nil) (.nil) e
theorem Pn (o q:Oq):CO 17 [.agg [.bool o.n,.str o.a,.str o.d,ω o.e],.agg [.bool q.n,.str q.a,.str q.d,ω q.e]] (.ret (.bool ((o.n==q.n) && ((o.a==q.a) && ((o.d==q.d) && ((o.e==q.e) && true)))))):=pK [] 0 0 (.n 8 .nil) (.nil)
theorem adq (a b:List Oq) (c d:Bool) (e:lit true (!((a.length:Int)==(b.length:Int)))=true):CO 18 [.sl (gJ a) a.length c,.sl (gJ b) b.length d] (.ret (.bool false)):=pK [0] 1 1 (.c e .nil) (.nil)
theorem adr (a b:List Oq) (c d:Bool) (f:lit false (!((a.length:Int)==(b.length:Int)))=true) (e:aG prog ap [] 26 (.block 0 (.loop (af 0 (ah f18)))) ⟨[(0,.sl (gJ a) a.length c),(1,.sl (gJ b) b.length d),(4,.bool false),(5,ω 0),(10,.bool (!((a.length:Int)==(b.length:Int)))),(14,.dead),(25,.dead)],[],.dead,[]⟩ (.normal) ⟨[(4,.dead)],[],.dead,[]⟩):CO 18 [.sl (gJ a) a.length c,.sl (gJ b) b.length d] (.ret (.bool true)):=pK [0] 1 0 (.c f .nil) (.l e .nil)
theorem adp (a b:List Oq) (c d:Bool) (f:lit false (!((a.length:Int)==(b.length:Int)))=true) (e:aG prog ap [] 26 (.block 0 (.loop (af 0 (ah f18)))) ⟨[(0,.sl (gJ a) a.length c),(1,.sl (gJ b) b.length d),(4,.bool false),(5,ω 0),(10,.bool (!((a.length:Int)==(b.length:Int)))),(14,.dead),(25,.dead)],[],.dead,[]⟩ (.ret) ⟨[(4,.bool false)],[],.dead,[]⟩):CO 18 [.sl (gJ a) a.length c,.sl (gJ b) b.length d] (.ret (.bool false)):=pK [0] 1 0 (.c f .nil) (.l e .nil)
def eqo (o q:Oq):Bool:=(o.n==q.n) && ((o.a==q.a) && ((o.d==q.d) && ((o.e==q.e) && true)))
def Rt:List Oq→List Oq→Bool
 |x::r,y::s=>eqo x y && Rt r s
 |_,_=>true
def YK:Bool→bD
 |true=> .exit 0
 |false=> .ret
def ag8:Bool→St
 |true=> ⟨[(4,.dead)],[],.dead,[]⟩
 |false=> ⟨[(4,.bool false)],[],.dead,[]⟩
abbrev ag7 (a b:List Oq) (na nb:Bool) (k:Nat):St:=⟨[(0,.sl (gJ a) a.length na),(1,.sl (gJ b) b.length nb),(5,ω (k:Int))],[],.dead,[]⟩
theorem PZ {l:List Oq} {k:Nat} {x:Oq} {p r:List Oq} (h:l=p++x::r) (c:k=p.length):ε (δ (k:Int)*4) (gJ l)=zU x++gJ r:=by
 subst h c;rw [aC];unfold gJ;rw [Xjb,Xjc];have d:(List.flatMap zU p).length=p.length*4:=ul zU 4 (fun _=>rfl) p;rw [← d,List.drop_left]
theorem Va {nt:Nat} (h:26≤nt) (a b:List Oq) (e f:Bool) (j:a.length=b.length) (w:a.length<2^40):∀ (r s p q:List Oq),a=p++r→b=q++s→p.length=q.length→
  aA prog ap [] nt (af 0 (ah f18)) YK (ag7 a b e f) ag8 p.length (Rt r s):=by
 intro r
 induction r with
 |nil=>
  intro s p q hp d i;rw [Θ] at hp;subst hp;exact .done (ag6 a b e f a.length h (aK (Yq1 (by omega))))
 | cons x r ih=>
  intro s p q hp d i;cases s with
  |nil=>exfalso;rw [hp,d] at j;simp at j;omega
  | cons y s=>
   have t:=PZ hp rfl;have m:=PZ (k:=p.length) d i;have z:p.length<a.length:=by rw [hp];simp
   have v:decide (((0:Nat):Int)≤(p.length:Int))=true:=Yq0 (by omega);have o:decide ((p.length:Int)<(b.length:Int))=true:=Yq0 (by omega);have g:decide ((p.length:Int)<(a.length:Int))=true:=Yq0 (by omega);unfold Rt;cases u:eqo x y with
   |false=>
    have c:lit true (!eqo x y)=true:=by rw [u];rfl
    exact .done (ag4 a b x y e f p.length _ _ h t m c v o g (aN g))
   |true=>
    have c:lit false (!eqo x y)=true:=by rw [u];rfl
    have n:=ih s (p++ [x]) (q++ [y]) (by rw [hp];simp) (by rw [d];simp) (by simp [i]);rw [θ] at n;exact .next (ag5 a b x y e f p.length _ _ h t m (BR (by omega)) c v o g (aN g)) n
theorem SH (a b:List Oq) (c d:Bool) (h:a.length<2^40):CO 18 [.sl (gJ a) a.length c,.sl (gJ b) b.length d] (.ret (.bool (decide (a.length=b.length) && Rt a b))):=by
 by_cases hl:a.length=b.length
 ·rw [Yq0 hl,Bool.true_and];have f:lit false (!((a.length:Int)==(b.length:Int)))=true:=by simp [lit,hl]
  have e:∀ nt,26≤nt→aA prog ap [] nt (af 0 (ah f18)) YK (ag7 a b c d) ag8 0 (Rt a b):=fun nt i=>Va i a b c d hl h a b [] [] rfl rfl rfl
  cases g:Rt a b with
  |true=>
   rw [g] at e;exact adr a b c d f (aA.blk e (by simp [YK]) rfl (aH.of ⟨rfl,rfl,rfl,trivial⟩) (aH.refl _))
  |false=>
   rw [g] at e;exact adp a b c d f (aA.blk e (by simp [YK]) rfl (aH.of ⟨rfl,rfl,rfl,trivial⟩) (aH.refl _))
 ·rw [Yq1 hl,Bool.false_and];exact adq a b c d (by simp [lit];omega)
theorem aac (n d:Int) (a b q:RQ) (c:CO 48 [ω n] (.ret (.agg [.bool a.neg,.str (ae a.n),.str (ae a.d)]))) (f:CO 48 [ω d] (.ret (.agg [.bool b.neg,.str (ae b.n),.str (ae b.d)]))) (e:CO 60 [.agg [.bool a.neg,.str (ae a.n),.str (ae a.d)],.agg [.bool b.neg,.str (ae b.n),.str (ae b.d)]] (.ret (.tup [.agg [.bool q.neg,.str (ae q.n),.str (ae q.d)],.bool true]))):CO 27 [ω n,ω d] (.ret (.agg [.bool q.neg,.str (ae q.n),.str (ae q.d)])):=pK [] 0 0 (.n 8 .nil) (.c e (.c f (.c c .nil)))
theorem rY (n:Int) (d:Nat) (k: -60000<n) (o:n<60000) (j:0<d) (m:d<60000):CO 27 [ω n,ω (d:Int)] (.ret (qA (jR (KU n).neg (KU n).n d))):=by
 have g:=N8 n (by omega) (by omega);have c:(KU n).neg=true→0<(KU n).n:=by intro h;simp only [KU,decide_eq_true_eq] at h ⊢;omega
 have i:(KU n).n<65536:=by simp only [KU];omega
 have hd:(KU n).d=1:=rfl;generalize KU n=w at*
 have f:qA w=qA ⟨w.neg,w.n,1⟩:=by unfold qA;rw [hd]
 have e:=amc w.neg w.n d c i j (by omega);rw [← f] at e;exact aac n d w ⟨false,d,1⟩ _ g (ZQ d (by omega)) e
def Ag:fB:=⟨[],[]⟩
theorem jM:Ag.sm:=⟨by decide,by decide,by decide,fun s hs=>by cases hs⟩
def akh:fB:=⟨[⟨6,[120],false,[5],[1],0⟩],[]⟩
theorem aaW:akh.sm:=⟨by decide,by decide,by decide,fun s hs=>by cases hs⟩
def aki:fB:=⟨[⟨6,[120],false,[],[],17⟩],[]⟩
theorem aaX:aki.sm:=⟨by decide,by decide,by decide,fun s hs=>by cases hs⟩
def akj:fB:=⟨[],[⟨[115],0,0,[⟨false,[],[1],false,[],[1]⟩,⟨false,[100],[1],false,[1],[10]⟩,⟨false,[1,44],[1],false,[1],[4]⟩]⟩]⟩
theorem aaY:akj.sm:=⟨by decide,by decide,by decide,fun s hs=>by
 rw [show s=_ from List.mem_singleton.1 hs];refine ⟨by decide,fun b c=> ?_⟩;have:b ∈ ([⟨false,[],[1],false,[],[1]⟩,⟨false,[100],[1],false,[1],[10]⟩,⟨false,[1,44],[1],false,[1],[4]⟩]:List Br):=c;simp only [List.mem_cons,List.not_mem_nil,or_false] at this;rcases this with rfl|rfl|rfl<;>exact ⟨⟨by decide,by decide⟩,by decide,by decide⟩⟩
theorem k0:CO 27 [ω 1,ω 1] (.ret (Ω false [1] [1])):=sJ (rY 1 1 (by decide) (by decide) (by decide) (by decide)) (by kernel_rfl)
theorem k1:CO 37 [ω 1,ω 1] (.ret (.agg zcc4_14)):=cK (.c k0 .nil)
theorem k2:CO 27 [ω 0,ω 1] (.ret (Ω false [] [1])):=sJ (rY 0 1 (by decide) (by decide) (by decide) (by decide)) (by kernel_rfl)
theorem k3:CO 37 [ω 0,ω 1] (.ret (.agg [ω 3,.bool false,.str [],.str [1],.str []])):=cK (.c k2 .nil)
theorem k4:CO 27 [ω 5,ω 6] (.ret (Ω false [5] [6])):=sJ (rY 5 6 (by decide) (by decide) (by decide) (by decide)) (by kernel_rfl)
theorem k5:CO 29 [Ω false [5] [6]] (.ret (.agg [.bool false,.str [5],.str [6],ω 0])):=cK (.nil)
theorem k6:CO 27 [ω 1,ω 2] (.ret (Ω false [1] [2])):=sJ (rY 1 2 (by decide) (by decide) (by decide) (by decide)) (by kernel_rfl)
theorem k7:CO 40 [ω 1,ω 2] (.ret (.agg [ω 1,.bool false,.str [1],.str [2],.str []])):=cK (.c k6 .nil)
theorem k8:CO 27 [ω 1,ω 3] (.ret (Ω false [1] [3])):=sJ (rY 1 3 (by decide) (by decide) (by decide) (by decide)) (by kernel_rfl)
theorem k9:CO 40 [ω 1,ω 3] (.ret (.agg [ω 1,.bool false,.str [1],.str [3],.str []])):=cK (.c k8 .nil)
theorem k10:CO 21 [.sl zcc4_6 3 true,.agg [.nilS,.nilS]] (.ret (.agg [.bool false,.str [5],.str [6],ω 0])):=bC.args (.cons (aT.refl _) (.cons (aT.agg (.cons (aT.nilS false rfl) (.cons (aT.nilS false rfl) .nil))) .nil)) (sJ (q:=CO 21 [.sl zcc4_6 3 true,.agg [.sl [] 0 false,.sl [] 0 false]] (.ret (.agg [.bool false,.str [5],.str [6],ω 0]))) (iC Ag false false true (e:= [⟨1,false,[1],[2],[]⟩,⟨1,false,[1],[3],[]⟩,⟨9,false,[],[],[]⟩]) jM (kX (by kernel_rfl))) (by kernel_rfl))
theorem k11:CO 39 [.agg [.nilS,.nilS],.agg [.bool false,.str [5],.str [6],ω 0],.sl zcc4_6 3 true] (.ret (.bool true)):=cK (.c k10 .nil)
theorem k12:CO 29 [Ω false [1] [1]] (.ret (.agg [.bool false,.str [1],.str [1],ω 0])):=cK (.nil)
theorem k13:CO 28 [ω 1] (.ret (.agg [ω 4,.bool false,.str [1],.str [1],.str []])):=cK (.c k0 .nil)
theorem k14:CO 38 [ω 1,.pp zcc4_14 0,.pp [.sl [ω 3,.bool false,.str [1],.str [1],.str [],ω 3,.bool false,.str [],.str [1],.str [],ω 12,.bool false,.str [],.str [],.str []] 3 true] 0] (.ret (.own zcc4_0 6 5)):=cK (.c k13 .nil)
theorem k15:CO 21 [.sl zcc4_0 6 true,.agg [.nilS,.nilS]] (.ret (.agg [.bool false,.str [1],.str [1],ω 0])):=bC.args (.cons (aT.refl _) (.cons (aT.agg (.cons (aT.nilS false rfl) (.cons (aT.nilS false rfl) .nil))) .nil)) (sJ (q:=CO 21 [.sl zcc4_0 6 true,.agg [.sl [] 0 false,.sl [] 0 false]] (.ret (.agg [.bool false,.str [1],.str [1],ω 0]))) (iC Ag false false true (e:= [⟨4,false,[1],[1],[]⟩,⟨3,false,[1],[1],[]⟩,⟨3,false,[1],[1],[]⟩,⟨3,false,[],[1],[]⟩,⟨12,false,[],[],[]⟩,⟨15,false,[],[],[]⟩]) jM (kX (by kernel_rfl))) (by kernel_rfl))
theorem k16:CO 39 [.agg [.nilS,.nilS],.agg [.bool false,.str [1],.str [1],ω 0],.sl zcc4_0 6 true] (.ret (.bool true)):=cK (.c k15 .nil)
theorem k17:CO 26 [ω 16] (.ret (.agg [.bool false,.str [],.str [],ω 16])):=cK (.nil)
theorem k18:CO 28 [ω 0] (.ret (.agg [ω 4,.bool false,.str [],.str [1],.str []])):=cK (.c k2 .nil)
theorem k19:CO 38 [ω 0,.pp zcc4_14 0,.pp [.sl [ω 3,.bool false,.str [1],.str [1],.str [],ω 3,.bool false,.str [],.str [1],.str [],ω 12,.bool false,.str [],.str [],.str []] 3 true] 0] (.ret (.own zcc4_1 6 5)):=cK (.c k18 .nil)
theorem k20:CO 21 [.sl zcc4_1 6 true,.agg [.nilS,.nilS]] (.ret (.agg [.bool false,.str [],.str [],ω 16])):=bC.args (.cons (aT.refl _) (.cons (aT.agg (.cons (aT.nilS false rfl) (.cons (aT.nilS false rfl) .nil))) .nil)) (sJ (q:=CO 21 [.sl zcc4_1 6 true,.agg [.sl [] 0 false,.sl [] 0 false]] (.ret (.agg [.bool false,.str [],.str [],ω 16]))) (iC Ag false false true (e:= [⟨4,false,[],[1],[]⟩,⟨3,false,[1],[1],[]⟩,⟨3,false,[1],[1],[]⟩,⟨3,false,[],[1],[]⟩,⟨12,false,[],[],[]⟩,⟨15,false,[],[],[]⟩]) jM (kX (by kernel_rfl))) (by kernel_rfl))
theorem k21:CO 39 [.agg [.nilS,.nilS],.agg [.bool false,.str [],.str [],ω 16],.sl zcc4_1 6 true] (.ret (.bool true)):=cK (.c k20 .nil)
theorem k22:CO 26 [ω 13] (.ret (.agg [.bool false,.str [],.str [],ω 13])):=cK (.nil)
theorem k23:CO 27 [ω 2,ω 1] (.ret (Ω false [2] [1])):=sJ (rY 2 1 (by decide) (by decide) (by decide) (by decide)) (by kernel_rfl)
theorem k24:CO 37 [ω 2,ω 1] (.ret (.agg [ω 3,.bool false,.str [2],.str [1],.str []])):=cK (.c k23 .nil)
theorem k25:CO 21 [.sl zcc4_5 3 true,.agg [.nilS,.nilS]] (.ret (.agg [.bool false,.str [],.str [],ω 13])):=bC.args (.cons (aT.refl _) (.cons (aT.agg (.cons (aT.nilS false rfl) (.cons (aT.nilS false rfl) .nil))) .nil)) (sJ (q:=CO 21 [.sl zcc4_5 3 true,.agg [.sl [] 0 false,.sl [] 0 false]] (.ret (.agg [.bool false,.str [],.str [],ω 13]))) (iC Ag false false true (e:= [⟨4,false,[1],[1],[]⟩,⟨3,false,[2],[1],[]⟩,⟨18,false,[],[],[]⟩]) jM (kX (by kernel_rfl))) (by kernel_rfl))
theorem k26:CO 39 [.agg [.nilS,.nilS],.agg [.bool false,.str [],.str [],ω 13],.sl zcc4_5 3 true] (.ret (.bool true)):=cK (.c k25 .nil)
theorem k27:CO 21 [.sl zcc4_2 5 true,.agg [.nilS,.nilS]] (.ret (.agg [.bool false,.str [],.str [],ω 16])):=bC.args (.cons (aT.refl _) (.cons (aT.agg (.cons (aT.nilS false rfl) (.cons (aT.nilS false rfl) .nil))) .nil)) (sJ (q:=CO 21 [.sl zcc4_2 5 true,.agg [.sl [] 0 false,.sl [] 0 false]] (.ret (.agg [.bool false,.str [],.str [],ω 16]))) (iC Ag false false true (e:= [⟨3,false,[2],[1],[]⟩,⟨3,false,[1],[1],[]⟩,⟨3,false,[],[1],[]⟩,⟨12,false,[],[],[]⟩,⟨19,false,[],[],[]⟩]) jM (kX (by kernel_rfl))) (by kernel_rfl))
theorem k28:CO 39 [.agg [.nilS,.nilS],.agg [.bool false,.str [],.str [],ω 16],.sl zcc4_2 5 true] (.ret (.bool true)):=cK (.c k27 .nil)
theorem k29:CO 27 [ω 5,ω 1] (.ret (Ω false [5] [1])):=sJ (rY 5 1 (by decide) (by decide) (by decide) (by decide)) (by kernel_rfl)
theorem k30:CO 29 [Ω false [5] [1]] (.ret (.agg [.bool false,.str [5],.str [1],ω 0])):=cK (.nil)
theorem k31:CO 26 [ω 17] (.ret (.agg [.bool false,.str [],.str [],ω 17])):=cK (.nil)
theorem k32:CO 26 [ω 12] (.ret (.agg [.bool false,.str [],.str [],ω 12])):=cK (.nil)
theorem k33:CO 21 [.sl zcc4_13 1 true,.agg [.nilS,.nilS]] (.ret (.agg [.bool false,.str [],.str [],ω 12])):=bC.args (.cons (aT.refl _) (.cons (aT.agg (.cons (aT.nilS false rfl) (.cons (aT.nilS false rfl) .nil))) .nil)) (sJ (q:=CO 21 [.sl zcc4_13 1 true,.agg [.sl [] 0 false,.sl [] 0 false]] (.ret (.agg [.bool false,.str [],.str [],ω 12]))) (iC Ag false false true (e:= [⟨6,false,[],[],[120]⟩]) jM (kX (by kernel_rfl))) (by kernel_rfl))
theorem k34:CO 39 [.agg [.nilS,.nilS],.agg [.bool false,.str [],.str [],ω 12],.sl zcc4_13 1 true] (.ret (.bool true)):=cK (.c k33 .nil)
theorem k35:CO 21 [.sl zcc4_13 1 true,.agg [.sl zcc4_11 1 true,.nilS]] (.ret (.agg [.bool false,.str [5],.str [1],ω 0])):=bC.args (.cons (aT.refl _) (.cons (aT.agg (.cons (aT.refl _) (.cons (aT.nilS false rfl) .nil))) .nil)) (sJ (q:=CO 21 [.sl zcc4_13 1 true,.agg [.sl zcc4_11 1 true,.sl [] 0 false]] (.ret (.agg [.bool false,.str [5],.str [1],ω 0]))) (iC akh true false true (e:= [⟨6,false,[],[],[120]⟩]) aaW (kX (by kernel_rfl))) (by kernel_rfl))
theorem k36:CO 39 [.agg [.sl zcc4_11 1 true,.nilS],.agg [.bool false,.str [5],.str [1],ω 0],.sl zcc4_13 1 true] (.ret (.bool true)):=cK (.c k35 .nil)
theorem k37:CO 21 [.sl zcc4_3 5 true,.agg [.sl zcc4_12 1 true,.nilS]] (.ret (.agg [.bool false,.str [],.str [],ω 17])):=bC.args (.cons (aT.refl _) (.cons (aT.agg (.cons (aT.refl _) (.cons (aT.nilS false rfl) .nil))) .nil)) (sJ (q:=CO 21 [.sl zcc4_3 5 true,.agg [.sl zcc4_12 1 true,.sl [] 0 false]] (.ret (.agg [.bool false,.str [],.str [],ω 17]))) (iC aki true false true (e:= [⟨6,false,[],[],[120]⟩,⟨3,false,[1],[1],[]⟩,⟨3,false,[],[1],[]⟩,⟨12,false,[],[],[]⟩,⟨9,false,[],[],[]⟩]) aaX (kX (by kernel_rfl))) (by kernel_rfl))
theorem k38:CO 39 [.agg [.sl zcc4_12 1 true,.nilS],.agg [.bool false,.str [],.str [],ω 17],.sl zcc4_3 5 true] (.ret (.bool true)):=cK (.c k37 .nil)
theorem k39:CO 27 [ω 3,ω 2] (.ret (Ω false [3] [2])):=sJ (rY 3 2 (by decide) (by decide) (by decide) (by decide)) (by kernel_rfl)
theorem k40:CO 29 [Ω false [3] [2]] (.ret (.agg [.bool false,.str [3],.str [2],ω 0])):=cK (.nil)
theorem k41:CO 27 [ω 5,ω 4] (.ret (Ω false [5] [4])):=sJ (rY 5 4 (by decide) (by decide) (by decide) (by decide)) (by kernel_rfl)
theorem k42:CO 37 [ω 5,ω 4] (.ret (.agg [ω 3,.bool false,.str [5],.str [4],.str []])):=cK (.c k41 .nil)
theorem k43:CO 21 [.sl zcc4_9 2 true,.agg [.nilS,.nilS]] (.ret (.agg [.bool false,.str [3],.str [2],ω 0])):=bC.args (.cons (aT.refl _) (.cons (aT.agg (.cons (aT.nilS false rfl) (.cons (aT.nilS false rfl) .nil))) .nil)) (sJ (q:=CO 21 [.sl zcc4_9 2 true,.agg [.sl [] 0 false,.sl [] 0 false]] (.ret (.agg [.bool false,.str [3],.str [2],ω 0]))) (iC Ag false false true (e:= [⟨3,false,[5],[4],[]⟩,⟨23,false,[1],[2],[]⟩]) jM (kX (by kernel_rfl))) (by kernel_rfl))
theorem k44:CO 39 [.agg [.nilS,.nilS],.agg [.bool false,.str [3],.str [2],ω 0],.sl zcc4_9 2 true] (.ret (.bool true)):=cK (.c k43 .nil)
theorem k45:CO 27 [ω (-1),ω 2] (.ret (Ω true [1] [2])):=sJ (rY (-1) 2 (by decide) (by decide) (by decide) (by decide)) (by kernel_rfl)
theorem k46:CO 29 [Ω true [1] [2]] (.ret (.agg [.bool true,.str [1],.str [2],ω 0])):=cK (.nil)
theorem k47:CO 27 [ω (-1),ω 4] (.ret (Ω true [1] [4])):=sJ (rY (-1) 4 (by decide) (by decide) (by decide) (by decide)) (by kernel_rfl)
theorem k48:CO 37 [ω (-1),ω 4] (.ret (.agg [ω 3,.bool true,.str [1],.str [4],.str []])):=cK (.c k47 .nil)
theorem k49:CO 21 [.sl zcc4_10 2 true,.agg [.nilS,.nilS]] (.ret (.agg [.bool true,.str [1],.str [2],ω 0])):=bC.args (.cons (aT.refl _) (.cons (aT.agg (.cons (aT.nilS false rfl) (.cons (aT.nilS false rfl) .nil))) .nil)) (sJ (q:=CO 21 [.sl zcc4_10 2 true,.agg [.sl [] 0 false,.sl [] 0 false]] (.ret (.agg [.bool true,.str [1],.str [2],ω 0]))) (iC Ag false false true (e:= [⟨3,true,[1],[4],[]⟩,⟨21,false,[1],[2],[]⟩]) jM (kX (by kernel_rfl))) (by kernel_rfl))
theorem k50:CO 39 [.agg [.nilS,.nilS],.agg [.bool true,.str [1],.str [2],ω 0],.sl zcc4_10 2 true] (.ret (.bool true)):=cK (.c k49 .nil)
theorem k51:CO 27 [ω 100,ω 1] (.ret (Ω false [100] [1])):=sJ (rY 100 1 (by decide) (by decide) (by decide) (by decide)) (by kernel_rfl)
theorem k52:CO 27 [ω 1,ω 10] (.ret (Ω false [1] [10])):=sJ (rY 1 10 (by decide) (by decide) (by decide) (by decide)) (by kernel_rfl)
theorem k53:CO 27 [ω 300,ω 1] (.ret (Ω false [1,44] [1])):=sJ (rY 300 1 (by decide) (by decide) (by decide) (by decide)) (by kernel_rfl)
theorem k54:CO 27 [ω 1,ω 4] (.ret (Ω false [1] [4])):=sJ (rY 1 4 (by decide) (by decide) (by decide) (by decide)) (by kernel_rfl)
theorem k55:CO 27 [ω 200,ω 1] (.ret (Ω false [200] [1])):=sJ (rY 200 1 (by decide) (by decide) (by decide) (by decide)) (by kernel_rfl)
theorem k56:CO 40 [ω 200,ω 1] (.ret (.agg [ω 1,.bool false,.str [200],.str [1],.str []])):=cK (.c k55 .nil)
theorem k57:CO 27 [ω 10,ω 1] (.ret (Ω false [10] [1])):=sJ (rY 10 1 (by decide) (by decide) (by decide) (by decide)) (by kernel_rfl)
theorem k58:CO 29 [Ω false [10] [1]] (.ret (.agg [.bool false,.str [10],.str [1],ω 0])):=cK (.nil)
theorem k59:CO 21 [.sl zcc4_8 2 true,.agg [.nilS,.sl [.str [115],ω 0,ω 0,.sl zcc4_4 3 true] 1 true]] (.ret (.agg [.bool false,.str [10],.str [1],ω 0])):=bC.args (.cons (aT.refl _) (.cons (aT.agg (.cons (aT.nilS false rfl) (.cons (aT.slP (.same (.same (.same (.sl .nil))))) .nil))) .nil)) (sJ (q:=CO 21 [.sl zcc4_8 2 true,.agg [.sl [] 0 false,.sl [.str [115],ω 0,ω 0,.sl zcc4_4 3 false] 1 true]] (.ret (.agg [.bool false,.str [10],.str [1],ω 0]))) (iC akj false true true (e:= [⟨1,false,[200],[1],[]⟩,⟨24,false,[],[],[115]⟩]) aaY (kX (by kernel_rfl))) (by kernel_rfl))
theorem k60:CO 39 [.agg [.nilS,.sl [.str [115],ω 0,ω 0,.sl zcc4_4 3 true] 1 true],.agg [.bool false,.str [10],.str [1],ω 0],.sl zcc4_8 2 true] (.ret (.bool true)):=cK (.c k59 .nil)
theorem k61:CO 21 [.sl zcc4_8 2 true,.agg [.nilS,.nilS]] (.ret (.agg [.bool false,.str [],.str [],ω 12])):=bC.args (.cons (aT.refl _) (.cons (aT.agg (.cons (aT.nilS false rfl) (.cons (aT.nilS false rfl) .nil))) .nil)) (sJ (q:=CO 21 [.sl zcc4_8 2 true,.agg [.sl [] 0 false,.sl [] 0 false]] (.ret (.agg [.bool false,.str [],.str [],ω 12]))) (iC Ag false false true (e:= [⟨1,false,[200],[1],[]⟩,⟨24,false,[],[],[115]⟩]) jM (kX (by kernel_rfl))) (by kernel_rfl))
theorem k62:CO 39 [.agg [.nilS,.nilS],.agg [.bool false,.str [],.str [],ω 12],.sl zcc4_8 2 true] (.ret (.bool true)):=cK (.c k61 .nil)
theorem k63:CO 27 [ω 3,ω 1] (.ret (Ω false [3] [1])):=sJ (rY 3 1 (by decide) (by decide) (by decide) (by decide)) (by kernel_rfl)
theorem k64:CO 37 [ω 3,ω 1] (.ret (.agg [ω 3,.bool false,.str [3],.str [1],.str []])):=cK (.c k63 .nil)
theorem k65:CO 19 [.sl [ω 3,.bool false,.str [1],.str [1],.str [],ω 3,.bool false,.str [3],.str [1],.str [],ω 10,.bool false,.str [],.str [],.str []] 3 true,.agg [.nilS,.nilS]] (.ret (.own zcc4_7 3 4)):=bC.args (.cons (aT.refl _) (.cons (aT.agg (.cons (aT.nilS false rfl) (.cons (aT.nilS false rfl) .nil))) .nil)) (sJ (q:=CO 19 [.sl [ω 3,.bool false,.str [1],.str [1],.str [],ω 3,.bool false,.str [3],.str [1],.str [],ω 10,.bool false,.str [],.str [],.str []] 3 true,.agg [.sl [] 0 false,.sl [] 0 false]] (.ret (.own zcc4_7 3 4))) (GK Ag false false true (e:= [⟨3,false,[1],[1],[]⟩,⟨3,false,[3],[1],[]⟩,⟨10,false,[],[],[]⟩]) jM (by kernel_rfl) (kX (by kernel_rfl))) (by kernel_rfl))
theorem k66:CO 29 [Ω false [3] [1]] (.ret (.agg [.bool false,.str [3],.str [1],ω 0])):=cK (.nil)
theorem k67:CO 27 [ω (-2),ω 1] (.ret (Ω true [2] [1])):=sJ (rY (-2) 1 (by decide) (by decide) (by decide) (by decide)) (by kernel_rfl)
theorem k68:CO 29 [Ω true [2] [1]] (.ret (.agg [.bool true,.str [2],.str [1],ω 0])):=cK (.nil)
theorem k69:CO 18 [.sl zcc4_7 3 true,.sl zcc4_7 3 true] (.ret (.bool true)):=sJ (SH [.val ⟨false,1,1⟩,.val ⟨false,3,1⟩,.val ⟨true,2,1⟩] [.val ⟨false,1,1⟩,.val ⟨false,3,1⟩,.val ⟨true,2,1⟩] true true (by decide)) (by kernel_rfl)
theorem k70:CO 15 [.agg [ω 20,.bool false,.str [],.str [],.str []],.nilS,.agg [.nilS,.nilS]] (.ret (.agg [.bool false,.str [],.str [],ω 11])):=bC.args (.cons (aT.refl _) (.cons (aT.nilS false rfl) (.cons (aT.agg (.cons (aT.nilS false rfl) (.cons (aT.nilS false rfl) .nil))) .nil))) (sJ (q:=CO 15 [.agg [ω 20,.bool false,.str [],.str [],.str []],.sl [] 0 false,.agg [.sl [] 0 false,.sl [] 0 false]] (.ret (.agg [.bool false,.str [],.str [],ω 11]))) (Po Ag false false false jM ⟨20,false,[],[],[]⟩ ⟨by decide,by decide⟩ (ar:= []) (by decide) (by simp)) (by kernel_rfl))
theorem k71:CO 26 [ω 11] (.ret (.agg [.bool false,.str [],.str [],ω 11])):=cK (.nil)
theorem k72:CO 21 [.nilS,.agg [.nilS,.nilS]] (.ret (.agg [.bool false,.str [],.str [],ω 11])):=bC.args (.cons (aT.nilS false rfl) (.cons (aT.agg (.cons (aT.nilS false rfl) (.cons (aT.nilS false rfl) .nil))) .nil)) (sJ (q:=CO 21 [.sl [] 0 false,.agg [.sl [] 0 false,.sl [] 0 false]] (.ret (.agg [.bool false,.str [],.str [],ω 11]))) (iC Ag false false false (e:= []) jM (kX (by kernel_rfl))) (by kernel_rfl))
theorem k73:CO 29 [Ω false [1] [2]] (.ret (.agg [.bool false,.str [1],.str [2],ω 0])):=cK (.nil)
theorem k74:CO 17 [.agg [.bool false,.str [1],.str [2],ω 0],.agg [.bool false,.str [1],.str [2],ω 0]] (.ret (.bool true)):=sJ (Pn (.val ⟨false,1,2⟩) (.val ⟨false,1,2⟩)) (by kernel_rfl)
theorem k75:CO 17 [.agg [.bool false,.str [1],.str [2],ω 0],.agg [.bool false,.str [],.str [],ω 16]] (.ret (.bool false)):=sJ (Pn (.val ⟨false,1,2⟩) (.err 16)) (by kernel_rfl)
theorem k76:CO 13 [] (.ret (.bool true)):=cK (.c k75 (.c k17 (.c k73 (.c k74 (.c k73 (.c k73 (.c k71 (.c k72 (.c k71 (.c k70 (.c k69 (.c k68 (.c k67 (.c k66 (.c k63 (.c k12 (.c k0 (.c k65 (.c k64 (.c k62 (.c k32 (.c k60 (.c k58 (.c k57 (.c k56 (.c k54 (.c k53 (.c k52 (.c k51 (.c k2 (.c k2 (.c k50 (.c k48 (.c k46 (.c k45 (.c k44 (.c k42 (.c k40 (.c k39 (.c k6 (.c k38 (.c k31 (.c k36 (.c k30 (.c k29 (.c k34 (.c k32 (.c k31 (.c k30 (.c k29 (.c k28 (.c k24 (.c k17 (.c k26 (.c k24 (.c k13 (.c k22 (.c k21 (.c k19 (.c k17 (.c k16 (.c k14 (.c k12 (.c k0 (.c k11 (.c k9 (.c k7 (.c k5 (.c k4 (.c k3 (.c k1 (.c k1 .nil))))))))))))))))))))))))))))))))))))))))))))))))))))))))))))))))))))))))
theorem Ah:CO 13 [] (.ret (.bool true)):=k76
end Go.Proofs.Tryz
set_option maxRecDepth 100000
open Go AM Go.ChangeShapes Go.WideShapes Go.ChangeAt Go.RowKit
namespace Go.Proofs.Tryz
noncomputable def Ej (t:TypeId) (d:DataW Unit):List Lit:=((mf prog 6 t d 0).getD []).map (·.2)
open Go.Proofs.YtdmfgmmooalfnaaGreatDoor
def VB:List (String × DataW Unit):= [("unicode/utf8.acceptRanges",Rows.laid_unicode_utf8_acceptRanges),("tithing/expr.table",Rows.laid_tithing_expr_table),("unicode/utf8.first",Rows.laid_unicode_utf8_first)]
theorem RX:VB.filter (fun x=>x.2.handleName?.isSome)= []:=by kernel_rfl
theorem ahu {W:World} (h:laidMetH prog VB W):TU ap W:=by
 have c (i:Nat) (n:String) (d:DataW Unit) (hm:VB[i]? =some (n,d)) (g:Nat) (t:TypeId) (hg:prog.globalNamed n=some g) (ht:(prog.globals[g]?).map (·.type)=some t)
   (hl:mf prog 6 t d 0=some ((Ej t d).zipIdx.map fun (l,i)=>(i,l))):=NM h RX (Xqh hm) hg ht hl
 have m:=c 1 _ _ rfl 0 108 (by kernel_rfl) (by kernel_rfl) (by kernel_rfl);have o:=c 0 _ _ rfl 6 244 (by kernel_rfl) (by kernel_rfl) (by kernel_rfl);have key (k:Nat) (t:TypeId) (d:DataW Unit) (hx:(ap.gl[k]?).join=some ((Ej t d).map KE)) (ho:(Ej t d).all Ei=true) (hc:∀ (j:Nat) (l:Lit),(Ej t d)[j]? =some l→W.cell? ⟨k,j,none⟩=some (qf l)):
   ∀ f,(ap.gl[k]?).join=some f→∃ ls:List Lit,f=ls.map KE∧ls.all Ei=true∧∀ (j:Nat) (l:Lit),ls[j]? =some l→W.cell? ⟨k,j,none⟩=some (qf l):=by
  intro f e;rw [hx] at e;cases e;exact ⟨_,rfl,ho,hc⟩
 intro k
 match k with
 |0=>exact key 0 _ _ (by kernel_rfl) (by kernel_rfl) m
 |1=>intro f e;exact absurd (show (none:Option (List AV))=some f from e) (by simp)
 |2=>intro f e;exact absurd (show (none:Option (List AV))=some f from e) (by simp)
 |3=>intro f e;exact absurd (show (none:Option (List AV))=some f from e) (by simp)
 |4=>intro f e;exact absurd (show (none:Option (List AV))=some f from e) (by simp)
 |5=>intro f e;exact absurd (show (none:Option (List AV))=some f from e) (by simp)
 |6=>exact key 6 _ _ (by kernel_rfl) (by kernel_rfl) o
 |7=>intro f e;exact absurd (show (none:Option (List AV))=some f from e) (by simp)
 |k+8=>
  intro f e;have:ap.gl.length=8:=by kernel_rfl
  rw [List.getElem?_eq_none (by omega)] at e;cases e
theorem own:ownKnob prog.godebug=none:=by kernel_rfl
theorem ak7:laidOutB prog=true:=by kernel_rfl
noncomputable def afk (t:TypeId) (d:DataW Unit):Obj→Obj
 | .cells _ t' fr=> .cells ((Ej t d).map qf).toArray t' fr
 |o=>o
noncomputable def afG (os:Os):World:=
 let w:=World.holding prog os ⟨#[],#[],[]⟩
 {w with heap:=((w.heap.modify 0 (afk 108 Rows.laid_tithing_expr_table)).modify 5 (afk 241 Rows.laid_unicode_utf8_first)).modify 6 (afk 244 Rows.laid_unicode_utf8_acceptRanges)}
theorem aiU (a s r:RQ) (x y:List UInt8) (d:CO 98 [.agg [.bool a.neg,.str (ae a.n),.str (ae a.d)]] (.ret (.agg [.bool a.neg,.str (ae a.n),.str (ae a.d)]))) (g:CO 98 [.agg [.bool s.neg,.str (ae s.n),.str (ae s.d)]] (.ret (.agg [.bool s.neg,.str (ae s.n),.str (ae s.d)]))) (e:CO 100 [.str (ae a.n),.str (ae s.n)] (.ret (.str x))) (c:CO 100 [.str (ae a.d),.str (ae s.d)] (.ret (.str y))) (f:CO 99 [.bool (!(a.neg==s.neg)),.str x,.str y] (.ret (.agg [.bool r.neg,.str (ae r.n),.str (ae r.d)]))):CO 89 [.agg [.bool a.neg,.str (ae a.n),.str (ae a.d)],.agg [.bool s.neg,.str (ae s.n),.str (ae s.d)]] (.ret (.agg [.bool r.neg,.str (ae r.n),.str (ae r.d)])):=pK [] 0 0 (.n 18 .nil) (.c f (.c c (.c e (.c g (.c d .nil)))))
theorem ahR (r:RQ) (x y:List UInt8) (b:Bool) (e:lit false (y== [])=true) (c:CO 179 [.str x] (.ret (.bool true))) (f:CO 179 [.str y] (.ret (.bool true))) (d:CO 99 [.bool b,.str x,.str y] (.ret (.agg [.bool r.neg,.str (ae r.n),.str (ae r.d)]))):CO 180 [.bool b,.str x,.str y] (.ret (.tup [.agg [.bool r.neg,.str (ae r.n),.str (ae r.d)],.bool true])):=pK [] 3 0 (.k 4 e (.n 2 .nil)) (.c d (.c f (.c c .nil)))
theorem ahn (a r f g:RQ) (x y z:List UInt8) (i:lit true (decide (((0:Nat):Int)<(((η y):Nat):Int)))=true) (d:lit true a.neg=true) (e:CO 150 [.str (ae a.n),.str (ae a.d)] (.ret (.tup [.str x,.str y,.bool true]))) (k:CO 79 [ω 1] (.ret (.str z))) (h:CO 180 [.bool a.neg,.str x,.str z] (.ret (.tup [.agg [.bool f.neg,.str (ae f.n),.str (ae f.d)],.bool true]))) (c:CO 48 [ω 1] (.ret (.agg [.bool g.neg,.str (ae g.n),.str (ae g.d)]))) (j:CO 88 [.agg [.bool f.neg,.str (ae f.n),.str (ae f.d)],.agg [.bool g.neg,.str (ae g.n),.str (ae g.d)]] (.ret (.agg [.bool r.neg,.str (ae r.n),.str (ae r.d)]))):CO 143 [.agg [.bool a.neg,.str (ae a.n),.str (ae a.d)]] (.ret (.agg [.bool r.neg,.str (ae r.n),.str (ae r.d)])):=pK [] 2 3 (.k 11 i (.c d (.n 5 .nil))) (.c j (.c c (.c h (.c k (.c e .nil)))))
theorem aho (a f:RQ) (x y z:List UInt8) (g:lit false (decide (((0:Nat):Int)<(((η y):Nat):Int)))=true) (c:lit true a.neg=true) (d:CO 150 [.str (ae a.n),.str (ae a.d)] (.ret (.tup [.str x,.str y,.bool true]))) (h:CO 79 [ω 1] (.ret (.str z))) (e:CO 180 [.bool a.neg,.str x,.str z] (.ret (.tup [.agg [.bool f.neg,.str (ae f.n),.str (ae f.d)],.bool true]))):CO 143 [.agg [.bool a.neg,.str (ae a.n),.str (ae a.d)]] (.ret (.agg [.bool f.neg,.str (ae f.n),.str (ae f.d)])):=pK [] 2 1 (.k 7 g (.c c (.n 5 .nil))) (.c e (.c h (.c d .nil)))
theorem ahp (a f:RQ) (x y z:List UInt8) (e:lit false a.neg=true) (c:CO 150 [.str (ae a.n),.str (ae a.d)] (.ret (.tup [.str x,.str y,.bool true]))) (g:CO 79 [ω 1] (.ret (.str z))) (d:CO 180 [.bool a.neg,.str x,.str z] (.ret (.tup [.agg [.bool f.neg,.str (ae f.n),.str (ae f.d)],.bool true]))):CO 143 [.agg [.bool a.neg,.str (ae a.n),.str (ae a.d)]] (.ret (.agg [.bool f.neg,.str (ae f.n),.str (ae f.d)])):=pK [] 2 0 (.k 8 e (.n 5 .nil)) (.c d (.c g (.c c .nil)))
theorem agJ (a s q r f:RQ) (c:Int) (h:lit false (decide (c≤((0:Nat):Int)))=true) (e:CO 137 [.agg [.bool a.neg,.str (ae a.n),.str (ae a.d)]] (.ret (.bool true))) (j:CO 137 [.agg [.bool s.neg,.str (ae s.n),.str (ae s.d)]] (.ret (.bool true))) (g:CO 141 [.agg [.bool s.neg,.str (ae s.n),.str (ae s.d)]] (.ret (ω c))) (d:CO 60 [.agg [.bool a.neg,.str (ae a.n),.str (ae a.d)],.agg [.bool s.neg,.str (ae s.n),.str (ae s.d)]] (.ret (.tup [.agg [.bool q.neg,.str (ae q.n),.str (ae q.d)],.bool true]))) (i:CO 143 [.agg [.bool q.neg,.str (ae q.n),.str (ae q.d)]] (.ret (.agg [.bool f.neg,.str (ae f.n),.str (ae f.d)]))) (k:CO 89 [.agg [.bool f.neg,.str (ae f.n),.str (ae f.d)],.agg [.bool s.neg,.str (ae s.n),.str (ae s.d)]] (.ret (.agg [.bool r.neg,.str (ae r.n),.str (ae r.d)]))):CO 91 [.agg [.bool a.neg,.str (ae a.n),.str (ae a.d)],.agg [.bool s.neg,.str (ae s.n),.str (ae s.d)]] (.ret (.tup [.agg [.bool r.neg,.str (ae r.n),.str (ae r.d)],.bool true])):=pK [] 3 0 (.k 17 h (.n 11 .nil)) (.c k (.c i (.c d (.c g (.c j (.c e .nil))))))
theorem akS (a s p q r:RQ) (d:CO 137 [.agg [.bool a.neg,.str (ae a.n),.str (ae a.d)]] (.ret (.bool true))) (f:CO 142 [.agg [.bool a.neg,.str (ae a.n),.str (ae a.d)]] (.ret (.agg [.bool p.neg,.str (ae p.n),.str (ae p.d)]))) (e:CO 91 [.agg [.bool p.neg,.str (ae p.n),.str (ae p.d)],.agg [.bool s.neg,.str (ae s.n),.str (ae s.d)]] (.ret (.tup [.agg [.bool q.neg,.str (ae q.n),.str (ae q.d)],.bool true]))) (c:CO 142 [.agg [.bool q.neg,.str (ae q.n),.str (ae q.d)]] (.ret (.agg [.bool r.neg,.str (ae r.n),.str (ae r.d)]))):CO 92 [.agg [.bool a.neg,.str (ae a.n),.str (ae a.d)],.agg [.bool s.neg,.str (ae s.n),.str (ae s.d)]] (.ret (.tup [.agg [.bool r.neg,.str (ae r.n),.str (ae r.d)],.bool true])):=pK [] 2 0 (.n 19 .nil) (.c c (.c e (.c f (.c d .nil))))
theorem ahX (a s p q r w:RQ) (d:CO 137 [.agg [.bool a.neg,.str (ae a.n),.str (ae a.d)]] (.ret (.bool true))) (g:CO 137 [.agg [.bool s.neg,.str (ae s.n),.str (ae s.d)]] (.ret (.bool true))) (e:CO 48 [ω 2] (.ret (.agg [.bool w.neg,.str (ae w.n),.str (ae w.d)]))) (c:CO 60 [.agg [.bool s.neg,.str (ae s.n),.str (ae s.d)],.agg [.bool w.neg,.str (ae w.n),.str (ae w.d)]] (.ret (.tup [.agg [.bool p.neg,.str (ae p.n),.str (ae p.d)],.bool true]))) (f:CO 62 [.agg [.bool a.neg,.str (ae a.n),.str (ae a.d)],.agg [.bool p.neg,.str (ae p.n),.str (ae p.d)]] (.ret (.agg [.bool q.neg,.str (ae q.n),.str (ae q.d)]))) (h:CO 91 [.agg [.bool q.neg,.str (ae q.n),.str (ae q.d)],.agg [.bool s.neg,.str (ae s.n),.str (ae s.d)]] (.ret (.tup [.agg [.bool r.neg,.str (ae r.n),.str (ae r.d)],.bool true]))):CO 93 [.agg [.bool a.neg,.str (ae a.n),.str (ae a.d)],.agg [.bool s.neg,.str (ae s.n),.str (ae s.d)]] (.ret (.tup [.agg [.bool r.neg,.str (ae r.n),.str (ae r.d)],.bool true])):=pK [] 2 0 (.n 25 .nil) (.c h (.c f (.c c (.c e (.c g (.c d .nil))))))
theorem Wu {a b:RQ} {L:Nat} (d:a.ok) (c:b.ok) (g:h_ L a) (h:h_ L b) (o:L<2^28):CO 89 [qA a,qA b] (.ret (qA (iH a b))):=by
 obtain ⟨k,m⟩:=g;obtain ⟨n,i⟩:=h;have f:=iM a.neg (ae a.n) (ae a.d) (by omega) (by omega);have e:=iM b.neg (ae b.n) (ae b.d) (by omega) (by omega);rw [gq d] at f;rw [gq c] at e;have p:=dG a.n b.n;have j:=dG a.d b.d;exact aiU a b (iH a b) _ _ f e (ES a.n b.n (by omega) (by omega)) (ES a.d b.d (by omega) (by omega)) (oz _ _ _ (by omega) (by omega) (Nat.mul_pos d.1 c.1))
section
variable {a b:RQ} {L:Nat} (ha:a.ok) (hb:b.ok) (sa:h_ L a) (sb:h_ L b) (hL:L<2^28)
include ha hb sa sb hL
theorem Wp:CO 62 [qA a,qA b] (.ret (qA (gG a b))):=by
 obtain ⟨_,_,e,f⟩:=jc sa hL;obtain ⟨_,_,d,c⟩:=jc sb hL;have h:=Qb a.neg b.neg (ae a.n) (ae a.d) (ae b.n) (ae b.d) e f d c;rw [gq ha,gq hb] at h;exact h
theorem La:CO 88 [qA a,qA b] (.ret (qA (dU a b))):=by
 obtain ⟨_,_,e,f⟩:=jc sa hL;obtain ⟨d,c,_,_⟩:=jc sb hL;have h:=Qg a.neg b.neg (ae a.n) (ae a.d) (ae b.n) (ae b.d) e f d c;rw [gq ha,gq hb] at h;exact h
theorem ab2:CO 87 [qA a,qA b] (.ret (ω (iy a b))):=by
 obtain ⟨e,f,_,_⟩:=jc sa hL;obtain ⟨d,c,_,_⟩:=jc sb hL;have h:=Qc a.neg b.neg (ae a.n) (ae a.d) (ae b.n) (ae b.d) e f d c;rw [gq ha,gq hb] at h;exact h
theorem Wx (d:0<b.n):CO 60 [qA a,qA b] (.ret (.tup [qA (eX a b),.bool true])):=by
 obtain ⟨_,_,f,g⟩:=jc sa hL;obtain ⟨_,_,e,c⟩:=jc sb hL;have h:=ZZ a.neg b.neg (ae a.n) (ae a.d) (ae b.n) (ae b.d) f g e c (by rw [gq hb];exact d);rw [gq ha,gq hb] at h;exact h
omit ha in
theorem aiZ (d:b.n=0):CO 60 [qA a,qA b] (.ret (.tup [Ω false [] [],.bool false])):=by
 obtain ⟨_,_,f,g⟩:=jc sa hL;obtain ⟨_,_,e,c⟩:=jc sb hL;exact ZY a.neg b.neg (ae a.n) (ae a.d) (ae b.n) (ae b.d) f g e c (by rw [gq hb];exact d)
end
section
variable {a:RQ} {L:Nat} (ha:a.ok) (sa:h_ L a) (hL:L<2^28)
include ha sa hL
theorem ab3:CO 142 [qA a] (.ret (qA (kT a))):=by
 obtain ⟨c,d,_,_⟩:=jc sa hL;have h:=Qe a.neg (ae a.n) (ae a.d) (by omega) (by omega);rw [gq ha] at h;exact h
theorem vH:CO 137 [qA a] (.ret (.bool true)):=by
 obtain ⟨c,d,_,_⟩:=jc sa hL;have h:=oC a.neg (ae a.n) (ae a.d) (by omega) (by omega);rw [wY a ha] at h;exact h
theorem Jc:CO 141 [qA a] (.ret (ω (iQ a))):=by
 obtain ⟨c,d,_,_⟩:=jc sa hL;exact ab4 a ha (by omega) (by omega)
theorem Wq:CO 81 [qA a] (.ret (.bool (iG a))):=by
 obtain ⟨c,d,_,_⟩:=jc sa hL;have h:=lH a.neg (ae a.n) (ae a.d) (by omega) (by omega);rw [yh ha] at h;exact h
end
theorem IQ (c:Bool) (x:Nat):jR c x 1=⟨c && decide (0<x),x,1⟩:=by
 unfold jR;rw [Nat.gcd_one_right,Xzz,Xzz]
theorem ad8 (x:Nat):nR (ae x)=true:=(mO _).2 (by rw [aB])
theorem Ws (c:Bool) (x:Nat) (f:(ae x).length<2^28):CO 180 [.bool c,.str (ae x),.str (ae 1)] (.ret (.tup [qA (jR c x 1),.bool true])):=by
 have e:=Ji (ae x);have d:=Ji (ae 1);rw [ad8] at e d;have g:(ae 1).length≤1:=bU (by decide);exact ahR (jR c x 1) (ae x) (ae 1) c (by rw [show (ae 1== [])=false from by rw [Yq2];intro h;rw [dY] at h;omega];rfl) e d (oz c x 1 (by omega) (by omega) (by decide))
theorem YW {q:RQ}:(ny q).natAbs≤q.n / q.d+1:=by
 unfold ny;split
 ·rw [Xvi,Xje];split<;>omega
 ·rw [Xje];omega
theorem Vx (x:Nat):jG (x:Int)=⟨false,x,1⟩:=by
 unfold jG;rw [Xje,Yq1 (by omega)]
theorem Vy (x:Nat):jG (-(x:Int))=⟨decide (0<x),x,1⟩:=by
 unfold jG;rw [Xvi,Xje];congr 2;apply propext;omega
theorem aca {L:Nat} {q:RQ} (h:h_ L q):h_ (L+2) (jG (ny q)):=by
 have c:=YW (q:=q);have g:=kQ c;have e:=u_ (q.n / q.d) 1;have f:=kQ (Xjp q.n q.d);have d:(ae 1).length≤1:=bU (by decide);have i:=h.1;exact ⟨by show (ae (ny q).natAbs).length≤_;omega,by show (ae 1).length≤_;omega⟩
theorem SI {q:RQ} {L:Nat} (r:q.ok) (sq:h_ L q) (y:L<2^20):CO 143 [qA q] (.ret (qA (jG (ny q)))):=by
 obtain ⟨u,v⟩:=sq;have i:=CE (ae q.n) (ae q.d) (by omega) (by omega) (by rw [aB];exact r.1);rw [aB,aB] at i;have j:=kW 1 (by decide);have w:=kQ (Xjp q.n q.d);have g:=Ws q.neg (q.n / q.d) (by omega);cases c:q.neg with
 | false=>
  have e:jR q.neg (q.n / q.d) 1=jG (ny q):=by
   rw [IQ];unfold ny;rw [c,if_neg (by simp),Vx];rfl
  rw [e] at g;exact ahp q (jG (ny q)) _ _ _ (aK c) i j g
 | true=>
  by_cases hr:q.n % q.d=0
  ·have e:jR q.neg (q.n / q.d) 1=jG (ny q):=by
    rw [IQ];unfold ny;rw [c,if_pos rfl,if_pos hr,Nat.add_zero,Vy];rfl
   rw [e] at g;exact aho q (jG (ny q)) _ _ _ (aK (Yq1 (by rw [hr,di];simp))) (aN c) i j g
  ·have p:=N8 1 (by decide) (by decide);have f:(jR q.neg (q.n / q.d) 1).ok:=vg (by decide);have d:(KU 1).ok:=pG 1;have o:h_ (L+2) (jR q.neg (q.n / q.d) 1):=by rw [IQ];exact ⟨by show (ae (q.n / q.d)).length≤_;omega,by show (ae 1).length≤_;have:(ae 1).length≤1:=bU (by decide);omega⟩
   have n:h_ (L+2) (KU 1):=⟨by show (ae 1).length≤_;have:(ae 1).length≤1:=bU (by decide);omega,by show (ae 1).length≤_;have:(ae 1).length≤1:=bU (by decide);omega⟩
   have k:=La f d o n (by omega);have e:dU (jR q.neg (q.n / q.d) 1) (KU 1)=jG (ny q):=by
    refine qj (gU f d) (pG _) ?_;rw [Jm f d,Jj,Af _ _ _ (by decide)];have m:(KU 1).rt=((1:Int):Rat):=Jj 1;rw [m,c,if_pos rfl];have t:ny q= -((q.n / q.d+1:Nat):Int):=by unfold ny;rw [c,if_pos rfl,if_neg hr]
    rw [t,Rat.intCast_neg,Rat.intCast_natCast,Rat.natCast_add];simp only [show ((1:Nat):Rat)=1 from rfl,show ((1:Int):Rat)=1 from rfl];grind
   rw [e] at k;refine ahn q (jG (ny q)) (jR q.neg (q.n / q.d) 1) (KU 1) _ _ _ (aN (Yq0 ?_)) (aN c) i j g p k;have:ae (q.n % q.d) ≠ []:=by intro h;rw [dY] at h;exact hr h
   have:=List.length_pos_iff.2 this;omega
section
variable {a s:RQ} {L:Nat} (ha:a.ok) (hs:s.ok) (sa:h_ L a) (ss:h_ L s) (hL:L<2^16) (hp:0<iQ s)
include ha hs sa ss hL hp
theorem EU:CO 91 [qA a,qA s] (.ret (.tup [qA (vV a s),.bool true])):=by
 have c:=(E5 hs hp).2;have e:=pM ha c;have d:=Aq sa ss;have f:=aca d;exact agJ a s (eX a s) (vV a s) (jG (ny (eX a s))) (iQ s) (aK (Yq1 (by omega))) (vH ha sa (by omega)) (vH hs ss (by omega)) (Jc hs ss (by omega)) (Wx ha hs sa ss (by omega) c) (SI e d (by omega)) (Wu (pG _) hs f (ss.mono (by omega)) (by omega))
theorem afg:CO 92 [qA a,qA s] (.ret (.tup [qA (XJ a s),.bool true])):=by
 have g:=(E5 hs hp).2;have f:=qg ha;have c:=Xg sa;have d:h_ (2*(2*L+2)) (vV (kT a) s):=Ap (aca (Aq c ss)) (ss.mono (by omega));have e:=jd (a:=kT a) hs;rw [← akR ha hs hp];exact akS a s (kT a) (vV (kT a) s) _ (vH ha sa (by omega)) (ab3 ha sa (by omega)) (EU f hs c ss hL hp) (ab3 e d (by omega))
end
theorem WM {a s:RQ} {L:Nat} (d:a.ok) (hs:s.ok) (e:h_ L a) (c:h_ L s) (n:L<2^12) (m:1≤L) (hp:0<iQ s):CO 93 [qA a,qA s] (.ret (.tup [qA (XI a s),.bool true])):=by
 have k2:(jG 2).ok:=pG 2;have j:(ae 1).length≤1:=bU (by decide);have k:(ae 2).length≤1:=bU (by decide);have g:h_ L (jG 2):=⟨by show (ae 2).length≤_;omega,by show (ae 1).length≤_;omega⟩
 have h:=pM (b:=jG 2) hs (by decide);have f:=Aq c g;have i:=xu (e.mono (show L≤2*L by omega)) f;rw [← ahZ d hs hp];exact ahX a s (eX s (jG 2)) (gG a (eX s (jG 2))) _ (jG 2) (vH d e (by omega)) (vH hs c (by omega)) (N8 2 (by decide) (by decide)) (Wx hs k2 c g (by omega) (by decide)) (Wp d h (e.mono (by omega)) f (by omega)) (EU (eu d h) hs i (c.mono (by omega)) (by omega) hp)
theorem ais (l:List (RQ × RQ)) (A:Bool) (k:Nat) (b d:RQ × RQ) (x p z:RQ) (c g:Int) (y f:List AV) (m:(ε ((δ (k:Int))*6) (oN l))=Dl b++y) (e:(ε ((δ ((k+1:Nat):Int))*6) (oN l))=Dl d++f) (h:ω (γ .i64 ((k:Int)+((1:Nat):Int)))=ω ((k+1:Nat):Int)) (v:lit true (decide (g<((0:Nat):Int)))=true) (u:(decide (((0:Nat):Int)≤(k:Int)))=true) (q:(decide ((k:Int)<(l.length:Int)))=true) (i:(decide (((0:Nat):Int)≤((k+1:Nat):Int)))=true) (j:(decide (((k+1:Nat):Int)<(l.length:Int)))=true) (n:lit true (decide (c<((0:Nat):Int)))=true) (B:lit true (decide (((k+1:Nat):Int)<(l.length:Int)))=true) (o:CO 87 [.agg [.bool d.1.neg,.str (ae d.1.n),.str (ae d.1.d)],.agg [.bool x.neg,.str (ae x.n),.str (ae x.d)]] (.ret (ω c))) (w:CO 88 [.agg [.bool d.1.neg,.str (ae d.1.n),.str (ae d.1.d)],.agg [.bool b.1.neg,.str (ae b.1.n),.str (ae b.1.d)]] (.ret (.agg [.bool p.neg,.str (ae p.n),.str (ae p.d)]))) (t:CO 141 [.agg [.bool p.neg,.str (ae p.n),.str (ae p.d)]] (.ret (ω g))) (r:CO 48 [ω 0] (.ret (.agg [.bool z.neg,.str (ae z.n),.str (ae z.d)]))):CO 207 [.sl (oN l) l.length A,ω (k:Int),.agg [.bool x.neg,.str (ae x.n),.str (ae x.d)]] (.ret (.agg [.bool z.neg,.str (ae z.n),.str (ae z.d)])):=pK [] 3 7 (.k 4 v (.k 7 u (.c q (.k 7 i (.c j (.c n (.k 6 i (.c j (.c B (.n 4 .nil)))))))))) (.c r (.c t (.c w (.v 35 (.ppt m) (.v 29 (.ppt e) (.v 28 (.eq h) (.c o (.v 19 (.ppt e) (.v 18 (.eq h) (.v 11 (.eq h) .nil))))))))))
theorem ait (l:List (RQ × RQ)) (y:Bool) (k:Nat) (b d:RQ × RQ) (x p:RQ) (c g:Int) (w f:List AV) (m:(ε ((δ (k:Int))*6) (oN l))=Dl b++w) (e:(ε ((δ ((k+1:Nat):Int))*6) (oN l))=Dl d++f) (h:ω (γ .i64 ((k:Int)+((1:Nat):Int)))=ω ((k+1:Nat):Int)) (u:lit false (decide (g<((0:Nat):Int)))=true) (t:(decide (((0:Nat):Int)≤(k:Int)))=true) (q:(decide ((k:Int)<(l.length:Int)))=true) (i:(decide (((0:Nat):Int)≤((k+1:Nat):Int)))=true) (j:(decide (((k+1:Nat):Int)<(l.length:Int)))=true) (n:lit true (decide (c<((0:Nat):Int)))=true) (z:lit true (decide (((k+1:Nat):Int)<(l.length:Int)))=true) (o:CO 87 [.agg [.bool d.1.neg,.str (ae d.1.n),.str (ae d.1.d)],.agg [.bool x.neg,.str (ae x.n),.str (ae x.d)]] (.ret (ω c))) (v:CO 88 [.agg [.bool d.1.neg,.str (ae d.1.n),.str (ae d.1.d)],.agg [.bool b.1.neg,.str (ae b.1.n),.str (ae b.1.d)]] (.ret (.agg [.bool p.neg,.str (ae p.n),.str (ae p.d)]))) (r:CO 141 [.agg [.bool p.neg,.str (ae p.n),.str (ae p.d)]] (.ret (ω g))):CO 207 [.sl (oN l) l.length y,ω (k:Int),.agg [.bool x.neg,.str (ae x.n),.str (ae x.d)]] (.ret (.agg [.bool p.neg,.str (ae p.n),.str (ae p.d)])):=pK [] 3 3 (.k 7 u (.k 7 t (.c q (.k 7 i (.c j (.c n (.k 6 i (.c j (.c z (.n 4 .nil)))))))))) (.c r (.c v (.v 35 (.ppt m) (.v 29 (.ppt e) (.v 28 (.eq h) (.c o (.v 19 (.ppt e) (.v 18 (.eq h) (.v 11 (.eq h) .nil)))))))))
theorem aiu (l:List (RQ × RQ)) (A:Bool) (k:Nat) (b d:RQ × RQ) (x p z:RQ) (c g:Int) (y f:List AV) (i:(ε ((δ (k:Int))*6) (oN l))=Dl b++y) (e:(ε ((δ ((k+1:Nat):Int))*6) (oN l))=Dl d++f) (h:ω (γ .i64 ((k:Int)+((1:Nat):Int)))=ω ((k+1:Nat):Int)) (v:lit true (decide (g<((0:Nat):Int)))=true) (u:(decide (((0:Nat):Int)≤(k:Int)))=true) (n:(decide ((k:Int)<(l.length:Int)))=true) (q:lit false (decide (c<((0:Nat):Int)))=true) (t:(decide (((0:Nat):Int)≤((k+1:Nat):Int)))=true) (j:(decide (((k+1:Nat):Int)<(l.length:Int)))=true) (B:lit true (decide (((k+1:Nat):Int)<(l.length:Int)))=true) (m:CO 87 [.agg [.bool d.1.neg,.str (ae d.1.n),.str (ae d.1.d)],.agg [.bool x.neg,.str (ae x.n),.str (ae x.d)]] (.ret (ω c))) (w:CO 88 [.agg [.bool x.neg,.str (ae x.n),.str (ae x.d)],.agg [.bool b.1.neg,.str (ae b.1.n),.str (ae b.1.d)]] (.ret (.agg [.bool p.neg,.str (ae p.n),.str (ae p.d)]))) (r:CO 141 [.agg [.bool p.neg,.str (ae p.n),.str (ae p.d)]] (.ret (ω g))) (o:CO 48 [ω 0] (.ret (.agg [.bool z.neg,.str (ae z.n),.str (ae z.d)]))):CO 207 [.sl (oN l) l.length A,ω (k:Int),.agg [.bool x.neg,.str (ae x.n),.str (ae x.d)]] (.ret (.agg [.bool z.neg,.str (ae z.n),.str (ae z.d)])):=pK [] 3 5 (.k 4 v (.k 7 u (.c n (.k 3 q (.k 6 t (.c j (.c B (.n 4 .nil)))))))) (.c o (.c r (.c w (.v 35 (.ppt i) (.c m (.v 19 (.ppt e) (.v 18 (.eq h) (.v 11 (.eq h) .nil))))))))
theorem aiv (l:List (RQ × RQ)) (y:Bool) (k:Nat) (b d:RQ × RQ) (x p:RQ) (c g:Int) (w f:List AV) (i:(ε ((δ (k:Int))*6) (oN l))=Dl b++w) (e:(ε ((δ ((k+1:Nat):Int))*6) (oN l))=Dl d++f) (h:ω (γ .i64 ((k:Int)+((1:Nat):Int)))=ω ((k+1:Nat):Int)) (u:lit false (decide (g<((0:Nat):Int)))=true) (t:(decide (((0:Nat):Int)≤(k:Int)))=true) (n:(decide ((k:Int)<(l.length:Int)))=true) (o:lit false (decide (c<((0:Nat):Int)))=true) (r:(decide (((0:Nat):Int)≤((k+1:Nat):Int)))=true) (j:(decide (((k+1:Nat):Int)<(l.length:Int)))=true) (z:lit true (decide (((k+1:Nat):Int)<(l.length:Int)))=true) (m:CO 87 [.agg [.bool d.1.neg,.str (ae d.1.n),.str (ae d.1.d)],.agg [.bool x.neg,.str (ae x.n),.str (ae x.d)]] (.ret (ω c))) (v:CO 88 [.agg [.bool x.neg,.str (ae x.n),.str (ae x.d)],.agg [.bool b.1.neg,.str (ae b.1.n),.str (ae b.1.d)]] (.ret (.agg [.bool p.neg,.str (ae p.n),.str (ae p.d)]))) (q:CO 141 [.agg [.bool p.neg,.str (ae p.n),.str (ae p.d)]] (.ret (ω g))):CO 207 [.sl (oN l) l.length y,ω (k:Int),.agg [.bool x.neg,.str (ae x.n),.str (ae x.d)]] (.ret (.agg [.bool p.neg,.str (ae p.n),.str (ae p.d)])):=pK [] 3 1 (.k 7 u (.k 7 t (.c n (.k 3 o (.k 6 r (.c j (.c z (.n 4 .nil)))))))) (.c q (.c v (.v 35 (.ppt i) (.c m (.v 19 (.ppt e) (.v 18 (.eq h) (.v 11 (.eq h) .nil)))))))
theorem aiw (l:List (RQ × RQ)) (j:Bool) (k:Nat) (b:RQ × RQ) (x p z:RQ) (g:Int) (d:List AV) (c:(ε ((δ (k:Int))*6) (oN l))=Dl b++d) (q:ω (γ .i64 ((k:Int)+((1:Nat):Int)))=ω ((k+1:Nat):Int)) (i:lit true (decide (g<((0:Nat):Int)))=true) (e:(decide (((0:Nat):Int)≤(k:Int)))=true) (n:(decide ((k:Int)<(l.length:Int)))=true) (f:lit false (decide (((k+1:Nat):Int)<(l.length:Int)))=true) (h:CO 88 [.agg [.bool x.neg,.str (ae x.n),.str (ae x.d)],.agg [.bool b.1.neg,.str (ae b.1.n),.str (ae b.1.d)]] (.ret (.agg [.bool p.neg,.str (ae p.n),.str (ae p.d)]))) (o:CO 141 [.agg [.bool p.neg,.str (ae p.n),.str (ae p.d)]] (.ret (ω g))) (m:CO 48 [ω 0] (.ret (.agg [.bool z.neg,.str (ae z.n),.str (ae z.d)]))):CO 207 [.sl (oN l) l.length j,ω (k:Int),.agg [.bool x.neg,.str (ae x.n),.str (ae x.d)]] (.ret (.agg [.bool z.neg,.str (ae z.n),.str (ae z.d)])):=pK [] 3 4 (.k 4 i (.k 7 e (.c n (.k 4 f (.n 4 .nil))))) (.c m (.c o (.c h (.v 35 (.ppt c) (.v 11 (.eq q) .nil)))))
theorem aix (l:List (RQ × RQ)) (j:Bool) (k:Nat) (b:RQ × RQ) (x p:RQ) (g:Int) (d:List AV) (c:(ε ((δ (k:Int))*6) (oN l))=Dl b++d) (o:ω (γ .i64 ((k:Int)+((1:Nat):Int)))=ω ((k+1:Nat):Int)) (i:lit false (decide (g<((0:Nat):Int)))=true) (e:(decide (((0:Nat):Int)≤(k:Int)))=true) (m:(decide ((k:Int)<(l.length:Int)))=true) (f:lit false (decide (((k+1:Nat):Int)<(l.length:Int)))=true) (h:CO 88 [.agg [.bool x.neg,.str (ae x.n),.str (ae x.d)],.agg [.bool b.1.neg,.str (ae b.1.n),.str (ae b.1.d)]] (.ret (.agg [.bool p.neg,.str (ae p.n),.str (ae p.d)]))) (n:CO 141 [.agg [.bool p.neg,.str (ae p.n),.str (ae p.d)]] (.ret (ω g))):CO 207 [.sl (oN l) l.length j,ω (k:Int),.agg [.bool x.neg,.str (ae x.n),.str (ae x.d)]] (.ret (.agg [.bool p.neg,.str (ae p.n),.str (ae p.d)])):=pK [] 3 0 (.k 7 i (.k 7 e (.c m (.k 4 f (.n 4 .nil))))) (.c n (.c h (.v 35 (.ppt c) (.v 11 (.eq o) .nil))))
theorem akU (d:List UInt8) (u1 u2:Int) (l:List (RQ × RQ)) (c:Bool) (k:Nat) (b:RQ × RQ) (x p z a f:RQ) (r:List AV) {nt:Nat} (j:30≤nt) (e:(ε ((δ (k:Int))*6) (oN l))=Dl b++r) (i:ω (γ .i64 ((k:Int)+((1:Nat):Int)))=ω ((k+1:Nat):Int)) (o:(decide (((0:Nat):Int)≤(k:Int)))=true) (n:(decide ((k:Int)<(l.length:Int)))=true) (h:lit true (decide ((k:Int)<(l.length:Int)))=true) (g:CO 207 [.sl (oN l) l.length c,ω (k:Int),.agg [.bool x.neg,.str (ae x.n),.str (ae x.d)]] (.ret (.agg [.bool p.neg,.str (ae p.n),.str (ae p.d)]))) (q:CO 89 [.agg [.bool b.2.neg,.str (ae b.2.n),.str (ae b.2.d)],.agg [.bool p.neg,.str (ae p.n),.str (ae p.d)]] (.ret (.agg [.bool z.neg,.str (ae z.n),.str (ae z.d)]))) (m:CO 62 [.agg [.bool a.neg,.str (ae a.n),.str (ae a.d)],.agg [.bool z.neg,.str (ae z.n),.str (ae z.d)]] (.ret (.agg [.bool f.neg,.str (ae f.n),.str (ae f.d)]))):ψ nt f182 ⟨[(2,.ptr 0 0 0),(3,.ptr 1 0 0),(4,.ptr 2 0 0),(5,.ptr 3 0 0),(6,ω (k:Int))],[(0,⟨[.str d,ω u1,ω u2,.sl (oN l) l.length c],0,false,0,0,true⟩),(1,⟨[.bool x.neg,.str (ae x.n),.str (ae x.d)],0,false,0,0,true⟩),(2,⟨[.bool false,.str [],.str []],0,false,0,0,true⟩),(3,⟨[.bool a.neg,.str (ae a.n),.str (ae a.d)],0,false,0,0,true⟩)],.dead,[]⟩ (.normal) ⟨[(2,.ptr 0 0 0),(3,.ptr 1 0 0),(4,.ptr 2 0 0),(5,.ptr 3 0 0),(6,ω ((k+1:Nat):Int))],[(0,⟨[.str d,ω u1,ω u2,.sl (oN l) l.length c],0,false,0,0,true⟩),(1,⟨[.bool x.neg,.str (ae x.n),.str (ae x.d)],0,false,0,0,true⟩),(2,⟨[.bool false,.str [],.str []],0,false,0,0,true⟩),(3,⟨[.bool f.neg,.str (ae f.n),.str (ae f.d)],0,false,0,0,true⟩)],.dead,[]⟩:=pN 182 [] 1 1 (.k 8 o (.c n (.k 4 h (.n 1 .nil)))) (.v 14 (.eq i) (.c m (.c q (.c g (.v 19 (.ppt e) .nil))))) j
theorem akV (c:List UInt8) (u1 u2:Int) (l:List (RQ × RQ)) (f:Bool) (k:Nat) (x a:RQ) {nt:Nat} (d:30≤nt) (e:lit false (decide ((k:Int)<(l.length:Int)))=true):ψ nt f182 ⟨[(2,.ptr 0 0 0),(3,.ptr 1 0 0),(4,.ptr 2 0 0),(5,.ptr 3 0 0),(6,ω (k:Int))],[(0,⟨[.str c,ω u1,ω u2,.sl (oN l) l.length f],0,false,0,0,true⟩),(1,⟨[.bool x.neg,.str (ae x.n),.str (ae x.d)],0,false,0,0,true⟩),(2,⟨[.bool false,.str [],.str []],0,false,0,0,true⟩),(3,⟨[.bool a.neg,.str (ae a.n),.str (ae a.d)],0,false,0,0,true⟩)],.dead,[]⟩ (.exit 0) ⟨[(4,.ptr 0 0 0),(5,.ptr 1 0 0)],[(0,⟨[.bool false,.str [],.str []],0,false,0,0,true⟩),(1,⟨[.bool a.neg,.str (ae a.n),.str (ae a.d)],0,false,0,0,true⟩)],.dead,[]⟩:=pN 182 [] 1 0 (.c e (.n 1 .nil)) (.nil) d
theorem akT (c:List UInt8) (u1 u2:Int) (l:List (RQ × RQ)) (d:Bool) (x a f:RQ) (g:CO 48 [ω 0] (.ret (.agg [.bool a.neg,.str (ae a.n),.str (ae a.d)]))) (e:aG prog ap [] 30 (.block 0 (.loop (af 0 (ah f182)))) ⟨[(0,.agg [.str c,ω u1,ω u2,.sl (oN l) l.length d]),(1,.agg [.bool x.neg,.str (ae x.n),.str (ae x.d)]),(2,.ptr 0 0 0),(3,.ptr 1 0 0),(4,.ptr 2 0 0),(5,.ptr 3 0 0),(6,ω 0),(12,.dead)],[(0,⟨[.str c,ω u1,ω u2,.sl (oN l) l.length d],0,false,0,0,true⟩),(1,⟨[.bool x.neg,.str (ae x.n),.str (ae x.d)],0,false,0,0,true⟩),(2,⟨[.bool false,.str [],.str []],0,false,0,0,true⟩),(3,⟨[.bool a.neg,.str (ae a.n),.str (ae a.d)],0,false,0,0,true⟩)],.dead,[]⟩ (.normal) ⟨[(4,.ptr 0 0 0),(5,.ptr 1 0 0)],[(0,⟨[.bool false,.str [],.str []],0,false,0,0,true⟩),(1,⟨[.bool f.neg,.str (ae f.n),.str (ae f.d)],0,false,0,0,true⟩)],.dead,[]⟩):CO 182 [.agg [.str c,ω u1,ω u2,.sl (oN l) l.length d],.agg [.bool x.neg,.str (ae x.n),.str (ae x.d)]] (.ret (.agg [.bool f.neg,.str (ae f.n),.str (ae f.d)])):=pK [0] 0 0 (.n 8 .nil) (.l e (.c g .nil))
theorem afU (e:List UInt8) (u1 u2:Int) (g:Bool) (x:RQ) (c:Int) (d:List AV) (f:Nat) (i:lit true (!(c==((0:Nat):Int)))=true) (h:CO 206 [.agg [.str e,ω u1,ω u2,.sl d f g]] (.ret (ω c))):CO 181 [.agg [.str e,ω u1,ω u2,.sl d f g],.agg [.bool x.neg,.str (ae x.n),.str (ae x.d)]] (.ret (ω c)):=pK [] 1 1 (.c i (.n 4 .nil)) (.c h .nil)
theorem afV (e:List UInt8) (u1 u2:Int) (g:Bool) (x:RQ) (c:Int) (d:List AV) (f:Nat) (i:lit false (!(c==((0:Nat):Int)))=true) (h:CO 206 [.agg [.str e,ω u1,ω u2,.sl d f g]] (.ret (ω c))) (k:CO 137 [.agg [.bool x.neg,.str (ae x.n),.str (ae x.d)]] (.ret (.bool true))) (j:CO 81 [.agg [.bool x.neg,.str (ae x.n),.str (ae x.d)]] (.ret (.bool true))):CO 181 [.agg [.str e,ω u1,ω u2,.sl d f g],.agg [.bool x.neg,.str (ae x.n),.str (ae x.d)]] (.ret (ω 0)):=pK [] 3 0 (.k 8 i (.n 4 .nil)) (.c j (.c k (.c h .nil)))
theorem af5 (e:List UInt8) (u1 u2:Int) (g:Bool) (x:RQ) (c:Int) (d:List AV) (f:Nat) (i:lit true (!(c==((0:Nat):Int)))=true) (h:CO 181 [.agg [.str e,ω u1,ω u2,.sl d f g],.agg [.bool x.neg,.str (ae x.n),.str (ae x.d)]] (.ret (ω c))):CO 144 [.agg [.str e,ω u1,ω u2,.sl d f g],.agg [.bool x.neg,.str (ae x.n),.str (ae x.d)]] (.ret (.tup [Ω false [] [],ω c])):=pK [] 1 1 (.k 4 i (.n 7 .nil)) (.c h .nil)
theorem af6 (e:List UInt8) (u1 u2:Int) (g:Bool) (x p:RQ) (c:Int) (d:List AV) (f:Nat) (h:Bool) (k:lit true (!h)=true) (i:lit false (!(c==((0:Nat):Int)))=true) (j:CO 181 [.agg [.str e,ω u1,ω u2,.sl d f g],.agg [.bool x.neg,.str (ae x.n),.str (ae x.d)]] (.ret (ω c))) (n:CO 182 [.agg [.str e,ω u1,ω u2,.sl d f g],.agg [.bool x.neg,.str (ae x.n),.str (ae x.d)]] (.ret (.agg [.bool p.neg,.str (ae p.n),.str (ae p.d)]))) (m:CO 81 [.agg [.bool p.neg,.str (ae p.n),.str (ae p.d)]] (.ret (.bool h))):CO 144 [.agg [.str e,ω u1,ω u2,.sl d f g],.agg [.bool x.neg,.str (ae x.n),.str (ae x.d)]] (.ret (.tup [Ω false [] [],ω 3])):=pK [] 2 2 (.k 4 k (.k 11 i (.n 7 .nil))) (.c m (.c n (.c j .nil)))
theorem af7 (e:List UInt8) (u1 u2:Int) (g:Bool) (x p:RQ) (c:Int) (d:List AV) (f:Nat) (h:Bool) (k:lit false (!h)=true) (i:lit false (!(c==((0:Nat):Int)))=true) (j:CO 181 [.agg [.str e,ω u1,ω u2,.sl d f g],.agg [.bool x.neg,.str (ae x.n),.str (ae x.d)]] (.ret (ω c))) (n:CO 182 [.agg [.str e,ω u1,ω u2,.sl d f g],.agg [.bool x.neg,.str (ae x.n),.str (ae x.d)]] (.ret (.agg [.bool p.neg,.str (ae p.n),.str (ae p.d)]))) (m:CO 81 [.agg [.bool p.neg,.str (ae p.n),.str (ae p.d)]] (.ret (.bool h))):CO 144 [.agg [.str e,ω u1,ω u2,.sl d f g],.agg [.bool x.neg,.str (ae x.n),.str (ae x.d)]] (.ret (.tup [.agg [.bool p.neg,.str (ae p.n),.str (ae p.d)],ω 0])):=pK [] 2 0 (.k 7 k (.k 11 i (.n 7 .nil))) (.c m (.c n (.c j .nil)))
abbrev akk (nm:List UInt8) (u1 u2:Int) (l:List (RQ × RQ)) (nn:Bool):AV:= .agg [.str nm,ω u1,ω u2,.sl (oN l) l.length nn]
section
variable (nm:List UInt8) (u1 u2:Int) {l:List (RQ × RQ)} (nn:Bool) (hR:TW l) {x:RQ} (hx:x.ok) (fx:iG x=true)
include hR hx fx
theorem Wv (k:Nat) (f:k<l.length):CO 207 [.sl (oN l) l.length nn,ω (k:Int),qA x] (.ret (qA (mg l[k].1 ((l.drop (k+1)).head?.map (·.1)) x)))∧(mg l[k].1 ((l.drop (k+1)).head?.map (·.1)) x).ok∧h_ 205 (mg l[k].1 ((l.drop (k+1)).head?.map (·.1)) x):=by
 have v:=hR.len;have u:=Xxe f;have m:=hR.ok _ u;have j:=hR.fit _ u;have n:h_ 51 x:=aW fx;have w:ω (γ .i64 ((k:Int)+((1:Nat):Int)))=ω ((k+1:Nat):Int):=BR (by omega);have g:(decide (((0:Nat):Int)≤(k:Int)))=true:=Yq0 (by omega);have i:(decide ((k:Int)<(l.length:Int)))=true:=Yq0 (by omega);have lt:∀ {b:Bool} {p:RQ},decide (iQ p<0)=b→lit b (decide (iQ p<((0:Nat):Int)))=true:=fun h=>by
  rw [show decide (iQ _<((0:Nat):Int))=_ from h];cases ‹Bool› <;>rfl
 have d:∀ {p:RQ},p.ok→h_ 205 p→(if iQ p<0 then q0 else p).ok∧h_ 205 (if iQ p<0 then q0 else p):=fun z A=>by
  split
  ·exact ⟨wG,Xqy (bU (x:=0) (k:=1) (by decide)) (by decide),Xqy (bU (x:=1) (k:=1) (by decide)) (by decide)⟩
  ·exact ⟨z,A⟩
 by_cases h:k+1<l.length
 ·have o:=Xxe h;have r:=hR.ok _ o;have t:=hR.fit _ o;have e:(l.drop (k+1)).head?.map (·.1)=some l[k+1].1:=by rw [List.drop_eq_getElem_cons h];rfl
  have q:=ab2 r.1 hx (aW t.1) n (by decide);have u1:(decide (((0:Nat):Int)≤((k+1:Nat):Int)))=true:=Yq0 (by omega);have u2:(decide (((k+1:Nat):Int)<(l.length:Int)))=true:=Yq0 (by omega);rw [e];unfold mg;simp only;by_cases hlt:iy l[k+1].1 x<0
  ·rw [if_pos hlt];have hs:=La r.1 m.1 (aW t.1) (aW j.1) (by decide);have k1:=gU r.1 m.1;have k2:h_ 205 (dU l[k+1].1 l[k].1):=xw (L:=51) (aW t.1) (aW j.1);refine ⟨?_,d k1 k2⟩;have c:=Jc k1 k2 (by decide);by_cases h0:iQ (dU l[k+1].1 l[k].1)<0
   ·rw [if_pos h0];exact ais l nn k _ _ x _ q0 _ _ _ _ (fM f) (fM h) w (aN (Yq0 h0)) g i u1 u2 (aN (Yq0 hlt)) (aN u2) q hs c uF
   ·rw [if_neg h0];exact ait l nn k _ _ x _ _ _ _ _ (fM f) (fM h) w (aK (Yq1 h0)) g i u1 u2 (aN (Yq0 hlt)) (aN u2) q hs c
  ·rw [if_neg hlt];have hs:=La hx m.1 n (aW j.1) (by decide);have k1:=gU hx m.1;have k2:h_ 205 (dU x l[k].1):=xw (L:=51) n (aW j.1);refine ⟨?_,d k1 k2⟩;have c:=Jc k1 k2 (by decide);by_cases h0:iQ (dU x l[k].1)<0
   ·rw [if_pos h0];exact aiu l nn k _ _ x _ q0 _ _ _ _ (fM f) (fM h) w (aN (Yq0 h0)) g i (aK (Yq1 hlt)) u1 u2 (aN u2) q hs c uF
   ·rw [if_neg h0];exact aiv l nn k _ _ x _ _ _ _ _ (fM f) (fM h) w (aK (Yq1 h0)) g i (aK (Yq1 hlt)) u1 u2 (aN u2) q hs c
 ·have e:(l.drop (k+1)).head?.map (·.1)=none:=by rw [List.drop_of_length_le (by omega)];rfl
  rw [e];unfold mg;simp only;have hs:=La hx m.1 n (aW j.1) (by decide);have k1:=gU hx m.1;have k2:h_ 205 (dU x l[k].1):=xw (L:=51) n (aW j.1);refine ⟨?_,d k1 k2⟩;have c:=Jc k1 k2 (by decide);have y:lit false (decide (((k+1:Nat):Int)<(l.length:Int)))=true:=aK (Yq1 (by omega));by_cases h0:iQ (dU x l[k].1)<0
  ·rw [if_pos h0];exact aiw l nn k _ x _ q0 _ _ (fM f) w (aN (Yq0 h0)) g i y hs c uF
  ·rw [if_neg h0];exact aix l nn k _ x _ _ _ (fM f) w (aK (Yq1 h0)) g i y hs c
abbrev vlS (nm:List UInt8) (u1 u2:Int) (l:List (RQ × RQ)) (nn:Bool) (x:RQ) (p:Nat × RQ):St:=⟨[(2,.ptr 0 0 0),(3,.ptr 1 0 0),(4,.ptr 2 0 0),(5,.ptr 3 0 0),(6,ω (p.1:Int))],[(0,⟨[.str nm,ω u1,ω u2,.sl (oN l) l.length nn],0,false,0,0,true⟩),(1,⟨[.bool x.neg,.str (ae x.n),.str (ae x.d)],0,false,0,0,true⟩),(2,⟨[.bool false,.str [],.str []],0,false,0,0,true⟩),(3,⟨[.bool p.2.neg,.str (ae p.2.n),.str (ae p.2.d)],0,false,0,0,true⟩)],.dead,[]⟩
abbrev vlO (a:RQ):St:=⟨[(4,.ptr 0 0 0),(5,.ptr 1 0 0)],[(0,⟨[.bool false,.str [],.str []],0,false,0,0,true⟩),(1,⟨[.bool a.neg,.str (ae a.n),.str (ae a.d)],0,false,0,0,true⟩)],.dead,[]⟩
theorem abt {nt:Nat} (y:30≤nt):∀ (r p:List (RQ × RQ)) (c:RQ),l=p++r→c.ok→h_ (410*5^p.length) c→
  aA prog ap [] nt (af 0 (ah f182)) (fun _=> .exit 0) (vlS nm u1 u2 l nn x) vlO (p.length,c) (v_ c r x)∧(v_ c r x).ok∧h_ (410*5^8) (v_ c r x):=by
 intro r
 induction r with
 |nil=>
  intro p c d g hs;have:=hR.len;exact ⟨.done (akV nm u1 u2 l nn p.length x c y (aK (Yq1 (by rw [d];simp)))),g,hs.mono (Nat.mul_le_mul_left 410 (Nat.pow_le_pow_right (by decide) (by rw [d] at this;simp at this;omega)))⟩
 |cons b r ih=>
  intro p c d g hs;have w:=hR.len;have f:p.length<l.length:=by rw [d];simp
  have o:l[p.length]=b:=by subst d;simp
  have E:l.drop (p.length+1)=r:=by rw [d];simp
  obtain ⟨q,h,j⟩:=Wv nn hR hx fx p.length f;have n:b ∈ l:=by rw [d];simp
  have A:=hR.ok _ n;have z:=hR.fit _ n;rw [o,E] at q h j;have t:=fM f;rw [o] at t;have C:=Wu A.2 h (h_.mono (L:=51) (aW z.2) (by decide)) j (by decide);have u:=iI A.2 h;have v:h_ 410 (iH b.2 (mg b.1 (r.head?.map (·.1)) x)):=Ap (L:=205) (h_.mono (L:=51) (aW z.2) (by decide)) j;have B:=abN (k:=p.length) (by omega);have F:1≤5^p.length:=Nat.one_le_pow _ _ (by decide);have D:=Wp g u hs (v.mono (by omega)) B;have m:l=p++ [b]++r:=by rw [d];simp
  have i:=Xh hs v;have e:=ih (p++ [b]) _ m (eu g u) (by rw [θ];exact i);rw [θ,σ] at e;exact ⟨.next (akU nm u1 u2 l nn p.length b x _ _ c _ _ y t (BR (by omega)) (Yq0 (by omega)) (Yq0 (by omega)) (aN (Yq0 (by omega))) q C D) e.1,e.2⟩
theorem Z8:CO 182 [akk nm u1 u2 l nn,qA x] (.ret (qA (v_ q0 l x)))∧(v_ q0 l x).ok∧h_ (410*5^8) (v_ q0 l x):=by
 have h:=fun nt (c:30≤nt)=>abt nm u1 u2 nn hR hx fx c l [] q0 rfl wG (Wn.mono (by decide))
 refine ⟨?_,(h 30 (Δ _)).2⟩;exact akT nm u1 u2 l nn x q0 _ uF (aA.blk (id:=0) (e':= .normal) (s:=⟨_,_,_,_⟩) (s':=vlO _) (fun nt c=>(h nt c).1) (by simp) rfl (aH.of ⟨rfl,rfl,rfl,rfl,rfl,trivial⟩) (aH.refl _))
end
theorem Uw {l:List Br} (h:∀ x ∈ l,x.s28):xB 87 t_ l:=fun i y x d c _ _=>
 Qc y.fn x.fn y.fa y.fd x.fa x.fd (h y (Xqh d)).1.1 (h y (Xqh d)).1.2 (h x (Xqh c)).1.1 (h x (Xqh c)).1.2
theorem abr {l:List (RQ × RQ)} {x:RQ} (c:TW l) (d:x.ok):mW (v_ q0 l x)=XF l x:=by
 rw [acJ d c.ok c.srt];unfold XF;split
 ·rfl
 ·rfl
theorem aae (c:List UInt8) (u1 u2:Int) {l:List Br} (hs:∀ x ∈ l,x.s28) (q:l.length<2^40) {x:RQ} (g:x.ok) (m:iG x=true):
  CO 144 [.agg [.str c,ω u1,ω u2,.sl (gm l) l.length false],qA x] (.ret (.tup [.agg [.bool (MC l x).n,.str (MC l x).a,.str (MC l x).d],ω (MC l x).e])):=by
 have d:=Oe c u1 u2 l t_ q (fun x g=>(hs x g).sm) (Uw hs);unfold MC;have o:h_ 51 x:=aW m;by_cases h:O3 t_ l=0
 ·rw [if_pos h];rw [h] at d;obtain ⟨n,e⟩:=Ur h;have r:CO 137 [qA x] (.ret (.bool true)):=vH g o (by decide);have u:CO 81 [qA x] (.ret (.bool true)):=by have:=Wq g o (by decide);rw [m] at this;exact this
  obtain ⟨k,v1,t⟩:=Z8 c u1 u2 false n g m;unfold akk at k;rw [e,Xx0] at k;have i:=afV c u1 u2 false x 0 _ _ rfl d r u;rw [← abr n g];have j:=Wq v1 t (by decide);unfold mW;by_cases f:iG (v_ q0 (l.map Ud) x)=true
  ·rw [if_pos f];rw [f] at j;exact af7 c u1 u2 false x _ 0 _ _ true rfl rfl i k j
  ·rw [if_neg f];have f:iG (v_ q0 (l.map Ud) x)=false:=by simpa using f
   rw [f] at j;exact af6 c u1 u2 false x _ 0 _ _ false rfl rfl i k j
 ·rw [if_neg h];have p:lit true (!(O3 t_ l==((0:Nat):Int)))=true:=by rw [show (O3 t_ l==((0:Nat):Int))=false from beq_eq_false_iff_ne.2 h];rfl
  exact af5 c u1 u2 false x _ _ _ p (afU c u1 u2 false x _ _ _ p d)
theorem aj0 (n:Bool) (a d:List UInt8) (e:Int) (f:lit true (!(e==((0:Nat):Int)))=true) (c:CO 47 [ω e] (.ret (.agg [.bool false,.str [],.str [],ω e]))):CO 49 [.agg [.bool n,.str a,.str d,ω e]] (.ret (.agg [.bool false,.str [],.str [],ω e])):=pK [] 1 1 (.k 6 f (.n 1 .nil)) (.c c .nil)
theorem aj1 (n:Bool) (a d:List UInt8) (e:Int) (c:Bool) (h:lit true (!c)=true) (f:lit false (!(e==((0:Nat):Int)))=true) (g:CO 81 [Ω n a d] (.ret (.bool c))) (i:CO 47 [ω 3] (.ret (.agg [.bool false,.str [],.str [],ω 3]))):CO 49 [.agg [.bool n,.str a,.str d,ω e]] (.ret (.agg [.bool false,.str [],.str [],ω 3])):=pK [] 2 2 (.k 5 h (.k 3 f (.n 1 .nil))) (.c i (.c g .nil))
theorem aj2 (n:Bool) (a d:List UInt8) (e:Int) (c:Bool) (h:lit false (!c)=true) (f:lit false (!(e==((0:Nat):Int)))=true) (g:CO 81 [Ω n a d] (.ret (.bool c))):CO 49 [.agg [.bool n,.str a,.str d,ω e]] (.ret (.agg [.bool n,.str a,.str d,ω e])):=pK [] 2 0 (.k 9 h (.k 3 f (.n 1 .nil))) (.c g .nil)
theorem ajF (n:Bool) (a d:List UInt8) (o:Oq) (c:CO 49 [.agg [.bool n,.str a,.str d,ω 0]] (.ret (.agg [.bool o.n,.str o.a,.str o.d,ω o.e]))):CO 51 [Ω n a d] (.ret (.agg [.bool o.n,.str o.a,.str o.d,ω o.e])):=pK [] 0 0 (.n 8 .nil) (.c c .nil)
theorem akd (b:Bool) (o:Oq) (d:lit true b=true) (c:CO 48 [ω 1] (.ret (Ω false (ae 1) (ae 1)))) (e:CO 51 [Ω false (ae 1) (ae 1)] (.ret (.agg [.bool o.n,.str o.a,.str o.d,ω o.e]))):CO 90 [.bool b] (.ret (.agg [.bool o.n,.str o.a,.str o.d,ω o.e])):=pK [] 1 1 (.k 5 d .nil) (.c e (.c c .nil))
theorem ake (b:Bool) (o:Oq) (d:lit false b=true) (c:CO 48 [ω 0] (.ret (Ω false (ae 0) (ae 1)))) (e:CO 51 [Ω false (ae 0) (ae 1)] (.ret (.agg [.bool o.n,.str o.a,.str o.d,ω o.e]))):CO 90 [.bool b] (.ret (.agg [.bool o.n,.str o.a,.str o.d,ω o.e])):=pK [] 1 0 (.k 5 d .nil) (.c e (.c c .nil))
theorem ajj (n:Bool) (a d:List UInt8) (e:lit true ((n==false) && ((a==(ae 0)) && ((d==(ae 1)) && true)))=true) (c:CO 48 [ω 0] (.ret (Ω false (ae 0) (ae 1)))):CO 86 [Ω n a d] (.ret (.bool true)):=pK [] 1 1 (.c e (.n 3 .nil)) (.c c .nil)
theorem ajk (n:Bool) (a d:List UInt8) (e:lit false ((n==false) && ((a==(ae 0)) && ((d==(ae 1)) && true)))=true) (c:CO 48 [ω 0] (.ret (Ω false (ae 0) (ae 1)))) (f:CO 48 [ω 1] (.ret (Ω false (ae 1) (ae 1)))):CO 86 [Ω n a d] (.ret (.bool ((n==false) && ((a==(ae 1)) && ((d==(ae 1)) && true))))):=pK [] 1 0 (.k 3 e (.n 3 .nil)) (.c f (.c c .nil))
theorem ahE (h:List UInt8) (g:Int) (k:Nat) (o:Oq) (c:Lk) (ls:List Lk) (cs:List Sc) (r m:Bool) (t:List AV) {nt:Nat} (n:41≤nt) (d:(ε ((δ (k:Int))*6) (d_ ls))=VE c++t) (f:(decide (((0:Nat):Int)≤(k:Int)))=true) (e:(decide ((k:Int)<(ls.length:Int)))=true) (j:lit true (c.nm==h)=true) (p:lit true (c.op==g)=true) (q:lit true (decide ((k:Int)<(ls.length:Int)))=true) (i:CO 49 [.agg [.bool c.n,.str c.a,.str c.d,ω c.e]] (.ret (.agg [.bool o.n,.str o.a,.str o.d,ω o.e]))):ψ nt f52 ⟨[(1,ω g),(2,.str h),(3,.ptr 0 0 0),(6,.ptr 1 0 0),(7,ω (k:Int))],[(0,⟨[.sl (d_ ls) ls.length r,.sl (dV cs) cs.length m],0,false,0,0,true⟩),(1,⟨[.bool false,.str [],.str [],ω 0],0,false,0,0,true⟩)],.dead,[]⟩ (.ret) ⟨[(6,.ptr 0 0 0)],[(0,⟨[.bool o.n,.str o.a,.str o.d,ω o.e],0,false,0,0,true⟩)],.dead,[]⟩:=pN 52 [] 3 7 (.k 5 f (.c e (.k 1 j (.k 1 f (.c e (.k 1 p (.k 1 f (.c e (.k 1 q (.n 1 .nil)))))))))) (.c i (.v 36 (.ppt d) (.v 27 (.ppt d) (.v 18 (.ppt d) .nil)))) n
theorem ahF (e:List UInt8) (d:Int) (k:Nat) (f:Lk) (ls:List Lk) (cs:List Sc) (h j:Bool) (m:List AV) {nt:Nat} (n:41≤nt) (c:(ε ((δ (k:Int))*6) (d_ ls))=VE f++m) (r:ω (γ .i64 ((k:Int)+((1:Nat):Int)))=ω ((k+1:Nat):Int)) (p:lit false (f.nm==e)=true) (g:(decide (((0:Nat):Int)≤(k:Int)))=true) (i:(decide ((k:Int)<(ls.length:Int)))=true) (o:lit true (f.op==d)=true) (q:lit true (decide ((k:Int)<(ls.length:Int)))=true):ψ nt f52 ⟨[(1,ω d),(2,.str e),(3,.ptr 0 0 0),(6,.ptr 1 0 0),(7,ω (k:Int))],[(0,⟨[.sl (d_ ls) ls.length h,.sl (dV cs) cs.length j],0,false,0,0,true⟩),(1,⟨[.bool false,.str [],.str [],ω 0],0,false,0,0,true⟩)],.dead,[]⟩ (.normal) ⟨[(1,ω d),(2,.str e),(3,.ptr 0 0 0),(6,.ptr 1 0 0),(7,ω ((k+1:Nat):Int))],[(0,⟨[.sl (d_ ls) ls.length h,.sl (dV cs) cs.length j],0,false,0,0,true⟩),(1,⟨[.bool false,.str [],.str [],ω 0],0,false,0,0,true⟩)],.dead,[]⟩:=pN 52 [] 3 3 (.c p (.k 1 g (.c i (.k 1 o (.k 1 g (.c i (.k 1 q (.n 1 .nil)))))))) (.v 14 (.eq r) (.v 27 (.ppt c) (.v 18 (.ppt c) .nil))) n
theorem ahG (e:List UInt8) (c:Int) (k:Nat) (f:Lk) (ls:List Lk) (cs:List Sc) (g h:Bool) (i:List AV) {nt:Nat} (m:41≤nt) (d:(ε ((δ (k:Int))*6) (d_ ls))=VE f++i) (q:ω (γ .i64 ((k:Int)+((1:Nat):Int)))=ω ((k+1:Nat):Int)) (o:lit false (f.op==c)=true) (j:(decide (((0:Nat):Int)≤(k:Int)))=true) (p:(decide ((k:Int)<(ls.length:Int)))=true) (n:lit true (decide ((k:Int)<(ls.length:Int)))=true):ψ nt f52 ⟨[(1,ω c),(2,.str e),(3,.ptr 0 0 0),(6,.ptr 1 0 0),(7,ω (k:Int))],[(0,⟨[.sl (d_ ls) ls.length g,.sl (dV cs) cs.length h],0,false,0,0,true⟩),(1,⟨[.bool false,.str [],.str [],ω 0],0,false,0,0,true⟩)],.dead,[]⟩ (.normal) ⟨[(1,ω c),(2,.str e),(3,.ptr 0 0 0),(6,.ptr 1 0 0),(7,ω ((k+1:Nat):Int))],[(0,⟨[.sl (d_ ls) ls.length g,.sl (dV cs) cs.length h],0,false,0,0,true⟩),(1,⟨[.bool false,.str [],.str [],ω 0],0,false,0,0,true⟩)],.dead,[]⟩:=pN 52 [] 3 1 (.k 1 o (.k 1 j (.c p (.k 1 n (.n 1 .nil))))) (.v 14 (.eq q) (.v 18 (.ppt d) .nil)) m
theorem ahH (d:List UInt8) (c:Int) (k:Nat) (ls:List Lk) (cs:List Sc) (g h:Bool) {nt:Nat} (e:41≤nt) (f:lit false (decide ((k:Int)<(ls.length:Int)))=true):ψ nt f52 ⟨[(1,ω c),(2,.str d),(3,.ptr 0 0 0),(6,.ptr 1 0 0),(7,ω (k:Int))],[(0,⟨[.sl (d_ ls) ls.length g,.sl (dV cs) cs.length h],0,false,0,0,true⟩),(1,⟨[.bool false,.str [],.str [],ω 0],0,false,0,0,true⟩)],.dead,[]⟩ (.exit 0) ⟨[(6,.ptr 0 0 0)],[(0,⟨[.bool false,.str [],.str [],ω 0],0,false,0,0,true⟩)],.dead,[]⟩:=pN 52 [] 1 0 (.c f (.n 1 .nil)) (.nil) e
theorem ahC (f:List UInt8) (e:Int) (ls:List Lk) (cs:List Sc) (c d:Bool) (g:aG prog ap [] 41 (.block 0 (.loop (af 0 (ah f52)))) ⟨[(0,.agg [.sl (d_ ls) ls.length c,.sl (dV cs) cs.length d]),(1,ω e),(2,.str f),(3,.ptr 0 0 0),(6,.ptr 1 0 0),(7,ω 0),(12,.dead),(32,.dead)],[(0,⟨[.sl (d_ ls) ls.length c,.sl (dV cs) cs.length d],0,false,0,0,true⟩),(1,⟨[.bool false,.str [],.str [],ω 0],0,false,0,0,true⟩)],.dead,[]⟩ (.normal) ⟨[(6,.ptr 0 0 0)],[(0,⟨[.bool false,.str [],.str [],ω 0],0,false,0,0,true⟩)],.dead,[]⟩) (h:CO 47 [ω 12] (.ret (.agg [.bool false,.str [],.str [],ω 12]))):CO 52 [.agg [.sl (d_ ls) ls.length c,.sl (dV cs) cs.length d],ω e,.str f] (.ret (.agg [.bool false,.str [],.str [],ω 12])):=pK [0] 0 0 (.n 5 .nil) (.c h (.l g .nil))
theorem ahD (f:List UInt8) (e:Int) (o:Oq) (ls:List Lk) (cs:List Sc) (c d:Bool) (g:aG prog ap [] 41 (.block 0 (.loop (af 0 (ah f52)))) ⟨[(0,.agg [.sl (d_ ls) ls.length c,.sl (dV cs) cs.length d]),(1,ω e),(2,.str f),(3,.ptr 0 0 0),(6,.ptr 1 0 0),(7,ω 0),(12,.dead),(32,.dead)],[(0,⟨[.sl (d_ ls) ls.length c,.sl (dV cs) cs.length d],0,false,0,0,true⟩),(1,⟨[.bool false,.str [],.str [],ω 0],0,false,0,0,true⟩)],.dead,[]⟩ (.ret) ⟨[(6,.ptr 0 0 0)],[(0,⟨[.bool o.n,.str o.a,.str o.d,ω o.e],0,false,0,0,true⟩)],.dead,[]⟩):CO 52 [.agg [.sl (d_ ls) ls.length c,.sl (dV cs) cs.length d],ω e,.str f] (.ret (.agg [.bool o.n,.str o.a,.str o.d,ω o.e])):=pK [0] 0 0 (.n 4 .nil) (.l g .nil)
theorem aj8 (e:List UInt8) (k:Nat) (x:RQ) (o:Oq) (c:Sc) (ls:List Lk) (cs:List Sc) (n q:Bool) (p:List AV) {nt:Nat} (i:39≤nt) (d:(ε ((δ (k:Int))*4) (dV cs))=MF c++p) (g:(decide (((0:Nat):Int)≤(k:Int)))=true) (f:(decide ((k:Int)<(cs.length:Int)))=true) (h:lit true (c.name==e)=true) (j:lit true (decide ((k:Int)<(cs.length:Int)))=true) (m:CO 144 [.agg [.str c.name,ω c.u1,ω c.u2,.sl c.bx c.bn false],.agg [.bool x.neg,.str (ae x.n),.str (ae x.d)]] (.ret (.tup [.agg [.bool o.n,.str o.a,.str o.d],ω o.e]))):ψ nt f94 ⟨[(1,.str e),(3,.ptr 0 0 0),(5,.ptr 1 0 0),(6,.ptr 2 0 0),(7,ω (k:Int))],[(0,⟨[.sl (d_ ls) ls.length n,.sl (dV cs) cs.length q],0,false,0,0,true⟩),(1,⟨[.bool x.neg,.str (ae x.n),.str (ae x.d)],0,false,0,0,true⟩),(2,⟨[.bool false,.str [],.str [],ω 0],0,false,0,0,true⟩)],.dead,[]⟩ (.ret) ⟨[(6,.ptr 0 0 0)],[(0,⟨[.bool o.n,.str o.a,.str o.d,ω o.e],0,false,0,0,true⟩)],.dead,[]⟩:=pN 94 [] 2 3 (.k 12 g (.c f (.k 1 h (.k 1 g (.c f (.k 1 j (.n 1 .nil))))))) (.c m (.v 29 (.ppt d) (.v 20 (.ppt d) .nil))) i
theorem aj9 (c:List UInt8) (k:Nat) (x:RQ) (e:Sc) (ls:List Lk) (cs:List Sc) (f g:Bool) (o:List AV) {nt:Nat} (j:39≤nt) (d:(ε ((δ (k:Int))*4) (dV cs))=MF e++o) (p:ω (γ .i64 ((k:Int)+((1:Nat):Int)))=ω ((k+1:Nat):Int)) (n:lit false (e.name==c)=true) (i:(decide (((0:Nat):Int)≤(k:Int)))=true) (h:(decide ((k:Int)<(cs.length:Int)))=true) (m:lit true (decide ((k:Int)<(cs.length:Int)))=true):ψ nt f94 ⟨[(1,.str c),(3,.ptr 0 0 0),(5,.ptr 1 0 0),(6,.ptr 2 0 0),(7,ω (k:Int))],[(0,⟨[.sl (d_ ls) ls.length f,.sl (dV cs) cs.length g],0,false,0,0,true⟩),(1,⟨[.bool x.neg,.str (ae x.n),.str (ae x.d)],0,false,0,0,true⟩),(2,⟨[.bool false,.str [],.str [],ω 0],0,false,0,0,true⟩)],.dead,[]⟩ (.normal) ⟨[(1,.str c),(3,.ptr 0 0 0),(5,.ptr 1 0 0),(6,.ptr 2 0 0),(7,ω ((k+1:Nat):Int))],[(0,⟨[.sl (d_ ls) ls.length f,.sl (dV cs) cs.length g],0,false,0,0,true⟩),(1,⟨[.bool x.neg,.str (ae x.n),.str (ae x.d)],0,false,0,0,true⟩),(2,⟨[.bool false,.str [],.str [],ω 0],0,false,0,0,true⟩)],.dead,[]⟩:=pN 94 [] 2 1 (.c n (.k 1 i (.c h (.k 1 m (.n 1 .nil))))) (.v 16 (.eq p) (.v 20 (.ppt d) .nil)) j
theorem aj_ (c:List UInt8) (k:Nat) (x:RQ) (ls:List Lk) (cs:List Sc) (f g:Bool) {nt:Nat} (d:39≤nt) (e:lit false (decide ((k:Int)<(cs.length:Int)))=true):ψ nt f94 ⟨[(1,.str c),(3,.ptr 0 0 0),(5,.ptr 1 0 0),(6,.ptr 2 0 0),(7,ω (k:Int))],[(0,⟨[.sl (d_ ls) ls.length f,.sl (dV cs) cs.length g],0,false,0,0,true⟩),(1,⟨[.bool x.neg,.str (ae x.n),.str (ae x.d)],0,false,0,0,true⟩),(2,⟨[.bool false,.str [],.str [],ω 0],0,false,0,0,true⟩)],.dead,[]⟩ (.exit 0) ⟨[(6,.ptr 0 0 0)],[(0,⟨[.bool false,.str [],.str [],ω 0],0,false,0,0,true⟩)],.dead,[]⟩:=pN 94 [] 1 0 (.c e (.n 1 .nil)) (.nil) d
theorem aj3 (e:List UInt8) (x:RQ) (ls:List Lk) (cs:List Sc) (c d:Bool) (f:aG prog ap [] 39 (.block 0 (.loop (af 0 (ah f94)))) ⟨[(0,.agg [.sl (d_ ls) ls.length c,.sl (dV cs) cs.length d]),(1,.str e),(2,.agg [.bool x.neg,.str (ae x.n),.str (ae x.d)]),(3,.ptr 0 0 0),(5,.ptr 1 0 0),(6,.ptr 2 0 0),(7,ω 0),(8,.dead),(9,.dead),(14,.dead),(24,.dead)],[(0,⟨[.sl (d_ ls) ls.length c,.sl (dV cs) cs.length d],0,false,0,0,true⟩),(1,⟨[.bool x.neg,.str (ae x.n),.str (ae x.d)],0,false,0,0,true⟩),(2,⟨[.bool false,.str [],.str [],ω 0],0,false,0,0,true⟩)],.dead,[]⟩ (.normal) ⟨[(6,.ptr 0 0 0)],[(0,⟨[.bool false,.str [],.str [],ω 0],0,false,0,0,true⟩)],.dead,[]⟩) (g:CO 47 [ω 12] (.ret (.agg [.bool false,.str [],.str [],ω 12]))):CO 94 [.agg [.sl (d_ ls) ls.length c,.sl (dV cs) cs.length d],.str e,.agg [.bool x.neg,.str (ae x.n),.str (ae x.d)]] (.ret (.agg [.bool false,.str [],.str [],ω 12])):=pK [0] 0 0 (.n 5 .nil) (.c g (.l f .nil))
theorem aj6 (e:List UInt8) (x:RQ) (o:Oq) (ls:List Lk) (cs:List Sc) (c d:Bool) (f:aG prog ap [] 39 (.block 0 (.loop (af 0 (ah f94)))) ⟨[(0,.agg [.sl (d_ ls) ls.length c,.sl (dV cs) cs.length d]),(1,.str e),(2,.agg [.bool x.neg,.str (ae x.n),.str (ae x.d)]),(3,.ptr 0 0 0),(5,.ptr 1 0 0),(6,.ptr 2 0 0),(7,ω 0),(8,.dead),(9,.dead),(14,.dead),(24,.dead)],[(0,⟨[.sl (d_ ls) ls.length c,.sl (dV cs) cs.length d],0,false,0,0,true⟩),(1,⟨[.bool x.neg,.str (ae x.n),.str (ae x.d)],0,false,0,0,true⟩),(2,⟨[.bool false,.str [],.str [],ω 0],0,false,0,0,true⟩)],.dead,[]⟩ (.ret) ⟨[(6,.ptr 0 0 0)],[(0,⟨[.bool o.n,.str o.a,.str o.d,ω o.e],0,false,0,0,true⟩)],.dead,[]⟩):CO 94 [.agg [.sl (d_ ls) ls.length c,.sl (dV cs) cs.length d],.str e,.agg [.bool x.neg,.str (ae x.n),.str (ae x.d)]] (.ret (.agg [.bool o.n,.str o.a,.str o.d,ω o.e])):=pK [0] 0 0 (.n 4 .nil) (.l f .nil)
theorem ajl (c e d:Oq) (g:Bool) (f:lit true (!(c.e==((0:Nat):Int)))=true):CO 53 [.sl [.bool c.n,.str c.a,.str c.d,ω c.e,.bool e.n,.str e.a,.str e.d,ω e.e,.bool d.n,.str d.a,.str d.d,ω d.e] 3 g] (.ret (.agg [.bool c.n,.str c.a,.str c.d,ω c.e])):=pK [] 1 1 (.k 11 f (.n 3 .nil)) (.nil)
theorem ajm (b:Bool) (c e d:Oq) (i:Bool) (h:lit true (!b)=true) (f:lit false (!(c.e==((0:Nat):Int)))=true) (g:CO 86 [.agg [.bool c.n,.str c.a,.str c.d]] (.ret (.bool b))) (j:CO 47 [ω 13] (.ret (.agg [.bool false,.str [],.str [],ω 13]))):CO 53 [.sl [.bool c.n,.str c.a,.str c.d,ω c.e,.bool e.n,.str e.a,.str e.d,ω e.e,.bool d.n,.str d.a,.str d.d,ω d.e] 3 i] (.ret (.agg [.bool false,.str [],.str [],ω 13])):=pK [] 2 2 (.k 5 h (.k 5 f (.n 3 .nil))) (.c j (.c g .nil))
theorem ajn (b:Bool) (c d e:Oq) (i:Bool) (h:lit true ((c.n==false) && ((c.a==(ae 1)) && ((c.d==(ae 1)) && true)))=true) (f:lit false (!b)=true) (j:lit false (!(c.e==((0:Nat):Int)))=true) (g:CO 86 [.agg [.bool c.n,.str c.a,.str c.d]] (.ret (.bool b))) (k:CO 48 [ω 1] (.ret (Ω false (ae 1) (ae 1)))):CO 53 [.sl [.bool c.n,.str c.a,.str c.d,ω c.e,.bool d.n,.str d.a,.str d.d,ω d.e,.bool e.n,.str e.a,.str e.d,ω e.e] 3 i] (.ret (.agg [.bool d.n,.str d.a,.str d.d,ω d.e])):=pK [] 3 4 (.k 11 h (.k 5 f (.k 5 j (.n 3 .nil)))) (.c k (.c g .nil))
theorem ajo (b:Bool) (c e d:Oq) (i:Bool) (h:lit false ((c.n==false) && ((c.a==(ae 1)) && ((c.d==(ae 1)) && true)))=true) (f:lit false (!b)=true) (j:lit false (!(c.e==((0:Nat):Int)))=true) (g:CO 86 [.agg [.bool c.n,.str c.a,.str c.d]] (.ret (.bool b))) (k:CO 48 [ω 1] (.ret (Ω false (ae 1) (ae 1)))):CO 53 [.sl [.bool c.n,.str c.a,.str c.d,ω c.e,.bool e.n,.str e.a,.str e.d,ω e.e,.bool d.n,.str d.a,.str d.d,ω d.e] 3 i] (.ret (.agg [.bool d.n,.str d.a,.str d.d,ω d.e])):=pK [] 3 0 (.k 11 h (.k 5 f (.k 5 j (.n 3 .nil)))) (.c k (.c g .nil))
theorem aff (c:Int) (x y r:RQ) (o:Oq) (d:CO 87 [.agg [.bool x.neg,.str (ae x.n),.str (ae x.d)],.agg [.bool y.neg,.str (ae y.n),.str (ae y.d)]] (.ret (ω c))) (f:CO 62 [.agg [.bool x.neg,.str (ae x.n),.str (ae x.d)],.agg [.bool y.neg,.str (ae y.n),.str (ae y.d)]] (.ret (.agg [.bool r.neg,.str (ae r.n),.str (ae r.d)]))) (e:CO 51 [.agg [.bool r.neg,.str (ae r.n),.str (ae r.d)]] (.ret (.agg [.bool o.n,.str o.a,.str o.d,ω o.e]))):CO 54 [ω 9,.agg [.bool x.neg,.str (ae x.n),.str (ae x.d)],.agg [.bool y.neg,.str (ae y.n),.str (ae y.d)]] (.ret (.agg [.bool o.n,.str o.a,.str o.d,ω o.e])):=pK [] 1 1 (.n 18 .nil) (.c e (.c f (.c d .nil)))
theorem aaE (c:Int) (x y r:RQ) (o:Oq) (d:CO 87 [.agg [.bool x.neg,.str (ae x.n),.str (ae x.d)],.agg [.bool y.neg,.str (ae y.n),.str (ae y.d)]] (.ret (ω c))) (f:CO 88 [.agg [.bool x.neg,.str (ae x.n),.str (ae x.d)],.agg [.bool y.neg,.str (ae y.n),.str (ae y.d)]] (.ret (.agg [.bool r.neg,.str (ae r.n),.str (ae r.d)]))) (e:CO 51 [.agg [.bool r.neg,.str (ae r.n),.str (ae r.d)]] (.ret (.agg [.bool o.n,.str o.a,.str o.d,ω o.e]))):CO 54 [ω 10,.agg [.bool x.neg,.str (ae x.n),.str (ae x.d)],.agg [.bool y.neg,.str (ae y.n),.str (ae y.d)]] (.ret (.agg [.bool o.n,.str o.a,.str o.d,ω o.e])):=pK [] 2 2 (.n 19 .nil) (.c e (.c f (.c d .nil)))
theorem aaF (c:Int) (x y r:RQ) (o:Oq) (d:CO 87 [.agg [.bool x.neg,.str (ae x.n),.str (ae x.d)],.agg [.bool y.neg,.str (ae y.n),.str (ae y.d)]] (.ret (ω c))) (f:CO 89 [.agg [.bool x.neg,.str (ae x.n),.str (ae x.d)],.agg [.bool y.neg,.str (ae y.n),.str (ae y.d)]] (.ret (.agg [.bool r.neg,.str (ae r.n),.str (ae r.d)]))) (e:CO 51 [.agg [.bool r.neg,.str (ae r.n),.str (ae r.d)]] (.ret (.agg [.bool o.n,.str o.a,.str o.d,ω o.e]))):CO 54 [ω 11,.agg [.bool x.neg,.str (ae x.n),.str (ae x.d)],.agg [.bool y.neg,.str (ae y.n),.str (ae y.d)]] (.ret (.agg [.bool o.n,.str o.a,.str o.d,ω o.e])):=pK [] 3 4 (.n 20 .nil) (.c e (.c f (.c d .nil)))
theorem aaG (c:Int) (b:Bool) (x y r:RQ) (f:lit true (!b)=true) (d:CO 87 [.agg [.bool x.neg,.str (ae x.n),.str (ae x.d)],.agg [.bool y.neg,.str (ae y.n),.str (ae y.d)]] (.ret (ω c))) (g:CO 60 [.agg [.bool x.neg,.str (ae x.n),.str (ae x.d)],.agg [.bool y.neg,.str (ae y.n),.str (ae y.d)]] (.ret (.tup [.agg [.bool r.neg,.str (ae r.n),.str (ae r.d)],.bool b]))) (e:CO 47 [ω 16] (.ret (.agg [.bool false,.str [],.str [],ω 16]))):CO 54 [ω 12,.agg [.bool x.neg,.str (ae x.n),.str (ae x.d)],.agg [.bool y.neg,.str (ae y.n),.str (ae y.d)]] (.ret (.agg [.bool false,.str [],.str [],ω 16])):=pK [] 5 24 (.k 5 f (.n 17 .nil)) (.c e (.c g (.c d .nil)))
theorem aaH (c:Int) (b:Bool) (x y r:RQ) (o:Oq) (f:lit false (!b)=true) (d:CO 87 [.agg [.bool x.neg,.str (ae x.n),.str (ae x.d)],.agg [.bool y.neg,.str (ae y.n),.str (ae y.d)]] (.ret (ω c))) (g:CO 60 [.agg [.bool x.neg,.str (ae x.n),.str (ae x.d)],.agg [.bool y.neg,.str (ae y.n),.str (ae y.d)]] (.ret (.tup [.agg [.bool r.neg,.str (ae r.n),.str (ae r.d)],.bool b]))) (e:CO 51 [.agg [.bool r.neg,.str (ae r.n),.str (ae r.d)]] (.ret (.agg [.bool o.n,.str o.a,.str o.d,ω o.e]))):CO 54 [ω 12,.agg [.bool x.neg,.str (ae x.n),.str (ae x.d)],.agg [.bool y.neg,.str (ae y.n),.str (ae y.d)]] (.ret (.agg [.bool o.n,.str o.a,.str o.d,ω o.e])):=pK [] 5 8 (.k 8 f (.n 17 .nil)) (.c e (.c g (.c d .nil)))
theorem aaI (c:Int) (x y:RQ) (o:Oq) (e:lit true (decide (((0:Nat):Int)<c))=true) (d:CO 87 [.agg [.bool x.neg,.str (ae x.n),.str (ae x.d)],.agg [.bool y.neg,.str (ae y.n),.str (ae y.d)]] (.ret (ω c))) (f:CO 51 [.agg [.bool y.neg,.str (ae y.n),.str (ae y.d)]] (.ret (.agg [.bool o.n,.str o.a,.str o.d,ω o.e]))):CO 54 [ω 13,.agg [.bool x.neg,.str (ae x.n),.str (ae x.d)],.agg [.bool y.neg,.str (ae y.n),.str (ae y.d)]] (.ret (.agg [.bool o.n,.str o.a,.str o.d,ω o.e])):=pK [] 6 48 (.k 8 e (.n 11 .nil)) (.c f (.c d .nil))
theorem aaJ (c:Int) (x y:RQ) (o:Oq) (e:lit false (decide (((0:Nat):Int)<c))=true) (d:CO 87 [.agg [.bool x.neg,.str (ae x.n),.str (ae x.d)],.agg [.bool y.neg,.str (ae y.n),.str (ae y.d)]] (.ret (ω c))) (f:CO 51 [.agg [.bool x.neg,.str (ae x.n),.str (ae x.d)]] (.ret (.agg [.bool o.n,.str o.a,.str o.d,ω o.e]))):CO 54 [ω 13,.agg [.bool x.neg,.str (ae x.n),.str (ae x.d)],.agg [.bool y.neg,.str (ae y.n),.str (ae y.d)]] (.ret (.agg [.bool o.n,.str o.a,.str o.d,ω o.e])):=pK [] 6 16 (.k 8 e (.n 11 .nil)) (.c f (.c d .nil))
theorem aaK (c:Int) (x y:RQ) (o:Oq) (e:lit true (decide (c<((0:Nat):Int)))=true) (d:CO 87 [.agg [.bool x.neg,.str (ae x.n),.str (ae x.d)],.agg [.bool y.neg,.str (ae y.n),.str (ae y.d)]] (.ret (ω c))) (f:CO 51 [.agg [.bool y.neg,.str (ae y.n),.str (ae y.d)]] (.ret (.agg [.bool o.n,.str o.a,.str o.d,ω o.e]))):CO 54 [ω 14,.agg [.bool x.neg,.str (ae x.n),.str (ae x.d)],.agg [.bool y.neg,.str (ae y.n),.str (ae y.d)]] (.ret (.agg [.bool o.n,.str o.a,.str o.d,ω o.e])):=pK [] 7 96 (.k 8 e (.n 12 .nil)) (.c f (.c d .nil))
theorem aaL (c:Int) (x y:RQ) (o:Oq) (e:lit false (decide (c<((0:Nat):Int)))=true) (d:CO 87 [.agg [.bool x.neg,.str (ae x.n),.str (ae x.d)],.agg [.bool y.neg,.str (ae y.n),.str (ae y.d)]] (.ret (ω c))) (f:CO 51 [.agg [.bool x.neg,.str (ae x.n),.str (ae x.d)]] (.ret (.agg [.bool o.n,.str o.a,.str o.d,ω o.e]))):CO 54 [ω 14,.agg [.bool x.neg,.str (ae x.n),.str (ae x.d)],.agg [.bool y.neg,.str (ae y.n),.str (ae y.d)]] (.ret (.agg [.bool o.n,.str o.a,.str o.d,ω o.e])):=pK [] 7 32 (.k 8 e (.n 12 .nil)) (.c f (.c d .nil))
theorem aaM (c:Int) (x y:RQ) (o:Oq) (d:CO 87 [.agg [.bool x.neg,.str (ae x.n),.str (ae x.d)],.agg [.bool y.neg,.str (ae y.n),.str (ae y.d)]] (.ret (ω c))) (e:CO 90 [.bool (decide (c<((0:Nat):Int)))] (.ret (.agg [.bool o.n,.str o.a,.str o.d,ω o.e]))):CO 54 [ω 16,.agg [.bool x.neg,.str (ae x.n),.str (ae x.d)],.agg [.bool y.neg,.str (ae y.n),.str (ae y.d)]] (.ret (.agg [.bool o.n,.str o.a,.str o.d,ω o.e])):=pK [] 7 64 (.n 18 .nil) (.c e (.c d .nil))
theorem aaN (c:Int) (x y:RQ) (o:Oq) (d:CO 87 [.agg [.bool x.neg,.str (ae x.n),.str (ae x.d)],.agg [.bool y.neg,.str (ae y.n),.str (ae y.d)]] (.ret (ω c))) (e:CO 90 [.bool (c==((0:Nat):Int))] (.ret (.agg [.bool o.n,.str o.a,.str o.d,ω o.e]))):CO 54 [ω 17,.agg [.bool x.neg,.str (ae x.n),.str (ae x.d)],.agg [.bool y.neg,.str (ae y.n),.str (ae y.d)]] (.ret (.agg [.bool o.n,.str o.a,.str o.d,ω o.e])):=pK [] 8 128 (.n 19 .nil) (.c e (.c d .nil))
theorem aaO (c:Int) (x y:RQ) (d:Bool) (g:lit true (!d)=true) (e:CO 87 [.agg [.bool x.neg,.str (ae x.n),.str (ae x.d)],.agg [.bool y.neg,.str (ae y.n),.str (ae y.d)]] (.ret (ω c))) (h:CO 86 [.agg [.bool x.neg,.str (ae x.n),.str (ae x.d)]] (.ret (.bool d))) (f:CO 47 [ω 13] (.ret (.agg [.bool false,.str [],.str [],ω 13]))):CO 54 [ω 18,.agg [.bool x.neg,.str (ae x.n),.str (ae x.d)],.agg [.bool y.neg,.str (ae y.n),.str (ae y.d)]] (.ret (.agg [.bool false,.str [],.str [],ω 13])):=pK [] 10 768 (.k 6 g (.n 17 .nil)) (.c f (.c h (.c e .nil)))
theorem aaP (c:Int) (x y:RQ) (d e:Bool) (i:lit true (!e)=true) (g:lit false (!d)=true) (h:CO 87 [.agg [.bool x.neg,.str (ae x.n),.str (ae x.d)],.agg [.bool y.neg,.str (ae y.n),.str (ae y.d)]] (.ret (ω c))) (k:CO 86 [.agg [.bool x.neg,.str (ae x.n),.str (ae x.d)]] (.ret (.bool d))) (j:CO 86 [.agg [.bool y.neg,.str (ae y.n),.str (ae y.d)]] (.ret (.bool e))) (f:CO 47 [ω 13] (.ret (.agg [.bool false,.str [],.str [],ω 13]))):CO 54 [ω 18,.agg [.bool x.neg,.str (ae x.n),.str (ae x.d)],.agg [.bool y.neg,.str (ae y.n),.str (ae y.d)]] (.ret (.agg [.bool false,.str [],.str [],ω 13])):=pK [] 10 512 (.k 5 i (.k 3 g (.n 17 .nil))) (.c f (.c j (.c k (.c h .nil))))
theorem aaQ (c:Int) (x y:RQ) (o:Oq) (d e:Bool) (i:lit true ((x.neg==false) && (((ae x.n)==(ae 1)) && (((ae x.d)==(ae 1)) && true)))=true) (g:lit false (!e)=true) (m:lit false (!d)=true) (h:CO 87 [.agg [.bool x.neg,.str (ae x.n),.str (ae x.d)],.agg [.bool y.neg,.str (ae y.n),.str (ae y.d)]] (.ret (ω c))) (n:CO 86 [.agg [.bool x.neg,.str (ae x.n),.str (ae x.d)]] (.ret (.bool d))) (j:CO 86 [.agg [.bool y.neg,.str (ae y.n),.str (ae y.d)]] (.ret (.bool e))) (f:CO 48 [ω 1] (.ret (Ω false (ae 1) (ae 1)))) (k:CO 90 [.bool ((y.neg==false) && (((ae y.n)==(ae 1)) && (((ae y.d)==(ae 1)) && true)))] (.ret (.agg [.bool o.n,.str o.a,.str o.d,ω o.e]))):CO 54 [ω 18,.agg [.bool x.neg,.str (ae x.n),.str (ae x.d)],.agg [.bool y.neg,.str (ae y.n),.str (ae y.d)]] (.ret (.agg [.bool o.n,.str o.a,.str o.d,ω o.e])):=pK [] 12 3072 (.k 11 i (.k 8 g (.k 3 m (.n 17 .nil)))) (.c k (.c f (.c j (.c n (.c h .nil)))))
theorem aaR (c:Int) (x y:RQ) (o:Oq) (d e:Bool) (i:lit false ((x.neg==false) && (((ae x.n)==(ae 1)) && (((ae x.d)==(ae 1)) && true)))=true) (g:lit false (!e)=true) (m:lit false (!d)=true) (h:CO 87 [.agg [.bool x.neg,.str (ae x.n),.str (ae x.d)],.agg [.bool y.neg,.str (ae y.n),.str (ae y.d)]] (.ret (ω c))) (n:CO 86 [.agg [.bool x.neg,.str (ae x.n),.str (ae x.d)]] (.ret (.bool d))) (j:CO 86 [.agg [.bool y.neg,.str (ae y.n),.str (ae y.d)]] (.ret (.bool e))) (f:CO 48 [ω 1] (.ret (Ω false (ae 1) (ae 1)))) (k:CO 90 [.bool false] (.ret (.agg [.bool o.n,.str o.a,.str o.d,ω o.e]))):CO 54 [ω 18,.agg [.bool x.neg,.str (ae x.n),.str (ae x.d)],.agg [.bool y.neg,.str (ae y.n),.str (ae y.d)]] (.ret (.agg [.bool o.n,.str o.a,.str o.d,ω o.e])):=pK [] 12 1024 (.k 5 i (.k 8 g (.k 3 m (.n 17 .nil)))) (.c k (.c f (.c j (.c n (.c h .nil)))))
theorem aaS (c:Int) (x y:RQ) (d:Bool) (g:lit true (!d)=true) (e:CO 87 [.agg [.bool x.neg,.str (ae x.n),.str (ae x.d)],.agg [.bool y.neg,.str (ae y.n),.str (ae y.d)]] (.ret (ω c))) (h:CO 86 [.agg [.bool x.neg,.str (ae x.n),.str (ae x.d)]] (.ret (.bool d))) (f:CO 47 [ω 13] (.ret (.agg [.bool false,.str [],.str [],ω 13]))):CO 54 [ω 19,.agg [.bool x.neg,.str (ae x.n),.str (ae x.d)],.agg [.bool y.neg,.str (ae y.n),.str (ae y.d)]] (.ret (.agg [.bool false,.str [],.str [],ω 13])):=pK [] 10 768 (.k 6 g (.n 17 .nil)) (.c f (.c h (.c e .nil)))
theorem aaT (c:Int) (x y:RQ) (d e:Bool) (i:lit true (!e)=true) (g:lit false (!d)=true) (h:CO 87 [.agg [.bool x.neg,.str (ae x.n),.str (ae x.d)],.agg [.bool y.neg,.str (ae y.n),.str (ae y.d)]] (.ret (ω c))) (k:CO 86 [.agg [.bool x.neg,.str (ae x.n),.str (ae x.d)]] (.ret (.bool d))) (j:CO 86 [.agg [.bool y.neg,.str (ae y.n),.str (ae y.d)]] (.ret (.bool e))) (f:CO 47 [ω 13] (.ret (.agg [.bool false,.str [],.str [],ω 13]))):CO 54 [ω 19,.agg [.bool x.neg,.str (ae x.n),.str (ae x.d)],.agg [.bool y.neg,.str (ae y.n),.str (ae y.d)]] (.ret (.agg [.bool false,.str [],.str [],ω 13])):=pK [] 10 512 (.k 5 i (.k 3 g (.n 17 .nil))) (.c f (.c j (.c k (.c h .nil))))
theorem aaU (c:Int) (x y:RQ) (o:Oq) (d e:Bool) (i:lit true ((x.neg==false) && (((ae x.n)==(ae 1)) && (((ae x.d)==(ae 1)) && true)))=true) (g:lit false (!e)=true) (m:lit false (!d)=true) (h:CO 87 [.agg [.bool x.neg,.str (ae x.n),.str (ae x.d)],.agg [.bool y.neg,.str (ae y.n),.str (ae y.d)]] (.ret (ω c))) (n:CO 86 [.agg [.bool x.neg,.str (ae x.n),.str (ae x.d)]] (.ret (.bool d))) (j:CO 86 [.agg [.bool y.neg,.str (ae y.n),.str (ae y.d)]] (.ret (.bool e))) (f:CO 48 [ω 1] (.ret (Ω false (ae 1) (ae 1)))) (k:CO 90 [.bool true] (.ret (.agg [.bool o.n,.str o.a,.str o.d,ω o.e]))):CO 54 [ω 19,.agg [.bool x.neg,.str (ae x.n),.str (ae x.d)],.agg [.bool y.neg,.str (ae y.n),.str (ae y.d)]] (.ret (.agg [.bool o.n,.str o.a,.str o.d,ω o.e])):=pK [] 12 2048 (.k 5 i (.k 8 g (.k 3 m (.n 17 .nil)))) (.c k (.c f (.c j (.c n (.c h .nil)))))
theorem aaV (c:Int) (x y:RQ) (o:Oq) (d e:Bool) (i:lit false ((x.neg==false) && (((ae x.n)==(ae 1)) && (((ae x.d)==(ae 1)) && true)))=true) (g:lit false (!e)=true) (m:lit false (!d)=true) (h:CO 87 [.agg [.bool x.neg,.str (ae x.n),.str (ae x.d)],.agg [.bool y.neg,.str (ae y.n),.str (ae y.d)]] (.ret (ω c))) (n:CO 86 [.agg [.bool x.neg,.str (ae x.n),.str (ae x.d)]] (.ret (.bool d))) (j:CO 86 [.agg [.bool y.neg,.str (ae y.n),.str (ae y.d)]] (.ret (.bool e))) (f:CO 48 [ω 1] (.ret (Ω false (ae 1) (ae 1)))) (k:CO 90 [.bool ((y.neg==false) && (((ae y.n)==(ae 1)) && (((ae y.d)==(ae 1)) && true)))] (.ret (.agg [.bool o.n,.str o.a,.str o.d,ω o.e]))):CO 54 [ω 19,.agg [.bool x.neg,.str (ae x.n),.str (ae x.d)],.agg [.bool y.neg,.str (ae y.n),.str (ae y.d)]] (.ret (.agg [.bool o.n,.str o.a,.str o.d,ω o.e])):=pK [] 12 0 (.k 11 i (.k 8 g (.k 3 m (.n 17 .nil)))) (.c k (.c f (.c j (.c n (.c h .nil)))))
theorem aas (c j e:List UInt8) (k:Bool) (b:Bool) (x:RQ) (ls:List Lk) (cs:List Sc) (h d:Bool) (g:lit true (!b)=true) (f:CO 86 [.agg [.bool x.neg,.str (ae x.n),.str (ae x.d)]] (.ret (.bool b))) (i:CO 47 [ω 13] (.ret (.agg [.bool false,.str [],.str [],ω 13]))):CO 55 [.agg [ω 20,.bool k,.str j,.str e,.str c],.agg [.bool x.neg,.str (ae x.n),.str (ae x.d)],.agg [.sl (d_ ls) ls.length h,.sl (dV cs) cs.length d]] (.ret (.agg [.bool false,.str [],.str [],ω 13])):=pK [] 2 3 (.k 5 g (.n 5 .nil)) (.c i (.c f .nil))
theorem aat (c k e:List UInt8) (m:Bool) (b:Bool) (x:RQ) (o:Oq) (ls:List Lk) (cs:List Sc) (i d:Bool) (h:lit false (!b)=true) (f:CO 86 [.agg [.bool x.neg,.str (ae x.n),.str (ae x.d)]] (.ret (.bool b))) (j:CO 48 [ω 0] (.ret (Ω false (ae 0) (ae 1)))) (g:CO 90 [.bool ((x.neg==false) && (((ae x.n)==(ae 0)) && (((ae x.d)==(ae 1)) && true)))] (.ret (.agg [.bool o.n,.str o.a,.str o.d,ω o.e]))):CO 55 [.agg [ω 20,.bool m,.str k,.str e,.str c],.agg [.bool x.neg,.str (ae x.n),.str (ae x.d)],.agg [.sl (d_ ls) ls.length i,.sl (dV cs) cs.length d]] (.ret (.agg [.bool o.n,.str o.a,.str o.d,ω o.e])):=pK [] 2 1 (.k 8 h (.n 5 .nil)) (.c g (.c j (.c f .nil)))
theorem aau (c:List UInt8) (x p r:RQ) (o:Oq) (ls:List Lk) (cs:List Sc) (f d:Bool) (e:CO 91 [.agg [.bool x.neg,.str (ae x.n),.str (ae x.d)],.agg [.bool p.neg,.str (ae p.n),.str (ae p.d)]] (.ret (.tup [.agg [.bool r.neg,.str (ae r.n),.str (ae r.d)],.bool true]))) (g:CO 51 [.agg [.bool r.neg,.str (ae r.n),.str (ae r.d)]] (.ret (.agg [.bool o.n,.str o.a,.str o.d,ω o.e]))):CO 55 [.agg [ω 21,.bool p.neg,.str (ae p.n),.str (ae p.d),.str c],.agg [.bool x.neg,.str (ae x.n),.str (ae x.d)],.agg [.sl (d_ ls) ls.length f,.sl (dV cs) cs.length d]] (.ret (.agg [.bool o.n,.str o.a,.str o.d,ω o.e])):=pK [] 2 2 (.n 18 .nil) (.c g (.c e .nil))
theorem aav (c:List UInt8) (x p r:RQ) (o:Oq) (ls:List Lk) (cs:List Sc) (f d:Bool) (e:CO 92 [.agg [.bool x.neg,.str (ae x.n),.str (ae x.d)],.agg [.bool p.neg,.str (ae p.n),.str (ae p.d)]] (.ret (.tup [.agg [.bool r.neg,.str (ae r.n),.str (ae r.d)],.bool true]))) (g:CO 51 [.agg [.bool r.neg,.str (ae r.n),.str (ae r.d)]] (.ret (.agg [.bool o.n,.str o.a,.str o.d,ω o.e]))):CO 55 [.agg [ω 22,.bool p.neg,.str (ae p.n),.str (ae p.d),.str c],.agg [.bool x.neg,.str (ae x.n),.str (ae x.d)],.agg [.sl (d_ ls) ls.length f,.sl (dV cs) cs.length d]] (.ret (.agg [.bool o.n,.str o.a,.str o.d,ω o.e])):=pK [] 3 4 (.n 19 .nil) (.c g (.c e .nil))
theorem aaw (c:List UInt8) (x p r:RQ) (o:Oq) (ls:List Lk) (cs:List Sc) (f d:Bool) (e:CO 93 [.agg [.bool x.neg,.str (ae x.n),.str (ae x.d)],.agg [.bool p.neg,.str (ae p.n),.str (ae p.d)]] (.ret (.tup [.agg [.bool r.neg,.str (ae r.n),.str (ae r.d)],.bool true]))) (g:CO 51 [.agg [.bool r.neg,.str (ae r.n),.str (ae r.d)]] (.ret (.agg [.bool o.n,.str o.a,.str o.d,ω o.e]))):CO 55 [.agg [ω 23,.bool p.neg,.str (ae p.n),.str (ae p.d),.str c],.agg [.bool x.neg,.str (ae x.n),.str (ae x.d)],.agg [.sl (d_ ls) ls.length f,.sl (dV cs) cs.length d]] (.ret (.agg [.bool o.n,.str o.a,.str o.d,ω o.e])):=pK [] 4 8 (.n 20 .nil) (.c g (.c e .nil))
theorem aax (c h f:List UInt8) (i:Bool) (x:RQ) (o:Oq) (ls:List Lk) (cs:List Sc) (e d:Bool) (g:CO 94 [.agg [.sl (d_ ls) ls.length e,.sl (dV cs) cs.length d],.str c,.agg [.bool x.neg,.str (ae x.n),.str (ae x.d)]] (.ret (.agg [.bool o.n,.str o.a,.str o.d,ω o.e]))):CO 55 [.agg [ω 24,.bool i,.str h,.str f,.str c],.agg [.bool x.neg,.str (ae x.n),.str (ae x.d)],.agg [.sl (d_ ls) ls.length e,.sl (dV cs) cs.length d]] (.ret (.agg [.bool o.n,.str o.a,.str o.d,ω o.e])):=pK [] 4 0 (.n 16 .nil) (.c g .nil)
theorem sF (n:Bool) (a d:List UInt8) (e:Int) (h:e=0→a.length<2^33∧d.length<2^33):CO 49 [.agg [.bool n,.str a,.str d,ω e]] (.ret (dZ (Ai n a d e))):=by
 unfold Ai;by_cases h0:e=0
 ·rw [if_pos h0];have c:=lH n a d (h h0).1 (h h0).2;have g:lit false (!(e==((0:Nat):Int)))=true:=by rw [h0];rfl
  cases f:eQ n a d with
  |true=>
   rw [f] at c;rw [if_pos rfl];have:=aj2 n a d e true rfl g c;obtain ⟨i,j⟩:=iR (nY f).1;show CO 49 _ (.ret (.agg [.bool n,.str (ae (ag a)),.str (ae (ag d)),ω 0]));rw [i,j,← h0];exact this
  |false=>
   rw [f] at c;rw [if_neg (by simp)];exact aj1 n a d e false rfl g c (iq 3)
 ·rw [if_neg h0];exact aj0 n a d e (by rw [show (e==((0:Nat):Int))=false from beq_eq_false_iff_ne.2 h0];rfl) (iq e)
theorem WG (n:Bool) (a d:List UInt8) (h:a.length<2^33∧d.length<2^33):CO 51 [Ω n a d] (.ret (dZ (Ai n a d 0))):=ajF n a d _ (sF n a d 0 (fun _=>h))
theorem Ls {q:RQ} {L:Nat} (h:q.ok) (s:h_ L q) (e:L<2^28):CO 51 [qA q] (.ret (dZ (mW q))):=by
 rw [← Ff h];have c:=s.1;have d:=s.2;exact WG _ _ _ ⟨by omega,by omega⟩
theorem SL {q:RQ} (h:q.ok) (c:iG q=true):CO 51 [qA q] (.ret (dZ (.val q))):=by
 have:=Ls h (h_.mono (L:=51) (aW c) (Δ _)) (by decide);unfold mW at this;rw [if_pos c] at this;exact this
theorem lJ (b:Bool):CO 90 [.bool b] (.ret (dZ (FC b))):=by
 cases b with
 |true=>exact akd true _ rfl yF (SL (nG true).1 (nG true).2)
 |false=>exact ake false _ rfl uF (SL (nG false).1 (nG false).2)
theorem vI (o:Oq):CO 86 [.agg [.bool o.n,.str o.a,.str o.d]] (.ret (.bool o.bit)):=by
 cases h:((o.n==false) && ((o.a==(ae 0)) && ((o.d==(ae 1)) && true))) with
 |true=>
  have:o.bit=true:=by unfold Oq.bit;rw [h,Bool.or_true]
  rw [this];exact ajj o.n o.a o.d (by rw [h];rfl) uF
 |false=>
  have:o.bit=((o.n==false) && ((o.a==(ae 1)) && ((o.d==(ae 1)) && true))):=by unfold Oq.bit;rw [h,Bool.or_false];rfl
  rw [this];exact ajk o.n o.a o.d (by rw [h];rfl) uF yF
theorem Ue {o:Oq} (h:o.bit=true):((o.n==false) && ((o.a==(ae 0)) && ((o.d==(ae 1)) && true)))= !o.one:=by
 unfold Oq.bit at h;cases c:o.one with
 |false=>rw [c,Bool.false_or] at h;exact h
 | true=>
  have d:o.a=ae 1:=by
   unfold Oq.one at c;simp only [ο,beq_iff_eq] at c;exact c.2.1
  rw [d,show (ae 1==ae 0)=false by kernel_rfl];cases o.n<;>rfl
theorem YJ {x y:RQ} (m:x.ok) (d:y.ok):(iy x y==((0:Nat):Int))=eqO (.val x) (.val y):=by
 by_cases h:x=y
 ·rw [h,(jm d d).2.1.2 rfl];simp [eqO]
 ·have i:(iy x y==((0:Nat):Int))=false:=beq_eq_false_iff_ne.2 fun q=>h ((jm m d).2.1.1 q)
  rw [i];symm;cases k:eqO (.val x) (.val y) with
  |false=>rfl
  |true=>
   refine absurd ?_ h;simp only [eqO,Oq.n,Oq.a,Oq.d,ο,beq_iff_eq,and_true] at k;obtain ⟨g,j,f⟩:=k;have e:=congrArg ag j;have c:=congrArg ag f;rw [aB,aB] at e c;clear j f h i;cases x;cases y;simp only at g e c;subst g e c;rfl
theorem WN {d:Int} (r:(9≤d∧d≤14)∨(16≤d∧d≤19)) {x y:RQ} (e:x.ok) (f:y.ok) (o:iG x=true) (p:iG y=true):CO 54 [ω d,qA x,qA y] (.ret (dZ (KY d (.val x) (.val y)))):=by
 have i:h_ 51 x:=aW o;have g:h_ 51 y:=aW p;have c:=ab2 e f i g (by decide);have n:d=9∨d=10∨d=11∨d=12∨d=13∨d=14∨d=16∨d=17∨d=18∨d=19:=by omega
 rcases n with rfl|rfl|rfl|rfl|rfl|rfl|rfl|rfl|rfl|rfl
 ·exact aff _ x y _ _ c (Wp e f i g (by decide)) (Ls (eu e f) (xu i g) (by decide))
 ·exact aaE _ x y _ _ c (La e f i g (by decide)) (Ls (gU e f) (xw i g) (by decide))
 ·exact aaF _ x y _ _ c (Wu e f i g (by decide)) (Ls (iI e f) (Ap i g) (by decide))
 ·show CO 54 _ (.ret (dZ (if y.n=0 then .err 16 else mW (eX x y))));by_cases h:y.n=0
  ·rw [if_pos h];exact aaG _ false x y ⟨false,0,0⟩ rfl c (by
    show CO 60 _ (.ret (.tup [Ω false (ae 0) (ae 0),.bool false]));rw [di];exact aiZ (a:=x) f i g (by decide) h) (iq 16)
  ·rw [if_neg h];exact aaH _ true x y _ _ rfl c (Wx e f i g (by decide) (by omega)) (Ls (pM e (by omega)) (Aq i g) (by decide))
 ·show CO 54 _ (.ret (dZ (if 0<iy x y then .val y else .val x)));by_cases h:0<iy x y
  ·rw [if_pos h];exact aaI _ x y _ (aN (Yq0 h)) c (SL f p)
  ·rw [if_neg h];exact aaJ _ x y _ (aK (Yq1 h)) c (SL e o)
 ·show CO 54 _ (.ret (dZ (if iy x y<0 then .val y else .val x)));by_cases h:iy x y<0
  ·rw [if_pos h];exact aaK _ x y _ (aN (Yq0 h)) c (SL f p)
  ·rw [if_neg h];exact aaL _ x y _ (aK (Yq1 h)) c (SL e o)
 ·exact aaM _ x y _ c (lJ _)
 ·exact aaN _ x y _ c (by rw [YJ e f];exact lJ _)
 ·have j:=vI (.val x);have k:=vI (.val y);show CO 54 _ (.ret (dZ (if Oq.bit (.val x) && Oq.bit (.val y) then FC (Oq.one (.val x) && Oq.one (.val y)) else .err 13)));generalize q:Oq.bit (.val x)=x2 at*
  generalize t:Oq.bit (.val y)=x4 at*
  cases x2 with
  |false=>exact aaO _ x y false rfl c j (iq 13)
  | true=>
   cases x4 with
   |false=>exact aaP _ x y true false rfl rfl c j k (iq 13)
   |true=>
    cases m:Oq.one (.val x) with
    |true=>exact aaQ _ x y _ true true (by rw [show ((x.neg==false) && (((ae x.n)==(ae 1)) && (((ae x.d)==(ae 1)) && true)))=true from m];rfl) rfl rfl c j k yF (lJ _)
    |false=>exact aaR _ x y _ true true (by rw [show ((x.neg==false) && (((ae x.n)==(ae 1)) && (((ae x.d)==(ae 1)) && true)))=false from m];rfl) rfl rfl c j k yF (lJ _)
 ·have j:=vI (.val x);have k:=vI (.val y);show CO 54 _ (.ret (dZ (if Oq.bit (.val x) && Oq.bit (.val y) then FC (Oq.one (.val x)||Oq.one (.val y)) else .err 13)));generalize q:Oq.bit (.val x)=x2 at*
  generalize t:Oq.bit (.val y)=x4 at*
  cases x2 with
  |false=>exact aaS _ x y false rfl c j (iq 13)
  | true=>
   cases x4 with
   |false=>exact aaT _ x y true false rfl rfl c j k (iq 13)
   |true=>
    cases m:Oq.one (.val x) with
    |true=>exact aaU _ x y _ true true (by rw [show ((x.neg==false) && (((ae x.n)==(ae 1)) && (((ae x.d)==(ae 1)) && true)))=true from m];rfl) rfl rfl c j k yF (lJ _)
    |false=>exact aaV _ x y _ true true (by rw [show ((x.neg==false) && (((ae x.n)==(ae 1)) && (((ae x.d)==(ae 1)) && true)))=false from m];rfl) rfl rfl c j k yF (lJ _)
theorem Og (a b c:Oq) (e:Bool):CO 53 [.sl (zU a++(zU b++zU c)) 3 e] (.ret (dZ (QX a b c))):=by
 have d:=vI a;unfold QX;by_cases h:a.e=0
 ·rw [if_pos h];have g:lit false (!(a.e==((0:Nat):Int)))=true:=by rw [h];rfl
  cases f:a.bit with
  |false=>rw [f] at d;exact ajm false a b c e rfl g d (iq 13)
  |true=>
   rw [f] at d;cases i:a.one with
   |true=>exact ajn true a b c e (by rw [show ((a.n==false) && ((a.a==(ae 1)) && ((a.d==(ae 1)) && true)))=true from i];rfl) rfl g d yF
   |false=>exact ajo true a b c e (by rw [show ((a.n==false) && ((a.a==(ae 1)) && ((a.d==(ae 1)) && true)))=false from i];rfl) rfl g d yF
 ·rw [if_neg h];exact ajl a b c e (by rw [show (a.e==((0:Nat):Int))=false from beq_eq_false_iff_ne.2 h];rfl)
structure fB.r33 (E:fB):Prop where
 ls:E.ls.length<2^40
 qs:E.qs.length<2^40
 lk:∀ x ∈ E.ls,x.e=0→x.a.length<2^33∧x.d.length<2^33
 sq:∀ s ∈ E.qs,s.l.length<2^40∧∀ b ∈ s.l,b.s28
abbrev lrZ:a_:=⟨[.bool false,.str [],.str [],ω 0],0,false,0,0,true⟩
abbrev lrS (op:Int) (nm:List UInt8) (ls:List Lk) (cs:List Sc) (nl ns:Bool) (k:Nat):St:=⟨[(1,ω op),(2,.str nm),(3,.ptr 0 0 0),(6,.ptr 1 0 0),(7,ω (k:Int))],[(0,⟨[.sl (d_ ls) ls.length nl,.sl (dV cs) cs.length ns],0,false,0,0,true⟩),(1,lrZ)],.dead,[]⟩
abbrev lrO:Option Oq→St
 |none=> ⟨[(6,.ptr 0 0 0)],[(0,lrZ)],.dead,[]⟩
 |some o=> ⟨[(6,.ptr 0 0 0)],[(0,⟨[.bool o.n,.str o.a,.str o.d,.int .i64 o.e],0,false,0,0,true⟩)],.dead,[]⟩
abbrev lrE:Option Oq→bD|none=> .exit 0|some _=> .ret
theorem Zd {nt:Nat} (i:41≤nt) (c:Int) (e:List UInt8) (ls:List Lk) (cs:List Sc) (h g:Bool) (t:ls.length<2^40) (o:∀ x ∈ ls,x.e=0→x.a.length<2^33∧x.d.length<2^33):∀ (r p:List Lk),ls=p++r→
  aA prog ap [] nt (af 0 (ah f52)) lrE (lrS c e ls cs h g) lrO p.length (PP r c e):=by
 intro r
 induction r with
 |nil=>
  intro p hp;exact .done (ahH e c p.length ls cs h g i (aK (Yq1 (by rw [hp];simp))))
 | cons x r ih=>
  intro p hp;have k:p.length<ls.length:=by rw [hp];simp
  have n:ls[p.length]=x:=by subst hp;simp
  have d:=KH k;rw [n] at d;have m:decide (((0:Nat):Int)≤(p.length:Int))=true:=Yq0 (by omega);have f:decide ((p.length:Int)<(ls.length:Int))=true:=Yq0 (by omega);have j:=ih (p++ [x]) (by rw [hp];simp);rw [θ,σ] at j;unfold PP;by_cases h1:c=x.op
  ·by_cases h2:e=x.nm
   ·rw [Xv4 (by rw [h1,h2];simp)];exact .done (ahE e c p.length _ x ls cs h g _ i d m f (aN (by rw [h2];exact beq_self_eq_true _)) (aN (by rw [h1];exact beq_self_eq_true _)) (aN f) (sF x.n x.a x.d x.e (o x (by rw [hp];simp))))
   ·rw [Xwl (by simp [h2])];exact .next (ahF e c p.length x ls cs h g _ i d (BR (by omega)) (aK (beq_eq_false_iff_ne.2 fun q=>h2 q.symm)) m f (aN (by rw [h1];exact beq_self_eq_true _)) (aN f)) j
  ·rw [Xwl (by simp [h1])];exact .next (ahG e c p.length x ls cs h g _ i d (BR (by omega)) (aK (beq_eq_false_iff_ne.2 fun q=>h1 q.symm)) m f (aN f)) j
theorem Ol (c:Int) (d:List UInt8) (ls:List Lk) (cs:List Sc) (e f:Bool) (i:ls.length<2^40) (k:∀ x ∈ ls,x.e=0→x.a.length<2^33∧x.d.length<2^33):
  CO 52 [.agg [.sl (d_ ls) ls.length e,.sl (dV cs) cs.length f],ω c,.str d] (.ret (dZ ((PP ls c d).getD (.err 12)))):=by
 have h:=fun nt j=>Zd (nt:=nt) j c d ls cs e f i k ls [] rfl
 cases g:PP ls c d with
 |none=>
  rw [g] at h;exact ahC d c ls cs e f (aA.blk (id:=0) (e':= .normal) (s:=⟨_,_,_,_⟩) (s':=lrO none) h (by simp) rfl (aH.of ⟨rfl,rfl,rfl,rfl,rfl,trivial⟩) (aH.refl _)) (iq 12)
 |some o=>
  rw [g] at h;exact ahD d c o ls cs e f (aA.blk (id:=0) (e':= .ret) (s:=⟨_,_,_,_⟩) (s':=lrO (some o)) h (by simp) rfl (aH.of ⟨rfl,rfl,rfl,rfl,rfl,trivial⟩) (aH.refl _))
abbrev rdS (nm:List UInt8) (x:RQ) (ls:List Lk) (cs:List Sc) (nl ns:Bool) (k:Nat):St:=⟨[(1,.str nm),(3,.ptr 0 0 0),(5,.ptr 1 0 0),(6,.ptr 2 0 0),(7,ω (k:Int))],[(0,⟨[.sl (d_ ls) ls.length nl,.sl (dV cs) cs.length ns],0,false,0,0,true⟩),(1,⟨[.bool x.neg,.str (ae x.n),.str (ae x.d)],0,false,0,0,true⟩),(2,lrZ)],.dead,[]⟩
theorem aak {nt:Nat} (i:39≤nt) (c:List UInt8) {x:RQ} (w:x.ok) (v:iG x=true) (ls:List Lk) (qs:List Sq) (h f:Bool) (y:qs.length<2^40) (t:∀ s ∈ qs,s.l.length<2^40∧∀ b ∈ s.l,b.s28):∀ (r p:List Sq),qs=p++r→
  aA prog ap [] nt (af 0 (ah f94)) lrE (rdS c x ls (qs.map Sq.c) h f) lrO p.length ((sqO r c).map fun s=>MC s.l x):=by
 intro r;have e:(qs.map Sq.c).length=qs.length:=Xx0 ..
 induction r with
 |nil=>
  intro p hp;exact .done (aj_ c p.length x ls (qs.map Sq.c) h f i (aK (Yq1 (by rw [e,hp];simp))))
 | cons s r ih=>
  intro p hp;have j:p.length<(qs.map Sq.c).length:=by rw [e,hp];simp
  have n:(qs.map Sq.c)[p.length]=s.c:=by subst hp;simp
  have d:=LG j;rw [n] at d;have m:decide (((0:Nat):Int)≤(p.length:Int))=true:=Yq0 (by omega);have g:decide ((p.length:Int)<(((qs.map Sq.c).length:Nat):Int))=true:=Yq0 (by omega);have k:=ih (p++ [s]) (by rw [hp];simp);rw [θ,σ] at k;unfold sqO;obtain ⟨o,u⟩:=t s (by rw [hp];simp);by_cases h2:c=s.nm
  ·rw [Xv4 (by rw [h2];simp)];exact .done (aj8 c p.length x _ s.c ls (qs.map Sq.c) h f _ i d m g (aN (by rw [h2];exact beq_self_eq_true _)) (aN g) (aae s.nm s.u1 s.u2 u o w v))
  ·rw [Xwl (by simp [h2])];exact .next (aj9 c p.length x s.c ls (qs.map Sq.c) h f _ i d (BR (by omega)) (aK (beq_eq_false_iff_ne.2 fun q=>h2 q.symm)) m g (aN g)) k
theorem SQ (c:List UInt8) {x:RQ} (m:x.ok) (j:iG x=true) (ls:List Lk) (qs:List Sq) (d e:Bool) (i:qs.length<2^40) (g:∀ s ∈ qs,s.l.length<2^40∧∀ b ∈ s.l,b.s28):
  CO 94 [.agg [.sl (d_ ls) ls.length d,.sl (dV (qs.map Sq.c)) (qs.map Sq.c).length e],.str c,qA x] (.ret (dZ (match sqO qs c with|none=> .err 12|some s=>MC s.l x))):=by
 have h:=fun nt k=>aak (nt:=nt) k c m j ls qs d e i g qs [] rfl
 cases f:sqO qs c with
 |none=>
  rw [f] at h;exact aj3 c x ls (qs.map Sq.c) d e (aA.blk (id:=0) (e':= .normal) (s:=⟨_,_,_,_⟩) (s':=lrO none) h (by simp) rfl (aH.of ⟨rfl,rfl,rfl,rfl,rfl,trivial⟩) (aH.refl _)) (iq 12)
 |some s=>
  rw [f] at h;exact aj6 c x _ ls (qs.map Sq.c) d e (aA.blk (id:=0) (e':= .ret) (s:=⟨_,_,_,_⟩) (s':=lrO (some (MC s.l x))) h (by simp) rfl (aH.of ⟨rfl,rfl,rfl,rfl,rfl,trivial⟩) (aH.refl _))
theorem Om (E:fB) (y:Nd) (u r:Bool) {x:RQ} (n:20≤y.op∧y.op≤24) (j:QA y) (g:x.ok) (i:iG x=true) (o:E.r33):
  CO 55 [.agg (rU y),qA x,.agg [.sl (d_ E.ls) E.ls.length u,.sl (dV (E.qs.map Sq.c)) (E.qs.map Sq.c).length r]] (.ret (dZ (Oy E.qs y.op y.name (vQ y.neg y.num y.den) (.val x)))):=by
 obtain ⟨d,q,p,t,C⟩:=y;unfold Oy;simp only at n j ⊢;have step:21≤d→d≤23→∃ c:RQ,vQ q p t=c∧c.ok∧iG c=true∧0<iQ c∧p=ae c.n∧t=ae c.d∧q=c.neg:=by
  intro v A;obtain ⟨z,B⟩:=j v A;obtain ⟨f,D⟩:=nY z;refine ⟨_,rfl,jl _ _ _,by rw [sW f];exact D,by rw [← Fg];exact B, ?_, ?_, ?_⟩
  ·rw [sW f];exact (iR f).1.symm
  ·rw [sW f];exact (iR f).2.symm
  ·rw [sW f]
 have m:h_ 51 x:=aW i;have w:d=20∨d=21∨d=22∨d=23∨d=24:=by omega
 rcases w with rfl|rfl|rfl|rfl|rfl
 ·rw [if_pos rfl];have k:=vI (.val x);cases h:Oq.bit (.val x) with
  |false=>
   rw [h] at k;exact aas _ _ _ _ false x _ _ _ _ rfl k (iq 13)
  |true=>
   rw [h] at k;refine aat _ _ _ _ true x _ _ _ _ _ rfl k uF ?_;have e:=Ue h;rw [show ((x.neg==false) && (((ae x.n)==(ae 0)) && (((ae x.d)==(ae 1)) && true)))= !Oq.one (.val x) from e];exact lJ _
 ·obtain ⟨c,e,k1,k2,k3,rfl,rfl,rfl⟩:=step (by decide) (by decide);rw [e,if_neg (by decide),if_neg (by decide),if_pos rfl];exact aau _ x c _ _ _ _ _ _ (EU g k1 m (aW k2) (by decide) k3) (Ls (jd k1) (zS i k2).2.2 (by decide))
 ·obtain ⟨c,e,k1,k2,k3,rfl,rfl,rfl⟩:=step (by decide) (by decide);rw [e,if_neg (by decide),if_neg (by decide),if_neg (by decide),if_pos rfl];exact aav _ x c _ _ _ _ _ _ (afg g k1 m (aW k2) (by decide) k3) (Ls (Aw g k1).1 (zS i k2).2.1 (by decide))
 ·obtain ⟨c,e,k1,k2,k3,rfl,rfl,rfl⟩:=step (by decide) (by decide);rw [e,if_neg (by decide),if_neg (by decide),if_neg (by decide),if_neg (by decide)];exact aaw _ x c _ _ _ _ _ _ (WM g k1 m (aW k2) (by decide) (by decide) k3) (Ls (Aw g k1).2 (zS i k2).1 (by decide))
 ·rw [if_neg (by decide),if_pos rfl];exact aax _ _ _ _ x _ _ _ _ _ (SQ C g i E.ls E.qs u r o.qs o.sq)
theorem sfO (o:Oq):lit false (!((o.n==o.n) && ((o.a==o.a) && ((o.d==o.d) && ((o.e==o.e) && true)))))=true:=by simp [lit]
theorem aeV (y:Nd) (g i d:Bool) (c:Int) (ls:List Lk) (cs:List Sc) (f:lit true (!(c==((0:Nat):Int)))=true) (e:CO 50 [.sl [ω y.op,.bool y.neg,.str y.num,.str y.den,.str y.name] 1 true] (.ret (ω c))) (h:CO 47 [ω 11] (.ret (.agg [.bool false,.str [],.str [],ω 11]))):CO 16 [.agg [ω y.op,.bool y.neg,.str y.num,.str y.den,.str y.name],.sl [] 0 d,.agg [.sl (d_ ls) ls.length g,.sl (dV cs) cs.length i]] (.ret (.agg [.bool false,.str [],.str [],ω 11])):=pK [] 4 8 (.k 5 f (.n 10 .nil)) (.c h (.c e .nil))
theorem aeW (y:Nd) (o:Oq) (h j d:Bool) (c:Int) (ls:List Lk) (cs:List Sc) (g:lit true (decide (y.op≤((4:Nat):Int)))=true) (e:lit false (!(c==((0:Nat):Int)))=true) (f:CO 50 [.sl [ω y.op,.bool y.neg,.str y.num,.str y.den,.str y.name] 1 true] (.ret (ω c))) (i:CO 51 [.agg [.bool y.neg,.str y.num,.str y.den]] (.ret (.agg [.bool o.n,.str o.a,.str o.d,ω o.e]))):CO 16 [.agg [ω y.op,.bool y.neg,.str y.num,.str y.den,.str y.name],.sl [] 0 d,.agg [.sl (d_ ls) ls.length h,.sl (dV cs) cs.length j]] (.ret (.agg [.bool o.n,.str o.a,.str o.d,ω o.e])):=pK [] 5 16 (.k 8 g (.k 1 e (.n 10 .nil))) (.c i (.c f .nil))
theorem aeX (y:Nd) (o:Oq) (d e f:Bool) (c:Int) (ls:List Lk) (cs:List Sc) (i:lit true (decide (y.op≤((8:Nat):Int)))=true) (g:lit false (decide (y.op≤((4:Nat):Int)))=true) (j:lit false (!(c==((0:Nat):Int)))=true) (h:CO 50 [.sl [ω y.op,.bool y.neg,.str y.num,.str y.den,.str y.name] 1 true] (.ret (ω c))) (k:CO 52 [.agg [.sl (d_ ls) ls.length d,.sl (dV cs) cs.length e],ω y.op,.str y.name] (.ret (.agg [.bool o.n,.str o.a,.str o.d,ω o.e]))):CO 16 [.agg [ω y.op,.bool y.neg,.str y.num,.str y.den,.str y.name],.sl [] 0 f,.agg [.sl (d_ ls) ls.length d,.sl (dV cs) cs.length e]] (.ret (.agg [.bool o.n,.str o.a,.str o.d,ω o.e])):=pK [] 6 32 (.k 9 i (.k 1 g (.k 1 j (.n 10 .nil)))) (.c k (.c h .nil))
theorem aeY (y:Nd) (d:Ro) (e:Oq) (k n g:Bool) (c:Int) (ls:List Lk) (cs:List Sc) (j:lit true (!(c==((0:Nat):Int)))=true) (h:CO 48 [ω 0] (.ret (Ω false [] [1]))) (m:CO 49 [.agg [.bool d.n,.str d.a,.str d.d,ω d.e]] (.ret (.agg [.bool e.n,.str e.a,.str e.d,ω e.e]))) (i:CO 50 [.sl [ω 3,.bool false,.str [],.str [1],.str [],ω y.op,.bool y.neg,.str y.num,.str y.den,.str y.name] 2 true] (.ret (ω c))) (f:CO 47 [ω 11] (.ret (.agg [.bool false,.str [],.str [],ω 11]))):CO 16 [.agg [ω y.op,.bool y.neg,.str y.num,.str y.den,.str y.name],.sl [.bool d.n,.str d.a,.str d.d,ω d.e] 1 g,.agg [.sl (d_ ls) ls.length k,.sl (dV cs) cs.length n]] (.ret (.agg [.bool false,.str [],.str [],ω 11])):=pK [] 6 34 (.k 5 j (.n 24 .nil)) (.c f (.c i (.c m (.c h .nil))))
theorem aeZ (y:Nd) (e:Ro) (d:Oq) (n q f:Bool) (c:Int) (ls:List Lk) (cs:List Sc) (j:lit true (!(d.e==((0:Nat):Int)))=true) (g:lit false (y.op==((15:Nat):Int))=true) (o:lit false (decide (y.op≤((8:Nat):Int)))=true) (h:lit false (decide (y.op≤((4:Nat):Int)))=true) (k:lit false (!(c==((0:Nat):Int)))=true) (i:CO 48 [ω 0] (.ret (Ω false [] [1]))) (p:CO 49 [.agg [.bool e.n,.str e.a,.str e.d,ω e.e]] (.ret (.agg [.bool d.n,.str d.a,.str d.d,ω d.e]))) (m:CO 50 [.sl [ω 3,.bool false,.str [],.str [1],.str [],ω y.op,.bool y.neg,.str y.num,.str y.den,.str y.name] 2 true] (.ret (ω c))):CO 16 [.agg [ω y.op,.bool y.neg,.str y.num,.str y.den,.str y.name],.sl [.bool e.n,.str e.a,.str e.d,ω e.e] 1 f,.agg [.sl (d_ ls) ls.length n,.sl (dV cs) cs.length q]] (.ret (.agg [.bool d.n,.str d.a,.str d.d,ω d.e])):=pK [] 11 1538 (.k 11 j (.k 4 g (.k 1 o (.k 1 h (.k 1 k (.n 24 .nil)))))) (.c m (.c p (.c i .nil)))
theorem ae0 (y:Nd) (e:Ro) (o d:Oq) (g f k:Bool) (c:Int) (ls:List Lk) (cs:List Sc) (r:lit false (!(d.e==((0:Nat):Int)))=true) (q:lit false (y.op==((15:Nat):Int))=true) (i:lit false (decide (y.op≤((8:Nat):Int)))=true) (m:lit false (decide (y.op≤((4:Nat):Int)))=true) (p:lit false (!(c==((0:Nat):Int)))=true) (h:CO 48 [ω 0] (.ret (Ω false [] [1]))) (t:CO 49 [.agg [.bool e.n,.str e.a,.str e.d,ω e.e]] (.ret (.agg [.bool d.n,.str d.a,.str d.d,ω d.e]))) (n:CO 50 [.sl [ω 3,.bool false,.str [],.str [1],.str [],ω y.op,.bool y.neg,.str y.num,.str y.den,.str y.name] 2 true] (.ret (ω c))) (j:CO 55 [.agg [ω y.op,.bool y.neg,.str y.num,.str y.den,.str y.name],.agg [.bool d.n,.str d.a,.str d.d],.agg [.sl (d_ ls) ls.length g,.sl (dV cs) cs.length f]] (.ret (.agg [.bool o.n,.str o.a,.str o.d,ω o.e]))):CO 16 [.agg [ω y.op,.bool y.neg,.str y.num,.str y.den,.str y.name],.sl [.bool e.n,.str e.a,.str e.d,ω e.e] 1 k,.agg [.sl (d_ ls) ls.length g,.sl (dV cs) cs.length f]] (.ret (.agg [.bool o.n,.str o.a,.str o.d,ω o.e])):=pK [] 13 514 (.k 19 r (.k 4 q (.k 1 i (.k 1 m (.k 1 p (.n 24 .nil)))))) (.c j (.c n (.c t (.c h .nil))))
theorem ae1 (y:Nd) (d e:Ro) (g f:Oq) (p j i:Bool) (c:Int) (ls:List Lk) (cs:List Sc) (n:lit true (!(c==((0:Nat):Int)))=true) (k:CO 48 [ω 0] (.ret (Ω false [] [1]))) (q:CO 49 [.agg [.bool d.n,.str d.a,.str d.d,ω d.e]] (.ret (.agg [.bool g.n,.str g.a,.str g.d,ω g.e]))) (m:CO 48 [ω 0] (.ret (Ω false [] [1]))) (h:CO 49 [.agg [.bool e.n,.str e.a,.str e.d,ω e.e]] (.ret (.agg [.bool f.n,.str f.a,.str f.d,ω f.e]))) (o:CO 50 [.sl [ω 3,.bool false,.str [],.str [1],.str [],ω 3,.bool false,.str [],.str [1],.str [],ω y.op,.bool y.neg,.str y.num,.str y.den,.str y.name] 3 true] (.ret (ω c))) (r:CO 47 [ω 11] (.ret (.agg [.bool false,.str [],.str [],ω 11]))):CO 16 [.agg [ω y.op,.bool y.neg,.str y.num,.str y.den,.str y.name],.sl [.bool d.n,.str d.a,.str d.d,ω d.e,.bool e.n,.str e.a,.str e.d,ω e.e] 2 i,.agg [.sl (d_ ls) ls.length p,.sl (dV cs) cs.length j]] (.ret (.agg [.bool false,.str [],.str [],ω 11])):=pK [] 7 82 (.k 5 n (.n 39 .nil)) (.c r (.c o (.c h (.c m (.c q (.c k .nil))))))
theorem ae2 (y:Nd) (f e:Ro) (d g:Oq) (q j m:Bool) (c:Int) (ls:List Lk) (cs:List Sc) (t:lit true (!(d.e==((0:Nat):Int)))=true) (r:lit false (y.op==((15:Nat):Int))=true) (i:lit false (decide (y.op≤((8:Nat):Int)))=true) (n:lit false (decide (y.op≤((4:Nat):Int)))=true) (p:lit false (!(c==((0:Nat):Int)))=true) (h:CO 48 [ω 0] (.ret (Ω false [] [1]))) (u:CO 49 [.agg [.bool f.n,.str f.a,.str f.d,ω f.e]] (.ret (.agg [.bool d.n,.str d.a,.str d.d,ω d.e]))) (o:CO 48 [ω 0] (.ret (Ω false [] [1]))) (k:CO 49 [.agg [.bool e.n,.str e.a,.str e.d,ω e.e]] (.ret (.agg [.bool g.n,.str g.a,.str g.d,ω g.e]))) (v:CO 50 [.sl [ω 3,.bool false,.str [],.str [1],.str [],ω 3,.bool false,.str [],.str [1],.str [],ω y.op,.bool y.neg,.str y.num,.str y.den,.str y.name] 3 true] (.ret (ω c))):CO 16 [.agg [ω y.op,.bool y.neg,.str y.num,.str y.den,.str y.name],.sl [.bool f.n,.str f.a,.str f.d,ω f.e,.bool e.n,.str e.a,.str e.d,ω e.e] 2 m,.agg [.sl (d_ ls) ls.length q,.sl (dV cs) cs.length j]] (.ret (.agg [.bool d.n,.str d.a,.str d.d,ω d.e])):=pK [] 12 3090 (.k 11 t (.k 4 r (.k 1 i (.k 1 n (.k 1 p (.n 39 .nil)))))) (.c v (.c k (.c o (.c u (.c h .nil)))))
theorem ae3 (y:Nd) (f e:Ro) (g d:Oq) (r k n:Bool) (c:Int) (ls:List Lk) (cs:List Sc) (u:lit true (!(d.e==((0:Nat):Int)))=true) (t:lit false (!(g.e==((0:Nat):Int)))=true) (j:lit false (y.op==((15:Nat):Int))=true) (o:lit false (decide (y.op≤((8:Nat):Int)))=true) (q:lit false (decide (y.op≤((4:Nat):Int)))=true) (h:lit false (!(c==((0:Nat):Int)))=true) (i:CO 48 [ω 0] (.ret (Ω false [] [1]))) (v:CO 49 [.agg [.bool f.n,.str f.a,.str f.d,ω f.e]] (.ret (.agg [.bool g.n,.str g.a,.str g.d,ω g.e]))) (p:CO 48 [ω 0] (.ret (Ω false [] [1]))) (m:CO 49 [.agg [.bool e.n,.str e.a,.str e.d,ω e.e]] (.ret (.agg [.bool d.n,.str d.a,.str d.d,ω d.e]))) (w:CO 50 [.sl [ω 3,.bool false,.str [],.str [1],.str [],ω 3,.bool false,.str [],.str [1],.str [],ω y.op,.bool y.neg,.str y.num,.str y.den,.str y.name] 3 true] (.ret (ω c))):CO 16 [.agg [ω y.op,.bool y.neg,.str y.num,.str y.den,.str y.name],.sl [.bool f.n,.str f.a,.str f.d,ω f.e,.bool e.n,.str e.a,.str e.d,ω e.e] 2 n,.agg [.sl (d_ ls) ls.length r,.sl (dV cs) cs.length k]] (.ret (.agg [.bool d.n,.str d.a,.str d.d,ω d.e])):=pK [] 14 13330 (.k 11 u (.k 4 t (.k 4 j (.k 1 o (.k 1 q (.k 1 h (.n 39 .nil))))))) (.c w (.c m (.c p (.c v (.c i .nil)))))
theorem ae4 (y:Nd) (g e:Ro) (o f d:Oq) (u m p:Bool) (c:Int) (ls:List Lk) (cs:List Sc) (w:lit false (!(d.e==((0:Nat):Int)))=true) (v:lit false (!(f.e==((0:Nat):Int)))=true) (j:lit false (y.op==((15:Nat):Int))=true) (q:lit false (decide (y.op≤((8:Nat):Int)))=true) (t:lit false (decide (y.op≤((4:Nat):Int)))=true) (h:lit false (!(c==((0:Nat):Int)))=true) (i:CO 48 [ω 0] (.ret (Ω false [] [1]))) (z:CO 49 [.agg [.bool g.n,.str g.a,.str g.d,ω g.e]] (.ret (.agg [.bool f.n,.str f.a,.str f.d,ω f.e]))) (r:CO 48 [ω 0] (.ret (Ω false [] [1]))) (n:CO 49 [.agg [.bool e.n,.str e.a,.str e.d,ω e.e]] (.ret (.agg [.bool d.n,.str d.a,.str d.d,ω d.e]))) (A:CO 50 [.sl [ω 3,.bool false,.str [],.str [1],.str [],ω 3,.bool false,.str [],.str [1],.str [],ω y.op,.bool y.neg,.str y.num,.str y.den,.str y.name] 3 true] (.ret (ω c))) (k:CO 54 [ω y.op,.agg [.bool f.n,.str f.a,.str f.d],.agg [.bool d.n,.str d.a,.str d.d]] (.ret (.agg [.bool o.n,.str o.a,.str o.d,ω o.e]))):CO 16 [.agg [ω y.op,.bool y.neg,.str y.num,.str y.den,.str y.name],.sl [.bool g.n,.str g.a,.str g.d,ω g.e,.bool e.n,.str e.a,.str e.d,ω e.e] 2 p,.agg [.sl (d_ ls) ls.length u,.sl (dV cs) cs.length m]] (.ret (.agg [.bool o.n,.str o.a,.str o.d,ω o.e])):=pK [] 16 37906 (.k 18 w (.k 4 v (.k 4 j (.k 1 q (.k 1 t (.k 1 h (.n 39 .nil))))))) (.c k (.c A (.c n (.c r (.c z (.c i .nil))))))
theorem ae5 (y:Nd) (f d e:Ro) (i h g:Oq) (r n p:Bool) (c:Int) (ls:List Lk) (cs:List Sc) (t:lit true (!(c==((0:Nat):Int)))=true) (j:CO 48 [ω 0] (.ret (Ω false [] [1]))) (u:CO 49 [.agg [.bool f.n,.str f.a,.str f.d,ω f.e]] (.ret (.agg [.bool i.n,.str i.a,.str i.d,ω i.e]))) (q:CO 48 [ω 0] (.ret (Ω false [] [1]))) (o:CO 49 [.agg [.bool d.n,.str d.a,.str d.d,ω d.e]] (.ret (.agg [.bool h.n,.str h.a,.str h.d,ω h.e]))) (v:CO 48 [ω 0] (.ret (Ω false [] [1]))) (k:CO 49 [.agg [.bool e.n,.str e.a,.str e.d,ω e.e]] (.ret (.agg [.bool g.n,.str g.a,.str g.d,ω g.e]))) (m:CO 50 [.sl [ω 3,.bool false,.str [],.str [1],.str [],ω 3,.bool false,.str [],.str [1],.str [],ω 3,.bool false,.str [],.str [1],.str [],ω y.op,.bool y.neg,.str y.num,.str y.den,.str y.name] 4 true] (.ret (ω c))) (w:CO 47 [ω 11] (.ret (.agg [.bool false,.str [],.str [],ω 11]))):CO 16 [.agg [ω y.op,.bool y.neg,.str y.num,.str y.den,.str y.name],.sl [.bool f.n,.str f.a,.str f.d,ω f.e,.bool d.n,.str d.a,.str d.d,ω d.e,.bool e.n,.str e.a,.str e.d,ω e.e] 3 p,.agg [.sl (d_ ls) ls.length r,.sl (dV cs) cs.length n]] (.ret (.agg [.bool false,.str [],.str [],ω 11])):=pK [] 8 178 (.k 5 t (.n 54 .nil)) (.c w (.c m (.c k (.c v (.c o (.c q (.c u (.c j .nil))))))))
theorem ae6 (y:Nd) (i f h:Ro) (o g e d:Oq) (v p r:Bool) (c:Int) (ls:List Lk) (cs:List Sc) (z:lit true (y.op==((15:Nat):Int))=true) (w:lit false (decide (y.op≤((8:Nat):Int)))=true) (k:lit false (decide (y.op≤((4:Nat):Int)))=true) (t:lit false (!(c==((0:Nat):Int)))=true) (j:CO 48 [ω 0] (.ret (Ω false [] [1]))) (A:CO 49 [.agg [.bool i.n,.str i.a,.str i.d,ω i.e]] (.ret (.agg [.bool g.n,.str g.a,.str g.d,ω g.e]))) (u:CO 48 [ω 0] (.ret (Ω false [] [1]))) (q:CO 49 [.agg [.bool f.n,.str f.a,.str f.d,ω f.e]] (.ret (.agg [.bool e.n,.str e.a,.str e.d,ω e.e]))) (B:CO 48 [ω 0] (.ret (Ω false [] [1]))) (m:CO 49 [.agg [.bool h.n,.str h.a,.str h.d,ω h.e]] (.ret (.agg [.bool d.n,.str d.a,.str d.d,ω d.e]))) (n:CO 50 [.sl [ω 3,.bool false,.str [],.str [1],.str [],ω 3,.bool false,.str [],.str [1],.str [],ω 3,.bool false,.str [],.str [1],.str [],ω y.op,.bool y.neg,.str y.num,.str y.den,.str y.name] 4 true] (.ret (ω c))) (C:CO 53 [.sl [.bool g.n,.str g.a,.str g.d,ω g.e,.bool e.n,.str e.a,.str e.d,ω e.e,.bool d.n,.str d.a,.str d.d,ω d.e] 3 true] (.ret (.agg [.bool o.n,.str o.a,.str o.d,ω o.e]))):CO 16 [.agg [ω y.op,.bool y.neg,.str y.num,.str y.den,.str y.name],.sl [.bool i.n,.str i.a,.str i.d,ω i.e,.bool f.n,.str f.a,.str f.d,ω f.e,.bool h.n,.str h.a,.str h.d,ω h.e] 3 r,.agg [.sl (d_ ls) ls.length v,.sl (dV cs) cs.length p]] (.ret (.agg [.bool o.n,.str o.a,.str o.d,ω o.e])):=pK [] 11 1074 (.k 5 z (.k 1 w (.k 1 k (.k 1 t (.n 54 .nil))))) (.c C (.c n (.c m (.c B (.c q (.c u (.c A (.c j .nil))))))))
theorem ae7 (y:Nd) (f g c:Bool) (ar:List Ro) (ls:List Lk) (cs:List Sc) (e:lit true (decide (((3:Nat):Int)<(ar.length:Int)))=true) (d:CO 47 [ω 11] (.ret (.agg [.bool false,.str [],.str [],ω 11]))):CO 16 [.agg [ω y.op,.bool y.neg,.str y.num,.str y.den,.str y.name],.sl (lg ar) ar.length c,.agg [.sl (d_ ls) ls.length f,.sl (dV cs) cs.length g]] (.ret (.agg [.bool false,.str [],.str [],ω 11])):=pK [] 1 1 (.k 5 e .nil) (.c d .nil)
theorem mD:CO 48 [ω 0] (.ret (Ω false [] [1])):=sJ uF (by kernel_rfl)
theorem SN (E:fB) (m k r:Bool) (w:E.r33) (y:Nd) (M:y.sm) {ar:List Ro} (K:dD (eY ar.length++ [y])=0) (B:∀ x ∈ ar,x.e=0→x.a.length<2^33∧x.d.length<2^33):
  CO 16 [.agg (rU y),.sl (lg ar) ar.length r,Il E m k] (.ret (dZ (pI E y (ar.map yH)))):=by
 have C:∀ x ∈ eY ar.length++ [y],x.sm:=fun x G=>(List.mem_append.1 G).elim (IY _ x) (fun h=>by rw [Xze] at h;exact h ▸ M)
 have f:=Hf (eY ar.length++ [y]) true C;have j:∀ x ∈ ar,CO 49 [.agg [.bool x.n,.str x.a,.str x.d,ω x.e]] (.ret (dZ (yH x))):=fun x G=>sF x.n x.a x.d x.e (B x G)
 have ok:∀ x:Ro,(yH x).ok:=fun x=>vK _ _ _ _
 have zT:∀ o:Oq,o.e=0→lit false (!(o.e==((0:Nat):Int)))=true:=fun o h=>by rw [h];rfl
 have J:∀ o:Oq,¬ o.e=0→lit true (!(o.e==((0:Nat):Int)))=true:=fun o h=>by rw [show (o.e==((0:Nat):Int))=false from beq_eq_false_iff_ne.2 h];rfl
 have i:∀ {p:Prop} [Decidable p],¬ p→lit false (decide p)=true:=fun h=>aK (Yq1 h)
 rw [K] at f;have N:=(qB K).1 y (by simp);obtain ⟨V,I⟩:=rf N;have F:=Jr N;have d:=abZ K;have U:=H6 y.op;have t:lit false (!((0:Int)==((0:Nat):Int)))=true:=rfl
 match ar,f,j,d with
 | [],f,j,d=>
  have O:y.op≤8:=by
   unfold dP at d;split at d
   ·cases d
   ·split at d
    ·cases d
    ·split at d
     ·cases d
     ·omega
  unfold pI;by_cases h4:y.op≤4
  ·rw [if_pos h4];exact aeW y _ m k r 0 _ _ (aN (Yq0 h4)) t f (WG _ _ _ M)
  ·rw [if_neg h4,if_pos O];exact aeX y _ m k r 0 _ _ (aN (Yq0 O)) (i h4) t f (Ol y.op y.name E.ls (E.qs.map Sq.c) m k w.ls w.lk)
 | [a],f,j,d=>
  have z:20≤y.op:=by
   unfold dP at d;split at d
   ·cases d
   ·split at d
    ·cases d
    ·split at d
     ·omega
     ·cases d
  have g:lit false (y.op==((15:Nat):Int))=true:=by rw [show (y.op==((15:Nat):Int))=false from beq_eq_false_iff_ne.2 (by omega)];rfl
  have n:=j a (by simp);unfold pI;rw [if_neg (by omega),if_neg (by omega)];show CO 16 _ (.ret (dZ (if (yH a).e=0 then _ else _)));by_cases za:(yH a).e=0
  ·rw [if_pos za];obtain ⟨q,e,v,D⟩:=yV (ok a) za;rw [e] at n ⊢;exact ae0 y a _ (.val q) m k r 0 _ _ rfl g (i (by omega)) (i (by omega)) t mD n f (Om E y m k ⟨z,I⟩ F v D w)
  ·rw [if_neg za];exact aeZ y a _ m k r 0 _ _ (J _ za) g (i (by omega)) (i (by omega)) t mD n f
 | [a,b],f,j,d=>
  have R:(9≤y.op∧y.op≤14)∨(16≤y.op∧y.op≤19):=by
   unfold dP at d;split at d
   ·cases d
   ·split at d
    ·omega
    ·split at d<;>cases d
  have g:lit false (y.op==((15:Nat):Int))=true:=by rw [show (y.op==((15:Nat):Int))=false from beq_eq_false_iff_ne.2 (by omega)];rfl
  have n:=j a (by simp);have u:=j b (by simp);unfold pI;rw [if_neg (by omega),if_neg (by omega)];show CO 16 _ (.ret (dZ (if (yH a).e=0 then (if (yH b).e=0 then _ else _) else _)));by_cases za:(yH a).e=0
  ·rw [if_pos za];by_cases zb:(yH b).e=0
   ·rw [if_pos zb];obtain ⟨p,T,P,S⟩:=yV (ok a) za;obtain ⟨q,eq,v,D⟩:=yV (ok b) zb;rw [T] at n ⊢;rw [eq] at u ⊢;exact ae4 y a b _ (.val p) (.val q) m k r 0 _ _ rfl rfl g (i (by omega)) (i (by omega)) t mD n mD u f (WN R P v S D)
   ·rw [if_neg zb];exact ae3 y a b _ _ m k r 0 _ _ (J _ zb) (zT _ za) g (i (by omega)) (i (by omega)) t mD n mD u f
  ·rw [if_neg za];exact ae2 y a b _ _ m k r 0 _ _ (J _ za) g (i (by omega)) (i (by omega)) t mD n mD u f
 | [a,b,c],f,j,d=>
  have A:y.op=15:=by
   unfold dP at d;split at d
   ·assumption
   ·split at d
    ·cases d
    ·split at d<;>cases d
  have n:=j a (by simp);have u:=j b (by simp);have Q:=j c (by simp);unfold pI;rw [if_neg (by omega),if_neg (by omega)];exact ae6 y a b c _ _ _ _ m k r 0 _ _ (aN (by rw [A];rfl)) (i (by omega)) (i (by omega)) t mD n mD u mD Q f (Og _ _ _ true)
 |_::_::_::_::_,f,j,d=>simp only [μ] at d;omega
theorem akr (ls c:List Lk) (cs d:List Sc) (n m:Nat) (i:ω (if ((20:Nat):Int)<(ls.length:Int) then ((20:Nat):Int) else (ls.length:Int))=ω (n:Int)) (g:Xkv (ν ((δ (n:Int))*6) (d_ ls)) ((δ (n:Int)) - 0) false=Xkv (d_ c) c.length false) (f:ω (if ((5:Nat):Int)<(cs.length:Int) then ((5:Nat):Int) else (cs.length:Int))=ω (m:Int)) (e:Xkv (ν ((δ (m:Int))*4) (dV cs)) ((δ (m:Int)) - 0) false=Xkv (dV d) d.length false) (k:(decide (((0:Nat):Int)≤(m:Int)))=true) (h:(decide ((m:Int)≤(cs.length:Int)))=true) (o:(decide (((0:Nat):Int)≤(n:Int)))=true) (j:(decide ((n:Int)≤(ls.length:Int)))=true):CO 14 [.agg [.sl (d_ ls) ls.length false,.sl (dV cs) cs.length false]] (.ret (.agg [.sl (d_ c) c.length false,.sl (dV d) d.length false])):=pK [] 0 0 (.k 7 k (.c h (.k 4 o (.c j (.n 2 .nil))))) (.v 17 (.eq e) (.v 16 (.eq f) (.v 9 (.eq g) (.v 8 (.eq i) .nil))))
theorem aik (y:Nd) (ar FP:List Ro) (E:fB) (o:Oq) (k:Nat) {nt:Nat} (e:63≤nt) (hs:Xkv (ν ((δ (k:Int))*4) (lg ar)) ((δ (k:Int)) - 0) false=Xkv (lg FP) FP.length false) (j:ω (γ .i64 ((k:Int)+((1:Nat):Int)))=ω ((k+1:Nat):Int)) (h:lit false (!((o.n==o.n) && ((o.a==o.a) && ((o.d==o.d) && ((o.e==o.e) && true)))))=true) (c:(decide (((0:Nat):Int)≤(k:Int)))=true) (d:(decide ((k:Int)≤(ar.length:Int)))=true) (f:lit true (decide ((k:Int)≤(ar.length:Int)))=true) (g:CO 15 [.agg [ω y.op,.bool y.neg,.str y.num,.str y.den,.str y.name],.sl (lg FP) FP.length false,.agg [.sl (d_ E.ls) E.ls.length false,.sl (dV (E.qs.map Sq.c)) (E.qs.map Sq.c).length false]] (.ret (.agg [.bool o.n,.str o.a,.str o.d,ω o.e]))) (i:CO 16 [.agg [ω y.op,.bool y.neg,.str y.num,.str y.den,.str y.name],.sl (lg FP) FP.length false,.agg [.sl (d_ E.ls) E.ls.length false,.sl (dV (E.qs.map Sq.c)) (E.qs.map Sq.c).length false]] (.ret (.agg [.bool o.n,.str o.a,.str o.d,ω o.e]))):ψ nt f3 ⟨[(1,.sl (lg ar) ar.length false),(3,.ptr 0 0 0),(5,.ptr 1 0 0),(6,.bool false),(7,.bool true),(8,ω (k:Int))],[(0,⟨[ω y.op,.bool y.neg,.str y.num,.str y.den,.str y.name],0,false,0,0,true⟩),(1,⟨[.sl (d_ E.ls) E.ls.length false,.sl (dV (E.qs.map Sq.c)) (E.qs.map Sq.c).length false],0,false,0,0,true⟩)],.dead,[]⟩ (.normal) ⟨[(1,.sl (lg ar) ar.length false),(3,.ptr 0 0 0),(5,.ptr 1 0 0),(6,.bool false),(7,.bool true),(8,ω ((k+1:Nat):Int))],[(0,⟨[ω y.op,.bool y.neg,.str y.num,.str y.den,.str y.name],0,false,0,0,true⟩),(1,⟨[.sl (d_ E.ls) E.ls.length false,.sl (dV (E.qs.map Sq.c)) (E.qs.map Sq.c).length false],0,false,0,0,true⟩)],.dead,[]⟩:=pN 3 [] 2 1 (.c h (.k 13 c (.c d (.k 8 c (.c d (.k 5 f .nil)))))) (.v 24 (.eq j) (.c i (.v 34 (.eq hs) (.c g (.v 28 (.eq hs) .nil))))) e
theorem ail (y:Nd) (ar:List Ro) (E:fB) (k:Nat) {nt:Nat} (c:63≤nt) (d:lit false (decide ((k:Int)≤(ar.length:Int)))=true):ψ nt f3 ⟨[(1,.sl (lg ar) ar.length false),(3,.ptr 0 0 0),(5,.ptr 1 0 0),(6,.bool false),(7,.bool true),(8,ω (k:Int))],[(0,⟨[ω y.op,.bool y.neg,.str y.num,.str y.den,.str y.name],0,false,0,0,true⟩),(1,⟨[.sl (d_ E.ls) E.ls.length false,.sl (dV (E.qs.map Sq.c)) (E.qs.map Sq.c).length false],0,false,0,0,true⟩)],.dead,[]⟩ (.exit 0) ⟨[(1,.sl (lg ar) ar.length false),(6,.bool false),(7,.bool true)],[],.dead,[]⟩:=pN 3 [] 1 0 (.c d .nil) (.nil) c
theorem ahg (x z:Ro):CO 17 [.agg [.bool x.n,.str x.a,.str x.d,ω x.e],.agg [.bool z.n,.str z.a,.str z.d,ω z.e]] (.ret (.bool ((x.n==z.n) && ((x.a==z.a) && ((x.d==z.d) && ((x.e==z.e) && true)))))):=pK [] 0 0 (.n 8 .nil) (.nil)
theorem aig (y:Nd) (x z:Ro) (ar FP:List Ro) (E:fB) (ls:List Lk) (cs:List Sc) (n:Nat) (p r:List AV) (f:(ε 0 (lg ar))=TQ x++p) (d:(ε 4 (lg ar))=TQ z++r) (j:ω (if ((4:Nat):Int)<(FP.length:Int) then ((4:Nat):Int) else (FP.length:Int))=ω (n:Int)) (hs:Xkv (ν ((δ (n:Int))*4) (lg FP)) ((δ (n:Int)) - 0) false=Xkv (lg ar) ar.length false) (e:(decide (((1:Nat):Int)<(ar.length:Int)))=true) (c:(decide (((0:Nat):Int)<(ar.length:Int)))=true) (i:lit false (decide ((ar.length:Int)<((2:Nat):Int)))=true) (k:(decide (((0:Nat):Int)≤(n:Int)))=true) (o:(decide ((n:Int)≤(FP.length:Int)))=true) (h:CO 13 [] (.ret (.bool true))) (q:CO 14 [.agg [.sl (d_ ls) ls.length false,.sl (dV cs) cs.length false]] (.ret (.agg [.sl (d_ E.ls) E.ls.length false,.sl (dV (E.qs.map Sq.c)) (E.qs.map Sq.c).length false]))) (g:aG prog ap [] 63 (.block 0 (.loop (af 0 (ah f3)))) ⟨[(0,.agg [ω y.op,.bool y.neg,.str y.num,.str y.den,.str y.name]),(1,.sl (lg ar) ar.length false),(2,.agg [.sl (d_ ls) ls.length false,.sl (dV cs) cs.length false]),(3,.ptr 0 0 0),(5,.ptr 1 0 0),(6,.bool false),(7,.bool true),(8,ω 0),(9,.dead),(10,.dead),(22,.dead),(39,.dead)],[(0,⟨[ω y.op,.bool y.neg,.str y.num,.str y.den,.str y.name],0,false,0,0,true⟩),(1,⟨[.sl (d_ E.ls) E.ls.length false,.sl (dV (E.qs.map Sq.c)) (E.qs.map Sq.c).length false],0,false,0,0,true⟩)],.dead,[]⟩ (.normal) ⟨[(1,.sl (lg ar) ar.length false),(6,.bool false),(7,.bool true)],[],.dead,[]⟩) (m:CO 17 [.agg [.bool x.n,.str x.a,.str x.d,ω x.e],.agg [.bool z.n,.str z.a,.str z.d,ω z.e]] (.ret (.bool ((x.n==z.n) && ((x.a==z.a) && ((x.d==z.d) && ((x.e==z.e) && true))))))):CO 3 [.agg [ω y.op,.bool y.neg,.str y.num,.str y.den,.str y.name],.sl (lg FP) FP.length false,.agg [.sl (d_ ls) ls.length false,.sl (dV cs) cs.length false]] (.ret (.bool (((x.n==z.n) && ((x.a==z.a) && ((x.d==z.d) && ((x.e==z.e) && true))))==((x.n==z.n) && ((x.a==z.a) && ((x.d==z.d) && ((x.e==z.e) && true))))))):=pK [0] 2 1 (.k 5 e (.k 5 c (.k 5 e (.k 5 c (.c i (.k 5 k (.c o .nil))))))) (.v 57 (.ppt d) (.v 54 (.ppt f) (.c m (.v 50 (.ppt d) (.v 47 (.ppt f) (.l g (.c q (.v 16 (.eq hs) (.v 15 (.eq j) (.c h .nil))))))))))
theorem abY (y:Nd) (ar FP:List Ro) (E:fB) (ls:List Lk) (cs:List Sc) (n:Nat) (e:ω (if ((4:Nat):Int)<(FP.length:Int) then ((4:Nat):Int) else (FP.length:Int))=ω (n:Int)) (hs:Xkv (ν ((δ (n:Int))*4) (lg FP)) ((δ (n:Int)) - 0) false=Xkv (lg ar) ar.length false) (g:lit true (decide ((ar.length:Int)<((2:Nat):Int)))=true) (d:(decide (((0:Nat):Int)≤(n:Int)))=true) (h:(decide ((n:Int)≤(FP.length:Int)))=true) (f:CO 13 [] (.ret (.bool true))) (i:CO 14 [.agg [.sl (d_ ls) ls.length false,.sl (dV cs) cs.length false]] (.ret (.agg [.sl (d_ E.ls) E.ls.length false,.sl (dV (E.qs.map Sq.c)) (E.qs.map Sq.c).length false]))) (c:aG prog ap [] 63 (.block 0 (.loop (af 0 (ah f3)))) ⟨[(0,.agg [ω y.op,.bool y.neg,.str y.num,.str y.den,.str y.name]),(1,.sl (lg ar) ar.length false),(2,.agg [.sl (d_ ls) ls.length false,.sl (dV cs) cs.length false]),(3,.ptr 0 0 0),(5,.ptr 1 0 0),(6,.bool false),(7,.bool true),(8,ω 0),(9,.dead),(10,.dead),(22,.dead),(39,.dead)],[(0,⟨[ω y.op,.bool y.neg,.str y.num,.str y.den,.str y.name],0,false,0,0,true⟩),(1,⟨[.sl (d_ E.ls) E.ls.length false,.sl (dV (E.qs.map Sq.c)) (E.qs.map Sq.c).length false],0,false,0,0,true⟩)],.dead,[]⟩ (.normal) ⟨[(1,.sl (lg ar) ar.length false),(6,.bool false),(7,.bool true)],[],.dead,[]⟩):CO 3 [.agg [ω y.op,.bool y.neg,.str y.num,.str y.den,.str y.name],.sl (lg FP) FP.length false,.agg [.sl (d_ ls) ls.length false,.sl (dV cs) cs.length false]] (.ret (.bool true)):=pK [0] 2 3 (.c g (.k 5 d (.c h .nil))) (.l c (.c i (.v 16 (.eq hs) (.v 15 (.eq e) (.c f .nil)))))
theorem ae8 (E:fB) (j g i:Bool) (v:E.r33) (y:Nd) (u:y.sm) {ar:List Ro} (m:∀ x ∈ ar,x.e=0→x.a.length<2^33∧x.d.length<2^33):
  CO 16 [.agg (rU y),.sl (lg ar) ar.length i,Il E j g] (.ret (dZ (YV E y (ar.map yH)))):=by
 have q:∀ x ∈ eY ar.length++ [y],x.sm:=fun x t=>(List.mem_append.1 t).elim (IY _ x) (fun h=>by rw [Xze] at h;exact h ▸ u)
 have e:=Hf (eY ar.length++ [y]) true q;have k:(ar.map yH).length=ar.length:=Xx0 ..;have f:∀ x ∈ ar,CO 49 [.agg [.bool x.n,.str x.a,.str x.d,ω x.e]] (.ret (dZ (yH x))):=fun x t=>sF x.n x.a x.d x.e (m x t)
 have ok:∀ x:Ro,(yH x).ok:=fun x=>vK _ _ _ _
 have zT:∀ o:Oq,o.e=0→lit false (!(o.e==((0:Nat):Int)))=true:=fun o h=>by rw [h];rfl
 have z:∀ o:Oq,¬ o.e=0→lit true (!(o.e==((0:Nat):Int)))=true:=fun o h=>by rw [show (o.e==((0:Nat):Int))=false from beq_eq_false_iff_ne.2 h];rfl
 have w:∀ {p:Prop} [Decidable p],¬ p→lit false (decide p)=true:=fun h=>aK (Yq1 h)
 unfold YV;rw [k];by_cases hc:dD (eY ar.length++ [y])=0
 ·rw [if_pos hc];exact SN E j g i v y u hc m
 ·rw [if_neg hc];have n:lit true (!(dD (eY ar.length++ [y])==((0:Nat):Int)))=true:=aN (by simpa using hc);generalize dD (eY ar.length++ [y])=c at*
  match ar,e,f with
  | [],e,f=>exact aeV y j g i _ _ _ n e (iq 11)
  | [a],e,f=>exact aeY y a _ j g i _ _ _ n mD (f a (by simp)) e (iq 11)
  | [a,b],e,f=>exact ae1 y a b _ _ j g i _ _ _ n mD (f a (by simp)) mD (f b (by simp)) e (iq 11)
  | [a,b,c],e,f=>exact ae5 y a b c _ _ _ j g i _ _ _ n mD (f a (by simp)) mD (f b (by simp)) mD (f c (by simp)) e (iq 11)
  |a::b::c::d::r,_,_=>exact ae7 y j g i (a::b::c::d::r) _ _ (aN (Yq0 (by simp only [μ];omega))) (iq 11)
theorem YX {α:Type} (f:α→List AV) (m:Nat) (c:∀ a,(f a).length=m) (l:List α) (k:Nat):ν (k*m) (l.flatMap f)=(l.take k).flatMap f:=by
 rcases Nat.lt_or_ge k l.length with h|h
 ·have d:l.flatMap f=(l.take k).flatMap f++(l.drop k).flatMap f:=by rw [← Xjb,List.take_append_drop]
  have e:((l.take k).flatMap f).length=k*m:=by rw [ul f m c,Xq2,Xx7 (by omega)]
  rw [d];generalize (l.take k).flatMap f=P at*
  generalize (l.drop k).flatMap f=Q at*
  rw [List.take_append,Xqc (by omega),show k*m - P.length=0 by omega,List.take_zero,Θ]
 ·rw [Xqc h];refine Xqc ?_;rw [ul f m c];exact Nat.mul_le_mul_right _ h
theorem CP {α:Type} (f:α→List AV) (m:Nat) (d:∀ a,(f a).length=m) (l:List α) {k:Nat} (c:k≤l.length):Xkv (ν ((δ (k:Int))*m) (l.flatMap f)) ((δ (k:Int)) - 0) false=Xkv ((l.take k).flatMap f) (l.take k).length false:=by
 rw [aC,Nat.sub_zero,YX f m d,Xq2,Xx7 c]
theorem NV (c n:Nat):ω (if (c:Int)<(n:Int) then (c:Int) else (n:Int))=ω ((min c n:Nat):Int):=by
 congr 1;split<;>omega
def ql (E:fB):fB:=⟨E.ls.take (min 20 E.ls.length),E.qs.take (min 5 (E.qs.map Sq.c).length)⟩
theorem nnK (k:Nat):(decide (((0:Nat):Int)≤(k:Int)))=true:=Yq0 (by omega)
theorem Tc (E:fB):CO 14 [Il E false false] (.ret (Il (ql E) false false)):=by
 have h:=akr E.ls (E.ls.take (min 20 E.ls.length)) (E.qs.map Sq.c) ((E.qs.map Sq.c).take (min 5 (E.qs.map Sq.c).length)) _ _ (NV 20 _) (CP VE 6 (fun _=>rfl) E.ls (Xvz _ _)) (NV 5 _) (CP MF 4 (fun _=>rfl) (E.qs.map Sq.c) (Xvz _ _)) (nnK _) (Yq0 (by omega)) (nnK _) (Yq0 (by omega));rw [← List.map_take] at h;exact h
structure fB.raw (E:fB) (b:Nat):Prop where
 ls:E.ls.length≤b
 qs:E.qs.length≤b
 lk:∀ x ∈ E.ls,x.a.length≤b∧x.d.length≤b
 sq:∀ s ∈ E.qs,s.l.length≤b∧∀ x ∈ s.l,(x.fa.length≤b∧x.fd.length≤b)∧x.ra.length≤b∧x.rd.length≤b
theorem fB.raw.small {E:fB} {b:Nat} (h:E.raw b):(ql E).raw b where
 ls:=by show (ν _ _).length≤b;rw [Xq2];have:=h.ls;omega
 qs:=by show (ν _ _).length≤b;rw [Xq2];have:=h.qs;omega
 lk x hx:=h.lk x (Xxg hx)
 sq x hx:=h.sq x (Xxg hx)
theorem fB.raw.sm {E:fB} (h:E.raw 1048576):E.sm where
 ls:=φ h.ls (by decide)
 qs:=φ h.qs (by decide)
 lk x c:=⟨φ (h.lk x c).1 (by decide),φ (h.lk x c).2 (by decide)⟩
 sq s hs:=⟨φ (h.sq s hs).1 (by decide),fun x c=> ⟨⟨φ ((h.sq s hs).2 x c).1.1 (by decide),φ ((h.sq s hs).2 x c).1.2 (by decide)⟩,φ ((h.sq s hs).2 x c).2.1 (by decide),φ ((h.sq s hs).2 x c).2.2 (by decide)⟩⟩
theorem fB.raw.r33 {E:fB} (h:E.raw 1048576):E.r33 where
 ls:=h.sm.ls
 qs:=h.sm.qs
 lk x hx _:=⟨φ (h.lk x hx).1 (by decide),φ (h.lk x hx).2 (by decide)⟩
 sq:=h.sm.sq
abbrev alZ (y:Nd) (ar:List Ro) (E:fB) (k:Nat):St:=⟨[(1,.sl (lg ar) ar.length false),(3,.ptr 0 0 0),(5,.ptr 1 0 0),(6,.bool false),(7,.bool true),(8,ω (k:Int))],[(0,⟨[ω y.op,.bool y.neg,.str y.num,.str y.den,.str y.name],0,false,0,0,true⟩),(1,⟨[.sl (d_ E.ls) E.ls.length false,.sl (dV (E.qs.map Sq.c)) (E.qs.map Sq.c).length false],0,false,0,0,true⟩)],.dead,[]⟩
abbrev aih (ar:List Ro) (_:Unit):St:=⟨[(1,.sl (lg ar) ar.length false),(6,.bool false),(7,.bool true)],[],.dead,[]⟩
theorem V8 {nt:Nat} (h:63≤nt) (y:Nd) (g:y.sm) (E:fB) (f:E.raw 1048576) {ar:List Ro} (n:ar.length≤4) (hs:∀ x ∈ ar,x.a.length≤1048576∧x.d.length≤1048576):∀ (d k:Nat),k+d=ar.length+1→
  aA prog ap [] nt (af 0 (ah f3)) (fun _=> .exit 0) (alZ y ar E) (aih ar) k ():=by
 intro d
 induction d with
 |zero=>
  intro k m;exact .done (ail y ar E k h (aK (Yq1 (by omega))))
 |succ d ih=>
  intro k m;have e:∀ x ∈ ar.take k,x.a.length≤1048576∧x.d.length≤1048576:=fun x c=>hs x (Xxg c)
  have i:=Po E false false false f.sm y g (ar:=ar.take k) (by rw [Xq2];omega) (fun x c=> ⟨φ (e x c).1 (by decide),φ (e x c).2 (by decide)⟩);have j:=ae8 E false false false f.r33 y g (ar:=ar.take k) (fun x c _=> ⟨φ (e x c).1 (by decide),φ (e x c).2 (by decide)⟩);have b:(decide ((k:Int)≤(ar.length:Int)))=true:=Yq0 (by omega);exact .next (aik y ar (ar.take k) E _ k h (CP TQ 4 (fun _=>rfl) ar (by omega)) (BR (by omega)) (sfO _) (nnK _) b (aN b) i j) (ih (k+1) (by omega))
theorem ak3 (y:Nd) (ar:List Ro) (E:fB) (o:y.sm) (hs:∀ x ∈ ar,x.a.length≤1048576∧x.d.length≤1048576) (k:E.raw 1048576):CO 3 [.agg (rU y),.sl (lg ar) ar.length false,Il E false false] (.ret (.bool true)):=by
 have cs:=Tc E;have i:=NV 4 ar.length;have f:=CP TQ 4 (fun _=>rfl) ar (Xvz 4 ar.length);have j:∀ x ∈ ar.take (min 4 ar.length),x.a.length≤1048576∧x.d.length≤1048576:=fun x m=>hs x (Xxg m)
 have c:(ar.take (min 4 ar.length)).length≤4:=by rw [Xq2];omega
 have e:(decide (((min 4 ar.length:Nat):Int)≤(ar.length:Int)))=true:=Yq0 (by omega);generalize ar.take (min 4 ar.length)=g at*
 generalize min 4 ar.length=n at*
 have p:=fun nt (i:63≤nt)=>V8 i y o (ql E) k.small c j (g.length+1) 0 (by omega)
 have d:aG prog ap [] 63 (.block 0 (.loop (af 0 (ah f3)))) ⟨[(0,.agg [ω y.op,.bool y.neg,.str y.num,.str y.den,.str y.name]),(1,.sl (lg g) g.length false),(2,Il E false false),(3,.ptr 0 0 0),(5,.ptr 1 0 0),(6,.bool false),(7,.bool true),(8,ω 0),(9,.dead),(10,.dead),(22,.dead),(39,.dead)],[(0,⟨[ω y.op,.bool y.neg,.str y.num,.str y.den,.str y.name],0,false,0,0,true⟩),(1,⟨[.sl (d_ (ql E).ls) (ql E).ls.length false,.sl (dV ((ql E).qs.map Sq.c)) ((ql E).qs.map Sq.c).length false],0,false,0,0,true⟩)],.dead,[]⟩ (.normal) ⟨[(1,.sl (lg g) g.length false),(6,.bool false),(7,.bool true)],[],.dead,[]⟩:=
  aA.blk (id:=0) (e':= .normal) (s:=⟨_,_,_,_⟩) (s':=aih g ()) p (by simp) rfl (aH.of ⟨rfl,rfl,rfl,rfl,rfl,rfl,trivial⟩) (aH.refl _)
 match g,d,f,c with
 | [],d,f,_=>exact abY y [] ar (ql E) E.ls (E.qs.map Sq.c) n i f rfl (nnK _) e Ah cs d
 | [a],d,f,_=>exact abY y [a] ar (ql E) E.ls (E.qs.map Sq.c) n i f rfl (nnK _) e Ah cs d
 |a::b::r,d,f,_=>
  have h:=aig y a b (a::b::r) ar (ql E) E.ls (E.qs.map Sq.c) n _ _ rfl rfl i f (Yq0 (by simp only [μ];omega)) (Yq0 (by simp only [μ];omega)) (aK (Yq1 (by simp only [μ];omega))) (nnK _) e Ah cs d (ahg a b);rw [beq_self_eq_true] at h;exact h
end Go.Proofs.Tryz
set_option maxRecDepth 100000
set_option linter.unusedVariables false
open Go AM Go.ChangeShapes Go.WideShapes Go.ChangeAt Go.RowKit
namespace Go.Proofs.Tryz
open Go.Proofs.YtdmfgmmooalfnaaGreatDoor
section
variable {H:Type}
theorem agc (d:DataW H):1≤Rows.uptoBulk d:=by
 cases d with
 |lit x=>cases x<;>simp [Rows.uptoBulk]
 |_=>simp [Rows.uptoBulk]
theorem Dn:∀ {l:List (DataW H)} {d:DataW H},d ∈ l→Rows.uptoBulk d≤Rows.uptoBulkAll l
 |x::r,d,h=>by
  simp only [Rows.uptoBulkAll];rcases List.mem_cons.1 h with rfl|h
  ·omega
  ·have:=Dn h;omega
theorem JO:∀ l:List (DataW H),l.length≤Rows.uptoBulkAll l
 | []=>Nat.zero_le _
 |x::r=>by
  simp only [Rows.uptoBulkAll,μ];have:=JO r;have:=agc x;omega
theorem abC:afO (Rows.uptoBulk (H:=H)) where
 str s:=by simp only [Rows.uptoBulk];omega
 agg l d h:=by
  simp only [Rows.uptoBulk];have:=Dn h;omega
 slc l r:=by
  simp only [Rows.uptoBulk];exact ⟨fun d h=>by have:=Dn h;omega,by have:=JO l;omega⟩
theorem yA {α:Type} {b:Nat} {ks:List DK} (f:α→List AV) (Q:α→Prop) (d:∀ x,fE b ks x→∃ a,x=f a∧Q a):∀ L:List (List AV),(∀ x ∈ L,fE b ks x)→∃ l:List α,L.flatten=l.flatMap f∧L.length=l.length∧∀ a ∈ l,Q a
 | [],_=> ⟨[],rfl,rfl,fun a h=>by cases h⟩
 |x::L,h=>by
  obtain ⟨a,e,q⟩:=d x (h x (by simp));obtain ⟨l,i,g,j⟩:=yA f Q d L fun y c=>h y (by simp [c])
  refine ⟨a::l,by rw [List.flatten_cons,Xjc,e,i],by simp [g],fun y c=> ?_⟩;rcases List.mem_cons.1 c with rfl|c
  ·exact q
  ·exact j y c
abbrev kN:List DK:= [.int .i64,.bool,.str,.str,.str]
abbrev kR:List DK:= [.bool,.str,.str,.int .i64]
abbrev kL:List DK:= [.int .i64,.str,.bool,.str,.str,.int .i64]
abbrev kB:List DK:= [.bool,.str,.str,.bool,.str,.str]
abbrev kS:List DK:= [.str,.int .i64,.int .i64,.slc kB]
theorem ahW {b:Nat} {c:List AV} (h:fE b kN c):∃ y:Nd,c=rU y∧y.num.length≤b∧y.den.length≤b:=by
 cases h with|int h=>cases h with|bool h=>cases h with|str h1 h=>cases h with|str h2 h=>cases h with|str h3 h=>cases h with|nil=>exact ⟨⟨_,_,_,_,_⟩,rfl,h1,h2⟩
theorem ajT {b:Nat} {c:List AV} (h:fE b kR c):∃ y:Ro,c=TQ y∧y.a.length≤b∧y.d.length≤b:=by
 cases h with|bool h=>cases h with|str h1 h=>cases h with|str h2 h=>cases h with|int h=>cases h with|nil=>exact ⟨⟨_,_,_,_⟩,rfl,h1,h2⟩
theorem ahB {b:Nat} {c:List AV} (h:fE b kL c):∃ y:Lk,c=VE y∧y.a.length≤b∧y.d.length≤b:=by
 cases h with|int h=>cases h with|str h0 h=>cases h with|bool h=>cases h with|str h1 h=>cases h with|str h2 h=>cases h with|int h=>cases h with|nil=>exact ⟨⟨_,_,_,_,_,_⟩,rfl,h1,h2⟩
theorem agb {b:Nat} {c:List AV} (h:fE b kB c):∃ y:Br,c=H9 y∧(y.fa.length≤b∧y.fd.length≤b)∧y.ra.length≤b∧y.rd.length≤b:=by
 cases h with|bool h=>cases h with|str h1 h=>cases h with|str h2 h=>cases h with|bool h=>cases h with|str h3 h=>cases h with|str h4 h=>cases h with|nil=>exact ⟨⟨_,_,_,_,_,_⟩,rfl,⟨h1,h2⟩,h3,h4⟩
theorem aks {b:Nat} {e:List AV} (h:fE b kS e):∃ s:Sq,e=MF s.c∧s.l.length≤b∧∀ x ∈ s.l,(x.fa.length≤b∧x.fd.length≤b)∧x.ra.length≤b∧x.rd.length≤b:=by
 cases h with|str h0 h=>cases h with|int h=>cases h with|int h=>cases h with|slc c hl h=>cases h with|nil=>
  obtain ⟨l,g,d,f⟩:=yA H9 (fun y:Br=>(y.fa.length≤b∧y.fd.length≤b)∧y.ra.length≤b∧y.rd.length≤b) (fun x c=>agb c) _ c;rw [d] at hl;rw [g,d];exact ⟨⟨_,_,_,l⟩,rfl,hl,f⟩
theorem adn {b:Nat} {e:List AV} (h:fE b [.slc kL,.slc kS] e):∃ E:fB,AV.agg e=Il E false false∧E.raw b:=by
 cases h with|slc h1 l1 h=>cases h with|slc h2 l2 h=>cases h with|nil=>
  obtain ⟨ls,g,d,i⟩:=yA VE (fun y:Lk=>y.a.length≤b∧y.d.length≤b) (fun x c=>ahB c) _ h1;obtain ⟨qs,j,f,k⟩:=yA (fun s:Sq=>MF s.c) (fun s=>s.l.length≤b∧∀ x ∈ s.l,(x.fa.length≤b∧x.fd.length≤b)∧x.ra.length≤b∧x.rd.length≤b) (fun x c=>aks c) _ h2;refine ⟨⟨ls,qs⟩, ?_,⟨by rw [← d];exact l1,by rw [← f];exact l2,i,k⟩⟩;rw [g,d,j,f];unfold Il dV;rw [List.flatMap_map,Xx0];rfl
theorem ajg {E:fB} {b c:Nat} (d:b≤c) (h:E.raw b):E.raw c where
 ls:=Xqy h.ls d
 qs:=Xqy h.qs d
 lk x e:=⟨Xqy (h.lk x e).1 d,Xqy (h.lk x e).2 d⟩
 sq s hs:=⟨Xqy (h.sq s hs).1 d,fun x e=> ⟨⟨Xqy ((h.sq s hs).2 x e).1.1 d,Xqy ((h.sq s hs).2 x e).1.2 d⟩,Xqy ((h.sq s hs).2 x e).2.1 d,Xqy ((h.sq s hs).2 x e).2.2 d⟩⟩
variable {enc:TypeId × Value→H} {W:World} {base:Nat}
def ahy:Option TypeDesc→Bool|some (.struct _)=>true|_=>false
theorem P5 {t:TypeId} {n:Nat} {ks:List DK} (c:ahy (prog.underlying t)=true) (m:DD prog n t=some ks) {v:Value} {d:DataW H} {p:List MemPlace} (i:Value.okWide prog W .any base t v) (h:DataW.Trod enc prog W 0 (fun _=>true) true t v d p):
  ∃ g,fE (Rows.uptoBulk d) ks g∧PR (iW W) (.agg g) v:=by
 obtain ⟨f,c⟩:∃ f,prog.underlying t=some (.struct f):=by
  unfold ahy at c;split at c
  ·rename_i f h;exact ⟨f,h⟩
  ·cases c
 obtain ⟨e,h⟩:=h;obtain ⟨g,j,k,_⟩:=Gz abC (fun _=>rfl) n t ks m e _ _ h;refine ⟨g,j, ?_⟩;simp only [Value.okWide,c] at i;obtain ⟨cs,rfl,_⟩:=i;rw [PR];exact ⟨cs.toList,by simp,k⟩
theorem ZK {t e:TypeId} {n:Nat} {ks:List DK} (k:prog.underlying t=some (.slice e)) (j:DD prog n t=some [.slc ks]) {v:Value} {d:DataW H} {p:List MemPlace} (i:Value.okWide prog W .any base t v) (h:DataW.Trod enc prog W 0 (fun _=>true) true t v d p):
  ∃ L:List (List AV),(∀ x ∈ L,fE (Rows.uptoBulk d) ks x)∧PR (iW W) (.sl L.flatten L.length false) v:=by
 obtain ⟨c,h⟩:=h;obtain ⟨m,g,f,_⟩:=Gz abC (fun _=>rfl) n t _ j c _ _ h;rw [LM k i] at f;cases g with|slc hx hl g=>cases g with|nil=>
  simp only [dO,and_true] at f;exact ⟨_,hx,f⟩
theorem ak_ {v:Value} {d:DataW H} {p:List MemPlace} (c:Value.okWide prog W .any base 26 v) (h:DataW.Trod enc prog W 0 (fun _=>true) true 26 v d p):
  ∃ y:Nd,y.num.length≤Rows.uptoBulk d∧y.den.length≤Rows.uptoBulk d∧PR (iW W) (.agg (rU y)) v:=by
 obtain ⟨j,e,i⟩:=P5 (n:=4) (ks:=kN) (by kernel_rfl) (by kernel_rfl) c h;obtain ⟨y,rfl,f,g⟩:=ahW e;exact ⟨y,f,g,i⟩
theorem aii {v:Value} {d:DataW H} {p:List MemPlace} (f:Value.okWide prog W .any base 31 v) (h:DataW.Trod enc prog W 0 (fun _=>true) true 31 v d p):
  ∃ E:fB,E.raw (Rows.uptoBulk d)∧PR (iW W) (Il E false false) v:=by
 obtain ⟨j,g,c⟩:=P5 (n:=8) (ks:= [.slc kL,.slc kS]) (by kernel_rfl) (by kernel_rfl) f h;obtain ⟨E,e,i⟩:=adn g;rw [e] at c;exact ⟨E,i,c⟩
theorem aij {v:Value} {d:DataW H} {p:List MemPlace} (f:Value.okWide prog W .any base 27 v) (h:DataW.Trod enc prog W 0 (fun _=>true) true 27 v d p):
  ∃ l:List Ro,(∀ x ∈ l,x.a.length≤Rows.uptoBulk d∧x.d.length≤Rows.uptoBulk d)∧PR (iW W) (.sl (lg l) l.length false) v:=by
 obtain ⟨L,j,c⟩:=ZK (n:=5) (ks:=kR) (e:=36) (by kernel_rfl) (by kernel_rfl) f h;obtain ⟨l,i,m,g⟩:=yA TQ (fun y:Ro=>y.a.length≤Rows.uptoBulk d∧y.d.length≤Rows.uptoBulk d) (fun x k=>ajT k) _ j;rw [i,m] at c;exact ⟨l,g,c⟩
end
end Go.Proofs.Tryz
