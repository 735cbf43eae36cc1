/- Contracts of functions; joined by a program of mine. -/
import Derived.Test.YtdmfgmmooalfnaaGreatDoorC4
import Derived.Test.YtdmfgmmooalfnaaGreatDoorM5
import Derived.Test.YtdmfgmmooalfnaaGreatDoorC1
import Derived.Test.YtdmfgmmooalfnaaGreatDoorM4
import Derived.Test.YtdmfgmmooalfnaaGreatDoorCards
import Derived.Test.YtdmfgmmooalfnaaGreatDoorTie
import Derived.Deep.DeepHandedRow
import Derived.Laws.IdiomArrays
set_option linter.unusedSimpArgs false
set_option linter.unusedVariables false
set_option maxRecDepth 100000
set_option linter.unusedVariables false
open Go AM
open IntKind renaming wrap->γ
open List renaming take->κ,drop->ε,length->ζ,mem_singleton->Xx6,length_cons->ν,length_map->Xxc,getD_eq_getElem?_getD->ξ,getElem?_eq_getElem->π,append_nil->Δ,getElem_mem->Xxp,take_of_length_le->ο,length_take->Xq4,flatMap_append->Xq9,flatMap_cons->Xxk,length_set->Xwk,take_append->Xw8,take_zero->Xw0,drop_append->Xzh,nil_append->Xqi,mem_or_eq_of_mem_set->Xvu,mem_of_getElem?->Xql
open Int renaming toNat->δ,tmod->Xxd
open Nat renaming ble->Φ,lt_of_le_of_lt->Xqj,lt_or_ge->Xq2,ble_eq_true_of_le->Xqe,le_refl->χ,beq->Xqn,min_eq_left->Xjc,zero_add->Ψ,mod_lt->Xqy,beq_refl->Xwh,sub_zero->Xjq
namespace Go.Proofs.Tryz
abbrev zcc5_0 : List UInt8 := [111,116,104,101,114]
abbrev zcc5_1 : List AV := [ω 4,.bool false,.str [1],.str [1],.str [],ω 3,.bool false,.str [1],.str [1],.str [],ω 3,.bool false,.str [1],.str [1],.str [],ω 3,.bool false,.str [],.str [1],.str [],ω 12,.bool false,.str [],.str [],.str [],ω 15,.bool false,.str [],.str [],.str []]
abbrev zcc5_2 : List AV := [ω 4,.bool false,.str [],.str [1],.str [],ω 3,.bool false,.str [1],.str [1],.str [],ω 3,.bool false,.str [1],.str [1],.str [],ω 3,.bool false,.str [],.str [1],.str [],ω 12,.bool false,.str [],.str [],.str [],ω 15,.bool false,.str [],.str [],.str []]
abbrev zcc5_3 : List AV := [ω 3,.bool false,.str [2],.str [1],.str [],ω 3,.bool false,.str [1],.str [1],.str [],ω 3,.bool false,.str [],.str [1],.str [],ω 12,.bool false,.str [],.str [],.str [],ω 19,.bool false,.str [],.str [],.str []]
abbrev zcc5_4 : List AV := [ω 6,.bool false,.str [],.str [],.str [120],ω 3,.bool false,.str [1],.str [1],.str [],ω 3,.bool false,.str [],.str [1],.str [],ω 12,.bool false,.str [],.str [],.str [],ω 9,.bool false,.str [],.str [],.str []]
abbrev zcc5_5 : List AV := [.bool false,.str [],.str [1],.bool false,.str [],.str [1],.bool false,.str [100],.str [1],.bool false,.str [1],.str [10],.bool false,.str [1,44],.str [1],.bool false,.str [1],.str [4]]
abbrev zcc5_6 : List AV := [ω 4,.bool false,.str [1],.str [1],.str [],ω 3,.bool false,.str [2],.str [1],.str [],ω 18,.bool false,.str [],.str [],.str []]
abbrev zcc5_7 : List AV := [ω 1,.bool false,.str [1],.str [2],.str [],ω 1,.bool false,.str [1],.str [3],.str [],ω 9,.bool false,.str [],.str [],.str []]
abbrev zcc5_8 : List AV := [.bool false,.str [1],.str [1],ω 0,.bool false,.str [3],.str [1],ω 0,.bool true,.str [2],.str [1],ω 0]
abbrev zcc5_9 : List AV := [ω 1,.bool false,.str [200],.str [1],.str [],ω 24,.bool false,.str [],.str [],.str [115]]
abbrev zcc5_10 : List AV := [ω 3,.bool false,.str [5],.str [4],.str [],ω 23,.bool false,.str [1],.str [2],.str []]
abbrev zcc5_11 : List AV := [ω 3,.bool true,.str [1],.str [4],.str [],ω 21,.bool false,.str [1],.str [2],.str []]
abbrev zcc5_12 : List AV := [ω 6,.str [120],.bool false,.str [5],.str [1],ω 0]
abbrev zcc5_13 : List AV := [ω 6,.str [120],.bool false,.str [],.str [],ω 17]
abbrev zcc5_14 : List AV := [ω 6,.bool false,.str [],.str [],.str [120]]
abbrev zcc5_15 : List AV := [ω 3,.bool false,.str [1],.str [1],.str []]
theorem ac0 (n d:Int) (a b q:RQ) (e:CO 48 [ω n] (Va6 a)) (f:CO 48 [ω d] (Va6 b)) (c:CO 60 (Vag a b) (Vaf q)):CO 27 [ω n,ω d] (Va6 q):=pK [] 0 0 (.n 8 .nil) (.c c (.c f (.c e .nil)))
theorem uq (n:Int) (d:Nat) (k: -60000<n) (i:n<60000) (e:0<d) (j:d<60000):CO 27 [ω n,ω (d:Int)] (.ret (qA (fZ (lX n).neg (lX n).n d))):=by
 have f:=jT n (by omega) (by omega);have a:(lX n).neg=true->0<(lX n).n:=by intro h;simp only [lX,decide_eq_true_eq] at h ⊢;omega
 have g:(lX n).n<65536:=by simp only [lX];omega
 have hd:(lX n).d=1:=rfl;generalize lX n=w at*
 have c:qA w=qA ⟨w.neg,w.n,1⟩:=by unfold qA;rw [hd]
 have b:=Oc w.neg w.n d a g e (by omega);rw [<- c] at b;exact ac0 n d w ⟨false,d,1⟩ _ f (IB d (by omega)) b
def BZ:fH:=⟨[],[]⟩
theorem kF:BZ.sm:=⟨by decide,by decide,by decide,λs hs=>by cases hs⟩
def an9:fH:=⟨[⟨6,[120],false,[5],[1],0⟩],[]⟩
theorem adU:an9.sm:=⟨by decide,by decide,by decide,λs hs=>by cases hs⟩
def an_:fH:=⟨[⟨6,[120],false,[],[],17⟩],[]⟩
theorem adV:an_.sm:=⟨by decide,by decide,by decide,λs hs=>by cases hs⟩
def aoa:fH:=⟨[],[⟨[115],0,0,[⟨false,[],[1],false,[],[1]⟩,⟨false,[100],[1],false,[1],[10]⟩,⟨false,[1,44],[1],false,[1],[4]⟩]⟩]⟩
theorem adW:aoa.sm:=⟨by decide,by decide,by decide,λs hs=>by
 rw [show s=_ from List.mem_singleton.1 hs];refine ⟨by decide,λb a=> ?_⟩;have:b ∈ ([⟨false,[],[1],false,[],[1]⟩,⟨false,[100],[1],false,[1],[10]⟩,⟨false,[1,44],[1],false,[1],[4]⟩]:List Br):=a;simp only [List.mem_cons,List.not_mem_nil,or_false] at this;rcases this with rfl|rfl|rfl<;>exact ⟨⟨by decide,by decide⟩,by decide,by decide⟩⟩
theorem k0:CO 27 [ω 1,ω 1] (.ret (Ω false [1] [1])):=kZ (uq 1 1 (by decide) (by decide) (by decide) (by decide)) (by kernel_rfl)
theorem k1:CO 37 [ω 1,ω 1] (.ret (.agg zcc5_15)):=cK (.c k0 .nil)
theorem k2:CO 27 [ω 0,ω 1] (.ret (Ω false [] [1])):=kZ (uq 0 1 (by decide) (by decide) (by decide) (by decide)) (by kernel_rfl)
theorem k3:CO 37 [ω 0,ω 1] (.ret (.agg [ω 3,.bool false,.str [],.str [1],.str []])):=cK (.c k2 .nil)
theorem k4:CO 27 [ω 5,ω 6] (.ret (Ω false [5] [6])):=kZ (uq 5 6 (by decide) (by decide) (by decide) (by decide)) (by kernel_rfl)
theorem k5:CO 29 [Ω false [5] [6]] (.ret (.agg [.bool false,.str [5],.str [6],ω 0])):=cK (.nil)
theorem k6:CO 27 [ω 1,ω 2] (.ret (Ω false [1] [2])):=kZ (uq 1 2 (by decide) (by decide) (by decide) (by decide)) (by kernel_rfl)
theorem k7:CO 40 [ω 1,ω 2] (.ret (.agg [ω 1,.bool false,.str [1],.str [2],.str []])):=cK (.c k6 .nil)
theorem k8:CO 27 [ω 1,ω 3] (.ret (Ω false [1] [3])):=kZ (uq 1 3 (by decide) (by decide) (by decide) (by decide)) (by kernel_rfl)
theorem k9:CO 40 [ω 1,ω 3] (.ret (.agg [ω 1,.bool false,.str [1],.str [3],.str []])):=cK (.c k8 .nil)
theorem k10:CO 21 [.sl zcc5_7 3 true,.agg [.nilS,.nilS]] (.ret (.agg [.bool false,.str [5],.str [6],ω 0])):=aH.args (.cons (aU.refl _) (.cons (aU.agg (.cons (aU.nilS false rfl) (.cons (aU.nilS false rfl) .nil))) .nil)) (kZ (q:=CO 21 [.sl zcc5_7 3 true,.agg [.sl [] 0 false,.sl [] 0 false]] (.ret (.agg [.bool false,.str [5],.str [6],ω 0]))) (fV BZ false false true (e:= [⟨1,false,[1],[2],[]⟩,⟨1,false,[1],[3],[]⟩,⟨9,false,[],[],[]⟩]) kF (lS (by kernel_rfl))) (by kernel_rfl))
theorem k11:CO 39 [.agg [.nilS,.nilS],.agg [.bool false,.str [5],.str [6],ω 0],.sl zcc5_7 3 true] (.ret (.bool true)):=cK (.c k10 .nil)
theorem k12:CO 29 [Ω false [1] [1]] (.ret (.agg [.bool false,.str [1],.str [1],ω 0])):=cK (.nil)
theorem k13:CO 28 [ω 1] (.ret (.agg [ω 4,.bool false,.str [1],.str [1],.str []])):=cK (.c k0 .nil)
theorem k14:CO 38 [ω 1,.pp zcc5_15 0,.pp [.sl [ω 3,.bool false,.str [1],.str [1],.str [],ω 3,.bool false,.str [],.str [1],.str [],ω 12,.bool false,.str [],.str [],.str []] 3 true] 0] (.ret (.own zcc5_1 6 5)):=cK (.c k13 .nil)
theorem k15:CO 21 [.sl zcc5_1 6 true,.agg [.nilS,.nilS]] (.ret (.agg [.bool false,.str [1],.str [1],ω 0])):=aH.args (.cons (aU.refl _) (.cons (aU.agg (.cons (aU.nilS false rfl) (.cons (aU.nilS false rfl) .nil))) .nil)) (kZ (q:=CO 21 [.sl zcc5_1 6 true,.agg [.sl [] 0 false,.sl [] 0 false]] (.ret (.agg [.bool false,.str [1],.str [1],ω 0]))) (fV BZ false false true (e:= [⟨4,false,[1],[1],[]⟩,⟨3,false,[1],[1],[]⟩,⟨3,false,[1],[1],[]⟩,⟨3,false,[],[1],[]⟩,⟨12,false,[],[],[]⟩,⟨15,false,[],[],[]⟩]) kF (lS (by kernel_rfl))) (by kernel_rfl))
theorem k16:CO 39 [.agg [.nilS,.nilS],.agg [.bool false,.str [1],.str [1],ω 0],.sl zcc5_1 6 true] (.ret (.bool true)):=cK (.c k15 .nil)
theorem k17:CO 26 [ω 16] (.ret (.agg [.bool false,.str [],.str [],ω 16])):=cK (.nil)
theorem k18:CO 28 [ω 0] (.ret (.agg [ω 4,.bool false,.str [],.str [1],.str []])):=cK (.c k2 .nil)
theorem k19:CO 38 [ω 0,.pp zcc5_15 0,.pp [.sl [ω 3,.bool false,.str [1],.str [1],.str [],ω 3,.bool false,.str [],.str [1],.str [],ω 12,.bool false,.str [],.str [],.str []] 3 true] 0] (.ret (.own zcc5_2 6 5)):=cK (.c k18 .nil)
theorem k20:CO 21 [.sl zcc5_2 6 true,.agg [.nilS,.nilS]] (.ret (.agg [.bool false,.str [],.str [],ω 16])):=aH.args (.cons (aU.refl _) (.cons (aU.agg (.cons (aU.nilS false rfl) (.cons (aU.nilS false rfl) .nil))) .nil)) (kZ (q:=CO 21 [.sl zcc5_2 6 true,.agg [.sl [] 0 false,.sl [] 0 false]] (.ret (.agg [.bool false,.str [],.str [],ω 16]))) (fV BZ false false true (e:= [⟨4,false,[],[1],[]⟩,⟨3,false,[1],[1],[]⟩,⟨3,false,[1],[1],[]⟩,⟨3,false,[],[1],[]⟩,⟨12,false,[],[],[]⟩,⟨15,false,[],[],[]⟩]) kF (lS (by kernel_rfl))) (by kernel_rfl))
theorem k21:CO 39 [.agg [.nilS,.nilS],.agg [.bool false,.str [],.str [],ω 16],.sl zcc5_2 6 true] (.ret (.bool true)):=cK (.c k20 .nil)
theorem k22:CO 26 [ω 13] (.ret (.agg [.bool false,.str [],.str [],ω 13])):=cK (.nil)
theorem k23:CO 27 [ω 2,ω 1] (.ret (Ω false [2] [1])):=kZ (uq 2 1 (by decide) (by decide) (by decide) (by decide)) (by kernel_rfl)
theorem k24:CO 37 [ω 2,ω 1] (.ret (.agg [ω 3,.bool false,.str [2],.str [1],.str []])):=cK (.c k23 .nil)
theorem k25:CO 21 [.sl zcc5_6 3 true,.agg [.nilS,.nilS]] (.ret (.agg [.bool false,.str [],.str [],ω 13])):=aH.args (.cons (aU.refl _) (.cons (aU.agg (.cons (aU.nilS false rfl) (.cons (aU.nilS false rfl) .nil))) .nil)) (kZ (q:=CO 21 [.sl zcc5_6 3 true,.agg [.sl [] 0 false,.sl [] 0 false]] (.ret (.agg [.bool false,.str [],.str [],ω 13]))) (fV BZ false false true (e:= [⟨4,false,[1],[1],[]⟩,⟨3,false,[2],[1],[]⟩,⟨18,false,[],[],[]⟩]) kF (lS (by kernel_rfl))) (by kernel_rfl))
theorem k26:CO 39 [.agg [.nilS,.nilS],.agg [.bool false,.str [],.str [],ω 13],.sl zcc5_6 3 true] (.ret (.bool true)):=cK (.c k25 .nil)
theorem k27:CO 21 [.sl zcc5_3 5 true,.agg [.nilS,.nilS]] (.ret (.agg [.bool false,.str [],.str [],ω 16])):=aH.args (.cons (aU.refl _) (.cons (aU.agg (.cons (aU.nilS false rfl) (.cons (aU.nilS false rfl) .nil))) .nil)) (kZ (q:=CO 21 [.sl zcc5_3 5 true,.agg [.sl [] 0 false,.sl [] 0 false]] (.ret (.agg [.bool false,.str [],.str [],ω 16]))) (fV BZ false false true (e:= [⟨3,false,[2],[1],[]⟩,⟨3,false,[1],[1],[]⟩,⟨3,false,[],[1],[]⟩,⟨12,false,[],[],[]⟩,⟨19,false,[],[],[]⟩]) kF (lS (by kernel_rfl))) (by kernel_rfl))
theorem k28:CO 39 [.agg [.nilS,.nilS],.agg [.bool false,.str [],.str [],ω 16],.sl zcc5_3 5 true] (.ret (.bool true)):=cK (.c k27 .nil)
theorem k29:CO 27 [ω 5,ω 1] (.ret (Ω false [5] [1])):=kZ (uq 5 1 (by decide) (by decide) (by decide) (by decide)) (by kernel_rfl)
theorem k30:CO 29 [Ω false [5] [1]] (.ret (.agg [.bool false,.str [5],.str [1],ω 0])):=cK (.nil)
theorem k31:CO 26 [ω 17] (.ret (.agg [.bool false,.str [],.str [],ω 17])):=cK (.nil)
theorem k32:CO 26 [ω 12] (.ret (.agg [.bool false,.str [],.str [],ω 12])):=cK (.nil)
theorem k33:CO 21 [.sl zcc5_14 1 true,.agg [.nilS,.nilS]] (.ret (.agg [.bool false,.str [],.str [],ω 12])):=aH.args (.cons (aU.refl _) (.cons (aU.agg (.cons (aU.nilS false rfl) (.cons (aU.nilS false rfl) .nil))) .nil)) (kZ (q:=CO 21 [.sl zcc5_14 1 true,.agg [.sl [] 0 false,.sl [] 0 false]] (.ret (.agg [.bool false,.str [],.str [],ω 12]))) (fV BZ false false true (e:= [⟨6,false,[],[],[120]⟩]) kF (lS (by kernel_rfl))) (by kernel_rfl))
theorem k34:CO 39 [.agg [.nilS,.nilS],.agg [.bool false,.str [],.str [],ω 12],.sl zcc5_14 1 true] (.ret (.bool true)):=cK (.c k33 .nil)
theorem k35:CO 21 [.sl zcc5_14 1 true,.agg [.sl zcc5_12 1 true,.nilS]] (.ret (.agg [.bool false,.str [5],.str [1],ω 0])):=aH.args (.cons (aU.refl _) (.cons (aU.agg (.cons (aU.refl _) (.cons (aU.nilS false rfl) .nil))) .nil)) (kZ (q:=CO 21 [.sl zcc5_14 1 true,.agg [.sl zcc5_12 1 true,.sl [] 0 false]] (.ret (.agg [.bool false,.str [5],.str [1],ω 0]))) (fV an9 true false true (e:= [⟨6,false,[],[],[120]⟩]) adU (lS (by kernel_rfl))) (by kernel_rfl))
theorem k36:CO 39 [.agg [.sl zcc5_12 1 true,.nilS],.agg [.bool false,.str [5],.str [1],ω 0],.sl zcc5_14 1 true] (.ret (.bool true)):=cK (.c k35 .nil)
theorem k37:CO 21 [.sl zcc5_4 5 true,.agg [.sl zcc5_13 1 true,.nilS]] (.ret (.agg [.bool false,.str [],.str [],ω 17])):=aH.args (.cons (aU.refl _) (.cons (aU.agg (.cons (aU.refl _) (.cons (aU.nilS false rfl) .nil))) .nil)) (kZ (q:=CO 21 [.sl zcc5_4 5 true,.agg [.sl zcc5_13 1 true,.sl [] 0 false]] (.ret (.agg [.bool false,.str [],.str [],ω 17]))) (fV an_ true false true (e:= [⟨6,false,[],[],[120]⟩,⟨3,false,[1],[1],[]⟩,⟨3,false,[],[1],[]⟩,⟨12,false,[],[],[]⟩,⟨9,false,[],[],[]⟩]) adV (lS (by kernel_rfl))) (by kernel_rfl))
theorem k38:CO 39 [.agg [.sl zcc5_13 1 true,.nilS],.agg [.bool false,.str [],.str [],ω 17],.sl zcc5_4 5 true] (.ret (.bool true)):=cK (.c k37 .nil)
theorem k39:CO 27 [ω 3,ω 2] (.ret (Ω false [3] [2])):=kZ (uq 3 2 (by decide) (by decide) (by decide) (by decide)) (by kernel_rfl)
theorem k40:CO 29 [Ω false [3] [2]] (.ret (.agg [.bool false,.str [3],.str [2],ω 0])):=cK (.nil)
theorem k41:CO 27 [ω 5,ω 4] (.ret (Ω false [5] [4])):=kZ (uq 5 4 (by decide) (by decide) (by decide) (by decide)) (by kernel_rfl)
theorem k42:CO 37 [ω 5,ω 4] (.ret (.agg [ω 3,.bool false,.str [5],.str [4],.str []])):=cK (.c k41 .nil)
theorem k43:CO 21 [.sl zcc5_10 2 true,.agg [.nilS,.nilS]] (.ret (.agg [.bool false,.str [3],.str [2],ω 0])):=aH.args (.cons (aU.refl _) (.cons (aU.agg (.cons (aU.nilS false rfl) (.cons (aU.nilS false rfl) .nil))) .nil)) (kZ (q:=CO 21 [.sl zcc5_10 2 true,.agg [.sl [] 0 false,.sl [] 0 false]] (.ret (.agg [.bool false,.str [3],.str [2],ω 0]))) (fV BZ false false true (e:= [⟨3,false,[5],[4],[]⟩,⟨23,false,[1],[2],[]⟩]) kF (lS (by kernel_rfl))) (by kernel_rfl))
theorem k44:CO 39 [.agg [.nilS,.nilS],.agg [.bool false,.str [3],.str [2],ω 0],.sl zcc5_10 2 true] (.ret (.bool true)):=cK (.c k43 .nil)
theorem k45:CO 27 [ω (-1),ω 2] (.ret (Ω true [1] [2])):=kZ (uq (-1) 2 (by decide) (by decide) (by decide) (by decide)) (by kernel_rfl)
theorem k46:CO 29 [Ω true [1] [2]] (.ret (.agg [.bool true,.str [1],.str [2],ω 0])):=cK (.nil)
theorem k47:CO 27 [ω (-1),ω 4] (.ret (Ω true [1] [4])):=kZ (uq (-1) 4 (by decide) (by decide) (by decide) (by decide)) (by kernel_rfl)
theorem k48:CO 37 [ω (-1),ω 4] (.ret (.agg [ω 3,.bool true,.str [1],.str [4],.str []])):=cK (.c k47 .nil)
theorem k49:CO 21 [.sl zcc5_11 2 true,.agg [.nilS,.nilS]] (.ret (.agg [.bool true,.str [1],.str [2],ω 0])):=aH.args (.cons (aU.refl _) (.cons (aU.agg (.cons (aU.nilS false rfl) (.cons (aU.nilS false rfl) .nil))) .nil)) (kZ (q:=CO 21 [.sl zcc5_11 2 true,.agg [.sl [] 0 false,.sl [] 0 false]] (.ret (.agg [.bool true,.str [1],.str [2],ω 0]))) (fV BZ false false true (e:= [⟨3,true,[1],[4],[]⟩,⟨21,false,[1],[2],[]⟩]) kF (lS (by kernel_rfl))) (by kernel_rfl))
theorem k50:CO 39 [.agg [.nilS,.nilS],.agg [.bool true,.str [1],.str [2],ω 0],.sl zcc5_11 2 true] (.ret (.bool true)):=cK (.c k49 .nil)
theorem k51:CO 27 [ω 100,ω 1] (.ret (Ω false [100] [1])):=kZ (uq 100 1 (by decide) (by decide) (by decide) (by decide)) (by kernel_rfl)
theorem k52:CO 27 [ω 1,ω 10] (.ret (Ω false [1] [10])):=kZ (uq 1 10 (by decide) (by decide) (by decide) (by decide)) (by kernel_rfl)
theorem k53:CO 27 [ω 300,ω 1] (.ret (Ω false [1,44] [1])):=kZ (uq 300 1 (by decide) (by decide) (by decide) (by decide)) (by kernel_rfl)
theorem k54:CO 27 [ω 1,ω 4] (.ret (Ω false [1] [4])):=kZ (uq 1 4 (by decide) (by decide) (by decide) (by decide)) (by kernel_rfl)
theorem k55:CO 27 [ω 200,ω 1] (.ret (Ω false [200] [1])):=kZ (uq 200 1 (by decide) (by decide) (by decide) (by decide)) (by kernel_rfl)
theorem k56:CO 40 [ω 200,ω 1] (.ret (.agg [ω 1,.bool false,.str [200],.str [1],.str []])):=cK (.c k55 .nil)
theorem k57:CO 27 [ω 10,ω 1] (.ret (Ω false [10] [1])):=kZ (uq 10 1 (by decide) (by decide) (by decide) (by decide)) (by kernel_rfl)
theorem k58:CO 29 [Ω false [10] [1]] (.ret (.agg [.bool false,.str [10],.str [1],ω 0])):=cK (.nil)
theorem k59:CO 21 [.sl zcc5_9 2 true,.agg [.nilS,.sl [.str [115],ω 0,ω 0,.sl zcc5_5 3 true] 1 true]] (.ret (.agg [.bool false,.str [10],.str [1],ω 0])):=aH.args (.cons (aU.refl _) (.cons (aU.agg (.cons (aU.nilS false rfl) (.cons (aU.slP (.same (.same (.same (.sl .nil))))) .nil))) .nil)) (kZ (q:=CO 21 [.sl zcc5_9 2 true,.agg [.sl [] 0 false,.sl [.str [115],ω 0,ω 0,.sl zcc5_5 3 false] 1 true]] (.ret (.agg [.bool false,.str [10],.str [1],ω 0]))) (fV aoa false true true (e:= [⟨1,false,[200],[1],[]⟩,⟨24,false,[],[],[115]⟩]) adW (lS (by kernel_rfl))) (by kernel_rfl))
theorem k60:CO 39 [.agg [.nilS,.sl [.str [115],ω 0,ω 0,.sl zcc5_5 3 true] 1 true],.agg [.bool false,.str [10],.str [1],ω 0],.sl zcc5_9 2 true] (.ret (.bool true)):=cK (.c k59 .nil)
theorem k61:CO 21 [.sl zcc5_9 2 true,.agg [.nilS,.nilS]] (.ret (.agg [.bool false,.str [],.str [],ω 12])):=aH.args (.cons (aU.refl _) (.cons (aU.agg (.cons (aU.nilS false rfl) (.cons (aU.nilS false rfl) .nil))) .nil)) (kZ (q:=CO 21 [.sl zcc5_9 2 true,.agg [.sl [] 0 false,.sl [] 0 false]] (.ret (.agg [.bool false,.str [],.str [],ω 12]))) (fV BZ false false true (e:= [⟨1,false,[200],[1],[]⟩,⟨24,false,[],[],[115]⟩]) kF (lS (by kernel_rfl))) (by kernel_rfl))
theorem k62:CO 39 [.agg [.nilS,.nilS],.agg [.bool false,.str [],.str [],ω 12],.sl zcc5_9 2 true] (.ret (.bool true)):=cK (.c k61 .nil)
theorem k63:CO 27 [ω 3,ω 1] (.ret (Ω false [3] [1])):=kZ (uq 3 1 (by decide) (by decide) (by decide) (by decide)) (by kernel_rfl)
theorem k64:CO 37 [ω 3,ω 1] (.ret (.agg [ω 3,.bool false,.str [3],.str [1],.str []])):=cK (.c k63 .nil)
theorem k65:CO 19 [.sl [ω 3,.bool false,.str [1],.str [1],.str [],ω 3,.bool false,.str [3],.str [1],.str [],ω 10,.bool false,.str [],.str [],.str []] 3 true,.agg [.nilS,.nilS]] (.ret (.own zcc5_8 3 4)):=aH.args (.cons (aU.refl _) (.cons (aU.agg (.cons (aU.nilS false rfl) (.cons (aU.nilS false rfl) .nil))) .nil)) (kZ (q:=CO 19 [.sl [ω 3,.bool false,.str [1],.str [1],.str [],ω 3,.bool false,.str [3],.str [1],.str [],ω 10,.bool false,.str [],.str [],.str []] 3 true,.agg [.sl [] 0 false,.sl [] 0 false]] (.ret (.own zcc5_8 3 4))) (oL BZ false false true (e:= [⟨3,false,[1],[1],[]⟩,⟨3,false,[3],[1],[]⟩,⟨10,false,[],[],[]⟩]) kF (by kernel_rfl) (lS (by kernel_rfl))) (by kernel_rfl))
theorem k66:CO 29 [Ω false [3] [1]] (.ret (.agg [.bool false,.str [3],.str [1],ω 0])):=cK (.nil)
theorem k67:CO 27 [ω (-2),ω 1] (.ret (Ω true [2] [1])):=kZ (uq (-2) 1 (by decide) (by decide) (by decide) (by decide)) (by kernel_rfl)
theorem k68:CO 29 [Ω true [2] [1]] (.ret (.agg [.bool true,.str [2],.str [1],ω 0])):=cK (.nil)
theorem k69:CO 18 [.sl zcc5_8 3 true,.sl zcc5_8 3 true] (.ret (.bool true)):=kZ (Jy [.val ⟨false,1,1⟩,.val ⟨false,3,1⟩,.val ⟨true,2,1⟩] [.val ⟨false,1,1⟩,.val ⟨false,3,1⟩,.val ⟨true,2,1⟩] true true (by decide)) (by kernel_rfl)
theorem k70:CO 15 [.agg [ω 20,.bool false,.str [],.str [],.str []],.nilS,.agg [.nilS,.nilS]] (.ret (.agg [.bool false,.str [],.str [],ω 11])):=aH.args (.cons (aU.refl _) (.cons (aU.nilS false rfl) (.cons (aU.agg (.cons (aU.nilS false rfl) (.cons (aU.nilS false rfl) .nil))) .nil))) (kZ (q:=CO 15 [.agg [ω 20,.bool false,.str [],.str [],.str []],.sl [] 0 false,.agg [.sl [] 0 false,.sl [] 0 false]] (.ret (.agg [.bool false,.str [],.str [],ω 11]))) (abA BZ false false false kF ⟨20,false,[],[],[]⟩ ⟨by decide,by decide⟩ (ar:= []) (by decide) (by simp)) (by kernel_rfl))
theorem k71:CO 26 [ω 11] (.ret (.agg [.bool false,.str [],.str [],ω 11])):=cK (.nil)
theorem k72:CO 21 [.nilS,.agg [.nilS,.nilS]] (.ret (.agg [.bool false,.str [],.str [],ω 11])):=aH.args (.cons (aU.nilS false rfl) (.cons (aU.agg (.cons (aU.nilS false rfl) (.cons (aU.nilS false rfl) .nil))) .nil)) (kZ (q:=CO 21 [.sl [] 0 false,.agg [.sl [] 0 false,.sl [] 0 false]] (.ret (.agg [.bool false,.str [],.str [],ω 11]))) (fV BZ false false false (e:= []) kF (lS (by kernel_rfl))) (by kernel_rfl))
theorem k73:CO 29 [Ω false [1] [2]] (.ret (.agg [.bool false,.str [1],.str [2],ω 0])):=cK (.nil)
theorem k74:CO 17 [.agg [.bool false,.str [1],.str [2],ω 0],.agg [.bool false,.str [1],.str [2],ω 0]] (.ret (.bool true)):=kZ (RN (.val ⟨false,1,2⟩) (.val ⟨false,1,2⟩)) (by kernel_rfl)
theorem k75:CO 17 [.agg [.bool false,.str [1],.str [2],ω 0],.agg [.bool false,.str [],.str [],ω 16]] (.ret (.bool false)):=kZ (RN (.val ⟨false,1,2⟩) (.err 16)) (by kernel_rfl)
theorem k76:CO 13 [] (.ret (.bool true)):=cK (.c k75 (.c k17 (.c k73 (.c k74 (.c k73 (.c k73 (.c k71 (.c k72 (.c k71 (.c k70 (.c k69 (.c k68 (.c k67 (.c k66 (.c k63 (.c k12 (.c k0 (.c k65 (.c k64 (.c k62 (.c k32 (.c k60 (.c k58 (.c k57 (.c k56 (.c k54 (.c k53 (.c k52 (.c k51 (.c k2 (.c k2 (.c k50 (.c k48 (.c k46 (.c k45 (.c k44 (.c k42 (.c k40 (.c k39 (.c k6 (.c k38 (.c k31 (.c k36 (.c k30 (.c k29 (.c k34 (.c k32 (.c k31 (.c k30 (.c k29 (.c k28 (.c k24 (.c k17 (.c k26 (.c k24 (.c k13 (.c k22 (.c k21 (.c k19 (.c k17 (.c k16 (.c k14 (.c k12 (.c k0 (.c k11 (.c k9 (.c k7 (.c k5 (.c k4 (.c k3 (.c k1 (.c k1 .nil))))))))))))))))))))))))))))))))))))))))))))))))))))))))))))))))))))))))
theorem VF:CO 13 [] (.ret (.bool true)):=k76
theorem aqH:CO 63 [ω 1,ω 0] (.ret (.agg [.bool false,ω 1,ω 0])):=cK (.nil)
theorem aqI:CO 63 [ω 0,ω 0] (.ret (.agg [.bool false,ω 0,ω 0])):=cK (.nil)
theorem ad5:CO 64 [] (.ret (.agg [.bool true,ω 0,ω 0])):=cK (.nil)
theorem aod:CO 63 [ω 0,ω 1] (.ret (.agg [.bool false,ω 0,ω 1])):=cK (.nil)
theorem aqJ:CO 35 [] (.ret (.own [ω 5,.str [105,110,99,111,109,101],.bool false,ω 1,ω 0,ω 5,.str [107,105,100,115],.bool false,ω 0,ω 0,ω 5,.str [115,105,110,103,108,101],.bool true,ω 0,ω 0,ω 5,.str [115,116,97,121],.bool false,ω 0,ω 1,ω 6,.str [112,111,111,114],.bool true,ω 0,ω 0,ω 6,.str [116,97,120],.bool false,ω 1,ω 0,ω 7,.str [112,111,111,114],.bool true,ω 0,ω 0,ω 7,.str [116,97,120],.bool false,ω 1,ω 0,ω 8,.str [112,111,111,114],.bool true,ω 0,ω 0,ω 8,.str [116,97,120],.bool false,ω 1,ω 0,ω 24,.str [115,99,97,108,101],.bool false,ω 1,ω 0,ω 24,.str [116,101,114,109],.bool false,ω 0,ω 1] 12 5)):=cK (.c aod (.c ad5 (.c ad5 (.c ad5 (.c aod (.c ad5 (.c aqI (.c aqH .nil))))))))
theorem aj_ (b a:List Int) (c f d:Bool) (q:Int) (t:Ty) (e:List Nd) (E:fH) (h:CO 35 [] (.ret (.own (iQ aT) 12 5))) (j:CO 32 [ω (γ .i64 q)] (.ret (.agg [.bool t.tr,ω t.m,ω t.d]))) (g:CO 57 [.sl (κ 60 (iQ aT)) 12 true,.agg [.bool t.tr,ω t.m,ω t.d],.sl (iL b) b.length c] (.ret (.own (aO e) e.length 5))) (i:CO 58 [.sl (κ 60 (iQ aT)) 12 true,.sl (iL a) a.length f,.bool d] (.ret (.agg [.sl (dK E.ls) E.ls.length true,.sl (dL (E.qs.map Sq.c)) (E.qs.map Sq.c).length true]))):CO 23 [.agg [.sl (iL b) b.length c,.sl (iL a) a.length f],.int .u8 q,.bool d] (.ret (.tup [.own (κ (e.length*5) (aO e)) e.length 5,.agg [.sl (dK E.ls) E.ls.length true,.sl (dL (E.qs.map Sq.c)) (E.qs.map Sq.c).length true]])):=pK [] 0 0 (.n 9 .nil) (.c i (.c g (.c j (.c h .nil))))
theorem ag8 (q:Int):∃ t,Yc t/\CO 32 [ω q] (.ret (.agg (uO t))):=by
 obtain ⟨k,a,h⟩:=abU q;rcases (show k=0\/k=1\/k=2\/k=3\/k=4 by omega) with rfl|rfl|rfl|rfl|rfl
 .exact ⟨tM,.inl (by simp [dm]),h⟩
 .exact ⟨tD,.inl (by simp [dm]),h⟩
 .exact ⟨tP,.inl (by simp [dm]),h⟩
 .exact ⟨tT,.inl (by simp [dm]),h⟩
 .exact ⟨⟨false,1, -1⟩,.inr rfl,h⟩
theorem ZH:CO 35 [] (.ret (.own (iQ aT) 12 5)):=kZ aqJ (by kernel_rfl)
structure Ew (t:Ty) (e:List Nd):Prop where
 tm:Tm aT e t
 sm:∀ x ∈ e,x.sm
 ln:e.length<=13
theorem Ew.ck {t:Ty} {e:List Nd} (h:Ew t e):di e=0:=h.tm.check (by have:=h.ln;omega)
theorem Ew.pos {t:Ty} {e:List Nd} (h:Ew t e):0<e.length:=(jL h.ck).2.2
theorem Xd (q:Int) (t:Ty) (g:Yc t) (a:List Int) (b:a.length<2^63):∃ e,Ew t e/\CO 57 [.sl (iQ aT) 12 true,.agg (uO t),.sl (iL a) a.length false] (.ret (.own (aO e) e.length 5)):=by
 obtain ⟨e,h,c,d,f⟩:=aap g a false b;exact ⟨e,⟨h,c,d⟩,f⟩
theorem Xg {b a:List Int} {c:Bool} {q:Int} {t:Ty} {e:List Nd} {E:fH} (ck:CO 32 [ω (γ .i64 q)] (.ret (.agg (uO t)))) (f:CO 57 [.sl (iQ aT) 12 true,.agg (uO t),.sl (iL b) b.length false] (.ret (.own (aO e) e.length 5))) (d:CO 58 [.sl (iQ aT) 12 true,.sl (iL a) a.length false,.bool c] (.ret (tX E true true))):
  CO 23 [.agg [.sl (iL b) b.length false,.sl (iL a) a.length false],.int .u8 q,.bool c] (.ret (.tup [.own (aO e) e.length 5,tX E true true])):=by
 have h:=aj_ b a false false c q t e E ZH ck f d;rw [Iz] at h;exact h
def VU (o:Oq):Ro:=⟨o.n,o.a,o.d,o.e⟩
theorem ai3 (l:List Oq):yN (l.map VU)=dI l:=by
 induction l with
 |nil=>rfl
 |cons x r ih=>
  show roC (VU x)++yN (r.map VU)=vU x++dI r;rw [ih];rfl
theorem ai4 {o:Oq} (h:o.ok):BX (VU o)=o:=by
 cases o with
 |err e=>exact if_neg h
 |val q=>
  show xK q.neg (ae q.n) (ae q.d) 0=_;rw [wE h.1];unfold mV;rw [if_pos h.2]
theorem ZV {l:List Oq} (h:∀ o ∈ l,o.ok):(l.map VU).map BX=l:=by
 rw [List.map_map]
 conv=>rhs;rw [<- List.map_id l]
 exact List.map_congr_left λo a=>ai4 (h o a)
theorem sfO (o:Oq):lit false (!((o.n==o.n) && ((o.a==o.a) && ((o.d==o.d) && ((o.e==o.e) && true)))))=true:=by simp [lit]
theorem aim (y:Nd) (o:Oq) (h e d:Bool) (c:Int) (ls:List Lk) (a:List Sc) (b:lit true (decide (y.op<=((4:Nat):Int)))=true) (g:lit false (!(c==((0:Nat):Int)))=true) (f:CO 50 (Vbh y) (Vaz c)) (i:CO 51 [.agg [.bool y.neg,.str y.num,.str y.den]] (Va1 o)):CO 16 [.agg [ω y.op,.bool y.neg,.str y.num,.str y.den,.str y.name],.sl [] 0 d,.agg (Va2 ls h a e)] (Va1 o):=pK [] 5 16 (.k 8 b (.k 1 g (.n 10 .nil))) (.c i (.c f .nil))
abbrev VaW (a:Nd):Prop:=lit false (decide (a.op<=((4:Nat):Int)))=true
theorem ain (y:Nd) (o:Oq) (d b g:Bool) (c:Int) (ls:List Lk) (a:List Sc) (f:lit true (decide (y.op<=((8:Nat):Int)))=true) (i:VaW y) (e:lit false (!(c==((0:Nat):Int)))=true) (h:CO 50 (Vbh y) (Vaz c)) (j:CO 52 [.agg (Va2 ls d a b),ω y.op,.str y.name] (Va1 o)):CO 16 [.agg [ω y.op,.bool y.neg,.str y.num,.str y.den,.str y.name],.sl [] 0 g,.agg (Va2 ls d a b)] (Va1 o):=pK [] 6 32 (.k 9 f (.k 1 i (.k 1 e (.n 10 .nil)))) (.c j (.c h .nil))
abbrev Vao (a:Ro) (b:Oq):Prop:=CO 49 [.agg [.bool a.n,.str a.a,.str a.d,ω a.e]] (Va1 b)
abbrev VaB:Prop:=CO 48 [ω 0] (.ret (Ω false [] [1]))
abbrev Vb7 (a:Nd):Prop:=lit false (decide (a.op<=((8:Nat):Int)))=true
abbrev VbH (a:Nd) (b:Int):Prop:=CO 50 [.sl [ω 3,.bool false,.str [],.str [1],.str [],ω a.op,.bool a.neg,.str a.num,.str a.den,.str a.name] 2 true] (Vaz b)
theorem aio (y:Nd) (b:Ro) (a:Oq) (n h i:Bool) (c:Int) (ls:List Lk) (d:List Sc) (f:lit true (!(a.e==((0:Nat):Int)))=true) (j:lit false (y.op==((15:Nat):Int))=true) (e:Vb7 y) (k:VaW y) (l:lit false (!(c==((0:Nat):Int)))=true) (m:VaB) (o:Vao b a) (g:VbH y c):CO 16 [.agg [ω y.op,.bool y.neg,.str y.num,.str y.den,.str y.name],.sl [.bool b.n,.str b.a,.str b.d,ω b.e] 1 i,.agg (Va2 ls n d h)] (Va1 a):=pK [] 11 1538 (.k 11 f (.k 4 j (.k 1 e (.k 1 k (.k 1 l (.n 24 .nil)))))) (.c g (.c o (.c m .nil)))
theorem aip (y:Nd) (a:Ro) (o b:Oq) (e f q:Bool) (c:Int) (ls:List Lk) (d:List Sc) (h:lit false (!(b.e==((0:Nat):Int)))=true) (k:lit false (y.op==((15:Nat):Int))=true) (g:Vb7 y) (i:VaW y) (j:lit false (!(c==((0:Nat):Int)))=true) (n:VaB) (l:Vao a b) (m:VbH y c) (p:CO 55 [.agg [ω y.op,.bool y.neg,.str y.num,.str y.den,.str y.name],.agg (Vah b),.agg (Va2 ls e d f)] (Va1 o)):CO 16 [.agg [ω y.op,.bool y.neg,.str y.num,.str y.den,.str y.name],.sl [.bool a.n,.str a.a,.str a.d,ω a.e] 1 q,.agg (Va2 ls e d f)] (Va1 o):=pK [] 13 514 (.k 19 h (.k 4 k (.k 1 g (.k 1 i (.k 1 j (.n 24 .nil)))))) (.c p (.c m (.c l (.c n .nil))))
abbrev VaK (a:Nd) (b:Int):Prop:=CO 50 [.sl [ω 3,.bool false,.str [],.str [1],.str [],ω 3,.bool false,.str [],.str [1],.str [],ω a.op,.bool a.neg,.str a.num,.str a.den,.str a.name] 3 true] (Vaz b)
abbrev Vb6 (a:Nd) (b:Ro) (c:Ro) (d:Bool) (e:List Lk) (f:Bool) (g:List Sc) (h:Bool):List AV:=[.agg [ω a.op,.bool a.neg,.str a.num,.str a.den,.str a.name],.sl [.bool b.n,.str b.a,.str b.d,ω b.e,.bool c.n,.str c.a,.str c.d,ω c.e] 2 d,.agg (Va2 e f g h)]
theorem aiq (y:Nd) (b d:Ro) (a e:Oq) (q s r:Bool) (c:Int) (ls:List Lk) (f:List Sc) (h:lit true (!(a.e==((0:Nat):Int)))=true) (k:lit false (y.op==((15:Nat):Int))=true) (g:Vb7 y) (i:VaW y) (j:lit false (!(c==((0:Nat):Int)))=true) (n:VaB) (l:Vao b a) (m:VaB) (p:Vao d e) (o:VaK y c):CO 16 (Vb6 y b d r ls q f s) (Va1 a):=pK [] 12 3090 (.k 11 h (.k 4 k (.k 1 g (.k 1 i (.k 1 j (.n 39 .nil)))))) (.c o (.c p (.c m (.c l (.c n .nil)))))
theorem air (y:Nd) (b d:Ro) (e a:Oq) (r t s:Bool) (c:Int) (ls:List Lk) (f:List Sc) (h:lit true (!(a.e==((0:Nat):Int)))=true) (k:lit false (!(e.e==((0:Nat):Int)))=true) (g:lit false (y.op==((15:Nat):Int))=true) (i:Vb7 y) (j:VaW y) (m:lit false (!(c==((0:Nat):Int)))=true) (o:VaB) (l:Vao b e) (n:VaB) (q:Vao d a) (p:VaK y c):CO 16 (Vb6 y b d s ls r f t) (Va1 a):=pK [] 14 13330 (.k 11 h (.k 4 k (.k 4 g (.k 1 i (.k 1 j (.k 1 m (.n 39 .nil))))))) (.c p (.c q (.c n (.c l (.c o .nil)))))
theorem ais (y:Nd) (a e:Ro) (o d b:Oq) (s v u:Bool) (c:Int) (ls:List Lk) (f:List Sc) (h:lit false (!(b.e==((0:Nat):Int)))=true) (k:lit false (!(d.e==((0:Nat):Int)))=true) (g:lit false (y.op==((15:Nat):Int))=true) (i:Vb7 y) (j:VaW y) (m:lit false (!(c==((0:Nat):Int)))=true) (p:VaB) (l:Vao a d) (n:VaB) (r:Vao e b) (q:VaK y c) (t:CO 54 [ω y.op,.agg (Vah d),.agg (Vah b)] (Va1 o)):CO 16 (Vb6 y a e u ls s f v) (Va1 o):=pK [] 16 37906 (.k 18 h (.k 4 k (.k 4 g (.k 1 i (.k 1 j (.k 1 m (.n 39 .nil))))))) (.c t (.c q (.c r (.c n (.c l (.c p .nil))))))
theorem ait (y:Nd) (a f g:Ro) (o d b e:Oq) (t x w:Bool) (c:Int) (ls:List Lk) (h:List Sc) (k:lit true (y.op==((15:Nat):Int))=true) (m:Vb7 y) (i:VaW y) (l:lit false (!(c==((0:Nat):Int)))=true) (q:VaB) (n:Vao a d) (p:VaB) (s:Vao f b) (r:VaB) (u:Vao g e) (j:CO 50 [.sl [ω 3,.bool false,.str [],.str [1],.str [],ω 3,.bool false,.str [],.str [1],.str [],ω 3,.bool false,.str [],.str [1],.str [],ω y.op,.bool y.neg,.str y.num,.str y.den,.str y.name] 4 true] (Vaz c)) (v:CO 53 [.sl (Vaa d b e) 3 true] (Va1 o)):CO 16 [.agg [ω y.op,.bool y.neg,.str y.num,.str y.den,.str y.name],.sl [.bool a.n,.str a.a,.str a.d,ω a.e,.bool f.n,.str f.a,.str f.d,ω f.e,.bool g.n,.str g.a,.str g.d,ω g.e] 3 w,.agg (Va2 ls t h x)] (Va1 o):=pK [] 11 1074 (.k 5 k (.k 1 m (.k 1 i (.k 1 l (.n 54 .nil))))) (.c v (.c j (.c u (.c r (.c s (.c p (.c n (.c q .nil))))))))
theorem adx (x:Nd) (o:Oq) (b c ne:Bool) (k:Nat) (e:List Nd) (A:List (List Nat)) (ls:List Lk) (a:List Sc) (n j:List AV) {nt:Nat} (q:57<=nt) (p:Vbd k e x n) (m:(ε ((δ (k:Int))*1) (dM A))= [.nilS]++j) (g:Va7 k) (d:Va4 k) (i:(Vam k e)=true) (f:VaT k A) (h:lit true (Vam k e)=true) (l:CO 16 [.agg [ω x.op,.bool x.neg,.str x.num,.str x.den,.str x.name],.nilS,.agg (Va2 ls b a c)] (Va1 o)):ψ nt f20 ⟨[(0,.sl (aO e) e.length ne),(3,.ptr 0 0 0),(5,.sl (dM A) A.length true),(7,.nilS),(8,ω (k:Int))],[(0,(VaA ls b a c))],.dead,[]⟩ (.normal) ⟨[(0,.sl (aO e) e.length ne),(3,.ptr 0 0 0),(5,.sl (dM A) A.length true),(7,.ref 1 0 0 1),(8,ω ((k+1:Nat):Int))],[(0,(VaA ls b a c)),(1,⟨(Vae o),0,false,0,4,true⟩)],.dead,[]⟩:=pN 20 [] 3 1 (.k 10 d (.c i (.k 2 d (.c f (.c h .nil))))) (.v 23 (.eq g) (.c l (.v 49 (.ppt p) (.v 27 (.ppt m) .nil)))) q
theorem ady (f c ne:Bool) (k:Nat) (e:List Nd) (A:List (List Nat)) (ls:List Lk) (a:List Sc) {nt:Nat} (d:57<=nt) (b:lit false (Vam k e)=true):ψ nt f20 ⟨[(0,.sl (aO e) e.length ne),(3,.ptr 0 0 0),(5,.sl (dM A) A.length true),(7,.nilS),(8,ω (k:Int))],[(0,(VaA ls f a c))],.dead,[]⟩ (.exit 0) ⟨[(7,.nilS)],[],.dead,[]⟩:=pN 20 [] 1 0 (.c b .nil) (.nil) d
abbrev Vaj (a:List Nd) (b:Bool) (c:List (List Nat)) (d:List Oq) (e:Nat) (f:List Lk) (g:Bool) (h:List Sc) (i:Bool):St:=⟨[(0,.sl (aO a) a.length b),(3,.ptr 0 0 0),(5,.sl (dM c) c.length true),(7,.ref 1 0 0 d.length),(8,ω (e:Int))],[(0,⟨(Va2 f g h i),0,false,0,0,true⟩),(1,⟨(dI d),0,false,0,4,true⟩)],.dead,[]⟩
abbrev Vap (a:List Nd) (b:Bool) (c:List (List Nat)) (d:List Oq) (e:Nat) (f:List Lk) (g:Bool) (h:List Sc) (i:Bool) (j:Oq):St:=⟨[(0,.sl (aO a) a.length b),(3,.ptr 0 0 0),(5,.sl (dM c) c.length true),(7,.ref 1 0 0 (d.length+1)),(8,ω ((e+1:Nat):Int))],[(0,⟨(Va2 f g h i),0,false,0,0,true⟩),(1,⟨(dI (d++ [j])),0,false,0,4,true⟩)],.dead,[]⟩
theorem aiv (x:Nd) (o:Oq) (d f ne:Bool) (k:Nat) (e:List Nd) (A:List (List Nat)) (a:List Oq) (ls:List Lk) (b:List Sc) (s p:List AV) {nt:Nat} (u:57<=nt) (t:Vbd k e x s) (r:(ε ((δ (k:Int))*1) (dM A))= [.nilS]++p) (c:VaN a o) (h:Va7 k) (i:VaL a) (m:Vb2 a) (g:Va4 k) (j:(Vam k e)=true) (l:VaT k A) (n:lit true (Vam k e)=true) (q:CO 16 [.agg [ω x.op,.bool x.neg,.str x.num,.str x.den,.str x.name],.nilS,.agg (Va2 ls d b f)] (Va1 o)):ψ nt f20 (Vaj e ne A a k ls d b f) (.normal) (Vap e ne A a k ls d b f o):=pN 20 [] 2 1 (.k 1 i (.c m (.k 8 g (.c j (.k 2 g (.c l (.c n .nil))))))) (.v 23 (.eq h) (.b 55 c (.c q (.v 49 (.ppt t) (.v 27 (.ppt r) .nil))))) u
theorem aiw (g d ne:Bool) (k:Nat) (e:List Nd) (A:List (List Nat)) (a:List Oq) (ls:List Lk) (b:List Sc) {nt:Nat} (f:57<=nt) (c:lit false (Vam k e)=true):ψ nt f20 (Vaj e ne A a k ls g b d) (.exit 0) ⟨[(7,.ref 0 0 0 a.length)],[(0,⟨(dI a),0,false,0,4,true⟩)],.dead,[]⟩:=pN 20 [] 1 0 (.c c .nil) (.nil) f
theorem aix (x:Nd) (o c:Oq) (l m ne:Bool) (k g:Nat) (e:List Nd) (A:List (List Nat)) (a:List Oq) (ls:List Lk) (b:List Sc) (z u w:List AV) {nt:Nat} (C:57<=nt) (B:Vbd k e x z) (i:(ε ((δ (k:Int))*1) (dM A))= [.sl [ω (g:Int)] 1 true]++u) (d:VaE g a c w) (j:VaN a o) (n:Va7 k) (p:VaL a) (r:Vb2 a) (f:Va4 k) (q:(Vam k e)=true) (h:VaT k A) (t:Va4 g) (s:Van g a) (y:lit true (Vam k e)=true) (v:CO 16 [.agg [ω x.op,.bool x.neg,.str x.num,.str x.den,.str x.name],.sl (Vae c) 1 true,.agg (Va2 ls l b m)] (Va1 o)):ψ nt f20 (Vaj e ne A a k ls l b m) (.normal) (Vap e ne A a k ls l b m o):=pN 20 [] 4 3 (.k 1 p (.c r (.k 8 f (.c q (.k 2 f (.c h (.n 3 (.a (jR [.bool,.str,.str,.int .i64] d rfl) (.c t (.c s (.k 4 f (.c h (.k 2 f (.c h (.c y .nil))))))))))))))) (.v 23 (.eq n) (.b 55 j (.c v (.v 49 (.ppt B) (.v 27 (.ppt i) (.v 43 (.rd [.bool,.str,.str,.int .i64] d rfl) (.v 37 (.ppt i) (.v 27 (.ppt i) .nil)))))))) C
theorem aiy (x:Nd) (o h d:Oq) (p q ne:Bool) (k l m:Nat) (e:List Nd) (A:List (List Nat)) (a:List Oq) (ls:List Lk) (c:List Sc) (G B D y:List AV) {nt:Nat} (J:57<=nt) (I:Vbd k e x G) (i:(ε ((δ (k:Int))*1) (dM A))= [.sl [ω (l:Int),ω (m:Int)] 2 true]++B) (j:VaE l a h D) (f:VaE m a d y) (n:VaN a o) (r:Va7 k) (s:VaL a) (u:Vb2 a) (b:Va4 k) (t:(Vam k e)=true) (g:VaT k A) (z:Va4 m) (w:Van m a) (E:Va4 l) (v:Van l a) (F:lit true (Vam k e)=true) (C:CO 16 [.agg [ω x.op,.bool x.neg,.str x.num,.str x.den,.str x.name],.sl (Va9 h d) 2 true,.agg (Va2 ls p c q)] (Va1 o)):ψ nt f20 (Vaj e ne A a k ls p c q) (.normal) (Vap e ne A a k ls p c q o):=pN 20 [] 5 11 (.k 1 s (.c u (.k 8 b (.c t (.k 2 b (.c g (.n 4 (.a (jR [.bool,.str,.str,.int .i64] f rfl) (.c z (.c w (.k 4 b (.c g (.k 2 b (.c g (.n 3 (.a (jR [.bool,.str,.str,.int .i64] j rfl) (.c E (.c v (.k 4 b (.c g (.k 2 b (.c g (.c F .nil))))))))))))))))))))))) (.v 23 (.eq r) (.b 55 n (.c C (.v 49 (.ppt I) (.v 27 (.ppt i) (.v 43 (.rd [.bool,.str,.str,.int .i64] f rfl) (.v 37 (.ppt i) (.v 27 (.ppt i) (.v 43 (.rd [.bool,.str,.str,.int .i64] j rfl) (.v 37 (.ppt i) (.v 27 (.ppt i) .nil))))))))))) J
theorem aiz (x:Nd) (o j g l:Oq) (u v ne:Bool) (k n p q:Nat) (e:List Nd) (A:List (List Nat)) (a:List Oq) (ls:List Lk) (f:List Sc) (N G K E I:List AV) {nt:Nat} (P:57<=nt) (O:Vbd k e x N) (d:(ε ((δ (k:Int))*1) (dM A))= [.sl [ω (n:Int),ω (p:Int),ω (q:Int)] 3 true]++G) (m:VaE n a j K) (h:VaE p a g E) (i:VaE q a l I) (t:VaN a o) (w:Va7 k) (y:VaL a) (B:Vb2 a) (b:Va4 k) (z:(Vam k e)=true) (c:VaT k A) (F:Va4 q) (D:Van q a) (L:Va4 p) (C:Van p a) (M:Va4 n) (r:Van n a) (s:lit true (Vam k e)=true) (J:CO 16 [.agg [ω x.op,.bool x.neg,.str x.num,.str x.den,.str x.name],.sl (Vaa j g l) 3 true,.agg (Va2 ls u f v)] (Va1 o)):ψ nt f20 (Vaj e ne A a k ls u f v) (.normal) (Vap e ne A a k ls u f v o):=pN 20 [] 6 27 (.k 1 y (.c B (.k 8 b (.c z (.k 2 b (.c c (.n 4 (.a (jR [.bool,.str,.str,.int .i64] i rfl) (.c F (.c D (.k 4 b (.c c (.k 2 b (.c c (.n 4 (.a (jR [.bool,.str,.str,.int .i64] h rfl) (.c L (.c C (.k 4 b (.c c (.k 2 b (.c c (.n 3 (.a (jR [.bool,.str,.str,.int .i64] m rfl) (.c M (.c r (.k 4 b (.c c (.k 2 b (.c c (.c s .nil))))))))))))))))))))))))))))))) (.v 23 (.eq w) (.b 55 t (.c J (.v 49 (.ppt O) (.v 27 (.ppt d) (.v 43 (.rd [.bool,.str,.str,.int .i64] i rfl) (.v 37 (.ppt d) (.v 27 (.ppt d) (.v 43 (.rd [.bool,.str,.str,.int .i64] h rfl) (.v 37 (.ppt d) (.v 27 (.ppt d) (.v 43 (.rd [.bool,.str,.str,.int .i64] m rfl) (.v 37 (.ppt d) (.v 27 (.ppt d) .nil)))))))))))))) P
theorem aiA (d c ne:Bool) (e:List Nd) (A:List (List Nat)) (b:List Oq) (ls:List Lk) (a:List Sc) (f:CO 56 [.sl (aO e) e.length ne] (.ret (.tup [.sl (dM A) A.length true,.bool true]))) (g:aK prog ap [] 57 (.block 0 (.loop (af 0 (ah f20)))) ⟨[(0,.sl (aO e) e.length ne),(1,.agg (Va2 ls d a c)),(3,.ptr 0 0 0),(4,.nilS),(5,.sl (dM A) A.length true),(6,.bool true),(7,.nilS),(8,ω 0),(9,.dead),(10,.dead),(17,.bool false),(21,.dead),(30,.dead)],[(0,(VaA ls d a c))],.dead,[]⟩ (.normal) ⟨[(7,.ref 0 0 0 b.length)],[(0,⟨(dI b),0,false,0,4,true⟩)],.dead,[]⟩):CO 20 (Vbt e ne ls d a c) (.ret (.own (κ (b.length*4) (dI b)) b.length 4)):=pK [0] 1 0 (.n 1 .nil) (.l g (.c f .nil))
theorem ant (o:Oq) (d c ne:Bool) (k:Nat) (e:List Nd) (a:List Oq) (ls:List Lk) (b:List Sc) (m:List AV) (f:VaE k a o m) (h:ω (γ .i64 ((a.length:Int) - ((1:Nat):Int)))=ω (k:Int)) (i:Va4 k) (l:Van k a) (g:lit false ((a.length:Int)==((0:Nat):Int))=true) (j:CO 20 (Vbt e ne ls d b c) (VbN a)):CO 22 (Vbt e ne ls d b c) (Va1 o):=pK [] 1 0 (.n 5 (.a (jR [.bool,.str,.str,.int .i64] f rfl) (.c i (.c l (.c g (.n 2 .nil)))))) (.v 18 (.rd [.bool,.str,.str,.int .i64] f rfl) (.v 16 (.eq h) (.c j .nil)))
theorem v_:CO 48 [ω 0] (.ret (Ω false [] [1])):=kZ vZ (by kernel_rfl)
theorem VB (E:fH) (j k m:Bool) (D:E.r33) (y:Nd) (K:y.sm) {ar:List Ro} (w:di (gq ar.length++ [y])=0) (C:∀ x ∈ ar,x.e=0->x.a.length<2^33/\x.d.length<2^33):
  CO 16 [.agg (lI y),.sl (yN ar) ar.length m,tX E j k] (.ret (fD (nN E y (ar.map BX)))):=by
 have A:∀ x ∈ gq ar.length++ [y],x.sm:=λx G=>(List.mem_append.1 G).elim (SV _ x) (λh=>by rw [Xx6] at h;exact h ▸ K)
 have f:=Jt (gq ar.length++ [y]) true A;have st:∀ x ∈ ar,CO 49 [.agg [.bool x.n,.str x.a,.str x.d,ω x.e]] (.ret (fD (BX x))):=λx G=>yO x.n x.a x.d x.e (C x G)
 have ok:∀ x:Ro,(BX x).ok:=λx=>Ar _ _ _ _
 have zT:∀ o:Oq,o.e=0->lit false (!(o.e==((0:Nat):Int)))=true:=λo h=>by rw [h];rfl
 have B:∀ o:Oq,¬ o.e=0->lit true (!(o.e==((0:Nat):Int)))=true:=λo h=>by rw [show (o.e==((0:Nat):Int))=false from beq_eq_false_iff_ne.2 h];rfl
 have i:∀ {p:Prop} [Decidable p],¬ p->lit false (decide p)=true:=λh=>aB (Yq1 h)
 rw [w] at f;have I:=(jL w).1 y (by simp);obtain ⟨R,v⟩:=sZ I;have t:=LM I;have d:=ae1 w;have Q:=yj y.op;have n:lit false (!((0:Int)==((0:Nat):Int)))=true:=rfl
 match ar,f,st,d with
 | [],f,st,d=>
  have J:y.op<=8:=by
   unfold dh at d;split at d
   .cases d
   .split at d
    .cases d
    .split at d
     .cases d
     .omega
  unfold nN;by_cases h4:y.op<=4
  .rw [if_pos h4];exact aim y _ j k m 0 _ _ (aA (Yq0 h4)) n f (Zb _ _ _ K)
  .rw [if_neg h4,if_pos J];exact ain y _ j k m 0 _ _ (aA (Yq0 J)) (i h4) n f (QC y.op y.name E.ls (E.qs.map Sq.c) j k D.ls D.lk)
 | [a],f,st,d=>
  have F:20<=y.op:=by
   unfold dh at d;split at d
   .cases d
   .split at d
    .cases d
    .split at d
     .omega
     .cases d
  have g:lit false (y.op==((15:Nat):Int))=true:=by rw [show (y.op==((15:Nat):Int))=false from beq_eq_false_iff_ne.2 (by omega)];rfl
  have l:=st a (by simp);unfold nN;rw [if_neg (by omega),if_neg (by omega)];show CO 16 _ (.ret (fD (if (BX a).e=0 then _ else _)));by_cases za:(BX a).e=0
  .rw [if_pos za];obtain ⟨q,e,s,z⟩:=AU (ok a) za;rw [e] at l ⊢;exact aip y a _ (.val q) j k m 0 _ _ rfl g (i (by omega)) (i (by omega)) n v_ l f (QD E y j k ⟨F,v⟩ t s z D)
  .rw [if_neg za];exact aio y a _ j k m 0 _ _ (B _ za) g (i (by omega)) (i (by omega)) n v_ l f
 | [a,b],f,st,d=>
  have M:(9<=y.op/\y.op<=14)\/(16<=y.op/\y.op<=19):=by
   unfold dh at d;split at d
   .cases d
   .split at d
    .omega
    .split at d<;>cases d
  have g:lit false (y.op==((15:Nat):Int))=true:=by rw [show (y.op==((15:Nat):Int))=false from beq_eq_false_iff_ne.2 (by omega)];rfl
  have l:=st a (by simp);have r:=st b (by simp);unfold nN;rw [if_neg (by omega),if_neg (by omega)];show CO 16 _ (.ret (fD (if (BX a).e=0 then (if (BX b).e=0 then _ else _) else _)));by_cases za:(BX a).e=0
  .rw [if_pos za];by_cases zb:(BX b).e=0
   .rw [if_pos zb];obtain ⟨p,L,N,O⟩:=AU (ok a) za;obtain ⟨q,eq,s,z⟩:=AU (ok b) zb;rw [L] at l ⊢;rw [eq] at r ⊢;exact ais y a b _ (.val p) (.val q) j k m 0 _ _ rfl rfl g (i (by omega)) (i (by omega)) n v_ l v_ r f (Zh M N s O z)
   .rw [if_neg zb];exact air y a b _ _ j k m 0 _ _ (B _ zb) (zT _ za) g (i (by omega)) (i (by omega)) n v_ l v_ r f
  .rw [if_neg za];exact aiq y a b _ _ j k m 0 _ _ (B _ za) g (i (by omega)) (i (by omega)) n v_ l v_ r f
 | [a,b,c],f,st,d=>
  have u:y.op=15:=by
   unfold dh at d;split at d
   .assumption
   .split at d
    .cases d
    .split at d<;>cases d
  have l:=st a (by simp);have r:=st b (by simp);have P:=st c (by simp);unfold nN;rw [if_neg (by omega),if_neg (by omega)];exact ait y a b c _ _ _ _ j k m 0 _ _ (aA (by rw [u];rfl)) (i (by omega)) (i (by omega)) n v_ l v_ r v_ P f (Qz _ _ _ true)
 |_::_::_::_::_,f,st,d=>simp only [ν] at d;omega
theorem WP {y:Nd} {k:Nat} (a:aJ y=0) (b:k=dh y.op):di (gq k++ [y])=0:=by
 have c:=yj y.op;unfold di;rw [if_neg (by simp [gq];omega),ER];simp only [iV];rw [if_pos a,if_neg (by omega)];simp only;rw [if_pos (by omega)]
theorem adl {E:fH} (g:E.r33) (d b a:Bool) {y:Nd} (f:aJ y=0) (j:y.sm) {l:List Oq} (e:l.length=dh y.op) (c:∀ o ∈ l,o.ok):
  CO 16 [.agg (lI y),.sl (dI l) l.length a,tX E d b] (.ret (fD (nN E y l))):=by
 have h:=VB E d b a g y j (ar:=l.map VU) (WP f (by rw [Xxc];exact e)) (by
  intro x i _;obtain ⟨o,k,rfl⟩:=List.mem_map.1 i;have:=ahy (c o k);exact ⟨Xqj this.1 (by decide),Xqj this.2 (by decide)⟩)
 rw [ai3,ZV c,Xxc] at h;exact h
def rtO (os:List Oq):AV:=match os with| []=> .nilS|_::_=> .ref 1 0 0 os.length
def rtB (os:List Oq):Hp:=match os with| []=> []|_::_=> [(1,⟨dI os,0,false,0,4,true⟩)]
abbrev rtS (E:fH) (nl ns ne:Bool) (e:List Nd) (A:List (List Nat)) (os:List Oq):St:=⟨[(0,.sl (aO e) e.length ne),(3,.ptr 0 0 0),(5,.sl (dM A) A.length true),(7,rtO os),(8,ω (os.length:Int))],[(0,⟨[.sl (dK E.ls) E.ls.length nl,.sl (dL (E.qs.map Sq.c)) (E.qs.map Sq.c).length ns],0,false,0,0,true⟩)]++rtB os,.dead,[]⟩
def rtE (os:List Oq):St:=match os with| []=> ⟨[(7,.nilS)],[],.dead,[]⟩|_::_=> ⟨[(7,.ref 0 0 0 os.length)],[(0,⟨dI os,0,false,0,4,true⟩)],.dead,[]⟩
theorem Zl (E:fH) (d c ne:Bool) (e:List Nd) (A:List (List Nat)) (b:List Oq) (o:Oq):rtS E d c ne e A (b++ [o])=⟨[(0,.sl (aO e) e.length ne),(3,.ptr 0 0 0),(5,.sl (dM A) A.length true),(7,.ref 1 0 0 (b.length+1)),(8,ω ((b.length+1:Nat):Int))],[(0,⟨[.sl (dK E.ls) E.ls.length d,.sl (dL (E.qs.map Sq.c)) (E.qs.map Sq.c).length c],0,false,0,0,true⟩),(1,⟨dI (b++ [o]),0,false,0,4,true⟩)],.dead,[]⟩:=by
 cases b with
 |nil=>rfl
 |cons a r=>
  show (⟨[(0,_),(3,_),(5,_),(7,.ref 1 0 0 (a::r++ [o]).length),(8,ω (((a::r++ [o]).length:Nat):Int))],_,_,_⟩:St)=_;rw [show (a::r++ [o]).length=(a::r).length+1 from List.length_append];rfl
theorem GX (E:fH) (d c ne:Bool) (e:List Nd) (A:List (List Nat)) {b:List Oq} (h:0<b.length):rtS E d c ne e A b=⟨[(0,.sl (aO e) e.length ne),(3,.ptr 0 0 0),(5,.sl (dM A) A.length true),(7,.ref 1 0 0 b.length),(8,ω (b.length:Int))],[(0,⟨[.sl (dK E.ls) E.ls.length d,.sl (dL (E.qs.map Sq.c)) (E.qs.map Sq.c).length c],0,false,0,0,true⟩),(1,⟨dI b,0,false,0,4,true⟩)],.dead,[]⟩:=by
 cases b with
 |nil=>simp at h
 |cons a r=>rfl
theorem Pq {A:List (List Nat)} {k:Nat} (h:k<A.length):ε (δ (k:Int)*1) (dM A)= [Po (A.getD k [])]++dM (A.drop (k+1)):=by
 unfold dM;rw [aC,Nat.mul_one,<- List.map_drop,List.drop_eq_getElem_cons h,ξ,π h];rfl
theorem adw {nt:Nat} (C:57<=nt) (E:fH) (v w ne:Bool) {e:List Nd} (hE:E.r33) (X:di e=0) (S:∀ x ∈ e,x.sm):∀ (r p:List Nd) (b:List Oq),e=p++r->b.length=p.length->(∀ o ∈ b,o.ok)->
  az prog ap [] nt (af 0 (ah f20)) (λ_=> .exit 0) (rtS E v w ne e (bJ e)) rtE b (trF E (bJ e) r b):=by
 obtain ⟨Z,h60,V⟩:=jL X;obtain ⟨hal,T⟩:=tH X;intro r
 induction r with
 |nil=>
  intro p b hp m B;rw [Δ] at hp;subst hp;cases b with
  |nil=>exact .done (ady v w ne 0 e (bJ e) E.ls (E.qs.map Sq.c) C (aB (Yq1 (by simp at m;omega))))
  |cons a r=>exact .done (aiw v w ne (a::r).length e (bJ e) (a::r) E.ls (E.qs.map Sq.c) C (aB (Yq1 (by omega))))
 | cons x r ih=>
  intro p b hp m B;have J:b.length<e.length:=by rw [hp,m];simp
  have L:e[b.length]=x:=by subst hp;simp [m]
  have K:x ∈ e:=by rw [<- L];exact Xxp J
  have M:ε (δ (b.length:Int)*5) (aO e)=lI x++aO r:=by subst hp;exact wZ m
  obtain ⟨c,d⟩:=T b.length x (by rw [π J,L]);have G:=Pq (A:=bJ e) (k:=b.length) (by omega);have u:=λ(nn:Bool) (l:List Oq) (U:l.length=dh x.op) (hk:∀ o ∈ l,o.ok)=>adl hE v w nn (Z x K) (S x K) U hk
  have D:∀ j,(b.getD j zO).ok\/b.length<=j:=λj=>by
   rcases Xq2 j b.length with h|h
   .left;rw [ξ,π h];exact B _ (Xxp h)
   .exact .inr h
  have f:∀ j ∈ (bJ e).getD b.length [],(b.getD j zO).ok:=λj Q=>(D j).resolve_right (by have:=d j Q;omega)
  have N:∀ l:List Nat,(∀ j ∈ l,(b.getD j zO).ok)->∀ o ∈ b++ [nN E x (l.map λj=>b.getD j zO)],o.ok:=λl U o y=>by
   rcases List.mem_append.1 y with y|y
   .exact B o y
   .rw [Xx6] at y;subst y;exact NT λo y=>by
     obtain ⟨j,Q,rfl⟩:=List.mem_map.1 y;exact U j Q
  have nx:=ih (p++ [x]) (b++ [nN E x (((bJ e).getD b.length []).map λj=>b.getD j zO)]) (by rw [hp];simp) (by simp [m]) (N _ f);refine .next ?_ nx
  rw [Zl];have F:decide (((0:Nat):Int)<=(b.length:Int))=true:=Yq0 (by omega);have I:decide ((b.length:Int)<(((bJ e).length:Nat):Int))=true:=Yq0 (by omega);have t:decide ((b.length:Int)<(e.length:Int))=true:=Yq0 (by omega);have s:=xE (i:=b.length) (by omega);have O:Φ (b.length+1) 1099511627776=true:=Xqe (by omega);have P:Φ (b.length*4) (ζ (dI b))=true:=Xqe (by rw [oD];exact χ _);have g:∀ j,j<b.length->decide (((0:Nat):Int)<=(j:Int))=true/\decide ((j:Int)<(b.length:Int))=true:=λj Q=> ⟨Yq0 (by omega),Yq0 (by omega)⟩
  generalize (bJ e).getD b.length []=al at*
  have h3:=yj x.op
  match al,c with
  | [],c=>
   have Y:=(u false [] c (by simp)).args (eG.cons (aU.refl _) (eG.cons (aU.nilS false rfl) (eG.cons (aU.refl _) (eG.refl _))));cases b with
   |nil=>exact adx x _ v w ne 0 e (bJ e) E.ls (E.qs.map Sq.c) _ _ C M G s F t I (aA t) Y
   |cons a q=>exact aiv x _ v w ne _ e (bJ e) (a::q) E.ls (E.qs.map Sq.c) _ _ C M G (lL _ _) s O P F t I (aA t) Y
  | [i],c=>
   have n:=d i (by simp);rw [GX _ _ _ _ _ _ (by omega)];exact aix x _ (b.getD i zO) v w ne _ i e (bJ e) b E.ls (E.qs.map Sq.c) _ _ _ C M G (iC n) (lL _ _) s O P F t I (g i n).1 (g i n).2 (aA t) (u true [b.getD i zO] c (by simpa using f i (by simp)))
  | [i,j],c=>
   have n:=d i (by simp);have z:=d j (by simp);rw [GX _ _ _ _ _ _ (by omega)];exact aiy x _ (b.getD i zO) (b.getD j zO) v w ne _ i j e (bJ e) b E.ls (E.qs.map Sq.c) _ _ _ _ C M G (iC n) (iC z) (lL _ _) s O P F t I (g j z).1 (g j z).2 (g i n).1 (g i n).2 (aA t) (u true [b.getD i zO,b.getD j zO] c (by
    intro o m;simp at m;rcases m with rfl|rfl
    .exact f i (by simp)
    .exact f j (by simp)))
  | [i,j,h],c=>
   have n:=d i (by simp);have z:=d j (by simp);have R:=d h (by simp);rw [GX _ _ _ _ _ _ (by omega)];exact aiz x _ (b.getD i zO) (b.getD j zO) (b.getD h zO) v w ne _ i j h e (bJ e) b E.ls (E.qs.map Sq.c) _ _ _ _ _ C M G (iC n) (iC z) (iC R) (lL _ _) s O P F t I (g h R).1 (g h R).2 (g j z).1 (g j z).2 (g i n).1 (g i n).2 (aA t) (u true [b.getD i zO,b.getD j zO,b.getD h zO] c (by
    intro o m;simp at m;rcases m with rfl|rfl|rfl
    .exact f i (by simp)
    .exact f j (by simp)
    .exact f h (by simp)))
  |_::_::_::_::_,c=>simp only [ν] at c;omega
theorem xq (E:fH) (c b ne:Bool) {e:List Nd} (k:E.r33) (f:di e=0) (d:∀ x ∈ e,x.sm):CO 20 [.sl (aO e) e.length ne,tX E c b] (.ret (.own (dI (bP E e)) (bP E e).length 4)):=by
 have i:(bP E e).length=e.length:=by unfold bP;rw [xy];simp
 have j:=(jL f).2.2;have g:=(tH f).1;have l:∀ nt,57<=nt->az prog ap [] nt (af 0 (ah f20)) (λ_=> .exit 0) (rtS E c b ne e (bJ e)) rtE [] (bP E e):=λnt n=>adw n E c b ne k f d e [] [] rfl rfl (by simp)
 have o:CO 56 [.sl (aO e) e.length ne] (.ret (.tup [.sl (dM (bJ e)) (bJ e).length true,.bool true])):=by rw [g];exact Y6 e ne d f
 have m:=az.blk (id:=0) (e':= .normal) (s:=⟨[(0,.sl (aO e) e.length ne),(1,tX E c b),(3,.ptr 0 0 0),(4,.nilS),(5,.sl (dM (bJ e)) (bJ e).length true),(6,.bool true),(7,.nilS),(8,ω 0),(9,.dead),(10,.dead),(17,.bool false),(21,.dead),(30,.dead)],[(0,⟨[.sl (dK E.ls) E.ls.length c,.sl (dL (E.qs.map Sq.c)) (E.qs.map Sq.c).length b],0,false,0,0,true⟩)],.dead,[]⟩) (s':=⟨[(7,.ref 0 0 0 (bP E e).length)],[(0,⟨dI (bP E e),0,false,0,4,true⟩)],.dead,[]⟩) l (by simp) rfl (aN.of ⟨rfl,rfl,rfl,rfl,rfl,trivial⟩) (by
  generalize bP E e=t at i;cases t with
  |nil=>simp at i;omega
  |cons a r=>exact aN.refl _)
 have h:=aiA c b ne e (bJ e) (bP E e) E.ls (E.qs.map Sq.c) o m;rw [ο (by rw [oD];exact χ _)] at h;exact h
theorem GV (E:fH) (d b ne:Bool) {e:List Nd} (h:E.r33) (c:di e=0) (a:∀ x ∈ e,x.sm):CO 22 [.sl (aO e) e.length ne,tX E d b] (.ret (fD (Fb E e))):=by
 unfold Fb;rw [if_pos c];have j:=xq E d b ne h c a;have l:(bP E e).length=e.length:=by unfold bP;rw [xy];simp
 obtain ⟨_,i,f⟩:=jL c;have g:(bP E e).length - 1<(bP E e).length:=by omega
 have hd:=iC g;have k:(bP E e).getLastD (.err 11)=(bP E e).getD ((bP E e).length - 1) zO:=by
  rw [List.getLastD_eq_getLast?,List.getLast?_eq_getElem?,ξ,π g];rfl
 rw [k];generalize bP E e=t at*
 exact ant _ d b ne (t.length - 1) e t E.ls (E.qs.map Sq.c) _ hd (by
  congr 1;rw [show (t.length:Int) - ((1:Nat):Int)=((t.length - 1:Nat):Int) by omega];exact aS (by omega)) (Yq0 (by omega)) (Yq0 (by omega)) (by rw [show ((t.length:Int)==((0:Nat):Int))=false from beq_eq_false_iff_ne.2 (by omega)];rfl) j
abbrev lcR (E:fH) (i:Nat):List AV:=κ ((0+E.ls.length)*6) (κ (((0+(δ (i:Int)))*6)+1) ([]++(dK E.ls))++ [.str zcc5_0]++ε ((((0+(δ (i:Int)))*6)+1)+1) ([]++(dK E.ls)))
abbrev qcR (E:fH) (j:Nat):List AV:=κ ((0+(E.qs.map Sq.c).length)*4) (κ (((0+(δ (j:Int)))*4)+0) ([]++(dL (E.qs.map Sq.c)))++ [.str zcc5_0]++ε ((((0+(δ (j:Int)))*4)+0)+1) ([]++(dL (E.qs.map Sq.c))))
abbrev VaJ (a:List Nd) (b:fH) (c:Nat) (d:Nat):List AV:=[.sl (κ (a.length*5) (aO a)) a.length true,.agg [.sl (lcR b c) (0+b.ls.length) true,.sl (qcR b d) (0+(b.qs.map Sq.c).length) true]]
abbrev Vbg (a:List Oq):Prop:=CO 18 [.sl (κ (a.length*4) (dI a)) a.length true,.sl (κ (a.length*4) (dI a)) a.length true] VaC
abbrev Vbp (a:List Nd):List AV:=[.sl (κ (a.length*5) (aO a)) a.length true,.agg [.nilS,.nilS]]
abbrev VbL (a:List Nd) (b:fH):List AV:=[.sl (κ (a.length*5) (aO a)) a.length true,tX b true true]
theorem aoI (g h:List Int) (q m0 A:Int) (e:List Nd) (E:fH) (i j:Nat) (b c a f:List Oq) (v0 v1 d:Oq) (X:ω (Xxd (γ .i64 m0) (((0+E.ls.length):Nat):Int))=ω (i:Int)) (U:ω (Xxd (γ .i64 A) (((0+(E.qs.map Sq.c).length):Nat):Int))=ω (j:Int)) (D:(decide (((0:Nat):Int)<=(γ .i64 ((e.length:Int) - ((1:Nat):Int)))))=true) (I:(decide ((γ .i64 ((e.length:Int) - ((1:Nat):Int)))<=(e.length:Int)))=true) (B:lit false (!((d.n==d.n) && ((d.a==d.a) && ((d.d==d.d) && ((d.e==d.e) && true)))))=true) (F:lit false (!((v1.n==v1.n) && ((v1.a==v1.a) && ((v1.d==v1.d) && ((v1.e==v1.e) && true)))))=true) (G:lit false (!((v0.n==v0.n) && ((v0.a==v0.a) && ((v0.d==v0.d) && ((v0.e==v0.e) && true)))))=true) (M:(Φ ((((0+(δ (j:Int)))*4)+0)+1) (ζ ([]++(dL (E.qs.map Sq.c)))))=true) (L:Va4 j) (Q:(decide ((j:Int)<(((0+(E.qs.map Sq.c).length):Nat):Int)))=true) (J:(!((((0+(E.qs.map Sq.c).length):Nat):Int)==((0:Nat):Int)))=true) (S:(Xqn (ζ (dL (E.qs.map Sq.c))) ((E.qs.map Sq.c).length*4))=true) (n:(Φ (0+(E.qs.map Sq.c).length) 1099511627776)=true) (r:(Φ ((((0+(δ (i:Int)))*6)+1)+1) (ζ ([]++(dK E.ls))))=true) (v:Va4 i) (z:(decide ((i:Int)<(((0+E.ls.length):Nat):Int)))=true) (k:(!((((0+E.ls.length):Nat):Int)==((0:Nat):Int)))=true) (m:(Xqn (ζ (dK E.ls)) (E.ls.length*6))=true) (t:(Φ (0+E.ls.length) 1099511627776)=true) (O:CO 13 [] VaC) (K:CO 23 [.agg [.sl (iL g) g.length false,.sl (iL h) h.length false],.int .u8 q,.bool true] (.ret (.tup [.own (aO e) e.length 5,tX E true true]))) (N:CO 19 (VbL e E) (VbN b)) (T:CO 20 (VbL e E) (VbN b)) (P:Vbg b) (V:CO 21 (VbL e E) (Va1 v0)) (C:CO 22 (VbL e E) (Va1 v0)) (Y:CO 19 (VaJ e E i j) (VbN c)) (R:CO 20 (VaJ e E i j) (VbN c)) (Z:Vbg c) (s:CO 21 (VaJ e E i j) (Va1 v1)) (o:CO 22 (VaJ e E i j) (Va1 v1)) (u:CO 19 (Vbp e) (VbN a)) (p:CO 20 (Vbp e) (VbN a)) (y:Vbg a) (x:CO 21 (Vbp e) (Va1 d)) (l:CO 22 (Vbp e) (Va1 d)) (w:CO 19 [.sl (κ (((δ (γ .i64 ((e.length:Int) - ((1:Nat):Int)))) - 0)*5) (aO e)) ((δ (γ .i64 ((e.length:Int) - ((1:Nat):Int)))) - 0) true,tX E true true] (.ret (.sl (dI f) f.length false))):CO 5 [.agg [.sl (iL g) g.length false,.sl (iL h) h.length false],.int .u8 q,.agg [.int .u8 m0,.int .u8 A]] (.ret (.bool (decide ((f.length:Int)<=(γ .i64 ((e.length:Int) - ((1:Nat):Int))))))):=pK [] 11 1097 (.k 3 D (.c I (.k 2 B (.k 15 F (.k 15 G (.k 19 M (.c L (.c Q (.c J (.k 6 S (.c n (.k 3 r (.c v (.c z (.c k (.k 6 m (.c t (.n 9 .nil)))))))))))))))))) (.c w (.c l (.c x (.c y (.c p (.c u (.c o (.c s (.c Z (.c R (.c Y (.c C (.c V (.c P (.c T (.c N (.v 50 (.eq U) (.v 34 (.eq X) (.c K (.c O .nil))))))))))))))))))))
def KU:List UInt8:= zcc5_0
def wC (l:List Lk) (i:Nat):List Lk:=match l[i]? with|some x=>l.set i {x with nm:=KU}|none=>l
def wF (l:List Sq) (i:Nat):List Sq:=match l[i]? with|some x=>l.set i {x with nm:=KU}|none=>l
theorem XT {α:Type} (f:α->List AV) (n o:Nat) (a:∀ x,(f x).length=n) (p:o<n) {l:List α} {i:Nat} (k:i<l.length) {y:α} {v:AV} (h:f y=κ o (f l[i])++ [v]++ε (o+1) (f l[i])):
  κ (l.length*n) (κ (i*n+o) (l.flatMap f)++ [v]++ε (i*n+o+1) (l.flatMap f))=(l.set i y).flatMap f:=by
 have b:l=l.take i++l[i]::l.drop (i+1):=by simp
 have e:((l.take i).flatMap f).length=i*n:=by rw [lD f n a,Xq4,Xjc (by omega)]
 have m:=a l[i];have j:l.flatMap f=(l.take i).flatMap f++(f l[i]++(l.drop (i+1)).flatMap f):=by
  conv=>lhs;rw [b]
  rw [Xq9,Xxk]
 have d:(l.set i y).flatMap f=(l.take i).flatMap f++(f y++(l.drop (i+1)).flatMap f):=by
  rw [List.set_eq_take_append_cons_drop,if_pos k,Xq9,Xxk]
 have c:((l.set i y).flatMap f).length=l.length*n:=by rw [lD f n a,Xwk]
 have g:κ (i*n+o) (l.flatMap f)++ [v]++ε (i*n+o+1) (l.flatMap f)=(l.set i y).flatMap f:=by
  rw [j,d,h];generalize (l.take i).flatMap f=P at*
  generalize (l.drop (i+1)).flatMap f=Q at*
  generalize f l[i]=F at*
  rw [<- e,Xw8,ο (by omega),show P.length+o - P.length=o by omega,Xw8,show o - F.length=0 by omega,Xw0,Δ];rw [show P.length+o+1=P.length+(o+1) by omega,Xzh,List.drop_of_length_le (by omega),show P.length+(o+1) - P.length=o+1 by omega,Xzh,show o+1 - F.length=0 by omega,List.drop_zero,Xqi];simp only [List.append_assoc]
 rw [g,ο (by omega)]
theorem adZ {l:List Lk} {i:Nat} (a:i<l.length):κ ((0+l.length)*6) (κ (((0+(δ (i:Int)))*6)+1) ([]++(dK l))++ [.str zcc5_0]++ε ((((0+(δ (i:Int)))*6)+1)+1) ([]++(dK l)))=dK (wC l i):=by
 rw [aC,Ψ,Ψ,Xqi];unfold wC;rw [π a];exact XT U3 6 1 (λ_=>rfl) (by omega) a rfl
theorem ad1 {l:List Sq} {i:Nat} (a:i<l.length):κ ((0+(l.map Sq.c).length)*4) (κ (((0+(δ (i:Int)))*4)+0) ([]++(dL (l.map Sq.c)))++ [.str zcc5_0]++ε ((((0+(δ (i:Int)))*4)+0)+1) ([]++(dL (l.map Sq.c))))=dL ((wF l i).map Sq.c):=by
 rw [aC,Ψ,Ψ,Xqi];unfold wF;rw [π a];show _=dL ((l.set i _).map Sq.c);rw [List.map_set];exact XT OB 4 0 (λ_=>rfl) (by omega) (l:=l.map Sq.c) (i:=i) (by rw [Xxc];exact a) (by rw [List.getElem_map];rfl)
theorem Cb (l:List Lk) (i:Nat):(wC l i).length=l.length:=by
 unfold wC;split
 .exact Xwk ..
 .rfl
theorem Cc (l:List Sq) (i:Nat):(wF l i).length=l.length:=by
 unfold wF;split
 .exact Xwk ..
 .rfl
theorem JB {l:List Lk} {i:Nat} {P:Lk->Prop} (h:∀ x ∈ l,P x) (b:∀ x,P x->P {x with nm:=KU}):∀ x ∈ wC l i,P x:=by
 unfold wC;split
 .rename_i y c;intro x a;rcases Xvu a with a|rfl
  .exact h x a
  .exact b y (h y (Xql c))
 .exact h
theorem JC {l:List Sq} {i:Nat} {P:Sq->Prop} (h:∀ x ∈ l,P x) (b:∀ x,P x->P {x with nm:=KU}):∀ x ∈ wF l i,P x:=by
 unfold wF;split
 .rename_i y c;intro x a;rcases Xvu a with a|rfl
  .exact h x a
  .exact b y (h y (Xql c))
 .exact h
theorem Wi.r33 {e:Bool} {E:fH} (h:Wi e E):E.r33 where
 ls:=h.sm.ls
 qs:=h.sm.qs
 lk x hx h0:=by
  obtain ⟨s,_,_,_,g⟩:=h.lk.get x hx;obtain ⟨q,f,i,a,_⟩:=g.vl h0;unfold lkV xK at a;rw [if_pos h0] at a;split at a
  .rename_i c;obtain ⟨b,d⟩:=nK c;have:=a_ d;rw [(iw b).1,(iw b).2] at this;exact ⟨Xqj this.1 (by decide),Xqj this.2 (by decide)⟩
  .cases a
 sq:=h.sm.sq
def qK (E:fH) (i j:Nat):fH:=⟨wC E.ls i,wF E.qs j⟩
theorem Yh {E:fH} {i j:Nat} (h:E.sm):(qK E i j).sm where
 ls:=by show (wC _ _).length<_;rw [Cb];exact h.ls
 qs:=by show (wF _ _).length<_;rw [Cc];exact h.qs
 lk:=JB (P:=λx=>x.a.length<2^36/\x.d.length<2^36) h.lk λ_ h=>h
 sq:=JC (P:=λs=>s.l.length<2^40/\∀ b ∈ s.l,b.s28) h.sq λ_ h=>h
theorem UY {E:fH} {i j:Nat} (h:E.r33):(qK E i j).r33 where
 ls:=by show (wC _ _).length<_;rw [Cb];exact h.ls
 qs:=by show (wF _ _).length<_;rw [Cc];exact h.qs
 lk:=JB (P:=λx=>x.e=0->x.a.length<2^33/\x.d.length<2^33) h.lk λ_ h=>h
 sq:=JC (P:=λs=>s.l.length<2^40/\∀ b ∈ s.l,b.s28) h.sq λ_ h=>h
def noE:fH:=⟨[],[]⟩
theorem Yz:noE.sm:=⟨by decide,by decide,λ_ h=>(by cases h),λ_ h=>(by cases h)⟩
theorem SQ:noE.r33:=⟨by decide,by decide,λ_ h=>(by cases h),λ_ h=>(by cases h)⟩
theorem alO:eG [.agg [.nilS,.nilS]] [tX noE false false]:=eG.cons (aU.agg (eG.cons (aU.nilS false rfl) (eG.cons (aU.nilS false rfl) (eG.refl _)))) (eG.refl _)
theorem ahc {E:fH} {i j:Nat} (b:i<E.ls.length) (a:j<E.qs.length):AV.agg [.sl (lcR E i) (0+E.ls.length) true,.sl (qcR E j) (0+(E.qs.map Sq.c).length) true]=tX (qK E i j) true true:=by
 unfold lcR qcR;rw [adZ b,ad1 a,Ψ,Ψ];show _=AV.agg [.sl (dK (wC E.ls i)) (wC E.ls i).length true,.sl (dL ((wF E.qs j).map Sq.c)) ((wF E.qs j).map Sq.c).length true];rw [Cb,Xxc,Xxc,Cc]
theorem acp (e:List Nd) (k:Nat):aO (e.take k)=κ (k*5) (aO e):=by
 rcases Xq2 k e.length with h|h
 .have a:aO e=(e.take k).flatMap lI++(e.drop k).flatMap lI:=by rw [<- Xq9,List.take_append_drop];rfl
  have b:((e.take k).flatMap lI).length=k*5:=by rw [lD lI 5 (λ_=>rfl),Xq4,Xjc (by omega)]
  rw [a];show (e.take k).flatMap lI=_;generalize (e.take k).flatMap lI=P at*
  generalize (e.drop k).flatMap lI=Q at*
  rw [Xw8,ο (by omega),show k*5 - P.length=0 by omega,Xw0,Δ]
 .rw [ο h,ο (by rw [aQ];omega)]
theorem yA (l:List Oq) (h:l.length<2^40):CO 18 [.sl (κ (l.length*4) (dI l)) l.length true,.sl (κ (l.length*4) (dI l)) l.length true] (.ret (.bool true)):=by
 rw [ο (by rw [oD];exact χ _)];have a:=Jy l l true true h;rw [Yq0 rfl,I9] at a;exact a
theorem aeY {m:Int} {n:Nat} (a:0<=m) (b:m<256):ω (Xxd (γ .i64 m) (((0+n):Nat):Int))=ω ((m.toNat % n:Nat):Int):=by
 rw [bG (by omega) (by omega),Ψ];congr 1;obtain ⟨k,rfl⟩:=Int.eq_ofNat_of_zero_le a;rfl
theorem agI (k m:List Int) (q m0 f:Int) (ha:k.length<2^63) (T:m.length<2^63) (D:0<=m0/\m0<256) (L:0<=f/\f<256):
  CO 5 [.agg [.sl (iL k) k.length false,.sl (iL m) m.length false],.int .u8 q,.agg [.int .u8 m0,.int .u8 f]] (.ret (.bool true)):=by
 obtain ⟨t,X,ck⟩:=ag8 (γ .i64 q);obtain ⟨e,a,V⟩:=Xd q t X k ha;obtain ⟨E,u,cE⟩:=agr true true false m T;have dr:=Xg ck V cE;have v:=u.sm;have A:=u.r33;have d:=a.ck;have h13:=a.ln;have G:=a.pos;have hl:E.ls.length=10:=u.lk.len;have hq:E.qs.length=2:=u.sc.len;have hi:m0.toNat % E.ls.length<E.ls.length:=Xqy _ (by omega);have p:f.toNat % (E.qs.map Sq.c).length<(E.qs.map Sq.c).length:=Xqy _ (by rw [Xxc];omega);have hj:f.toNat % (E.qs.map Sq.c).length<E.qs.length:=by rw [Xxc] at p ⊢;exact p
 have U:=aeY (n:=E.ls.length) D.1 D.2;have Y:=aeY (n:=(E.qs.map Sq.c).length) L.1 L.2;generalize m0.toNat % E.ls.length=i at*
 generalize f.toNat % (E.qs.map Sq.c).length=j at*
 have I:=Yh (i:=i) (j:=j) v;have Q:=UY (i:=i) (j:=j) A;have g:∀ F:fH,(bP F e).length<2^40:=λF=>by rw [Ho];omega
 have K:=oL E true true true v d a.sm;have O:=xq E true true true A d a.sm;have u0:=fV E true true true (e:=e) v a.sm;have w0:=GV E true true true (e:=e) A d a.sm;have B:=oL (qK E i j) true true true I d a.sm;have w:=xq (qK E i j) true true true Q d a.sm;have u1:=fV (qK E i j) true true true (e:=e) I a.sm;have y:=GV (qK E i j) true true true (e:=e) Q d a.sm;have s:eG [.sl (aO e) e.length true,.agg [.nilS,.nilS]] [.sl (aO e) e.length true,tX noE false false]:=eG.cons (aU.refl _) alO;have R:=(oL noE false false true Yz d a.sm).args s;have M:=(xq noE false false true SQ d a.sm).args s;have u2:=(fV noE false false true (e:=e) Yz a.sm).args s;have P:=(GV noE false false true (e:=e) SQ d a.sm).args s;have N:AV.agg [.sl (dK (qK E i j).ls) (qK E i j).ls.length true,.sl (dL ((qK E i j).qs.map Sq.c)) ((qK E i j).qs.map Sq.c).length true]=_:=(ahc hi hj).symm;rw [N] at B u1;rw [show tX (qK E i j) true true=_ from N] at w y;rw [<- Iz e] at K O u0 w0 B w u1 y R M u2 P;have C:ω (γ .i64 ((e.length:Int) - ((1:Nat):Int)))= ω ((e.length - 1:Nat):Int):=by
  congr 1;exact (bG (by omega) (by omega)).trans (by omega)
 have b:γ .i64 ((e.length:Int) - ((1:Nat):Int))=((e.length - 1:Nat):Int):=by injection C
 have q0:Xqn (ζ (dK E.ls)) (E.ls.length*6)=true:=by rw [Ae];exact Xwh _
 have S:Xqn (ζ (dL (E.qs.map Sq.c))) ((E.qs.map Sq.c).length*4)=true:=by rw [Ap];exact Xwh _
 have qm:(E.qs.map Sq.c).length=2:=by rw [Xxc];exact hq
 have g0:(decide (((0:Nat):Int)<=(γ .i64 ((e.length:Int) - ((1:Nat):Int)))))=true:=by rw [b];exact Yq0 (by omega)
 have g1:(decide ((γ .i64 ((e.length:Int) - ((1:Nat):Int)))<=(e.length:Int)))=true:=by rw [b];exact Yq0 (by omega)
 have f1:(Φ ((((0+(δ (j:Int)))*4)+0)+1) (ζ ([]++(dL (E.qs.map Sq.c)))))=true:=Xqe (by rw [Xqi,Ap,aC];omega);have f2:(Φ ((((0+(δ (i:Int)))*6)+1)+1) (ζ ([]++(dK E.ls))))=true:=Xqe (by rw [Xqi,Ae,aC];omega);have J:∀ j:Nat,(decide (((0:Nat):Int)<=(j:Int)))=true:=λj=>Yq0 (by omega)
 have d1:(decide ((j:Int)<(((0+(E.qs.map Sq.c).length):Nat):Int)))=true:=Yq0 (by omega);have d2:(!((((0+(E.qs.map Sq.c).length):Nat):Int)==((0:Nat):Int)))=true:=by rw [qm];rfl
 have Z:(Φ (0+(E.qs.map Sq.c).length) 1099511627776)=true:=Xqe (by omega);have d4:(decide ((i:Int)<(((0+E.ls.length):Nat):Int)))=true:=Yq0 (by omega);have d5:(!((((0+E.ls.length):Nat):Int)==((0:Nat):Int)))=true:=by rw [hl];rfl
 have d6:(Φ (0+E.ls.length) 1099511627776)=true:=Xqe (by omega);have r:κ (((δ (γ .i64 ((e.length:Int) - ((1:Nat):Int)))) - 0)*5) (aO e)=aO (e.take (e.length - 1)):=by
  rw [b,aC,Xjq];exact (acp e _).symm
 have o:(δ (γ .i64 ((e.length:Int) - ((1:Nat):Int)))) - 0=(e.take (e.length - 1)).length:=by
  rw [b,aC,Xjq,Xq4];omega
 have l:∀ x ∈ e.take (e.length - 1),x.sm:=λx hx=>a.sm x (List.mem_of_mem_take hx)
 obtain ⟨c,hl3,z⟩:∃ c:List Oq,c.length<=e.length - 1/\CO 19 [.sl (aO (e.take (e.length - 1))) (e.take (e.length - 1)).length true,tX E true true] (.ret (.sl (dI c) c.length false)):=by
  by_cases hcc:di (e.take (e.length - 1))=0
  .have z:=aH.out (jB.ret rfl rfl (aU.sl _ _ _)) ((oL E true true true v hcc l).thaw (by simp));rw [show ∀ t:List Oq,κ (t.length*4) (dI t)=dI t from λt=>ο (by rw [oD];exact χ _)] at z;exact ⟨_,by rw [Ho,Xq4];omega,z⟩
  .exact ⟨[],Nat.zero_le _,aH.out (jB.ret rfl rfl (aU.nilS false rfl)) (I_ E true true true hcc l)⟩
 rw [<- r,<- o] at z;have h:=aoI k m q m0 f e E i j (bP E e) (bP (qK E i j) e) (bP noE e) c (Fb E e) (Fb (qK E i j) e) (Fb noE e) U Y g0 g1 (sfO _) (sfO _) (sfO _) f1 (J _) d1 d2 S Z f2 (J _) d4 d5 q0 d6 VF dr K O (yA _ (g _)) u0 w0 B w (yA _ (g _)) u1 y R M (yA _ (g _)) u2 P z;rw [Yq0 (by rw [b];omega)] at h;exact h
end Go.Proofs.Tryz
set_option maxRecDepth 100000
open Go AM Go.ChangeShapes Go.WideShapes Go.ChangeAt Go.RowKit
namespace Go.Proofs.Tryz
noncomputable def FV (t:TypeId) (d:DataW Unit):List Lit:=((nM prog 6 t d 0).getD []).map (·.2)
open Go.Proofs.YtdmfgmmooalfnaaGreatDoor
def Yd:List (String × DataW Unit):= [("unicode/utf8.acceptRanges",Rows.laid_unicode_utf8_acceptRanges),("tithing/expr.table",Rows.laid_tithing_expr_table),("unicode/utf8.first",Rows.laid_unicode_utf8_first)]
theorem U_:Yd.filter (λx=>x.2.handleName?.isSome)= []:=by kernel_rfl
theorem ak7 {W:World} (h:laidMetH prog Yd W):Wn ap W:=by
 have c (i:Nat) (n:String) (d:DataW Unit) (hm:Yd[i]? =some (n,d)) (g:Nat) (t:TypeId) (hg:prog.globalNamed n=some g) (ht:(prog.globals[g]?).map (·.type)=some t)
   (hl:nM prog 6 t d 0=some ((FV t d).zipIdx.map λ(l,i)=>(i,l))):=Qd h U_ (Xql hm) hg ht hl
 have e:=c 1 _ _ rfl 0 108 (by kernel_rfl) (by kernel_rfl) (by kernel_rfl);have b:=c 0 _ _ rfl 6 244 (by kernel_rfl) (by kernel_rfl) (by kernel_rfl);have key (k:Nat) (t:TypeId) (d:DataW Unit) (hx:(ap.gl[k]?).join=some ((FV t d).map NG)) (ho:(FV t d).all FU=true) (hc:∀ (j:Nat) (l:Lit),(FV t d)[j]? =some l->W.cell? ⟨k,j,none⟩=some (qY l)):
   ∀ xs,(ap.gl[k]?).join=some xs->∃ ls:List Lit,xs=ls.map NG/\ls.all FU=true/\∀ (j:Nat) (l:Lit),ls[j]? =some l->W.cell? ⟨k,j,none⟩=some (qY l):=by
  intro xs a;rw [hx] at a;cases a;exact ⟨_,rfl,ho,hc⟩
 intro k
 match k with
 |0=>exact key 0 _ _ (by kernel_rfl) (by kernel_rfl) e
 |1=>intro xs a;exact absurd (show (none:Option (List AV))=some xs from a) (by simp)
 |2=>intro xs a;exact absurd (show (none:Option (List AV))=some xs from a) (by simp)
 |3=>intro xs a;exact absurd (show (none:Option (List AV))=some xs from a) (by simp)
 |4=>intro xs a;exact absurd (show (none:Option (List AV))=some xs from a) (by simp)
 |5=>intro xs a;exact absurd (show (none:Option (List AV))=some xs from a) (by simp)
 |6=>exact key 6 _ _ (by kernel_rfl) (by kernel_rfl) b
 |7=>intro xs a;exact absurd (show (none:Option (List AV))=some xs from a) (by simp)
 |k+8=>
  intro xs a;have:ap.gl.length=8:=by kernel_rfl
  rw [List.getElem?_eq_none (by omega)] at a;cases a
theorem own:ownKnob prog.godebug=none:=by kernel_rfl
theorem ao0:laidOutB prog=true:=by kernel_rfl
noncomputable def aiO (t:TypeId) (d:DataW Unit):Obj->Obj
 | .cells _ t' fr=> .cells ((FV t d).map qY).toArray t' fr
 |o=>o
noncomputable def ajd (os:Os):World:=
 let w:=World.holding prog os ⟨#[],#[],[]⟩
 {w with heap:=((w.heap.modify 0 (aiO 108 Rows.laid_tithing_expr_table)).modify 5 (aiO 241 Rows.laid_unicode_utf8_first)).modify 6 (aiO 244 Rows.laid_unicode_utf8_acceptRanges)}
end Go.Proofs.Tryz
set_option maxRecDepth 100000
set_option linter.unusedVariables false
open Go AM Go.ChangeShapes Go.WideShapes Go.ChangeAt Go.RowKit
namespace Go.Proofs.Tryz
section
variable {H:Type} {enc:TypeId × Value->H} {W:World} {base:Nat}
theorem O3 {P:Program} {t e:TypeId} {b:Nat} {f g:Value} {spare:Nat->Bool} {a:Bool} {x:DataW H × List MemPlace} (k:P.underlying t=some (.array 2 e)) (d:P.cellsOf e=1)
  (h:DataW.trod enc P W base spare a b t [f,g]=some x):
  ∃ y0 y1 n,DataW.trod enc P W base spare a n e [f]=some y0/\DataW.trod enc P W base spare a n e [g]=some y1:=by
 cases b with
 |zero=>simp [DataW.trod] at h
 | succ n=>
  unfold DataW.trod at h;rw [k] at h;have j:List.range 2= [0,1]:=rfl;simp [j,d] at h;obtain ⟨_,h⟩:=h;cases c:DataW.trod enc P W base spare a n e [f] with
  |none=>simp [c] at h
  |some y0=>
   cases i:DataW.trod enc P W base spare a n e [g] with
   |none=>simp [c,i] at h
   |some y1=>exact ⟨y0,y1,n,c,i⟩
theorem ak_ {x:List Value} (h:gu [.int .i64] x):∃ a:Int,x.map tJ= [AV.int .i64 a]:=by
 rcases h with _|@⟨_,a,_,_,h⟩|_|_;cases h;exact ⟨a,rfl⟩
theorem abM (l:List Int):(l.flatMap λa=> [ω a])=iL l:=by
 induction l with
 |nil=>rfl
 |cons a r ih=>rw [Xxk,ih];rfl
theorem u45:prog.underlying 45=some (.slice 3):=by kernel_rfl
theorem YO {v:Value} {d:DataW H} {p:List MemPlace} (f:Value.okWide prog W .any base 45 v) (h:DataW.Trod enc prog W 0 (λ_=>true) true 45 v d p):
  ∃ xs:List Int,xs.length<2^63/\PR (mW W) (.sl (iL xs) xs.length false) v:=by
 obtain ⟨L0,o,b⟩:=YP (t:=45) (e:=3) (n:=4) (ks:= [.int .i64]) u45 (by kernel_rfl) (by kernel_rfl) f h;obtain ⟨xs,m,i⟩:=UQ (λa:Int=> [AV.int .i64 a]) (L:=L0) (λx q=>ak_ (o x q));rw [m,i,abM] at b;refine ⟨xs, ?_,b⟩;obtain ⟨l,len,j,rfl⟩:=okWide_slice u45 f;have g:xs.length=len:=by
  simp only [PR] at b;obtain ⟨a,c,k,_⟩:=b;cases k;rfl
 simp only [Value.okWide,u45,Cell.okWide,Cell.ok] at f;have r:IntKind.i64.max=9223372036854775807:=rfl;cases l with
 |none=>
  cases len with
  |zero=>omega
  |succ n=>simp at f
 |some a=>
  simp only at f;omega
def a2A (la lb:List Int):AV:= .agg [.sl (iL la) la.length false,.sl (iL lb) lb.length false]
theorem Rf {t:TypeId} {n:Nat} {ts:List TypeId} (b:prog.underlying t=some (.array n 45)) (a:prog.cellTypes prog.depth t=some ts) {c:Array Value} (h:Value.okWide prog W .any base t (.agg c)) {i:Nat} {u:Value} (f:ts[i % ts.length]? =some 45) (g:c[i]? =some u) {m:Nat} {y:DataW H × List MemPlace} (k:DataW.trod enc prog W 0 (λ_=>true) true m 45 [u]=some y):
  ∃ xs:List Int,xs.length<2^63/\PR (mW W) (.sl (iL xs) xs.length false) u:=by
 have d:=Vh (u:=45) (e:=3) u45 (Dq (ts:=ts) (u:=45) (.inr ⟨_,_,b⟩) a h (i:=i) (v:=u) g f);have j:=OJ (e:=3) u45 d;have b:DataW.Trod enc prog W 0 (λ_=>true) true 45 u y.1 y.2:=⟨m,by rw [j];exact k⟩
 exact YO d b
theorem ao4 {t:TypeId} (e:prog.underlying t=some (.array 2 45)) (a:prog.cellTypes prog.depth t=some [45,45]) (q:prog.cellsOf t=2) {v:Value} {d:DataW H} {p:List MemPlace} (j:Value.okWide prog W .any base t v) (h:DataW.Trod enc prog W 0 (λ_=>true) true t v d p):
  ∃ c f:List Int,c.length<2^63/\f.length<2^63/\PR (mW W) (a2A c f) v:=by
 have b:=j;simp only [Value.okWide,e] at b;obtain ⟨o,rfl,k,_⟩:=b;obtain ⟨l,h⟩:=h;obtain ⟨cl⟩:=o;have g:cl.length=2:=k.trans q
 match cl,g with
 | [u0,u1],_=>
 obtain ⟨y,z,n,w,m⟩:=O3 e (show prog.cellsOf 45=1 by kernel_rfl) h;obtain ⟨c,x,s⟩:=Rf e a j (i:=0) rfl rfl w;obtain ⟨f,u,r⟩:=Rf e a j (i:=1) rfl rfl m;refine ⟨c,f,x,u, ?_⟩;unfold a2A;rw [PR];exact ⟨[u0,u1],rfl,by rw [eY,eY,eY];exact ⟨s,r,trivial⟩⟩
theorem ao5 {v:Value} {d:DataW H} {p:List MemPlace} (g:Value.okWide prog W .any base 47 v) (h:DataW.Trod enc prog W 0 (λ_=>true) true 47 v d p):
  ∃ q0 a:Int,v= .agg #[.int .u8 q0,.int .u8 a]/\(0<=q0/\q0<256)/\(0<=a/\a<256):=by
 have b:=Vk (n:=4) (ks:= [.int .u8,.int .u8]) (by kernel_rfl) h;generalize c:v.cells.toList=c2 at b;rcases b with _|@⟨_,q0,_,_,b⟩|_|_;rcases b with _|@⟨_,a,_,_,b⟩|_|_;cases b;rw [JO c (by simp)] at g ⊢;have k:prog.underlying 5=some (.int .u8):=by kernel_rfl
 have e:∀ (i:Nat) (q:Int),(#[Value.int .u8 q0,Value.int .u8 a]:Array Value)[i]? =some (.int .u8 q)->([5,5]:List TypeId)[i % 2]? =some 5->0<=q/\q<256:=λi q l j=>by
  have f:=Dq (ts:= [5,5]) (u:=5) (.inr ⟨2,5,by kernel_rfl⟩) (by kernel_rfl) g (i:=i) (v:= .int .u8 q) l j;simp only [Cell.okWide,k,Cell.ok] at f;have h:=f.2;have o:IntKind.u8.max=255:=rfl;have m:IntKind.u8.min=0:=rfl;exact ⟨by have:=h.1;omega,by have:=h.2;omega⟩
 exact ⟨q0,a,rfl,e 0 q0 rfl rfl,e 1 a rfl rfl⟩
end
end Go.Proofs.Tryz
