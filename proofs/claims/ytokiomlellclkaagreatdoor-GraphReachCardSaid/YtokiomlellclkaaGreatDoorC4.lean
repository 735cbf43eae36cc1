/- Contracts of functions that the law reaches, each by its own hypotheses; joined by a program of mine. -/
import Derived.Test.YtokiomlellclkaaGreatDoorC3
import Derived.Test.YtokiomlellclkaaGreatDoorC2
import Derived.Test.YtokiomlellclkaaGreatDoorC1
import Derived.Test.YtokiomlellclkaaGreatDoorM4
import Derived.Test.YtokiomlellclkaaGreatDoorCards
import Derived.Test.YtokiomlellclkaaGreatDoorTie
import Derived.Deep.DeepHandedRow
import Derived.Test.YtokiomlellclkaaGreatDoorM5
import Derived.RangeFuncBox
import Derived.RangeFuncCalls
import Derived.RangeFuncLeaves
import Derived.Shelf.Abstract
import Derived.WalkKit
import Derived.OwnWalkIn
import Derived.TacticsInMore
import Derived.LoopNIn
import Derived.LoopIn
set_option linter.unusedSimpArgs false
set_option linter.unusedVariables false
set_option maxRecDepth 100000
set_option linter.unusedVariables false
open Go AM
open List renaming drop→θ,take_left'→Xq8,foldl_cons→Xqy,take_length→Xx3,take→ξ,replicate→Xqx,mem_of_getElem?→Γ,ext_getElem→Xv1,getElem?_eq_getElem→ζ,getD_eq_getElem?_getD→π,length_replicate→Xw4,getElem?_map→Ψ,length_cons→Θ,flatMap_cons→Xqg,range→Xqf,prefix_refl→Xv2,append_assoc→Ξ,prefix_append→Xz5,size_toArray→Xxe,length_nil→Xqj,push_toArray→Xzo,append_toArray→Xze,nil_append→μ,cons_append→Xqw,mem_cons→Xqu,not_mem_nil→Xxb
open Int renaming toNat→γ,toNat_natCast→Xwd
open Nat renaming le_refl→ε,zero_le→Xqp,reduceAdd→Xwk,reduceSub→Xwl
open Bool renaming true_and→Xwj,or_assoc→Xkw,or_eq_true→Xq7,and_eq_true→η
namespace Go.Proofs.Tryz
abbrev zcc4_0 : List UInt8 := [112,114,111,118,105,115,105,111,110,32,97,32,109,49,100,48,58,32,36,49,10,112,114,111,118,105,115,105,111,110,32,98,32,109,49,100,48,58,32,97,100,100,40,111,119,110,46,97,44,32,115,112,111,117,115,101,46,99,41,10,112,114,111,118,105,115,105,111,110,32,99,32,109,49,100,48,58,32,111,119,110,46,98,10,112,114,111,118,105,115,105,111,110,32,100,32,109,49,100,48,58,32,111,119,110,46,100,10]
abbrev zcc4_1 : List UInt8 := [112,114,111,118,105,115,105,111,110,32,98,32,109,49,100,48,58,32,97,100,100,40,111,119,110,46,97,44,32,115,112,111,117,115,101,46,99,41]
abbrev zcc4_2 : List UInt8 := [97,98,99,100,101,102,103,104,105,106,107,108,109,110,111,112,113,114,115,116,117,118,119,120,121,122,48,49,50,51,52,53,54,55,56,57,95]
abbrev zcc4_3 : List UInt8 := [97,98,99,100,101,102,103,104,105,106,107,108,109,110,111,112,113,114,115,116,117,118,119,120,121,122]
abbrev zcc4_4 : List UInt8 := [112,114,111,118,105,115,105,111,110,32,100,32,109,49,100,48,58,32,111,119,110,46,100]
abbrev zcc4_5 : List UInt8 := [112,114,111,118,105,115,105,111,110,32,99,32,109,49,100,48,58,32,111,119,110,46,98]
abbrev zcc4_6 : List UInt8 := [112,114,111,118,105,115,105,111,110,32,97,32,109,49,100,48,58,32,36,49]
abbrev zcc4_7 : List UInt8 := [97,100,100,40,111,119,110,46,97,44,32,115,112,111,117,115,101,46,99,41]
abbrev zcc4_8 : List UInt8 := [40,111,119,110,46,97,44,32,115,112,111,117,115,101,46,99,41]
abbrev zcc4_9 : List UInt8 := [111,119,110,46,97,44,32,115,112,111,117,115,101,46,99,41]
abbrev zcc4_10 : List UInt8 := [44,32,115,112,111,117,115,101,46,99,41]
abbrev zcc4_11 : List UInt8 := [112,114,111,118,105,115,105,111,110]
abbrev zcc4_12 : List UInt8 := [115,112,111,117,115,101,46,99,41]
abbrev zcc4_13 : List UInt8 := [111,119,110,46,100]
abbrev zcc4_14 : List UInt8 := [111,119,110,46,98]
abbrev zcc4_15 : List UInt8 := [109,49,100,48,58]
abbrev zcc4_16 : List AV := [ω 6,.str [97],.bool false,ω 1,ω 0,ω 6,.str [98],.bool false,ω 1,ω 0,ω 6,.str [99],.bool false,ω 1,ω 0,ω 6,.str [100],.bool false,ω 1,ω 0,ω 7,.str [97],.bool false,ω 1,ω 0,ω 7,.str [98],.bool false,ω 1,ω 0,ω 7,.str [99],.bool false,ω 1,ω 0,ω 7,.str [100],.bool false,ω 1,ω 0,ω 8,.str [97],.bool false,ω 1,ω 0,ω 8,.str [98],.bool false,ω 1,ω 0,ω 8,.str [99],.bool false,ω 1,ω 0,ω 8,.str [100],.bool false,ω 1,ω 0]
abbrev zcc4_17 : List AV := [ω 0,ω 0,ω 0,ω 1,ω 0,ω 2,ω 0,ω 3,ω 1,ω 0,ω 1,ω 1,ω 1,ω 2,ω 1,ω 3]
abbrev zcc4_18 : List AV := [ω 6,.bool false,.str [],.str [],.str [97],ω 8,.bool false,.str [],.str [],.str [99],ω 10,.bool false,.str [],.str [],.str []]
abbrev zcc4_19 : List AV := [ω 6,.bool false,.str [],.str [],.str [97],ω 8,.bool false,.str [],.str [],.str [99],ω 9,.bool false,.str [],.str [],.str []]
abbrev zcc4_20 : List AV := [ω 0,ω 0,ω 0,ω 1,ω 0,ω 2,ω 1,ω 0,ω 1,ω 1,ω 1,ω 2]
abbrev zcc4_21 : List AV := [ω 6,.bool false,.str [],.str [],.str [97],ω 8,.bool false,.str [],.str [],.str [99]]
abbrev zcc4_22 : List AV := [ω 0,ω 0,ω 0,ω 1,ω 0,ω 2,ω 0,ω 3]
abbrev zcc4_23 : List AV := [ω 0,ω 1,ω 0,ω 2,ω 1,ω 1,ω 1,ω 2]
abbrev zcc4_24 : List AV := [ω 0,ω 0,ω 0,ω 1,ω 0,ω 2]
abbrev zcc4_25 : List AV := [ω 6,.bool false,.str [],.str [],.str [100]]
abbrev zcc4_26 : List AV := [ω 5,.bool false,.str [],.str [],.str [98]]
abbrev zcc4_27 : List AV := [ω 1,.bool false,.str [1],.str [1],.str []]
abbrev zcc4_28 : List AV := [ω 6,.bool false,.str [],.str [],.str [98]]
abbrev zcc4_29 : List AV := [ω 6,.bool false,.str [],.str [],.str [97]]
theorem r0t {nt:Nat} (c:68≤nt) (fr cs:List Cl) (a:Bool) (U:List (List Bool)) (k:Nat) (b:List Bool) (h:(decide ((k:Int)<(fr.length:Int)))=true):af prog ap [] nt (aU [1,1,1,1,0,1,0,0,0] (ae f23)) ((D9 (.sl (cL fr) fr.length a) (.sl (cL cs) cs.length false) (.sl (U.map eH) cs.length false) cs.length k (eF b))) .normal ((D9 (.sl (cL fr) fr.length a) (.sl (cL cs) cs.length false) (.sl (U.map eH) cs.length false) cs.length k (eF b))):=by
 exact pN 23 [] 1 1 (.c (ak h) .nil) (.nil) c
theorem r0f {nt:Nat} (c:68≤nt) (fr cs:List Cl) (b:Bool) (U:List (List Bool)) (k:Nat) (a:List Bool) (h:(decide ((k:Int)<(fr.length:Int)))=false):af prog ap [] nt (aU [1,1,1,1,0,1,0,0,0] (ae f23)) ((D9 (.sl (cL fr) fr.length b) (.sl (cL cs) cs.length false) (.sl (U.map eH) cs.length false) cs.length k (eF a))) (.exit 0) ((Vh (.sl (cL cs) cs.length false) cs.length (eF a))):=by
 exact pN 23 [] 1 0 (.c (au h) .nil) (.nil) c
theorem r0i {nt:Nat} (d:68≤nt) (fr cs:List Cl) (a:Bool) (U:List (List Bool)) (k:Nat) (b:List Bool) (c:k<2^62):af prog ap [] nt (aU [1,1,1,1,0,1,0,0,1,1] (ae f23)) ((D9 (.sl (cL fr) fr.length a) (.sl (cL cs) cs.length false) (.sl (U.map eH) cs.length false) cs.length k (eF b))) .normal ((D9 (.sl (cL fr) fr.length a) (.sl (cL cs) cs.length false) (.sl (U.map eH) cs.length false) cs.length (k+1) (eF b))):=by
 exact pN 23 [] 0 0 .nil (.v 27 (.eq (wpS c)) .nil) d
theorem r0x {nt:Nat} (g:68≤nt) (fr cs:List Cl) (b:Bool) (U:List (List Bool)) (k:Nat) (c:List Bool) (x:Int) (w:Cl) (rw:List Cl) (d:(θ ((γ (k:Int))*2) (cL fr))=cC w++cL rw) (f:k<fr.length) (e:CO 44 [.sl (cL cs) cs.length false,cA w] (.ret (ω x))):af prog ap [] nt (aU [1,1,1,1,0,1,0,0,1,0,0,0] (ae f23)) ((D9 (.sl (cL fr) fr.length b) (.sl (cL cs) cs.length false) (.sl (U.map eH) cs.length false) cs.length k (eF c))) .normal (⟨[(2,.sl (cL fr) fr.length b),(7,.sl (cL cs) cs.length false),(8,.sl (U.map eH) cs.length false),(9,.ref 0 0 0 cs.length),(10,ω (k:Int)),(11,ω x)],[(0,⟨(eF c),0,false,0,1,true⟩)],.dead,[]⟩):=by
 have a:(decide ((k:Int)<(fr.length:Int)))=true:=(kl f)
 exact pN 23 [] 0 0 (.k 3 a .nil) (.c e (.v 31 (.ppt d) .nil)) g
theorem r0z {nt:Nat} (c:68≤nt) (fr cs:List Cl) (a:Bool) (U:List (List Bool)) (k:Nat) (b:List Bool) (x:Int):af prog ap [] nt (aU [1,1,1,1,0,1,0,0,1,0,0,1,0] (ae f23)) (⟨[(2,.sl (cL fr) fr.length a),(7,.sl (cL cs) cs.length false),(8,.sl (U.map eH) cs.length false),(9,.ref 0 0 0 cs.length),(10,ω (k:Int)),(11,ω x)],[(0,⟨(eF b),0,false,0,1,true⟩)],.dead,[]⟩) .normal ((qP (.sl (cL fr) fr.length a) (.sl (cL cs) cs.length false) (.sl (U.map eH) cs.length false) cs.length k x 0 (eF b))):=by
 exact pN 23 [] 0 0 .nil (.nil) c
theorem r0n {nt:Nat} (d:68≤nt) (fr cs:List Cl) (a:Bool) (U:List (List Bool)) (k:Nat) (b:List Bool) (x:Int) (j:Nat) (h:(decide ((j:Int)<(cs.length:Int)))=true) (c:(decide (((0:Nat):Int)≤x))=false):af prog ap [] nt (aU [1,1,1,1,0,1,0,0,1,0,0,1,1,0,0,0] (ae f23)) ((qP (.sl (cL fr) fr.length a) (.sl (cL cs) cs.length false) (.sl (U.map eH) cs.length false) cs.length k x (j:Int) (eF b))) (.exit 2) ((D9 (.sl (cL fr) fr.length a) (.sl (cL cs) cs.length false) (.sl (U.map eH) cs.length false) cs.length k (eF b))):=by
 exact pN 23 [] 2 1 (.c (au c) (.c (ak h) .nil)) (.nil) d
theorem r0m {nt:Nat} (c:68≤nt) (fr cs:List Cl) (a:Bool) (U:List (List Bool)) (k:Nat) (b:List Bool) (x:Int) (j:Nat) (h:(decide ((j:Int)<(cs.length:Int)))=false):af prog ap [] nt (aU [1,1,1,1,0,1,0,0,1,0,0,1,1,0,0,0] (ae f23)) ((qP (.sl (cL fr) fr.length a) (.sl (cL cs) cs.length false) (.sl (U.map eH) cs.length false) cs.length k x (j:Int) (eF b))) (.exit 2) ((D9 (.sl (cL fr) fr.length a) (.sl (cL cs) cs.length false) (.sl (U.map eH) cs.length false) cs.length k (eF b))):=by
 exact pN 23 [] 2 0 (.k 1 (au h) .nil) (.nil) c
theorem Yp:aj 0 (ae f23)= .seq (aU [1,1,1,1,0,1,0,0,0] (ae f23)) (.seq (.block 1 (.seq (aU [1,1,1,1,0,1,0,0,1,0,0,0] (ae f23)) (.seq (aU [1,1,1,1,0,1,0,0,1,0,0,1,0] (ae f23)) (.block 2 (.loop (aj 2 (ae f23))))))) (aU [1,1,1,1,0,1,0,0,1,1] (ae f23))):=by kernel_rfl
def OY (U:List (List Bool)) (cs:List Cl) (bl:List Bool) (w:Cl):List Bool:=if w ∈ cs then Y0 U (Aj cs w).toNat cs.length bl else bl
theorem Y6 (U:List (List Bool)) (cs:List Cl) (a:List Bool) (w:Cl):(OY U cs a w).length=a.length:=by
 unfold OY;split
 ·exact Og U _ a _
 ·rfl
theorem UC (U:List (List Bool)) (cs:List Cl):∀ (fr:List Cl) (bl:List Bool),(fr.foldl (OY U cs) bl).length=bl.length
 | [],bl=>rfl
 |w::fr,bl=>(UC U cs fr _).trans (Y6 U cs bl w)
theorem v0 {nt:Nat} (c:68≤nt) (fr cs:List Cl) (a:Bool) (U:List (List Bool)) (D:cs.length<2^39) (s:fr.length<2^40) (z:uq cs.length U) (b:List Bool) (r:b.length=cs.length):aA prog ap [] nt (.block 0 (.loop (aj 0 (ae f23)))) (r2X fr cs a U 0 b) WT .normal (fun _:Unit=>(Vh (.sl (cL cs) cs.length false) cs.length (eF (fr.foldl (OY U cs) b)))) (fun _=>WT):=by
 have t:(2:Nat)^39=549755813888:=by decide
 have B:(2:Nat)^40=1099511627776:=by decide
 refine aA.block (e:= .exit 0) (aA.loop (ι:=Unit) (e:= .exit 0) (fun k _=>r2X fr cs a U k ((fr.take k).foldl (OY U cs) b)) (fun _ _=>WT) fr.length (by simp) (fun k i _=> ?_) (fun _=> ?_) ())
 ·rw [Yp];obtain ⟨p,q,w,g,hp⟩:∃ p q w,fr=p++w::q∧p.length=k:=⟨fr.take k,fr.drop (k+1),fr[k],by rw [← List.drop_eq_getElem_cons i,List.take_append_drop],by rw [List.length_take];omega⟩
  have m:=dS (f:=cC) (n:=2) (fun _=>rfl) g;rw [hp] at m;have A:fr.take (k+1)=fr.take k++ [w]:=by
   rw [g,← hp,Xq8 rfl,show p++w::q=(p++ [w])++q by simp,Xq8 (by simp)]
  rw [A,List.foldl_append,Xqy,List.foldl_nil];have h:=pV cs false w (by omega);have d:((fr.take k).foldl (OY U cs) b).length=cs.length:=(UC U cs _ _).trans r;generalize (fr.take k).foldl (OY U cs) b=bl at d;refine aA.seqW (r0t c fr cs a U k bl (kl i)).toW (aA.seq (F:=fun _:Unit=>r2X fr cs a U k (OY U cs bl w)) (K:=fun _=>WT) (aA.block (e:= .normal) ?_) fun _=>aA.ofW () (r0i c fr cs a U k _ (by omega)).toW);unfold OY;split
  ·rename_i l;obtain ⟨x,y,u,v,_⟩:=wY l;rw [v] at h ⊢;have o:x.length<cs.length:=by rw [u];simp
   exact aA.seqW (r0x c fr cs a U k bl _ w q m i h).toW (aA.seqW (r0z c fr cs a U k bl _).toW (v2 c fr cs a U k x.length bl D z o d))
  ·rename_i l;rw [Tt l] at h;refine aA.seqW (r0x c fr cs a U k bl _ w q m i h).toW (aA.seqW (r0z c fr cs a U k bl (-1)).toW ?_);refine aA.block (e:= .exit 2) (aA.loop (ι:=Unit) (e:= .exit 2) (fun j _=>(qP (.sl (cL fr) fr.length a) (.sl (cL cs) cs.length false) (.sl (U.map eH) cs.length false) cs.length k (-1) ((j:Nat):Int) (eF bl))) (fun _ _=>WT) 0 (by simp) (fun j C _=>absurd C (by omega)) (fun _=> ?_) ());rw [Rq];by_cases h0:0<cs.length
   ·exact aA.seq_out (by simp) (aA.ofW () (r0n c fr cs a U k bl (-1) 0 (kl h0) (Yq1 (by decide))).toW)
   ·exact aA.seq_out (by simp) (aA.ofW () (r0m c fr cs a U k bl (-1) 0 (kn (by omega))).toW)
 ·rw [Yp,Xx3];exact aA.seq_out (by simp) (aA.ofW () (r0f c fr cs a U fr.length _ (kn (ε _))).toW)
theorem c23:ae f23= .seq (aU [0] (ae f23)) (.seq (aU [1,0] (ae f23)) (.seq (aU [1,1,0] (ae f23)) (.seq (aU [1,1,1,0] (ae f23)) (.seq (.seq (aU [1,1,1,1,0,0] (ae f23)) (.block 0 (.loop (aj 0 (ae f23))))) (aU [1,1,1,1,1] (ae f23)))))):=by kernel_rfl
theorem ajZ {nt:Nat} (e:68≤nt) (L:Lw) (a b c:Bool) (s:Int) (fr:List Cl) (d:Bool):af prog ap [] nt (aU [0] (ae f23)) (dO .dead [.agg (L.c a b c),ω s,.sl (cL fr) fr.length d] []) .normal ⟨[(1,ω s),(2,.sl (cL fr) fr.length d),(3,.ptr 0 0 0)],[(0,Q_ L a b c)],.dead,[]⟩:=pN 23 [] 0 0 .nil .nil e
theorem aj0 {nt:Nat} (f:68≤nt) (L:Lw) (a b c:Bool) (s:Int) (fr:List Cl) (d:Bool) (cs:List Cl) (e:CO 43 [.agg (L.c a b c),ω s] (.ret (.sl (cL cs) cs.length false))):af prog ap [] nt (aU [1,0] (ae f23)) ⟨[(1,ω s),(2,.sl (cL fr) fr.length d),(3,.ptr 0 0 0)],[(0,Q_ L a b c)],.dead,[]⟩ .normal ⟨[(1,ω s),(2,.sl (cL fr) fr.length d),(3,.ptr 0 0 0),(7,.sl (cL cs) cs.length false)],[(0,Q_ L a b c)],.dead,[]⟩:=pN 23 [] 0 0 (.n 3 .nil) (.c e .nil) f
theorem aj1 {nt:Nat} (f:68≤nt) (L:Lw) (a b c:Bool) (s:Int) (fr:List Cl) (d:Bool) (cs:List Cl) (U:List (List Bool)) (n:Nat) (e:CO 53 [.agg (L.c a b c),ω s] (.ret (.sl (U.map eH) n false))):af prog ap [] nt (aU [1,1,0] (ae f23)) ⟨[(1,ω s),(2,.sl (cL fr) fr.length d),(3,.ptr 0 0 0),(7,.sl (cL cs) cs.length false)],[(0,Q_ L a b c)],.dead,[]⟩ .normal ⟨[(2,.sl (cL fr) fr.length d),(7,.sl (cL cs) cs.length false),(8,.sl (U.map eH) n false)],[],.dead,[]⟩:=pN 23 [] 0 0 (.n 3 .nil) (.c e .nil) f
theorem aj2 {nt:Nat} (f:68≤nt) (fr:List Cl) (d:Bool) (cs:List Cl) (U:List (List Bool)) (n:Nat) (g:cs.length<2^39):af prog ap [] nt (aU [1,1,1,0] (ae f23)) ⟨[(2,.sl (cL fr) fr.length d),(7,.sl (cL cs) cs.length false),(8,.sl (U.map eH) n false)],[],.dead,[]⟩ .normal ⟨[(2,.sl (cL fr) fr.length d),(7,.sl (cL cs) cs.length false),(8,.sl (U.map eH) n false),(9,.ref 0 0 0 cs.length)],[(0,⟨gu cs.length [.bool false],0,false,0,1,true⟩)],.dead,[]⟩:=by
 have e:(2:Nat)^39=549755813888:=by decide
 have b:(decide (((0:Nat):Int)≤(cs.length:Int)))=true:=Yq0 (by omega);have a:(decide ((cs.length:Int)=(cs.length:Int)))=true:=Yq0 rfl;have c:(decide ((cs.length:Int)≤((1099511627776:Nat):Int)))=true:=Yq0 (by omega);exact pN 23 [] 0 0 (.c b (.c a (.c c .nil))) .nil f
theorem aj3 {nt:Nat} (b:68≤nt) (fr:List Cl) (a:Bool) (cs:List Cl) (U:List (List Bool)) (n:Nat) (C:List AV):af prog ap [] nt (aU [1,1,1,1,0,0] (ae f23)) ⟨[(2,.sl (cL fr) fr.length a),(7,.sl (cL cs) cs.length false),(8,.sl (U.map eH) n false),(9,.ref 0 0 0 cs.length)],[(0,⟨C,0,false,0,1,true⟩)],.dead,[]⟩ .normal (D9 (.sl (cL fr) fr.length a) (.sl (cL cs) cs.length false) (.sl (U.map eH) n false) cs.length 0 C):=pN 23 [] 0 0 .nil .nil b
theorem aj6 {nt:Nat} (b:68≤nt) (cs:List Cl) (a:List Bool) (r:List Cl) (c:CO 46 [.sl (cL cs) cs.length false,.sl (ξ (cs.length*1) (eF a)) cs.length true] (.ret (.sl (cL r) r.length false))):af prog ap [] nt (aU [1,1,1,1,1] (ae f23)) (Vh (.sl (cL cs) cs.length false) cs.length (eF a)) .ret (Ku (.sl (cL r) r.length false)):=pN 23 [] 0 0 .nil (.c c .nil) b
def rZ (L:Lw) (s:Int) (fr:List Cl):List Cl:=(ax s L.ps.length).filter fun c=>(fr.foldl (OY (IQ L s) (ax s L.ps.length)) (Xqx (ax s L.ps.length).length false)).getD (Aj (ax s L.ps.length) c).toNat false
theorem Tv {cs:List Cl} (e:cs.Nodup) {i:Nat} {c:Cl} (h:cs[i]? =some c):Aj cs c=(i:Int):=by
 obtain ⟨x,y,b,d,_⟩:=wY (Γ h);rw [d];have a:cs[x.length]? =some c:=by rw [b,List.getElem?_append_right (ε _),Nat.sub_self];rfl
 have:=(List.getElem?_inj (List.getElem?_eq_some_iff.1 a).1 e).1 (a.trans h.symm);rw [this]
theorem abp {cs:List Cl} (e:cs.Nodup) (a:List Bool) (f:a.length=cs.length):a=cs.map fun c=>a.getD (Aj cs c).toNat false:=by
 apply Xv1 (by rw [List.length_map,f]);intro i d g;rw [List.getElem_map];have b:i<cs.length:=by omega
 rw [Tv e (ζ b),Xwd,π,ζ d];rfl
theorem MF (L:Lw) (a b c:Bool) (s:Int) (fr:List Cl) (e:Bool) (v:vZ L) (k:L.ps.length<2^37) (z:fr.length<2^40):CO 23 [.agg (L.c a b c),ω s,.sl (cL fr) fr.length e] (.ret (.sl (cL (rZ L s fr)) (rZ L s fr).length false)):=by
 have A:(2:Nat)^37=137438953472:=by decide
 have y:(2:Nat)^38=274877906944:=by decide
 have w:(2:Nat)^39=549755813888:=by decide
 have n:=Be s L.ps.length;have q:=vC L a b c s (by omega);have j:=Le L a b c s v k;have i:=aba L s;have h:=iJ s L.ps.length;unfold rZ;rw [i.1] at j;obtain ⟨cs,l⟩:∃ cs,cs=ax s L.ps.length:=⟨_,rfl⟩
 rw [← l] at q n j i h ⊢;generalize IQ L s=U at j i ⊢;have o:cs.length<2^39:=by omega
 have g:(Xqx cs.length false).length=cs.length:=Xw4;have f:=(UC U cs fr _).trans g;have t:=fun {nt:Nat} (d:68≤nt)=>v0 d fr cs e U o z i _ g
 generalize fr.foldl (OY U cs) (Xqx cs.length false)=bl at f t ⊢;have u:=zu (fun c=>bl.getD (Aj cs c).toNat false) cs false true bl cs.length (abp h bl f) f o;generalize cs.filter _=r at u ⊢;have x:ξ (cs.length*1) (eF bl)=eF bl:=List.take_of_length_le (by rw [qY];omega);have m:CO 46 [.sl (cL cs) cs.length false,.sl (ξ (cs.length*1) (eF bl)) cs.length true] (.ret (.sl (cL r) r.length false)):=by rw [x];exact u
 refine jm jW 0 (F:=⟨f23,[0,1,2,3,6,7,8,9,10,11,12,25,41],false⟩) rfl rfl (fun nt d=> ?_:∀ nt,68≤nt→af prog ap [] nt (ae f23) (dO .dead [.agg (L.c a b c),ω s,.sl (cL fr) fr.length e] []) .ret (Ku (.sl (cL r) r.length false))) rfl (Xqp _) rfl;refine af.ofW (aA.toW ?_ rfl);rw [c23];have p:=(aj2 d fr e cs U cs.length o).toW;rw [MG] at p;exact aA.seqW (ajZ d L a b c s fr e).toW (aA.seqW (aj0 d L a b c s fr e cs q).toW (aA.seqW (aj1 d L a b c s fr e cs U cs.length j).toW (aA.seqW p (aA.seq (aA.seqW (aj3 d fr e cs U cs.length _).toW (t d)) fun _=>aA.ofW () (aj6 d cs bl r m).toW))))
theorem Xg (U:List (List Bool)) (i m:Nat) (a:List Bool) (j:Nat) (b:j<a.length):(mkF U i m a).getD j false=if j=m then (a.getD j false||decide (j=i)||kT U j i) else a.getD j false:=by
 unfold mkF;rw [π,List.getElem?_set];by_cases h:m=j
 ·subst h;rw [if_pos rfl,if_pos b,if_pos rfl];rfl
 ·rw [if_neg h,if_neg (fun e=>h e.symm),π]
theorem Oe (U:List (List Bool)) (i:Nat) (a:List Bool) (j:Nat) (b:j<a.length):∀ m,(Y0 U i m a).getD j false=if j<m then (a.getD j false||decide (j=i)||kT U j i) else a.getD j false
 |0=>rfl
 | m+1=>by
  rw [TT,Xg U i m _ j (by rw [Og];exact b),Oe U i a j b m];by_cases h:j=m
  ·subst h;rw [if_pos rfl,if_neg (Nat.lt_irrefl _),if_pos (Nat.lt_succ_self _)]
  ·rw [if_neg h];by_cases h2:j<m
   ·rw [if_pos h2,if_pos (by omega)]
   ·rw [if_neg h2,if_neg (by omega)]
def Lt (U:List (List Bool)) (cs:List Cl) (j:Nat) (w:Cl):Bool:=decide (w ∈ cs) && (decide (j=(Aj cs w).toNat)||kT U j (Aj cs w).toNat)
theorem OZ (U:List (List Bool)) (cs:List Cl) (j:Nat) (a:j<cs.length):∀ (fr:List Cl) (bl:List Bool),bl.length=cs.length→(fr.foldl (OY U cs) bl).getD j false=(bl.getD j false||fr.any (Lt U cs j))
 | [],bl,_=>by simp
 | w::fr,bl,hbl=>by
  rw [Xqy,OZ U cs j a fr _ ((Y6 U cs bl w).trans hbl),List.any_cons];have e:(OY U cs bl w).getD j false=(bl.getD j false||Lt U cs j w):=by
   unfold OY Lt;by_cases hw:w ∈ cs
   ·rw [if_pos hw,Oe U _ bl j (by omega),if_pos a,Yq0 hw,Xwj,Xkw]
   ·rw [if_neg hw,Yq1 hw,Bool.false_and,Bool.or_false]
  rw [e,Xkw]
theorem Ce {cs:List Cl} (b:cs.Nodup) {c:Cl} (h:c ∈ cs):cs[(Aj cs c).toNat]? =some c:=by
 obtain ⟨i,a⟩:=List.getElem?_of_mem h;rw [Tv b a,Xwd];exact a
theorem O3 {L:Lw} {s:Int} {cs:List Cl} {a b:Nat} {c d:Cl} (e:cs[a]? =some c) (f:cs[b]? =some d):kT (jS L s cs cs.length) a b=decide (d ∈ gJ L s c):=by
 unfold kT jS;rw [Xx3,π (l:=cs.map _),Ψ,e];simp only [Option.map_some,Option.getD_some];unfold O0;rw [π,Ψ,f];rfl
theorem abP {L:Lw} {s:Int} {fr:List Cl} {c:Cl} (h:Ac (gI L s) (aH s L.ps.length) fr c):∃ x ∈ fr,x ∈ ax s L.ps.length∧(c=x∨Tc (fun a b=>kT (jS L s (ax s L.ps.length) (ax s L.ps.length).length) a b=true) (Aj (ax s L.ps.length) c).toNat (Aj (ax s L.ps.length) x).toNat):=by
 have g:=iJ s L.ps.length
 induction h with
 |base h1 h2=>exact ⟨_,h1,dY.2 h2,.inl rfl⟩
 | step h1 h2 h3 ih=>
  rename_i x y;obtain ⟨z,l,k,d⟩:=ih;have f:=(VI.1 h2).2;rw [KA] at f;have j:x ∈ ax s L.ps.length:=dY.2 h1.ok;have i:y ∈ ax s L.ps.length:=dY.2 h3;have e:kT (jS L s (ax s L.ps.length) (ax s L.ps.length).length) (Aj (ax s L.ps.length) y).toNat (Aj (ax s L.ps.length) x).toNat=true:=by
   rw [O3 (Ce g i) (Ce g j)];exact Yq0 f
  refine ⟨z,l,k,.inr ?_⟩;rcases d with rfl|d
  ·exact .one e
  ·exact .step e d
theorem acl {L:Lw} {s:Int} {fr:List Cl} {a b:Nat} (h:Tc (fun a b=>kT (jS L s (ax s L.ps.length) (ax s L.ps.length).length) a b=true) a b):∀ c x,(ax s L.ps.length)[a]? =some c→(ax s L.ps.length)[b]? =some x→Ac (gI L s) (aH s L.ps.length) fr x→Ac (gI L s) (aH s L.ps.length) fr c:=by
 have one:∀ {a b:Nat},kT (jS L s (ax s L.ps.length) (ax s L.ps.length).length) a b=true→∀ c x,(ax s L.ps.length)[a]? =some c→(ax s L.ps.length)[b]? =some x→Ac (gI L s) (aH s L.ps.length) fr x→Ac (gI L s) (aH s L.ps.length) fr c:=fun {a b} h c x d e f=>by
  rw [O3 d e] at h;have i:aH s L.ps.length c=true:=dY.1 (Γ d);refine .step f (VI.2 ⟨i, ?_⟩) i;rw [KA];exact of_decide_eq_true h
 induction h with
 |one h=>exact one h
 |step h h2 ih=>
  intro c x d e f;have g:=(SS (DN L s _) h).2;exact one h c _ d (ζ g) (ih _ x (ζ g) e f)
theorem QG (L:Lw) (s:Int) (fr:List Cl):cO L s fr=rZ L s fr:=by
 classical
 have f:=iJ s L.ps.length;unfold cO rZ;refine List.filter_congr fun c l=> ?_
 have d:=Ce f l;have a:(Aj (ax s L.ps.length) c).toNat<(ax s L.ps.length).length:=(List.getElem?_eq_some_iff.1 d).1;rw [OZ _ _ _ a fr _ Xw4];have m:(Xqx (ax s L.ps.length).length false).getD (Aj (ax s L.ps.length) c).toNat false=false:=by
  rw [π,List.getElem?_replicate,if_pos a];rfl
 rw [m,Bool.false_or];have key:Ac (gI L s) (aH s L.ps.length) fr c↔fr.any (Lt (IQ L s) (ax s L.ps.length) (Aj (ax s L.ps.length) c).toNat)=true:=by
  rw [List.any_eq_true];constructor
  ·intro h;obtain ⟨x,g,e,i⟩:=abP h;refine ⟨x,g, ?_⟩;unfold Lt;rw [Yq0 e,Xwj,Xq7];rcases i with rfl|i
   ·exact .inl (Yq0 rfl)
   ·exact .inr ((PQ (DN L s _) a (List.getElem?_eq_some_iff.1 (Ce f e)).1).2 i)
  ·rintro ⟨x,g,e⟩
   unfold Lt at e;simp only [η,Xq7,decide_eq_true_eq] at e;obtain ⟨k,h⟩:=e;have b:=Ce f k;have j:Ac (gI L s) (aH s L.ps.length) fr x:= .base g (dY.1 k);rcases h with h|h
   ·rw [h] at d;rw [d] at b;cases b;exact j
   ·exact acl ((PQ (DN L s _) a (List.getElem?_eq_some_iff.1 b).1).1 h) c x d b j
 by_cases h:Ac (gI L s) (aH s L.ps.length) fr c
 ·rw [Yq0 h,key.1 h]
 ·rw [Yq1 h];cases n:fr.any (Lt (IQ L s) (ax s L.ps.length) (Aj (ax s L.ps.length) c).toNat) with
  |false=>rfl
  |true=>exact absurd (key.2 n) h
def grI (X:List Lw) (fr:List Cl) (i:Nat):St:=⟨[(7,.bool true),(8,.sl (cL fr) fr.length false),(17,.sl (lwL X) X.length true),(18,ω (X.length:Int)),(19,ω (i:Int))],[],.dead,[]⟩
def grC (X:List Lw) (fr:List Cl) (L:Lw) (i:Nat) (c:Int):St:=⟨[(7,.bool true),(8,.sl (cL fr) fr.length false),(10,.ptr 0 0 0),(11,ω c),(17,.sl (lwL X) X.length true),(18,ω (X.length:Int)),(19,ω (i:Int))],[(0,⟨[.sl L.fx L.fn false,.sl L.sx L.sn false,.sl (bJ L.ps) L.ps.length false],0,false,0,0,true⟩)],.dead,[]⟩
def RS2 (L:Lw) (c:Int) (fr rs rn:List Cl):Prop:=CO 22 [.agg (L.c false false false),ω c,.sl (cL fr) fr.length false] (.ret (.sl (cL rs) rs.length false))∧CO 23 [.agg (L.c false false false),ω c,.sl (cL fr) fr.length false] (.ret (.sl (cL rs) rs.length false))∧CO 15 [.sl (cL rs) rs.length false,.sl (cL rs) rs.length false] (.ret (.bool true))∧CO 22 [.agg (L.c false false false),ω c,.nilS] (.ret (.sl (cL rn) rn.length false))∧rn= []
theorem abW {L:Lw} (a:VP L) (c:Int) (fr:List Cl) (d:fr.length<2^40):∃ rs rn,RS2 L c fr rs rn:=by
 have e:=a.1;have f:=abU L c fr;refine ⟨cO L c fr,cO L c [],JI L false false false c fr false a.2 (by omega) d, ?_, ?_, ?_, ?_⟩
 ·rw [QG];exact MF L false false false c fr false a.2 (by omega) d
 ·have h:=RU (cO L c fr) (cO L c fr) false false (by omega);rw [Yq0 rfl] at h;exact h
 ·have h:=JI L false false false c [] false a.2 (by omega) (by decide);refine ah.args ?_ h;exact .cons (bF.refl _) (.cons (bF.refl _) (.cons (bF.nilS false rfl) .nil))
 ·refine List.eq_nil_iff_forall_not_mem.2 fun x b=> ?_
  have:=(abV.1 b).2;clear b
  induction this with
  |base h=>cases h
  |step _ _ _ ih=>exact ih
theorem NR {nt:Nat} (d:46≤nt) (X:List Lw) (fr:List Cl) (L:Lw) (i:Nat) (e:VP L) (f:fr.length<2^40):∀ (n:Nat) (c:Int),c+n=3+1→ -1≤c→aP prog ap [] nt (aj 2 (ae f5)) (fun _=> .exit 2) (grC X fr L i) (fun _:Unit=>grI X fr i) c ()
 |0,c,h,h0=>by
  have b:(decide (c≤((3:Nat):Int)))=false:=Yq1 (by omega);exact .done (pN 5 [] 1 0 (.c (au b) .nil) .nil d)
 |n+1,c,h,h0=>by
  have b:(decide (c≤((3:Nat):Int)))=true:=Yq0 (by omega);have g:=w1 (c:=c) h0 (by omega);refine .next (a':=c+1) ?_ (NR d X fr L i e f n (c+1) (by omega) (by omega))
  clear h;obtain ⟨l,k,a⟩:=abW e c fr f;have j:(decide (((0:Nat):Int)<(k.length:Int)))=false:=by rw [a.2.2.2.2];rfl
  exact pN 5 [] 3 1 (.c (au j) (.k 10 (ak b) .nil)) (.v 26 (.eq g) (.c a.2.2.2.1 (.c a.2.2.1 (.c a.2.1 (.c a.1 .nil))))) d
theorem NS {nt:Nat} (a:46≤nt) (X:List Lw) (fr:List Cl) (o:X.length<2^40) (j:fr.length<2^40) (g:∀ x ∈ X,VP x):∀ (r p:List Lw),X=p++r→aP prog ap [] nt (aj 0 (ae f5)) (fun _=> .exit 0) (grI X fr) (fun _:Unit=> ⟨[(7,.bool true)],[],.dead,[]⟩) p.length ()
 | [],p,h=>by
  rw [List.append_nil] at h;subst h;have b:(decide ((X.length:Int)<(X.length:Int)))=false:=kn (ε _);exact .done (pN 5 [] 1 0 (.c (au b) .nil) .nil a)
 |L::rX,p,h=>by
  have k:VP L:=g L (by rw [h];simp);have e:=dS (f:=lwC) (n:=3) (fun _=>rfl) h;have c:=nT h;have d:=NS a X fr o j g rX (p++ [L]) (by rw [h];simp);rw [show (p++ [L]).length=p.length+1 by simp] at d;refine .next (a':=p.length+1) ?_ d
  clear d h;generalize p.length=i at*
  have l:(θ ((γ (i:Int))*3) (lwL X))=L.c false false false++lwL rX:=e;have b:(decide ((i:Int)<(X.length:Int)))=true:=kl c;have m:i<2^62:=by omega
  have q:=aP.blk (id:=2) (e':= .normal) (fun nt (a:46≤nt)=>NR a X fr L i k j 4 0 (by omega) (by omega)) (by simp) rfl (aJ.refl _) (aJ.refl _);exact pN 5 [2] 1 1 (.k 4 (k0 i) (.c b (.c (ak b) .nil))) (.v 44 (.eq (wpS m)) (.k [7,8,10,11,17,18,19] q (.v 21 (.ppt l) .nil))) a
theorem acw (a:CO 13 [] (.ret (.bool true))) (l:List (List Int)) (d:Bool) (q0 c f:Int) (q:List Int) (e:Bool):CO 5 [.sl (kL l) l.length d,.agg [ω q0,ω c,ω f],.sl (bL q) q.length e] (.ret (.bool true)):=by
 obtain ⟨X,n,h,m⟩:=WZ l d q0 c f;obtain ⟨fr,g,b⟩:=XT q e;have k:=XF b;have j:(2:Nat)^40=1099511627776:=by decide
 have i:=aP.blk (id:=0) (e':= .normal) (fun nt (hn:46≤nt)=>NS hn X fr (by omega) (by omega) h X [] rfl) (by simp) rfl (aJ.refl _) (aJ.refl _);exact pK [0] 0 0 (.n 3 .nil) (.k [7,8,17,18,19] i (.c m (.c k (.c a .nil))))
end Go.Proofs.Tryz
set_option maxRecDepth 100000
open Go AM Go.ChangeShapes Go.WideShapes Go.ChangeAt Go.RowKit
namespace Go.Proofs.Tryz
noncomputable def CG (t:TypeId) (d:DataW Unit):List Lit:=((kK prog 6 t d 0).getD []).map (·.2)
open Go.Proofs.YtokiomlellclkaaGreatDoor
def TF:List (String × DataW Unit):= [("unicode/utf8.acceptRanges",Rows.laid_unicode_utf8_acceptRanges),("tithing/expr.table",Rows.laid_tithing_expr_table),("tithing/check.truth",Rows.laid_tithing_check_truth),("tithing/check.cash",Rows.laid_tithing_check_cash),("tithing/check.days",Rows.laid_tithing_check_days),("tithing/check.plain",Rows.laid_tithing_check_plain),("tithing/statute.cash",Rows.laid_tithing_statute_cash),("unicode/utf8.first",Rows.laid_unicode_utf8_first)]
theorem QA:TF.filter (fun x=>x.2.handleName?.isSome)= []:=by kernel_rfl
theorem adf {W:World} (h:laidMetH prog TF W):Q9 ap W:=by
 have c (i:Nat) (n:String) (d:DataW Unit) (hm:TF[i]? =some (n,d)) (g:Nat) (t:TypeId) (hg:prog.globalNamed n=some g) (ht:(prog.globals[g]?).map (·.type)=some t)
   (hl:kK prog 6 t d 0=some ((CG t d).zipIdx.map fun (l,i)=>(i,l))):=LJ h QA (Γ hm) hg ht hl
 have f:=c 0 _ _ rfl 7 355 (by kernel_rfl) (by kernel_rfl) (by kernel_rfl);have m:=c 1 _ _ rfl 0 232 (by kernel_rfl) (by kernel_rfl) (by kernel_rfl);have q:=c 2 _ _ rfl 5 53 (by kernel_rfl) (by kernel_rfl) (by kernel_rfl);have r:=c 3 _ _ rfl 2 53 (by kernel_rfl) (by kernel_rfl) (by kernel_rfl);have o:=c 4 _ _ rfl 3 53 (by kernel_rfl) (by kernel_rfl) (by kernel_rfl);have p:=c 5 _ _ rfl 4 53 (by kernel_rfl) (by kernel_rfl) (by kernel_rfl);have e:=c 6 _ _ rfl 1 53 (by kernel_rfl) (by kernel_rfl) (by kernel_rfl);have key (k:Nat) (t:TypeId) (d:DataW Unit) (hx:(ap.gl[k]?).join=some ((CG t d).map Jk)) (ho:(CG t d).all CE=true) (hc:∀ (j:Nat) (l:Lit),(CG t d)[j]? =some l→W.cell? ⟨k,j,none⟩=some (nU l)):
   ∀ b,(ap.gl[k]?).join=some b→∃ ls:List Lit,b=ls.map Jk∧ls.all CE=true∧∀ (j:Nat) (l:Lit),ls[j]? =some l→W.cell? ⟨k,j,none⟩=some (nU l):=by
  intro b a;rw [hx] at a;cases a;exact ⟨_,rfl,ho,hc⟩
 intro k
 match k with
 |0=>exact key 0 _ _ (by kernel_rfl) (by kernel_rfl) m
 |1=>exact key 1 _ _ (by kernel_rfl) (by kernel_rfl) e
 |2=>exact key 2 _ _ (by kernel_rfl) (by kernel_rfl) r
 |3=>exact key 3 _ _ (by kernel_rfl) (by kernel_rfl) o
 |4=>exact key 4 _ _ (by kernel_rfl) (by kernel_rfl) p
 |5=>exact key 5 _ _ (by kernel_rfl) (by kernel_rfl) q
 |6=>intro b a;exact absurd (show (none:Option (List AV))=some b from a) (by simp)
 |7=>exact key 7 _ _ (by kernel_rfl) (by kernel_rfl) f
 |8=>intro b a;exact absurd (show (none:Option (List AV))=some b from a) (by simp)
 |k+9=>
  intro b a;have:ap.gl.length=9:=by kernel_rfl
  rw [List.getElem?_eq_none (by omega)] at a;cases a
theorem own:ownKnob prog.godebug=none:=by kernel_rfl
theorem ah8:laidOutB prog=true:=by kernel_rfl
noncomputable def J8 (t:TypeId) (d:DataW Unit):Obj→Obj
 | .cells _ t' fr=> .cells ((CG t d).map nU).toArray t' fr
 |o=>o
noncomputable def acy (os:Os):World:=
 let w:=World.holding prog os ⟨#[],#[],[]⟩
 {w with heap:=((((((((w.heap.modify 0 (J8 232 Rows.laid_tithing_expr_table)).modify 1 (J8 53 Rows.laid_tithing_statute_cash)).modify 2 (J8 53 Rows.laid_tithing_check_cash)).modify 3 (J8 53 Rows.laid_tithing_check_days)).modify 4 (J8 53 Rows.laid_tithing_check_plain)).modify 5 (J8 53 Rows.laid_tithing_check_truth)).modify 6 (J8 352 Rows.laid_unicode_utf8_first)).modify 7 (J8 355 Rows.laid_unicode_utf8_acceptRanges))}
end Go.Proofs.Tryz
set_option maxRecDepth 100000
set_option linter.unusedVariables false
open Go AM Go.ChangeShapes Go.WideShapes Go.ChangeAt Go.RowKit
namespace Go.Proofs.Tryz
open Go.Proofs.YtokiomlellclkaaGreatDoor
section
variable {H:Type}
theorem acP (d:DataW H):1≤Rows.uptoBulk d:=by
 cases d with
 |lit x=>cases x<;>simp [Rows.uptoBulk]
 |_=>simp [Rows.uptoBulk]
theorem A_:∀ {l:List (DataW H)} {d:DataW H},d ∈ l→Rows.uptoBulk d≤Rows.uptoBulkAll l
 |x::r,d,h=>by
  simp only [Rows.uptoBulkAll];rcases List.mem_cons.1 h with rfl|h
  ·omega
  ·have:=A_ h;omega
theorem IB:∀ l:List (DataW H),l.length≤Rows.uptoBulkAll l
 | []=>Xqp _
 |x::r=>by
  simp only [Rows.uptoBulkAll,Θ];have:=IB r;have:=acP x;omega
theorem acQ:acD (Rows.uptoBulk (H:=H)) where
 str s:=by simp only [Rows.uptoBulk];omega
 agg l d h:=by
  simp only [Rows.uptoBulk];have:=A_ h;omega
 slc l r:=by
  simp only [Rows.uptoBulk];exact ⟨fun d h=>by have:=A_ h;omega,by have:=IB l;omega⟩
theorem Am {α:Type} {b:Nat} {ks:List DK} (f:α→List AV) (Q:α→Prop) (d:∀ x,fG b ks x→∃ a,x=f a∧Q a):∀ L:List (List AV),(∀ x ∈ L,fG b ks x)→∃ l:List α,L.flatten=l.flatMap f∧L.length=l.length∧∀ a ∈ l,Q a
 | [],_=> ⟨[],rfl,rfl,fun a h=>by cases h⟩
 |x::L,h=>by
  obtain ⟨a,e,q⟩:=d x (h x (by simp));obtain ⟨l,i,j,g⟩:=Am f Q d L fun y c=>h y (by simp [c])
  refine ⟨a::l,by rw [List.flatten_cons,Xqg,e,i],by simp [j],fun y c=> ?_⟩;rcases List.mem_cons.1 c with rfl|c
  ·exact q
  ·exact g y c
abbrev kI:List DK:= [.slc [.int .i64]]
theorem ajB {b:Nat} {a:List AV} (h:fG b [.int .i64] a):∃ y:Int,a= [ω y]∧True:=by
 cases h with|int h=>cases h with|nil=>exact ⟨_,rfl,trivial⟩
theorem WV (l:List Int):(l.flatMap fun a=> [ω a])=iL l:=by
 induction l with
 |nil=>rfl
 |cons a r ih=>rw [Xqg,ih];rfl
theorem aee {b:Nat} {L:List (List AV)} (h:∀ x ∈ L,fG b [.int .i64] x):∃ l:List Int,AV.sl L.flatten L.length false= .sl (iL l) l.length false:=by
 obtain ⟨l,a,c,_⟩:=Am (fun y:Int=> [ω y]) (fun _=>True) (fun x d=>ajB d) L h;exact ⟨l,by rw [a,c,WV]⟩
theorem aem {b:Nat} {a:List AV} (h:fG b kI a):∃ l:List Int,a= [.sl (iL l) l.length false]∧True:=by
 cases h with|slc hx hl h=>cases h with|nil=>
  obtain ⟨l,e⟩:=aee hx;exact ⟨l,by rw [e],trivial⟩
variable {enc:TypeId × Value→H} {W:World} {base:Nat}
theorem OC {t e:TypeId} {n:Nat} {ks:List DK} (i:prog.underlying t=some (.slice e)) (g:EX prog n t=some [.slc ks]) {v:Value} {d:DataW H} {p:List MemPlace} (f:Value.okWide prog W .any base t v) (h:DataW.Trod enc prog W 0 (fun _=>true) true t v d p):
  ∃ L:List (List AV),(∀ x ∈ L,fG (Rows.uptoBulk d) ks x)∧PR (iG W) (.sl L.flatten L.length false) v:=by
 obtain ⟨a,h⟩:=h;obtain ⟨j,b,c,_⟩:=Qd acQ (fun _=>rfl) n t _ g a _ _ h;rw [Kq i f] at c;cases b with|slc hx hl b=>cases b with|nil=>
  simp only [bu,and_true] at c;exact ⟨_,hx,c⟩
theorem TK (l:List (List Int)):(l.flatMap fun b=> [AV.sl (iL b) b.length false])=kL l:=by
 induction l with
 |nil=>rfl
 |cons a r ih=>rw [Xqg,ih];rfl
theorem aib {v:Value} {d:DataW H} {p:List MemPlace} (g:Value.okWide prog W .any base 22 v) (h:DataW.Trod enc prog W 0 (fun _=>true) true 22 v d p):
  ∃ l:List (List Int),PR (iG W) (.sl (kL l) l.length false) v:=by
 obtain ⟨L,i,a⟩:=OC (n:=5) (ks:=kI) (e:=38) (by kernel_rfl) (by kernel_rfl) g h;obtain ⟨l,b,c,_⟩:=Am (fun xs:List Int=> [AV.sl (iL xs) xs.length false]) (fun _=>True) (fun x f=>aem f) _ i;rw [b,c,TK] at a;exact ⟨l,a⟩
theorem aio {b:Nat} {a:List AV} (h:fG b [.int .u8] a):∃ y:Int,a= [AV.int .u8 y]∧True:=by
 cases h with|int h=>cases h with|nil=>exact ⟨_,rfl,trivial⟩
theorem V_ (l:List Int):(l.flatMap fun a=> [AV.int .u8 a])=bL l:=by
 induction l with
 |nil=>rfl
 |cons a r ih=>rw [Xqg,ih];rfl
theorem ajO {v:Value} {d:DataW H} {p:List MemPlace} (g:Value.okWide prog W .any base 43 v) (h:DataW.Trod enc prog W 0 (fun _=>true) true 43 v d p):
  ∃ l:List Int,PR (iG W) (.sl (bL l) l.length false) v:=by
 obtain ⟨L,i,a⟩:=OC (n:=5) (ks:= [.int .u8]) (e:=5) (by kernel_rfl) (by kernel_rfl) g h;obtain ⟨l,b,c,_⟩:=Am (fun y:Int=> [AV.int .u8 y]) (fun _=>True) (fun x f=>aio f) _ i;rw [b,c,V_] at a;exact ⟨l,a⟩
end
end Go.Proofs.Tryz
set_option maxRecDepth 100000
set_option linter.unusedVariables false
open Go AM Go.ChangeShapes Go.WideShapes Go.ChangeAt Go.RowKit
namespace Go.Proofs.Tryz
open Go.Proofs.YtokiomlellclkaaGreatDoor
section
variable {H:Type} {enc:TypeId × Value→H} {W:World} {base:Nat}
theorem u3i:prog.underlying 3=some (.int .i64):=by kernel_rfl
theorem LC {u:Value} (h:Cell.okWide prog W .any base 3 u):∃ q:Int,u= .int .i64 q:=by
 cases u<;>simp only [Cell.okWide,Cell.ok,u3i] at h
 rename_i k q;obtain ⟨rfl,h⟩:=h;exact ⟨q,rfl⟩
theorem aia {t:TypeId} (o:prog.underlying t=some (.array 3 3)) (c:prog.cellTypes prog.depth t=some [3,3,3]) (n:prog.cellsOf t=3) {v:Value} (g:Value.okWide prog W .any base t v):
  ∃ q0 b a:Int,PR (iG W) (.agg [.int .i64 q0,.int .i64 b,.int .i64 a]) v:=by
 simp only [Value.okWide,o] at g;obtain ⟨cs,rfl,d,r,h,_,e⟩:=g;rw [c] at h;cases h;obtain ⟨cl⟩:=cs;have f:cl.length=3:=d.trans n
 match cl,f with
 | [v0,v1,v2],_=>
 obtain ⟨u,p,i⟩:=e 0 v0 rfl;obtain ⟨q,k,l⟩:=e 1 v1 rfl;obtain ⟨s,m,j⟩:=e 2 v2 rfl;cases p;cases k;cases m;obtain ⟨q0,rfl⟩:=LC i;obtain ⟨b,rfl⟩:=LC l;obtain ⟨a,rfl⟩:=LC j;refine ⟨q0,b,a, ?_⟩;rw [PR];exact ⟨[.int .i64 q0,.int .i64 b,.int .i64 a],rfl,by simp [bu,PR]⟩
end
abbrev Ub:AV:= .agg [.sl [.str [98],.bool false,ω 0,ω 0] 1 true,.nilS,.sl [.str [97],.bool false,ω 0,ω 0,.sl zcc4_26 1 true,.bool false,.bool false,.str [1],.str [1],.bool false,.str [9],.str [1]] 1 true]
theorem aev {nt:Nat} (a:65≤nt):af prog ap [] nt (aU [0] (ae f150)) (dO .dead [Ub] []) .normal aaB:=by
 exact pN 150 [] 0 0 .nil (.nil) a
theorem nc0:CO 194 [Ub] (.ret (.agg [.sl [.str [98]] 1 true,.nilS,.sl [.str [97]] 1 true])):=cD [] .nil
theorem aew {nt:Nat} (a:65≤nt):af prog ap [] nt (aU [1,0] (ae f150)) aaB .normal (PK [.agg [],.agg []]):=by
 exact pN 150 [] 0 0 (.n 4 .nil) (.c nc0 .nil) a
theorem nc1:CO 195 [.str [98]] (.ret (.bool true)):=cD [] .nil
theorem nc2:CO 195 [.str [97]] (.ret (.bool true)):=cD [] .nil
theorem aex {nt:Nat} (a:65≤nt):af prog ap [] nt (aU [1,1,0] (ae f150)) (PK [.agg [],.agg []]) .normal (PK [.agg [.str [98],.str [97]],.agg [ω 1,ω 1]]):=by
 exact pN 150 [] 11 211 (.n 37 .nil) (.c nc2 (.c nc1 .nil)) a
theorem aey {nt:Nat} (a:65≤nt):af prog ap [] nt (aU [1,1,1,0] (ae f150)) (PK [.agg [.str [98],.str [97]],.agg [ω 1,ω 1]]) .normal (Vk [.agg [.str [98],.str [97]],.agg [ω 1,ω 1]]):=by
 exact pN 150 [] 7 21 (.n 19 .nil) (.nil) a
theorem abK:aU [1,1,1,1,0] (ae f150)= .seq (.region 22 #[mk (some 57) (.move (.tmp 4)) ((uu (aU [1,1,1,1,0,0] (ae f150))).getD 0 default),mk (some 58) (.range 271 (.tmp 57)) ((uu (aU [1,1,1,1,0,0] (ae f150))).getD 1 default)] false)
 (.block 8 (.loop (.seq (.region 23 #[mk (some 59) (.next (.tmp 58) false) ((uu (aU [1,1,1,1,0,1,0,0,0] (ae f150))).getD 0 default),mk (some 60) (.extract (.tmp 59) 0) ((uu (aU [1,1,1,1,0,1,0,0,0] (ae f150))).getD 1 default)] false) (.seq (.cond (.tmp 60) .skip (.exit 8)) (aU [1,1,1,1,0,1,0,0,1,1] (ae f150)))))):=by kernel_rfl
theorem Xm:aU [1,1,1,1,0,1,0,0,1,1] (ae f150)= .block 9 (.seq (.region 24 [mk (some 61) (.entry (.tmp 58)) ((uu (aU [1,1,1,1,0,1,0,0,1,1,0,0] (ae f150))).getD 0 default),mk (some 62) (.extract (.tmp 61) 1) ((uu (aU [1,1,1,1,0,1,0,0,1,1,0,0] (ae f150))).getD 1 default),mk (some 13) (.assign (.tmp 62)) ((uu (aU [1,1,1,1,0,1,0,0,1,1,0,0] (ae f150))).getD 2 default)].toArray false) (aU [1,1,1,1,0,1,0,0,1,1,0,1] (ae f150))):=by kernel_rfl
theorem ahV:prog.underlying 271=some (.map 9 3):=by kernel_rfl
theorem Xl {nt:Nat} (e:65≤nt) (d:Value) (k:AV):KH prog ap nt [mk (some 61) (.entry (.tmp 58)) ((uu (aU [1,1,1,1,0,1,0,0,1,1,0,0] (ae f150))).getD 0 default),mk (some 62) (.extract (.tmp 61) 1) ((uu (aU [1,1,1,1,0,1,0,0,1,1,0,0] (ae f150))).getD 1 default),mk (some 13) (.assign (.tmp 62)) ((uu (aU [1,1,1,1,0,1,0,0,1,1,0,0] (ae f150))).getD 2 default)] 1 ⟨(61,.tup [k,.int .i64 1])::(gq 58 59 60 d []),[],.dead,[]⟩ ⟨(13,.int .i64 1)::(62,.int .i64 1)::(61,.tup [k,.int .i64 1])::(gq 58 59 60 d []),[],.dead,[]⟩:=by
 have a:[mk (some 61) (.entry (.tmp 58)) ((uu (aU [1,1,1,1,0,1,0,0,1,1,0,0] (ae f150))).getD 0 default),mk (some 62) (.extract (.tmp 61) 1) ((uu (aU [1,1,1,1,0,1,0,0,1,1,0,0] (ae f150))).getD 1 default),mk (some 13) (.assign (.tmp 62)) ((uu (aU [1,1,1,1,0,1,0,0,1,1,0,0] (ae f150))).getD 2 default)].all (uK nt)=true:=by
  simp only [List.all_cons,List.all_nil,uK,mk,Bool.and_true,η,Nat.blt_eq];omega
 exact (Ql (H:=vW prog ap 3000 4) jW.apok (iD jW.apok jW.mixed jW.fnok 3000 4).1 a (c:=⟨false,[],[],[],[],[]⟩) (c':=⟨false,[],[],[],[],[]⟩) (r:=⟨_,_,_,_,_,_⟩) rfl ⟨fun b h=>(by cases h),fun p h=>(by cases h)⟩).2
theorem Xn {nt:Nat} (b:65≤nt) (a:Value) (k:AV):af prog ap [] nt (aU [1,1,1,1,0,1,0,0,1,1,0,1] (ae f150)) ⟨(13,.int .i64 1)::(62,.int .i64 1)::(61,.tup [k,.int .i64 1])::(gq 58 59 60 a []),[],.dead,[]⟩ .normal ⟨(gq 58 59 60 a []),[],.dead,[]⟩:=by
 exact pN 150 [] 1 0 (.n 1 .nil) (.nil) b
theorem abJ {nt:Nat} (a:65≤nt) (b:Value):af prog ap [] nt (aU [1,1,1,1,1] (ae f150)) ⟨(gq 58 59 60 b []),[],.dead,[]⟩ .ret ⟨[(2,.int .i64 0)],[],.dead,[]⟩:=by
 exact pN 150 [] 0 0 .nil (.nil) a
theorem abI {nt:Nat} (f:65≤nt):iH prog ap [] nt (aU [1,1,1,1,0] (ae f150)) (Vk [.agg [.str [98],.str [97]],.agg [ω 1,ω 1]]) fun e s'=>e= .normal∧∃ a,s'=⟨(gq 58 59 60 a []),[],.dead,[]⟩:=by
 rw [abK];refine QF (σ:=Unit) (b:=0) (ver:=0) (tm:=4) (n:=2) (ks:= [.str [98],.str [97]]) (vs:= [ω 1,ω 1]) (Inv:=fun _ _=>True) (st:=fun _=>zM) (s0:=()) (PostX:=fun _ _=>False)
  rfl rfl rfl rfl rfl rfl rfl rfl rfl rfl rfl rfl (by omega) (by omega) (by omega) (by omega) (by decide) (by decide) ahV rfl rfl rfl rfl rfl rfl rfl rfl rfl trivial
  (fun x C h=>by simp [AM.ag] at h) (fun x C h=>by simp [AM.ag] at h) (fun t=> .inl rfl) (fun x B0 C h=>by simp [aC] at h) ?_ (fun a done s _ _=> ⟨rfl,a,rfl⟩) (fun e s' _ h=>h.elim) (fun e s' h=>by obtain ⟨_,a,rfl⟩:=h;rfl)
 intro a done s i k v _ g _ j c;have d:v= ω 1:=by
  match i,g,c with
  |0,_,c=>simp at c;exact c.symm
  |1,_,c=>simp at c;exact c.symm
 subst d;rw [Xm];refine pg.block (A:=fun e s'=>e= .normal∧s'=⟨(gq 58 59 60 a []),[],.dead,[]⟩) ?_ (fun s' h=>by cases h.1) (fun e s' h _=> .inl ⟨h.1,(),trivial,h.2⟩);exact pg.of (hs:= []) rfl rfl rfl (by omega) (by funext b;rfl) rfl (Xl f a k) ((Xn f a k).any ⟨rfl,rfl⟩ (fun e s' h=>h.2 ▸ rfl))
theorem TY:CO 150 [Ub] (.ret (ω 0)):=by
 refine jm jW 0 (F:=⟨f150,[0,1,2,3,4,6,8,10,11,13,17,18,19,21,22,23,24,29,36,37,38,43,55,58,60,64],false⟩) rfl rfl (fun nt a=> ?_) rfl (Xqp _) (s:=⟨[(2,ω 0)],[],.dead,[]⟩) rfl;have c:ae f150= .seq (aU [0] (ae f150)) (.seq (aU [1,0] (ae f150)) (.seq (aU [1,1,0] (ae f150)) (.seq (aU [1,1,1,0] (ae f150)) (.seq (aU [1,1,1,1,0] (ae f150)) (aU [1,1,1,1,1] (ae f150)))))):=by kernel_rfl
 show af _ _ _ _ (ae f150) _ _ _;rw [c];refine (aev a).seq ((aew a).seq ((aex a).seq ((aey a).seq ?_)));refine (iH.seq (Post:=fun b s1=>b= .ret∧s1=⟨[(2,ω 0)],[],.dead,[]⟩) (abI a) (fun s1 ⟨_,pt,h⟩=> ?_) (fun e s1 ⟨h,_⟩ hne=>absurd h hne) (fun b s1 h=>h.2 ▸ rfl)).one;subst h;exact (abJ a pt).any ⟨rfl,rfl⟩ (fun b s1 h=>h.2 ▸ rfl)
end Go.Proofs.Tryz
open Go AM Go.RowKit Go.Shelf
namespace Go.Proofs.Tryz
attribute [local go_sem] Oper.semAt_some
theorem oJ {W W':World} (h:Below W.heap.size W W'):gZ (bZ W) (bZ W'):=by
 intro k o v a;have b:=IC a;rw [← a];unfold bZ;rw [h.block k b,World.cell?_of_block (h.block k b)]
theorem wU {W W':World} (h:Below W.heap.size W W') (d:lI ap (bZ W)):lI ap (bZ W'):=by
 intro k c f;obtain ⟨vs,e,b⟩:=d k c f;exact ⟨vs,a_ (oJ h) _ e,fun j u a=> ⟨oJ h _ _ _ (b j u a).1,(b j u a).2⟩⟩
theorem ahv {W:World} (a:lI ap (bZ W)) (m:aI):bi ap (aC []) m (bZ W) W:=
 ⟨fun b c B B' h=>by simp [aC] at h,fun b B h=>by simp [aC] at h,fun k o v h=>h,fun b B h=>by simp [aC] at h,a⟩
theorem xZ {f:Nat} {args:List AV} {g:IntKind} {x:Int} (j:CO f args (.ret (.int g x))) {W:World} (l:lI ap (bZ W)) {cargs:List Value} (i:bu (bZ W) args cargs) {n:Nat}:
  CallsIn Fence.wide n prog f cargs.toArray W fun e W'=>e= .returned (.int g x)∧Below W.heap.size W W':=by
 refine callsIn_wide.2 ?_;refine (j.calls (fun _=>(0,0)) (bZ W) W cargs (ahv l _) (aZ _ i)).mono ?_
 rintro e W' ⟨m',S',hF⟩
 obtain ⟨_,a,c⟩:=hF;obtain ⟨cv,rfl,d⟩:=c;simp only [u_,VR,PR] at d;subst d;exact ⟨rfl,a.os,a.tape,a.output,a.size,fun k m=>a.rest k m fun b B h=>by simp [aC] at h⟩
theorem BP {W W':World} (h:Below W.heap.size W W') (row:Option Nat):W.grownBy W' row:=
 ⟨h.os,h.tape,h.output,h.size,fun k a _=>h.block k a⟩
def jK (f g:Nat→Int) (k:Nat):List Int:=(Xqf k).flatMap fun j=> [f j,g j]
theorem qy (f g:Nat→Int) (k:Nat):jK f g (k+1)=jK f g k++ [f k]++ [g k]:=by simp [jK,List.range_succ]
theorem qx (f g:Nat→Int) (k:Nat):(jK f g k).length=2*k:=by
 induction k with
 |zero=>rfl
 |succ k ih=>rw [qy];simp [ih];omega
theorem QU (f g:Nat→Int) {k n:Nat} (h:k≤n):jK f g k<+:jK f g n:=by
 induction n with
 |zero=>
  obtain rfl:k=0:=by omega
  exact Xv2 _
 |succ n ih=>
  by_cases hk:k=n+1
  ·subst hk;exact Xv2 _
  ·exact (ih (by omega)).trans (by rw [qy,Ξ];exact Xz5 _ _)
set_option maxRecDepth 100000 in
set_option maxHeartbeats 4000000 in
theorem MO (n:Nat) (hn:2≤n) (l kn ke ks n₀ b off len cap:Nat) (E SC:AV) (ue us:Value) (ns:Nat→List UInt8) (so sp:Nat→Int) (hreach:len*16≤140737488351232)
  (hso:∀ k,k<len→CO 157 [E,SC,.int .i64 6,.str (ns k)] (.ret (.int .i64 (so k)))) (hsp:∀ k,k<len→CO 157 [E,SC,.int .i64 8,.str (ns k)] (.ret (.int .i64 (sp k))))
  (J Jx:List Int→World→Prop) (W:World) (hAJ:AbidesFrom W.heap.size J)
  (hY:∀ pre x W1,J pre W1→pre.length<2*len→YieldAt Fence.wide (n - 1) prog l #[.int .i64 x] W1 fun e W'=>
   (e= .returned (.bool true)∧J (pre++ [x]) W'∧Below n₀ W1 W')∨(e= .returned (.bool false)∧Jx (pre++ [x]) W'))
  (hn0:n₀≤W.heap.size) (hbn:b<n₀) (hkn:kn<n₀) (hke:ke<n₀) (hks:ks<n₀)
  (w0:World) (hw0:w0.heap.size=n₀) (hW:Below n₀ w0 W) (hg:lI ap (bZ w0)) (hpr:bu (bZ w0) [E,SC] [ue,us])
  (cn:w0.cell? ⟨kn,0,none⟩=some (.slice (some ⟨b,off,none⟩) len cap)) (ce:w0.cell? ⟨ke,0,none⟩=some ue) (cs:w0.cell? ⟨ks,0,none⟩=some us)
  (hc:∀ j,j<len→w0.cell? ⟨b,off+j,none⟩=some (.string ⟨(ns j).toArray⟩)) (h0:J [] W):
  CallsIn Fence.wide n prog 156 #[.func (.yield l) #[] #[],.pointer (some ⟨kn,0,none⟩),.pointer (some ⟨ke,0,none⟩),.pointer (some ⟨ks,0,none⟩)] W fun e W'=>(∃ v,e= .returned v)∧
   ((∃ ys,ys=jK so sp len∧J ys W')∨(∃ pre,pre<+:jK so sp len∧Jx pre W')):=by
 have kee:∀ (w:World),Below n₀ w0 w→∀ (k j:Nat) (v:Value),k<n₀→w0.cell? ⟨k,j,none⟩=some v→w.cell? ⟨k,j,none⟩=some v:=fun w h k j v hk hv=>(Below.cell h (p:=⟨k,j,none⟩) hk).trans hv
 have cn':=kee _ hW _ _ _ hkn cn;refine callsIn_of_wp Tryz.func156 rfl trivial ?_ rfl;simp only [Tryz.ntmps156,Xxe,Θ,Xqj,Xwk,Xwl,Array.replicate_succ,Array.replicate_zero,Xzo,Xze,μ,Xqw]
 gi_wp2
 gi_loopw [9] (fun i wr=> ∃ k:Nat,k≤len∧i= .int .i64 k∧J (jK so sp k) wr∧Below n₀ w0 wr∧W.heap.size≤wr.heap.size)
  (fun i _=>len - (intOf i).toNat)
 case atStart=>exact ⟨0,Xqp _,rfl,h0,hW,ε _⟩
 case round=>
  obtain ⟨k,hk,rfl,hJs,hnx,hsz⟩:=hrel;have hcx:k<len→wr.cell? ⟨b,off+k,none⟩=some (.string ⟨(ns k).toArray⟩):=fun h=>kee _ hnx _ _ _ hbn (hc k h)
  have ce1:=kee _ hnx _ _ _ hke ce;have cs1:=kee _ hnx _ _ _ hks cs;by_cases hlt:k<len
  ·have hcx':=hcx hlt;have bW1:∀ (w:World),Below n₀ w0 w→Below w0.heap.size w0 w:=fun w h=>by rw [hw0];exact h
   have PR4:∀ (w:World) (op:Int),Below n₀ w0 w→bu (bZ w) [E,SC,.int .i64 op,.str (ns k)] [ue,us,.int .i64 op,.string ⟨(ns k).toArray⟩]:=fun w op h=>by
    have h2:=a_ (oJ (bW1 w h)) _ hpr;simp only [bu,PR] at h2 ⊢;exact ⟨h2.1,h2.2.1,trivial,trivial,trivial⟩
   have LE1:jK so sp len=jK so sp k++ [so k]++ [sp k]++(jK so sp len).drop (2*(k+1)):=by
    rw [← qy];obtain ⟨r,hr⟩:=QU so sp (show k+1≤len by omega)
    conv=>rhs;rw [← hr]
    rw [List.drop_left' (qx ..)];exact hr.symm
   have hf14:Fence.wide.fn 157:=trivial;have h1n:1≤n:=by omega
   gi_wp2_with (gi_at_call 157;refine (xZ (hso k hlt) (wU (bW1 _ hnx) hg) (PR4 _ 6 hnx)).mono ?_;rintro e W1 ⟨rfl,hb1⟩;have hJ1:=hAJ _ _ _ none hJs (BP hb1 none) (fun r e=>by cases e);have hnx1:Below n₀ w0 W1:=hnx.trans (hb1.mono (by omega));obtain ⟨fn,tmps,assign,body,hy,hR⟩:=hY _ (so k) W1 hJ1 (by rw [qx];omega))
   refine hR.mono ?_
   rintro e W3 (⟨rfl,hJ3,hk3⟩|⟨rfl,hJx3⟩)
   ·have hnx3:=hnx1.trans hk3;have ce3:=kee _ hnx3 _ _ _ hke ce;have cs3:=kee _ hnx3 _ _ _ hks cs
    gi_wp2_with (gi_at_call 157;refine (xZ (hsp k hlt) (wU (bW1 _ hnx3) hg) (PR4 _ 8 hnx3)).mono ?_;rintro e W4 ⟨rfl,hb4⟩;have hJ4:=hAJ _ _ _ none hJ3 (BP hb4 none) (fun r e=>by cases e);have hnx4:Below n₀ w0 W4:=hnx3.trans (hb4.mono (by rw [← hw0];exact hnx3.size));obtain ⟨fn4,tmps4,assign4,body4,hy4,hR4⟩:=hY _ (sp k) W4 hJ4 (by rw [List.length_append,qx,List.length_singleton];omega))
    refine hR4.mono ?_
    rintro e W5 (⟨rfl,hJ5,hk5⟩|⟨rfl,hJx5⟩)
    ·gi_wp2
     go_roundw
     case rel=>exact ⟨k+1,by omega,by simp,by rw [qy];exact hJ5,hnx4.trans hk5,by have:=hb1.size;have:=hk3.size;have:=hb4.size;have:=hk5.size;omega⟩
     case measure=>simp [intOf];omega
    ·gi_wp2
     refine bodyPost_ret (results_none rfl _ _ _) rfl ?_;exact ⟨⟨_,rfl⟩,.inr ⟨_,by rw [LE1];exact Xz5 _ _,hJx5⟩⟩
   ·gi_wp2_with (refine ⟨fun _ _=>trivial, ?_⟩)
    refine bodyPost_ret (results_none rfl _ _ _) rfl ?_;exact ⟨⟨_,rfl⟩,.inr ⟨_,by rw [LE1,Ξ];exact Xz5 _ _,hJx3⟩⟩
  ·obtain rfl:k=len:=by omega
   gi_wp2
   go_end0
   exact ⟨⟨_,rfl⟩,.inl ⟨_,rfl,hJs⟩⟩
attribute [local go_sem] Oper.semAt_some
theorem QM (a1 a2 a3:Option Addr) (l1 l2 l3 c1 c2 c3:Nat) (n:Nat) (w:World):
  CallsIn Fence.wide n prog 112 #[.slice a1 l1 c1,.slice a2 l2 c2,.slice a3 l3 c3] w fun e w'=>e= .returned (.func (.func 156) #[] #[.pointer (some ⟨w.heap.size+2,0,none⟩),.pointer (some ⟨w.heap.size,0,none⟩),.pointer (some ⟨w.heap.size+1,0,none⟩)])∧w'=((w.alloc (.cells #[.slice a1 l1 c1] 54)).alloc (.cells #[.slice a2 l2 c2] 30)).alloc (.cells #[.slice a3 l3 c3] 135):=by
 refine callsIn_of_wp Tryz.func112 rfl trivial ?_ rfl;simp only [Tryz.ntmps112,Xxe,Θ,Xqj,Xwk,Xwl,Array.replicate_succ,Array.replicate_zero,Xzo,Xze,μ,Xqw]
 gi_wp2
 go_ret
 refine ⟨?_,rfl⟩;simp
theorem Y4 {w:World} {tmps:Array Value} {k:Nat} {b:Bool} (e:tmps.getD 6 undef= .pointer (some ⟨k,0,none⟩)) (d:w.cell? ⟨k,0,none⟩=some (.bool b)):(results f68 tmps).run prog w= .ok (.bool b) w:=by
 refine kN (vs:= [.bool b]) rfl ?_;intro i r v c a
 match i with
 | 0=>
  simp only [List.getElem?_cons_zero,Option.some.injEq] at a;subst a;have:r= .cell 6 4:=by
   have h0:f68.results.toList[0]? =some (.cell 6 4):=rfl;rw [h0] at c;exact (Option.some.inj c).symm
  subst this;have f:prog.underlying 4=some .bool:=by kernel_rfl
  simp only [FM,e];simp [asAddr,loadVar,f,d,go_sem]
 |n+1=>simp at a
attribute [local go_sem] Oper.semAt_some
set_option maxRecDepth 100000 in
set_option maxHeartbeats 1000000 in
theorem J7 (n:Nat) (l kn ke ks cap:Nat) (an:Option Addr) (so sp:Nat→Int) (J Jx:List Int→World→Prop) (W:World) (cn:W.cell? ⟨kn,0,none⟩=some (.slice an 0 cap)) (h0:J [] W):
  CallsIn Fence.wide n prog 156 #[.func (.yield l) #[] #[],.pointer (some ⟨kn,0,none⟩),.pointer (some ⟨ke,0,none⟩),.pointer (some ⟨ks,0,none⟩)] W fun e W'=>(∃ v,e= .returned v)∧
   ((∃ ys,ys=jK so sp 0∧J ys W')∨(∃ pre,pre<+:jK so sp 0∧Jx pre W')):=by
 refine callsIn_of_wp Tryz.func156 rfl trivial ?_ rfl;simp only [Tryz.ntmps156,Xxe,Θ,Xqj,Xwk,Xwl,Array.replicate_succ,Array.replicate_zero,Xzo,Xze,μ,Xqw]
 gi_wp2
 gi_loopw [9] (fun i wr=>i= .int .i64 0∧J [] wr) (fun _ _=>0)
 case atStart=>exact ⟨rfl,h0⟩
 case round=>
  obtain ⟨rfl,hJs⟩:=hrel
  gi_wp2
  go_end0
  exact ⟨⟨_,rfl⟩,.inl ⟨_,rfl,hJs⟩⟩
theorem H7 (n:Nat) (z:2≤n) (kn f ks b d c:Nat) (g:Option Addr) (E SC:AV) (q us:Value) (a:List (List UInt8)) (m i:List UInt8→Int) (hreach:a.length*16≤140737488351232)
  (hso:∀ s ∈ a,CO 157 [E,SC,.int .i64 6,.str s] (.ret (.int .i64 (m s)))) (hsp:∀ s ∈ a,CO 157 [E,SC,.int .i64 8,.str s] (.ret (.int .i64 (i s))))
  (w:World) (hg:lI ap (bZ w)) (hpr:bu (bZ w) [E,SC] [q,us]) (hkn:kn<w.heap.size) (hke:f<w.heap.size) (hks:ks<w.heap.size)
  (cn:w.cell? ⟨kn,0,none⟩=some (.slice g a.length c)) (ce:w.cell? ⟨f,0,none⟩=some q) (cs:w.cell? ⟨ks,0,none⟩=some us)
  (hc:0<a.length→g=some ⟨b,d,none⟩∧b<w.heap.size∧∀ j,j<a.length→w.cell? ⟨b,d+j,none⟩=some (.string ⟨((a[j]?).getD []).toArray⟩)):
  SeqStopsK Fence.wide n prog 156 #[.pointer (some ⟨kn,0,none⟩),.pointer (some ⟨f,0,none⟩),.pointer (some ⟨ks,0,none⟩)] (fun x:Int=> #[Value.int .i64 x]) (Below w.heap.size)
   (fun y=>y=jK (fun k=>m ((a[k]?).getD [])) (fun k=>i ((a[k]?).getD [])) a.length) (fun o=>o<+:jK (fun k=>m ((a[k]?).getD [])) (fun k=>i ((a[k]?).getD [])) a.length) (2*a.length) w:=by
 intro l J Jx W t A _ B h0;have hm:∀ k,k<a.length→(a[k]?).getD [] ∈ a:=fun k e=>by rw [ζ e];exact List.getElem_mem e
 by_cases h:0<a.length
 ·obtain ⟨rfl,u,r⟩:=hc h;exact MO n z l kn f ks w.heap.size b d a.length c E SC q us (fun k=>(a[k]?).getD []) _ _ hreach (fun k e=>hso _ (hm k e)) (fun k e=>hsp _ (hm k e)) J Jx W A B t.size u hkn hke hks w rfl t hg hpr cn ce cs r h0
 ·have v:a.length=0:=by omega
  rw [v] at cn ⊢;exact J7 n l kn f ks c g _ _ J Jx W ((t.cell (p:=⟨kn,0,none⟩) hkn).trans cn) h0
set_option maxRecDepth 100000 in
set_option maxHeartbeats 2000000 in
theorem MJ (E SC:AV) (hck:CO 111 [E] (.ret (.int .i64 0))) (ns:List (List UInt8)) (so sp:List UInt8→Int) (hreach:ns.length*16≤140737488351232)
  (hso:∀ s ∈ ns,CO 157 [E,SC,.int .i64 6,.str s] (.ret (.int .i64 (so s)))) (hsp:∀ s ∈ ns,CO 157 [E,SC,.int .i64 8,.str s] (.ret (.int .i64 (sp s)))) (n:Nat) (hn:4≤n)
  (a1 a2 an:Option Addr) (l1 l2 c1 c2 cap b off:Nat) (w:World) (hg:lI ap (bZ w)) (hpr:bu (bZ w) [E,SC] [.slice a1 l1 c1,.slice a2 l2 c2])
  (hc:0<ns.length→an=some ⟨b,off,none⟩∧∀ j,j<ns.length→w.cell? ⟨b,off+j,none⟩=some (.string ⟨((ns[j]?).getD []).toArray⟩)):
  CallsIn Fence.wide n prog 68 #[.slice a1 l1 c1,.slice a2 l2 c2,.slice an ns.length cap] w fun e w'=>e= .returned (.bool ((jK (fun k=>so ((ns[k]?).getD [])) (fun k=>sp ((ns[k]?).getD [])) ns.length).all fun x=>decide (x≤1)))∧Below w.heap.size w w':=by
 have h21:Fence.wide.fn 111:=trivial;have h47:Fence.wide.fn 112:=trivial;have h1n:1≤n:=by omega
 have ha:Below w.heap.size w (w.alloc (.cells #[.bool false] 4)):=(Below.refl _ w).alloc (ε _) _;have hpe:bu (bZ w) [E] [.slice a1 l1 c1]:=by simp only [bu] at hpr ⊢;exact ⟨hpr.1,trivial⟩
 refine callsIn_of_wp_marks Tryz.func68 rfl trivial ?_ rfl;simp only [Tryz.ntmps68,Xxe,Θ,Xqj,Xwk,Xwl,Array.replicate_succ,Array.replicate_zero,Xzo,Xze,μ,Xqw]
 gi_wp2_with (first
  |(gi_at_call 111;refine (xZ hck (wU ha hg) (a_ (oJ ha) _ hpe)).mono ?_;rintro e W1 ⟨rfl,hb1⟩)
  |(gi_at_call 112;refine (QM a1 a2 an l1 l2 ns.length c1 c2 cap _ _).mono ?_;rintro e W2 ⟨rfl,rfl⟩)
  |gi_in)
 obtain ⟨W3,hW3⟩:∃ W3,((W1.alloc (.cells #[.slice a1 l1 c1] 54)).alloc (.cells #[.slice a2 l2 c2] 30)).alloc (.cells #[.slice an ns.length cap] 135)=W3:=⟨_,rfl⟩
 rw [hW3];have hs3:W3.heap.size=W1.heap.size+3:=by rw [← hW3];simp
 have hb3:Below W1.heap.size W1 W3:=by rw [← hW3];exact (((Below.refl _ W1).alloc (ε _) _).alloc (by simp) _).alloc (by simp;omega) _
 have hs1:w.heap.size+1≤W1.heap.size:=by have:=hb1.size;simpa using this
 have hwW1:Below w.heap.size w W1:=ha.trans (hb1.mono (by simp));have hw3:Below w.heap.size w W3:=hwW1.trans (hb3.mono (by omega));have k1:W3.cell? ⟨W1.heap.size,0,none⟩=some (.slice a1 l1 c1):=by rw [← hW3];exact (((Boxed.new W1 54 (.slice a1 l1 c1)).alloc _).alloc _).cell
 have k2:W3.cell? ⟨W1.heap.size+1,0,none⟩=some (.slice a2 l2 c2):=by
  have:=((Boxed.new (W1.alloc (.cells #[.slice a1 l1 c1] 54)) 30 (.slice a2 l2 c2)).alloc (.cells #[.slice an ns.length cap] 135)).cell;rw [World.size_alloc] at this;rw [← hW3];exact this
 have k3:W3.cell? ⟨W1.heap.size+2,0,none⟩=some (.slice an ns.length cap):=by
  have:=(Boxed.new ((W1.alloc (.cells #[.slice a1 l1 c1] 54)).alloc (.cells #[.slice a2 l2 c2] 30)) 135 (.slice an ns.length cap)).cell;rw [World.size_alloc,World.size_alloc] at this;rw [← hW3];exact this
 have kc:W3.cell? ⟨w.heap.size,0,none⟩=some (.bool false):=((hb3.cell (p:=⟨w.heap.size,0,none⟩) hs1).trans (hb1.cell (p:=⟨w.heap.size,0,none⟩) (by simp))).trans (Boxed.new w 4 (.bool false)).cell;have kf:W3.frozen? ⟨w.heap.size,0,none⟩=false:=((hb3.frozen (p:=⟨w.heap.size,0,none⟩) hs1).trans (hb1.frozen (p:=⟨w.heap.size,0,none⟩) (by simp))).trans (Boxed.new w 4 (.bool false)).frozen;have hc3:0<ns.length→an=some ⟨b,off,none⟩∧b<W3.heap.size∧∀ j,j<ns.length→W3.cell? ⟨b,off+j,none⟩=some (.string ⟨((ns[j]?).getD []).toArray⟩):=by
  intro h;obtain ⟨h1,h2⟩:=hc h;have hbl:b<w.heap.size:=World.block_lt_of_cell? w ⟨b,off+0,none⟩ (h2 0 h);exact ⟨h1,by omega,fun j hj=>(hw3.cell (p:=⟨b,off+j,none⟩) hbl).trans (h2 j hj)⟩
 have oB:∀ {A B:World} {row:Option Nat},Below w.heap.size w A→A.grownBy B row→(∀ r,row=some r→W3.heap.size≤r∧∃ o:Obj,A.heap[r]? =some o∧o.isCells=false)→Below w.heap.size w B:=
  fun h hg hr=>ownFrom_below (β:=Unit) (n₀:=w.heap.size) (B:=W3.heap.size) (w₀:=w) (ε _) hw3.size () _ _ _ h hg hr
 have oC:∀ {A:World} {D:Nat} {o:Obj} {v:Value},W3.heap.size≤D→A.cell? ⟨w.heap.size,0,none⟩=some v→(A.putObj D o).cell? ⟨w.heap.size,0,none⟩=some v:=
  fun {A D o v} hD hv=>(World.cell?_of_block (World.putObj_heap_other (show w.heap.size ≠ D by omega))).trans hv
 have pB:∀ {A:World} {D:Nat} {o:Obj},W3.heap.size≤D→Below w.heap.size w A→Below w.heap.size w (A.putObj D o):=
  fun {A D o} hD h=>h.trans ((Below.refl _ A).grown (grownBy_putObj' A D o) h.size (fun k e=>by cases e;omega))
 refine wpIn_rangeFunc_ownF rfl h1n (gf:=156) (lb:=#[.pointer (some ⟨W1.heap.size+2,0,none⟩),.pointer (some ⟨W1.heap.size,0,none⟩),.pointer (some ⟨W1.heap.size+1,0,none⟩)]) rfl trivial (enters_of Tryz.func156 (by kernel_rfl) rfl)
  (H7 (n - 1) (by omega) (W1.heap.size+2) W1.heap.size (W1.heap.size+1) b off cap an E SC _ _ ns so sp hreach hso hsp W3 (wU hw3 hg) (a_ (oJ hw3) _ hpr) (by omega) (by omega) (by omega) k3 k1 k2 hc3)
  (fun h k=>h.trans k) (fun W l o o' hl h hc hw=>belowK_b (ε _) W l o o' hl h hc hw) (Below.refl _ _) (fun _=>rfl)
  (fun pre W=>(∀ x ∈ pre,x≤1)∧W.cell? ⟨w.heap.size,0,none⟩=some (.bool false)∧W.frozen? ⟨w.heap.size,0,none⟩=false∧Below w.heap.size w W)
  (fun c pre W=>c= .ret∧(∃ x ∈ pre,¬ x≤1)∧W.cell? ⟨w.heap.size,0,none⟩=some (.bool false)∧Below w.heap.size w W)
  (fun s A B row hs hg hr=> ⟨hs.1,cell_kept hs.2.1 hg (fun r e=>(hr r e).2),(frozen_kept hs.2.1 hg (fun r e=>(hr r e).2)).trans hs.2.2.1,oB hs.2.2.2 hg hr⟩)
  (fun c s A B row hs hg hr=> ⟨hs.1,hs.2.1,cell_kept hs.2.2.1 hg (fun r e=>(hr r e).2),oB hs.2.2.2 hg hr⟩)
  ⟨by simp,kc,kf,hw3⟩
  (fun x=> {tmps:=#[.slice a1 l1 c1,.slice a2 l2 c2,.slice an ns.length cap,undef,undef,undef,.pointer (some ⟨w.heap.size,0,none⟩),.int .i64 x,.slice a1 l1 c1,.int .i64 0,.bool false,.slice a1 l1 c1,.slice a2 l2 c2,.slice an ns.length cap,.func (.func 156) #[] #[.pointer (some ⟨W1.heap.size+2,0,none⟩),.pointer (some ⟨W1.heap.size,0,none⟩),.pointer (some ⟨W1.heap.size+1,0,none⟩)],.int .i64 x,undef,undef],defers:= []}) ?assign ?body ?done ?stop
 case assign=>
  intro l x W K hK
  gi_wp2
  exact hK
 case body=>
  rintro l pre x W ⟨hp,hcW,hfW,hbW⟩ _
  by_cases hx:x≤1
  ·have hx1:¬ (1<x):=by omega
   gi_wp2
   exact ⟨KeepsOthers.refl _,Below.refl _ _,(fun y hy=>by rcases List.mem_append.1 hy with h|h;exact hp y h;rw [List.mem_singleton.1 h];exact hx),hcW,hfW,hbW⟩
  ·have hx1:1<x:=by omega
   gi_wp2
   exact ⟨KeepsOthers.setCell _ _ _,rfl,⟨x,by simp,hx⟩,World.cell?_setCell_same' _ _ _ (by rw [hcW];rfl),hbW.setCell (p:=⟨w.heap.size,0,none⟩) (ε _) _⟩
 case done=>
  rintro D xs W hD rfl ⟨hp,hcW,hfW,hbW⟩ hK
  gi_wp2
  have hK':(W.setCell ⟨w.heap.size,0,none⟩ (.bool true)).heap[D]? =some (.deferred (some [])):=(Below.heap_setCell W ⟨w.heap.size,0,none⟩ (.bool true) D (by show D ≠ w.heap.size;omega)).trans hK;refine ⟨by simp,.inl ⟨_,_,rfl,run_takeDeferred hK', ?_⟩⟩;refine ⟨_,Y4 rfl (oC hD (World.cell?_setCell_same' _ _ _ (by rw [hcW];rfl))), ?_,pB hD (hbW.setCell (p:=⟨w.heap.size,0,none⟩) (ε _) _)⟩;congr 2;exact (List.all_eq_true.2 fun x hx=>Yq0 (hp x hx)).symm
 case stop=>
  rintro D c pre W hD hSp ⟨rfl,⟨x,hx,hx1⟩,hcW,hbW⟩ hK
  gi_wp2
  refine ⟨by simp,.inl ⟨_,_,rfl,run_takeDeferred hK, ?_⟩⟩;refine ⟨_,Y4 rfl (oC hD hcW), ?_,pB hD hbW⟩;congr 2;obtain ⟨r,hr⟩:=hSp;symm;rw [Bool.eq_false_iff];intro h;rw [← hr] at h;have h2:=of_decide_eq_true (List.all_eq_true.1 h x (List.mem_append.2 (.inl hx)));omega
def Qp (x:AV):Prop:=x= .nilS∨∃ l n b,x= .sl l n b
theorem Qp.val {S:aB} {x:AV} {v:Value} (h:Qp x) (d:PR S x v):∃ a l c,v= .slice a l c:=by
 rcases h with rfl|⟨l,n,b,rfl⟩
 ·simp only [PR] at d;exact ⟨_,_,_,d⟩
 ·simp only [PR] at d;obtain ⟨a,e,rfl,_⟩:=d;exact ⟨_,_,_,rfl⟩
def Vt (ns:List (List UInt8)) (b:Bool):AV:= .sl (ns.map .str) ns.length b
theorem Vu {S:aB} {e:List (List UInt8)} {b:Bool} {v:Value} (f:PR S (Vt e b) v):∃ an c k d,v= .slice an e.length c∧(0<e.length→an=some ⟨k,d,none⟩∧∀ j,j<e.length→S k (d+j)=some (.string ⟨((e[j]?).getD []).toArray⟩)):=by
 simp only [Vt,PR] at f;obtain ⟨a,c,rfl,_,h⟩:=f;rcases h with ⟨_,_,h,_⟩|⟨k,d,vs,rfl,g,m⟩
 ·exact ⟨a,c,0,0,rfl,fun n=>absurd h (by omega)⟩
 ·refine ⟨_,c,k,d,rfl,fun _=> ⟨rfl,fun j l=> ?_⟩⟩;obtain ⟨u,i,hp⟩:=MZ g j (x:= .str ((e[j]?).getD [])) (by rw [Ψ,ζ l];rfl);simp only [PR] at hp;rw [← hp];exact (m j u i).1
theorem ac_:qR prog 68:=enters_of Tryz.func68 (by kernel_rfl) rfl
theorem MI {args:List AV} {b:Bool} (h:∀ w cargs,lI ap (bZ w)→bu (bZ w) args cargs→CallsIn Fence.wide 9 prog 68 cargs.toArray w fun e w'=>e= .returned (.bool b)∧Below w.heap.size w w'):CO 68 args (.ret (.bool b)):=by
 refine ⟨ε _,ac_, ?_⟩;intro m S w cargs d i;have a:gZ S (bZ w):=fun k o v c=>d.sealed k o v c
 have p:lI ap (bZ w):=by
  intro k n c;obtain ⟨vs,l,f⟩:=d.glob k n c;exact ⟨vs,a_ a _ l,fun j u g=> ⟨a _ _ _ (f j u g).1,(f j u g).2⟩⟩
 refine (callsIn_wide.1 (h w cargs p (a_ a _ (ji (m:=m) _ i)))).mono ?_
 rintro e w' ⟨rfl,hb⟩
 refine ⟨m,S, ?_, ?_,⟨_,rfl, ?_⟩⟩
 ·exact ⟨fun b q B B' h=>by simp [aC,iW,jf] at h,fun b B h=>by simp [aC,iW,jf] at h,fun k o v h=>oJ hb k o v (a k o v h),fun b B h=>by simp [aC,iW,jf] at h,d.glob⟩
 ·exact ⟨Ge.refl _ _,gZ.refl S,hb.os,hb.tape,hb.output,hb.size,fun k c _=>hb.block k c,fun _ B h=>by simp [aC,iW,jf] at h,fun _ _ _ h=> .inl h,fun _ B h=>by simp [aC,iW,jf] at h⟩
 ·simp only [u_,VR,PR]
theorem DD (E SC:AV) (b:Bool) (u:Qp E) (l:Qp SC) (m:CO 111 [E] (.ret (ω 0))) (a:List (List UInt8)) (d c:List UInt8→Int) (hreach:a.length*16≤140737488351232)
  (hso:∀ s ∈ a,CO 157 [E,SC,ω 6,.str s] (.ret (ω (d s)))) (hsp:∀ s ∈ a,CO 157 [E,SC,ω 8,.str s] (.ret (ω (c s)))):
  CO 68 [E,SC,Vt a b] (.ret (.bool (a.all fun s=>decide (d s≤1) && decide (c s≤1)))):=by
 have e:(a.all fun s=>decide (d s≤1) && decide (c s≤1))=(jK (fun k=>d ((a[k]?).getD [])) (fun k=>c ((a[k]?).getD [])) a.length).all fun x=>decide (x≤1):=by
  have:a=(Xqf a.length).map fun k=>(a[k]?).getD []:=by
   apply Xv1
   ·simp
   ·intro i g o;simp [ζ g]
  conv=>lhs;rw [this]
  simp [jK,List.all_flatMap,List.all_map,Function.comp_def]
 rw [e];refine MI fun w cargs B f=> ?_
 match cargs,f with
 | [ue,us,un],f=>
  simp only [bu] at f;obtain ⟨g,o,v,_⟩:=f;obtain ⟨y,F,A,rfl⟩:=u.val g;obtain ⟨D,t,z,rfl⟩:=l.val o;obtain ⟨r,n,k,p,rfl,q⟩:=Vu v;exact MJ E SC m a d c hreach hso hsp 9 (by omega) y D r F t A z n k p w B (by simp only [bu];exact ⟨g,o,trivial⟩) fun h=> ⟨(q h).1,fun j C=>sU ((q h).2 j C) rfl⟩
def az:List Nat:= [13,16,18,22,26,32,34,35,48,49,50,65,68,72,73,74,75,76,77,99,110,111,116,117,118,120,150,157,161,164,167,168,170,173,193,204,225,227,228,229,239,240,250,263,269,315,349]
theorem acj (a:List AV) (n:Nat) (b:Bool):Qp (.sl a n b):= .inr ⟨_,_,_,rfl⟩
theorem aci:Qp .nilS:= .inl rfl
def xA:Lw:=⟨[],0,[],0,[⟨[97],false,1,0,[⟨1,false,[1],[1],[]⟩],false,false,[],[],false,[],[]⟩,⟨[98],false,1,0,[⟨6,false,[],[],[97]⟩,⟨8,false,[],[],[99]⟩,⟨9,false,[],[],[]⟩],false,false,[],[],false,[],[]⟩,⟨[99],false,1,0,[⟨6,false,[],[],[98]⟩],false,false,[],[],false,[],[]⟩,⟨[100],false,1,0,[⟨6,false,[],[],[100]⟩],false,false,[],[],false,[],[]⟩]⟩
theorem U_:bF (.agg [.nilS,.nilS,.sl [.str [97],.bool false,ω 1,ω 0,.sl zcc4_27 1 true,.bool false,.bool false,.str [],.str [],.bool false,.str [],.str [],.str [98],.bool false,ω 1,ω 0,.sl zcc4_19 3 true,.bool false,.bool false,.str [],.str [],.bool false,.str [],.str [],.str [99],.bool false,ω 1,ω 0,.sl zcc4_28 1 true,.bool false,.bool false,.str [],.str [],.bool false,.str [],.str [],.str [100],.bool false,ω 1,ω 0,.sl zcc4_25 1 true,.bool false,.bool false,.str [],.str [],.bool false,.str [],.str []] 4 true]) (.agg (xA.c false false true)):=bF.agg (.cons (bF.nilS false rfl) (.cons (bF.nilS false rfl) (.cons (bF.slP (.same (.same (.same (.same (.sl (.same (.same (.same (.same (.same (.same (.same (.same (.same (.same (.same (.sl (.same (.same (.same (.same (.same (.same (.same (.same (.same (.same (.same (.sl (.same (.same (.same (.same (.same (.same (.same (.same (.same (.same (.same (.sl (.same (.same (.same (.same (.same (.same (.same (.nil)))))))))))))))))))))))))))))))))))))))))))))))))) .nil)))
theorem Va:vZ xA:=⟨by decide,fun p hp=>by
 simp only [xA,Xqu,Xxb,or_false] at hp;rcases hp with rfl|rfl|rfl|rfl<;>exact ⟨by decide,fun s w=>Nat.le_trans (List.length_filterMap_le _ _) (by decide)⟩⟩
theorem dG:CO 65 [ω 1] (.ret (.str [1])):=cD az (.nil)
theorem Zh:CO 16 [.agg [.nilS,.nilS,.sl [.str [97],.bool false,ω 1,ω 0,.sl zcc4_27 1 true,.bool false,.bool false,.str [],.str [],.bool false,.str [],.str [],.str [98],.bool false,ω 1,ω 0,.sl zcc4_19 3 true,.bool false,.bool false,.str [],.str [],.bool false,.str [],.str [],.str [99],.bool false,ω 1,ω 0,.sl zcc4_28 1 true,.bool false,.bool false,.str [],.str [],.bool false,.str [],.str [],.str [100],.bool false,ω 1,ω 0,.sl zcc4_25 1 true,.bool false,.bool false,.str [],.str [],.bool false,.str [],.str []] 4 true],ω 1,.agg [ω 0,ω 1]] (.ret (.own [ω 0,ω 0] 1 2)):=cD az (.nil)
theorem Zj:CO 16 [.agg [.nilS,.nilS,.sl [.str [97],.bool false,ω 1,ω 0,.sl zcc4_27 1 true,.bool false,.bool false,.str [],.str [],.bool false,.str [],.str [],.str [98],.bool false,ω 1,ω 0,.sl zcc4_19 3 true,.bool false,.bool false,.str [],.str [],.bool false,.str [],.str [],.str [99],.bool false,ω 1,ω 0,.sl zcc4_28 1 true,.bool false,.bool false,.str [],.str [],.bool false,.str [],.str [],.str [100],.bool false,ω 1,ω 0,.sl zcc4_25 1 true,.bool false,.bool false,.str [],.str [],.bool false,.str [],.str []] 4 true],ω 2,.agg [ω 0,ω 1]] (.ret (.own [ω 0,ω 0,ω 1,ω 2] 2 2)):=cD az (.nil)
theorem Zl:CO 16 [.agg [.nilS,.nilS,.sl [.str [97],.bool false,ω 1,ω 0,.sl zcc4_27 1 true,.bool false,.bool false,.str [],.str [],.bool false,.str [],.str [],.str [98],.bool false,ω 1,ω 0,.sl zcc4_19 3 true,.bool false,.bool false,.str [],.str [],.bool false,.str [],.str [],.str [99],.bool false,ω 1,ω 0,.sl zcc4_28 1 true,.bool false,.bool false,.str [],.str [],.bool false,.str [],.str [],.str [100],.bool false,ω 1,ω 0,.sl zcc4_25 1 true,.bool false,.bool false,.str [],.str [],.bool false,.str [],.str []] 4 true],ω 2,.agg [ω 1,ω 1]] (.ret (.own [ω 0,ω 2,ω 1,ω 0] 2 2)):=cD az (.nil)
theorem U0:CO 49 [.agg [.nilS,.nilS,.sl [.str [97],.bool false,ω 1,ω 0,.sl zcc4_27 1 true,.bool false,.bool false,.str [],.str [],.bool false,.str [],.str [],.str [98],.bool false,ω 1,ω 0,.sl zcc4_19 3 true,.bool false,.bool false,.str [],.str [],.bool false,.str [],.str [],.str [99],.bool false,ω 1,ω 0,.sl zcc4_28 1 true,.bool false,.bool false,.str [],.str [],.bool false,.str [],.str [],.str [100],.bool false,ω 1,ω 0,.sl zcc4_25 1 true,.bool false,.bool false,.str [],.str [],.bool false,.str [],.str []] 4 true],ω 1] (.ret (.own zcc4_22 4 2)):=cD az (.nil)
theorem Zo:CO 16 [.agg [.nilS,.nilS,.sl [.str [97],.bool false,ω 1,ω 0,.sl zcc4_27 1 true,.bool false,.bool false,.str [],.str [],.bool false,.str [],.str [],.str [98],.bool false,ω 1,ω 0,.sl zcc4_19 3 true,.bool false,.bool false,.str [],.str [],.bool false,.str [],.str [],.str [99],.bool false,ω 1,ω 0,.sl zcc4_28 1 true,.bool false,.bool false,.str [],.str [],.bool false,.str [],.str [],.str [100],.bool false,ω 1,ω 0,.sl zcc4_25 1 true,.bool false,.bool false,.str [],.str [],.bool false,.str [],.str []] 4 true],ω 1,.agg [ω 0,ω 0]] (.ret (.nilS)):=cD az (.nil)
theorem Zp:CO 16 [.agg [.nilS,.nilS,.sl [.str [97],.bool false,ω 1,ω 0,.sl zcc4_27 1 true,.bool false,.bool false,.str [],.str [],.bool false,.str [],.str [],.str [98],.bool false,ω 1,ω 0,.sl zcc4_19 3 true,.bool false,.bool false,.str [],.str [],.bool false,.str [],.str [],.str [99],.bool false,ω 1,ω 0,.sl zcc4_28 1 true,.bool false,.bool false,.str [],.str [],.bool false,.str [],.str [],.str [100],.bool false,ω 1,ω 0,.sl zcc4_25 1 true,.bool false,.bool false,.str [],.str [],.bool false,.str [],.str []] 4 true],ω 1,.agg [ω 0,ω 2]] (.ret (.own [ω 0,ω 1] 1 2)):=cD az (.nil)
theorem Zq:CO 16 [.agg [.nilS,.nilS,.sl [.str [97],.bool false,ω 1,ω 0,.sl zcc4_27 1 true,.bool false,.bool false,.str [],.str [],.bool false,.str [],.str [],.str [98],.bool false,ω 1,ω 0,.sl zcc4_19 3 true,.bool false,.bool false,.str [],.str [],.bool false,.str [],.str [],.str [99],.bool false,ω 1,ω 0,.sl zcc4_28 1 true,.bool false,.bool false,.str [],.str [],.bool false,.str [],.str [],.str [100],.bool false,ω 1,ω 0,.sl zcc4_25 1 true,.bool false,.bool false,.str [],.str [],.bool false,.str [],.str []] 4 true],ω 1,.agg [ω 0,ω 3]] (.ret (.own [ω 0,ω 3] 1 2)):=cD az (.nil)
theorem Zr:ah prog ap 48 [.mp [.agg [ω 0,ω 0],.agg [ω 0,ω 1],.agg [ω 0,ω 2],.agg [ω 0,ω 3]] [.nilS,.sl [ω 0,ω 0] 1 true,.sl [ω 0,ω 1] 1 true,.sl [ω 0,ω 3] 1 true],.ref 0 0 0 4] [⟨zcc4_22,0,false,0,2,true⟩] (.ret (.sl [.bool false,.sl [ω 0,ω 0] 1 true,.bool false,.sl [ω 0,ω 1] 1 true,.bool false,.sl [ω 0,ω 2] 1 true,.bool true,.sl [ω 0,ω 3] 1 true] 4 true)) [⟨zcc4_22,0,false,0,2,true⟩]:=cD az (.nil)
theorem zI:ah prog ap 50 [.ifc 99 (.ptr 0 0 0),.ifc 66 (.agg [.bool false,.sl [ω 0,ω 0] 1 false])] [⟨[.nilS,.ifc 101 (.agg [])],0,false,0,0,true⟩] (.ret (.tup [])) [⟨[.ref 1 0 0 1,.ifc 101 (.agg [])],0,false,0,0,false⟩,⟨[.bool false,.sl [ω 0,ω 0] 1 false],0,false,0,2,true⟩]:=cD az (.nil)
theorem Zt:ah prog ap 50 [.ifc 99 (.ptr 0 0 0),.ifc 66 (.agg [.bool true,.sl [ω 0,ω 3] 1 false])] [⟨[.ref 1 0 0 1,.ifc 101 (.agg [])],0,false,0,0,false⟩,⟨[.bool false,.sl [ω 0,ω 0] 1 false],0,false,0,2,true⟩] (.ret (.tup [])) [⟨[.ref 1 1 0 2,.ifc 101 (.agg [])],0,false,0,0,false⟩,⟨[.bool false,.sl [ω 0,ω 0] 1 false,.bool true,.sl [ω 0,ω 3] 1 false],1,false,0,2,true⟩]:=cD az (.nil)
theorem Zu:ah prog ap 99 [.ifc 99 (.ptr 0 0 0),ω 0,ω 1] [⟨[.ref 1 0 0 2,.ifc 101 (.agg [])],0,false,0,0,false⟩,⟨[.bool true,.sl [ω 0,ω 3] 1 false,.bool false,.sl [ω 0,ω 0] 1 false],0,false,0,2,true⟩] (.ret (.bool false)) [⟨[.ref 1 0 0 2,.ifc 101 (.agg [])],0,false,0,0,false⟩,⟨[.bool true,.sl [ω 0,ω 3] 1 false,.bool false,.sl [ω 0,ω 0] 1 false],0,false,0,2,true⟩]:=cD az (.nil)
theorem Zv:ah prog ap 349 [.ptr 0 0 0] [⟨[.ref 1 0 0 2,.ifc 101 (.agg [])],0,false,0,0,false⟩,⟨[.bool true,.sl [ω 0,ω 3] 1 false,.bool false,.sl [ω 0,ω 0] 1 false],0,false,0,2,true⟩] (.ret (.ifc 66 (.agg [.bool false,.sl [ω 0,ω 0] 1 false]))) [⟨[.ref 1 0 0 1,.ifc 101 (.agg [])],0,false,0,0,false⟩,⟨[.bool true,.sl [ω 0,ω 3] 1 false,.bool false,.sl [ω 0,ω 0] 1 false],0,false,0,2,true⟩]:=cD az (.nil)
theorem Zw:ah prog ap 50 [.ifc 99 (.ptr 0 0 0),.ifc 66 (.agg [.bool false,.sl [ω 0,ω 1] 1 false])] [⟨[.ref 1 0 0 1,.ifc 101 (.agg [])],0,false,0,0,false⟩,⟨[.bool true,.sl [ω 0,ω 3] 1 false,.bool false,.sl [ω 0,ω 0] 1 false],0,false,0,2,true⟩] (.ret (.tup [])) [⟨[.ref 1 1 0 2,.ifc 101 (.agg [])],0,false,0,0,false⟩,⟨[.bool false,.sl [ω 0,ω 1] 1 false,.bool true,.sl [ω 0,ω 3] 1 false],1,false,0,2,true⟩]:=cD az (.nil)
theorem Zx:ah prog ap 99 [.ifc 99 (.ptr 0 0 0),ω 0,ω 1] [⟨[.ref 1 0 0 2,.ifc 101 (.agg [])],0,false,0,0,false⟩,⟨[.bool true,.sl [ω 0,ω 3] 1 false,.bool false,.sl [ω 0,ω 1] 1 false],0,false,0,2,true⟩] (.ret (.bool false)) [⟨[.ref 1 0 0 2,.ifc 101 (.agg [])],0,false,0,0,false⟩,⟨[.bool true,.sl [ω 0,ω 3] 1 false,.bool false,.sl [ω 0,ω 1] 1 false],0,false,0,2,true⟩]:=cD az (.nil)
theorem Zy:ah prog ap 349 [.ptr 0 0 0] [⟨[.ref 1 0 0 2,.ifc 101 (.agg [])],0,false,0,0,false⟩,⟨[.bool true,.sl [ω 0,ω 3] 1 false,.bool false,.sl [ω 0,ω 1] 1 false],0,false,0,2,true⟩] (.ret (.ifc 66 (.agg [.bool false,.sl [ω 0,ω 1] 1 false]))) [⟨[.ref 1 0 0 1,.ifc 101 (.agg [])],0,false,0,0,false⟩,⟨[.bool true,.sl [ω 0,ω 3] 1 false,.bool false,.sl [ω 0,ω 1] 1 false],0,false,0,2,true⟩]:=cD az (.nil)
theorem Zz:ah prog ap 50 [.ifc 99 (.ptr 0 0 0),.ifc 66 (.agg [.bool false,.sl [ω 0,ω 2] 1 false])] [⟨[.ref 1 0 0 1,.ifc 101 (.agg [])],0,false,0,0,false⟩,⟨[.bool true,.sl [ω 0,ω 3] 1 false,.bool false,.sl [ω 0,ω 1] 1 false],0,false,0,2,true⟩] (.ret (.tup [])) [⟨[.ref 1 1 0 2,.ifc 101 (.agg [])],0,false,0,0,false⟩,⟨[.bool false,.sl [ω 0,ω 2] 1 false,.bool true,.sl [ω 0,ω 3] 1 false],1,false,0,2,true⟩]:=cD az (.nil)
theorem ZA:ah prog ap 99 [.ifc 99 (.ptr 0 0 0),ω 0,ω 1] [⟨[.ref 1 0 0 2,.ifc 101 (.agg [])],0,false,0,0,false⟩,⟨[.bool true,.sl [ω 0,ω 3] 1 false,.bool false,.sl [ω 0,ω 2] 1 false],0,false,0,2,true⟩] (.ret (.bool false)) [⟨[.ref 1 0 0 2,.ifc 101 (.agg [])],0,false,0,0,false⟩,⟨[.bool true,.sl [ω 0,ω 3] 1 false,.bool false,.sl [ω 0,ω 2] 1 false],0,false,0,2,true⟩]:=cD az (.nil)
theorem ZB:ah prog ap 349 [.ptr 0 0 0] [⟨[.ref 1 0 0 2,.ifc 101 (.agg [])],0,false,0,0,false⟩,⟨[.bool true,.sl [ω 0,ω 3] 1 false,.bool false,.sl [ω 0,ω 2] 1 false],0,false,0,2,true⟩] (.ret (.ifc 66 (.agg [.bool false,.sl [ω 0,ω 2] 1 false]))) [⟨[.ref 1 0 0 1,.ifc 101 (.agg [])],0,false,0,0,false⟩,⟨[.bool true,.sl [ω 0,ω 3] 1 false,.bool false,.sl [ω 0,ω 2] 1 false],0,false,0,2,true⟩]:=cD az (.nil)
theorem ZC:ah prog ap 99 [.ifc 99 (.ptr 0 0 0),ω 0,ω 0] [⟨[.ref 1 0 0 1,.ifc 101 (.agg [])],0,false,0,0,false⟩,⟨[.bool true,.sl [ω 0,ω 3] 1 false,.bool false,.sl [ω 0,ω 2] 1 false],0,false,0,2,true⟩] (.ret (.bool false)) [⟨[.ref 1 0 0 1,.ifc 101 (.agg [])],0,false,0,0,false⟩,⟨[.bool true,.sl [ω 0,ω 3] 1 false,.bool false,.sl [ω 0,ω 2] 1 false],0,false,0,2,true⟩]:=cD az (.nil)
theorem ZE:ah prog ap 349 [.ptr 0 0 0] [⟨[.ref 1 0 0 1,.ifc 101 (.agg [])],0,false,0,0,false⟩,⟨[.bool true,.sl [ω 0,ω 3] 1 false,.bool false,.sl [ω 0,ω 2] 1 false],0,false,0,2,true⟩] (.ret (.ifc 66 (.agg [.bool true,.sl [ω 0,ω 3] 1 false]))) [⟨[.ref 1 0 0 0,.ifc 101 (.agg [])],0,false,0,0,false⟩,⟨[.bool true,.sl [ω 0,ω 3] 1 false,.bool false,.sl [ω 0,ω 2] 1 false],0,false,0,2,true⟩]:=cD az (.nil)
theorem U1:CO 49 [.agg [.nilS,.nilS,.sl [.str [97],.bool false,ω 1,ω 0,.sl zcc4_27 1 true,.bool false,.bool false,.str [],.str [],.bool false,.str [],.str [],.str [98],.bool false,ω 1,ω 0,.sl zcc4_19 3 true,.bool false,.bool false,.str [],.str [],.bool false,.str [],.str [],.str [99],.bool false,ω 1,ω 0,.sl zcc4_28 1 true,.bool false,.bool false,.str [],.str [],.bool false,.str [],.str [],.str [100],.bool false,ω 1,ω 0,.sl zcc4_25 1 true,.bool false,.bool false,.str [],.str [],.bool false,.str [],.str []] 4 true],ω 2] (.ret (.own zcc4_17 8 2)):=cD az (.nil)
theorem ZG:CO 16 [.agg [.nilS,.nilS,.sl [.str [97],.bool false,ω 1,ω 0,.sl zcc4_27 1 true,.bool false,.bool false,.str [],.str [],.bool false,.str [],.str [],.str [98],.bool false,ω 1,ω 0,.sl zcc4_19 3 true,.bool false,.bool false,.str [],.str [],.bool false,.str [],.str [],.str [99],.bool false,ω 1,ω 0,.sl zcc4_28 1 true,.bool false,.bool false,.str [],.str [],.bool false,.str [],.str [],.str [100],.bool false,ω 1,ω 0,.sl zcc4_25 1 true,.bool false,.bool false,.str [],.str [],.bool false,.str [],.str []] 4 true],ω 2,.agg [ω 0,ω 0]] (.ret (.nilS)):=cD az (.nil)
theorem ZH:CO 16 [.agg [.nilS,.nilS,.sl [.str [97],.bool false,ω 1,ω 0,.sl zcc4_27 1 true,.bool false,.bool false,.str [],.str [],.bool false,.str [],.str [],.str [98],.bool false,ω 1,ω 0,.sl zcc4_19 3 true,.bool false,.bool false,.str [],.str [],.bool false,.str [],.str [],.str [99],.bool false,ω 1,ω 0,.sl zcc4_28 1 true,.bool false,.bool false,.str [],.str [],.bool false,.str [],.str [],.str [100],.bool false,ω 1,ω 0,.sl zcc4_25 1 true,.bool false,.bool false,.str [],.str [],.bool false,.str [],.str []] 4 true],ω 2,.agg [ω 0,ω 2]] (.ret (.own [ω 0,ω 1] 1 2)):=cD az (.nil)
theorem ZI:CO 16 [.agg [.nilS,.nilS,.sl [.str [97],.bool false,ω 1,ω 0,.sl zcc4_27 1 true,.bool false,.bool false,.str [],.str [],.bool false,.str [],.str [],.str [98],.bool false,ω 1,ω 0,.sl zcc4_19 3 true,.bool false,.bool false,.str [],.str [],.bool false,.str [],.str [],.str [99],.bool false,ω 1,ω 0,.sl zcc4_28 1 true,.bool false,.bool false,.str [],.str [],.bool false,.str [],.str [],.str [100],.bool false,ω 1,ω 0,.sl zcc4_25 1 true,.bool false,.bool false,.str [],.str [],.bool false,.str [],.str []] 4 true],ω 2,.agg [ω 0,ω 3]] (.ret (.own [ω 0,ω 3] 1 2)):=cD az (.nil)
theorem ZJ:CO 16 [.agg [.nilS,.nilS,.sl [.str [97],.bool false,ω 1,ω 0,.sl zcc4_27 1 true,.bool false,.bool false,.str [],.str [],.bool false,.str [],.str [],.str [98],.bool false,ω 1,ω 0,.sl zcc4_19 3 true,.bool false,.bool false,.str [],.str [],.bool false,.str [],.str [],.str [99],.bool false,ω 1,ω 0,.sl zcc4_28 1 true,.bool false,.bool false,.str [],.str [],.bool false,.str [],.str [],.str [100],.bool false,ω 1,ω 0,.sl zcc4_25 1 true,.bool false,.bool false,.str [],.str [],.bool false,.str [],.str []] 4 true],ω 2,.agg [ω 1,ω 0]] (.ret (.nilS)):=cD az (.nil)
theorem ZK:CO 16 [.agg [.nilS,.nilS,.sl [.str [97],.bool false,ω 1,ω 0,.sl zcc4_27 1 true,.bool false,.bool false,.str [],.str [],.bool false,.str [],.str [],.str [98],.bool false,ω 1,ω 0,.sl zcc4_19 3 true,.bool false,.bool false,.str [],.str [],.bool false,.str [],.str [],.str [99],.bool false,ω 1,ω 0,.sl zcc4_28 1 true,.bool false,.bool false,.str [],.str [],.bool false,.str [],.str [],.str [100],.bool false,ω 1,ω 0,.sl zcc4_25 1 true,.bool false,.bool false,.str [],.str [],.bool false,.str [],.str []] 4 true],ω 2,.agg [ω 1,ω 2]] (.ret (.own [ω 1,ω 1] 1 2)):=cD az (.nil)
theorem ZL:CO 16 [.agg [.nilS,.nilS,.sl [.str [97],.bool false,ω 1,ω 0,.sl zcc4_27 1 true,.bool false,.bool false,.str [],.str [],.bool false,.str [],.str [],.str [98],.bool false,ω 1,ω 0,.sl zcc4_19 3 true,.bool false,.bool false,.str [],.str [],.bool false,.str [],.str [],.str [99],.bool false,ω 1,ω 0,.sl zcc4_28 1 true,.bool false,.bool false,.str [],.str [],.bool false,.str [],.str [],.str [100],.bool false,ω 1,ω 0,.sl zcc4_25 1 true,.bool false,.bool false,.str [],.str [],.bool false,.str [],.str []] 4 true],ω 2,.agg [ω 1,ω 3]] (.ret (.own [ω 1,ω 3] 1 2)):=cD az (.nil)
theorem ZM:ah prog ap 48 [.mp [.agg [ω 0,ω 0],.agg [ω 0,ω 1],.agg [ω 0,ω 2],.agg [ω 0,ω 3],.agg [ω 1,ω 0],.agg [ω 1,ω 1],.agg [ω 1,ω 2],.agg [ω 1,ω 3]] [.nilS,.sl [ω 0,ω 0,ω 1,ω 2] 2 true,.sl [ω 0,ω 1] 1 true,.sl [ω 0,ω 3] 1 true,.nilS,.sl [ω 0,ω 2,ω 1,ω 0] 2 true,.sl [ω 1,ω 1] 1 true,.sl [ω 1,ω 3] 1 true],.ref 0 0 0 8] [⟨zcc4_17,0,false,0,2,true⟩] (.ret (.sl [.bool false,.sl [ω 0,ω 0] 1 true,.bool false,.sl [ω 1,ω 0] 1 true,.bool true,.sl zcc4_23 4 true,.bool true,.sl [ω 0,ω 3] 1 true,.bool true,.sl [ω 1,ω 3] 1 true] 5 true)) [⟨zcc4_17,0,false,0,2,true⟩]:=cD az (.nil)
theorem JY:ah prog ap 50 [.ifc 99 (.ptr 0 0 0),.ifc 66 (.agg [.bool false,.sl [ω 1,ω 0] 1 false])] [⟨[.ref 1 0 0 1,.ifc 101 (.agg [])],0,false,0,0,false⟩,⟨[.bool false,.sl [ω 0,ω 0] 1 false],0,false,0,2,true⟩] (.ret (.tup [])) [⟨[.ref 1 1 0 2,.ifc 101 (.agg [])],0,false,0,0,false⟩,⟨[.bool false,.sl [ω 0,ω 0] 1 false,.bool false,.sl [ω 1,ω 0] 1 false],1,false,0,2,true⟩]:=cD az (.nil)
theorem ZN:ah prog ap 50 [.ifc 99 (.ptr 0 0 0),.ifc 66 (.agg [.bool true,.sl [ω 0,ω 3] 1 false])] [⟨[.ref 1 0 0 2,.ifc 101 (.agg [])],0,false,0,0,false⟩,⟨[.bool false,.sl [ω 0,ω 0] 1 false,.bool false,.sl [ω 1,ω 0] 1 false],0,false,0,2,true⟩] (.ret (.tup [])) [⟨[.ref 1 1 0 3,.ifc 101 (.agg [])],0,false,0,0,false⟩,⟨[.bool false,.sl [ω 0,ω 0] 1 false,.bool false,.sl [ω 1,ω 0] 1 false,.bool true,.sl [ω 0,ω 3] 1 false],1,false,0,2,true⟩]:=cD az (.nil)
theorem ZO:ah prog ap 50 [.ifc 99 (.ptr 0 0 0),.ifc 66 (.agg [.bool true,.sl [ω 1,ω 3] 1 false])] [⟨[.ref 1 0 0 3,.ifc 101 (.agg [])],0,false,0,0,false⟩,⟨[.bool false,.sl [ω 0,ω 0] 1 false,.bool false,.sl [ω 1,ω 0] 1 false,.bool true,.sl [ω 0,ω 3] 1 false],0,false,0,2,true⟩] (.ret (.tup [])) [⟨[.ref 1 1 0 4,.ifc 101 (.agg [])],0,false,0,0,false⟩,⟨[.bool false,.sl [ω 0,ω 0] 1 false,.bool false,.sl [ω 1,ω 0] 1 false,.bool true,.sl [ω 0,ω 3] 1 false,.bool true,.sl [ω 1,ω 3] 1 false],1,false,0,2,true⟩]:=cD az (.nil)
theorem ZP:ah prog ap 99 [.ifc 99 (.ptr 0 0 0),ω 0,ω 3] [⟨[.ref 1 0 0 4,.ifc 101 (.agg [])],0,false,0,0,false⟩,⟨[.bool true,.sl [ω 1,ω 3] 1 false,.bool false,.sl [ω 1,ω 0] 1 false,.bool true,.sl [ω 0,ω 3] 1 false,.bool false,.sl [ω 0,ω 0] 1 false],0,false,0,2,true⟩] (.ret (.bool true)) [⟨[.ref 1 0 0 4,.ifc 101 (.agg [])],0,false,0,0,false⟩,⟨[.bool true,.sl [ω 0,ω 3] 1 false,.bool false,.sl [ω 1,ω 0] 1 false,.bool true,.sl [ω 1,ω 3] 1 false,.bool false,.sl [ω 0,ω 0] 1 false],0,false,0,2,true⟩]:=cD az (.nil)
theorem ZQ:ah prog ap 349 [.ptr 0 0 0] [⟨[.ref 1 0 0 4,.ifc 101 (.agg [])],0,false,0,0,false⟩,⟨[.bool true,.sl [ω 0,ω 3] 1 false,.bool false,.sl [ω 1,ω 0] 1 false,.bool true,.sl [ω 1,ω 3] 1 false,.bool false,.sl [ω 0,ω 0] 1 false],0,false,0,2,true⟩] (.ret (.ifc 66 (.agg [.bool false,.sl [ω 0,ω 0] 1 false]))) [⟨[.ref 1 0 0 3,.ifc 101 (.agg [])],0,false,0,0,false⟩,⟨[.bool true,.sl [ω 0,ω 3] 1 false,.bool false,.sl [ω 1,ω 0] 1 false,.bool true,.sl [ω 1,ω 3] 1 false,.bool false,.sl [ω 0,ω 0] 1 false],0,false,0,2,true⟩]:=cD az (.nil)
theorem ZR:ah prog ap 99 [.ifc 99 (.ptr 0 0 0),ω 0,ω 2] [⟨[.ref 1 0 0 3,.ifc 101 (.agg [])],0,false,0,0,false⟩,⟨[.bool true,.sl [ω 1,ω 3] 1 false,.bool false,.sl [ω 1,ω 0] 1 false,.bool true,.sl [ω 0,ω 3] 1 false,.bool false,.sl [ω 0,ω 0] 1 false],0,false,0,2,true⟩] (.ret (.bool true)) [⟨[.ref 1 0 0 3,.ifc 101 (.agg [])],0,false,0,0,false⟩,⟨[.bool false,.sl [ω 1,ω 0] 1 false,.bool true,.sl [ω 1,ω 3] 1 false,.bool true,.sl [ω 0,ω 3] 1 false,.bool false,.sl [ω 0,ω 0] 1 false],0,false,0,2,true⟩]:=cD az (.nil)
theorem ZT:ah prog ap 349 [.ptr 0 0 0] [⟨[.ref 1 0 0 3,.ifc 101 (.agg [])],0,false,0,0,false⟩,⟨[.bool false,.sl [ω 1,ω 0] 1 false,.bool true,.sl [ω 1,ω 3] 1 false,.bool true,.sl [ω 0,ω 3] 1 false,.bool false,.sl [ω 0,ω 0] 1 false],0,false,0,2,true⟩] (.ret (.ifc 66 (.agg [.bool true,.sl [ω 0,ω 3] 1 false]))) [⟨[.ref 1 0 0 2,.ifc 101 (.agg [])],0,false,0,0,false⟩,⟨[.bool false,.sl [ω 1,ω 0] 1 false,.bool true,.sl [ω 1,ω 3] 1 false,.bool true,.sl [ω 0,ω 3] 1 false,.bool false,.sl [ω 0,ω 0] 1 false],0,false,0,2,true⟩]:=cD az (.nil)
theorem ZU:ah prog ap 99 [.ifc 99 (.ptr 0 0 0),ω 0,ω 1] [⟨[.ref 1 0 0 2,.ifc 101 (.agg [])],0,false,0,0,false⟩,⟨[.bool true,.sl [ω 1,ω 3] 1 false,.bool false,.sl [ω 1,ω 0] 1 false,.bool true,.sl [ω 0,ω 3] 1 false,.bool false,.sl [ω 0,ω 0] 1 false],0,false,0,2,true⟩] (.ret (.bool false)) [⟨[.ref 1 0 0 2,.ifc 101 (.agg [])],0,false,0,0,false⟩,⟨[.bool true,.sl [ω 1,ω 3] 1 false,.bool false,.sl [ω 1,ω 0] 1 false,.bool true,.sl [ω 0,ω 3] 1 false,.bool false,.sl [ω 0,ω 0] 1 false],0,false,0,2,true⟩]:=cD az (.nil)
theorem ZV:ah prog ap 349 [.ptr 0 0 0] [⟨[.ref 1 0 0 2,.ifc 101 (.agg [])],0,false,0,0,false⟩,⟨[.bool true,.sl [ω 1,ω 3] 1 false,.bool false,.sl [ω 1,ω 0] 1 false,.bool true,.sl [ω 0,ω 3] 1 false,.bool false,.sl [ω 0,ω 0] 1 false],0,false,0,2,true⟩] (.ret (.ifc 66 (.agg [.bool false,.sl [ω 1,ω 0] 1 false]))) [⟨[.ref 1 0 0 1,.ifc 101 (.agg [])],0,false,0,0,false⟩,⟨[.bool true,.sl [ω 1,ω 3] 1 false,.bool false,.sl [ω 1,ω 0] 1 false,.bool true,.sl [ω 0,ω 3] 1 false,.bool false,.sl [ω 0,ω 0] 1 false],0,false,0,2,true⟩]:=cD az (.nil)
theorem ZW:ah prog ap 50 [.ifc 99 (.ptr 0 0 0),.ifc 66 (.agg [.bool true,.sl zcc4_23 4 false])] [⟨[.ref 1 0 0 1,.ifc 101 (.agg [])],0,false,0,0,false⟩,⟨[.bool true,.sl [ω 1,ω 3] 1 false,.bool false,.sl [ω 1,ω 0] 1 false,.bool true,.sl [ω 0,ω 3] 1 false,.bool false,.sl [ω 0,ω 0] 1 false],0,false,0,2,true⟩] (.ret (.tup [])) [⟨[.ref 1 1 0 2,.ifc 101 (.agg [])],0,false,0,0,false⟩,⟨[.bool true,.sl zcc4_23 4 false,.bool true,.sl [ω 1,ω 3] 1 false],1,false,0,2,true⟩]:=cD az (.nil)
theorem ZX:ah prog ap 99 [.ifc 99 (.ptr 0 0 0),ω 0,ω 1] [⟨[.ref 1 0 0 2,.ifc 101 (.agg [])],0,false,0,0,false⟩,⟨[.bool true,.sl [ω 1,ω 3] 1 false,.bool true,.sl zcc4_23 4 false],0,false,0,2,true⟩] (.ret (.bool false)) [⟨[.ref 1 0 0 2,.ifc 101 (.agg [])],0,false,0,0,false⟩,⟨[.bool true,.sl [ω 1,ω 3] 1 false,.bool true,.sl zcc4_23 4 false],0,false,0,2,true⟩]:=cD az (.nil)
theorem ZY:ah prog ap 349 [.ptr 0 0 0] [⟨[.ref 1 0 0 2,.ifc 101 (.agg [])],0,false,0,0,false⟩,⟨[.bool true,.sl [ω 1,ω 3] 1 false,.bool true,.sl zcc4_23 4 false],0,false,0,2,true⟩] (.ret (.ifc 66 (.agg [.bool true,.sl zcc4_23 4 false]))) [⟨[.ref 1 0 0 1,.ifc 101 (.agg [])],0,false,0,0,false⟩,⟨[.bool true,.sl [ω 1,ω 3] 1 false,.bool true,.sl zcc4_23 4 false],0,false,0,2,true⟩]:=cD az (.nil)
theorem ZZ:ah prog ap 99 [.ifc 99 (.ptr 0 0 0),ω 0,ω 0] [⟨[.ref 1 0 0 1,.ifc 101 (.agg [])],0,false,0,0,false⟩,⟨[.bool true,.sl [ω 1,ω 3] 1 false,.bool true,.sl zcc4_23 4 false],0,false,0,2,true⟩] (.ret (.bool false)) [⟨[.ref 1 0 0 1,.ifc 101 (.agg [])],0,false,0,0,false⟩,⟨[.bool true,.sl [ω 1,ω 3] 1 false,.bool true,.sl zcc4_23 4 false],0,false,0,2,true⟩]:=cD az (.nil)
theorem Z4:ah prog ap 349 [.ptr 0 0 0] [⟨[.ref 1 0 0 1,.ifc 101 (.agg [])],0,false,0,0,false⟩,⟨[.bool true,.sl [ω 1,ω 3] 1 false,.bool true,.sl zcc4_23 4 false],0,false,0,2,true⟩] (.ret (.ifc 66 (.agg [.bool true,.sl [ω 1,ω 3] 1 false]))) [⟨[.ref 1 0 0 0,.ifc 101 (.agg [])],0,false,0,0,false⟩,⟨[.bool true,.sl [ω 1,ω 3] 1 false,.bool true,.sl zcc4_23 4 false],0,false,0,2,true⟩]:=cD az (.nil)
theorem U2:ah prog ap 48 [.mp [.agg [ω 0,ω 0],.agg [ω 0,ω 1],.agg [ω 0,ω 2],.agg [ω 1,ω 0],.agg [ω 1,ω 1],.agg [ω 1,ω 2]] [.nilS,.sl [ω 0,ω 0,ω 1,ω 2] 2 true,.sl [ω 0,ω 1] 1 true,.nilS,.sl [ω 0,ω 2,ω 1,ω 0] 2 true,.sl [ω 1,ω 1] 1 true],.ref 0 0 0 6] [⟨zcc4_20,0,false,0,2,true⟩] (.ret (.sl [.bool false,.sl [ω 0,ω 0] 1 true,.bool false,.sl [ω 1,ω 0] 1 true,.bool true,.sl zcc4_23 4 true] 3 true)) [⟨zcc4_20,0,false,0,2,true⟩]:=cD az (.nil)
theorem U3:ah prog ap 99 [.ifc 99 (.ptr 0 0 0),ω 0,ω 1] [⟨[.ref 1 0 0 2,.ifc 101 (.agg [])],0,false,0,0,false⟩,⟨[.bool false,.sl [ω 1,ω 0] 1 false,.bool false,.sl [ω 0,ω 0] 1 false],0,false,0,2,true⟩] (.ret (.bool false)) [⟨[.ref 1 0 0 2,.ifc 101 (.agg [])],0,false,0,0,false⟩,⟨[.bool false,.sl [ω 1,ω 0] 1 false,.bool false,.sl [ω 0,ω 0] 1 false],0,false,0,2,true⟩]:=cD az (.nil)
theorem U4:ah prog ap 349 [.ptr 0 0 0] [⟨[.ref 1 0 0 2,.ifc 101 (.agg [])],0,false,0,0,false⟩,⟨[.bool false,.sl [ω 1,ω 0] 1 false,.bool false,.sl [ω 0,ω 0] 1 false],0,false,0,2,true⟩] (.ret (.ifc 66 (.agg [.bool false,.sl [ω 0,ω 0] 1 false]))) [⟨[.ref 1 0 0 1,.ifc 101 (.agg [])],0,false,0,0,false⟩,⟨[.bool false,.sl [ω 1,ω 0] 1 false,.bool false,.sl [ω 0,ω 0] 1 false],0,false,0,2,true⟩]:=cD az (.nil)
theorem U5:ah prog ap 99 [.ifc 99 (.ptr 0 0 0),ω 0,ω 0] [⟨[.ref 1 0 0 1,.ifc 101 (.agg [])],0,false,0,0,false⟩,⟨[.bool false,.sl [ω 1,ω 0] 1 false,.bool false,.sl [ω 0,ω 0] 1 false],0,false,0,2,true⟩] (.ret (.bool false)) [⟨[.ref 1 0 0 1,.ifc 101 (.agg [])],0,false,0,0,false⟩,⟨[.bool false,.sl [ω 1,ω 0] 1 false,.bool false,.sl [ω 0,ω 0] 1 false],0,false,0,2,true⟩]:=cD az (.nil)
theorem U6:ah prog ap 349 [.ptr 0 0 0] [⟨[.ref 1 0 0 1,.ifc 101 (.agg [])],0,false,0,0,false⟩,⟨[.bool false,.sl [ω 1,ω 0] 1 false,.bool false,.sl [ω 0,ω 0] 1 false],0,false,0,2,true⟩] (.ret (.ifc 66 (.agg [.bool false,.sl [ω 1,ω 0] 1 false]))) [⟨[.ref 1 0 0 0,.ifc 101 (.agg [])],0,false,0,0,false⟩,⟨[.bool false,.sl [ω 1,ω 0] 1 false,.bool false,.sl [ω 0,ω 0] 1 false],0,false,0,2,true⟩]:=cD az (.nil)
theorem U7:ah prog ap 50 [.ifc 99 (.ptr 0 0 0),.ifc 66 (.agg [.bool true,.sl zcc4_23 4 false])] [⟨[.ref 1 0 0 0,.ifc 101 (.agg [])],0,false,0,0,false⟩,⟨[.bool false,.sl [ω 1,ω 0] 1 false,.bool false,.sl [ω 0,ω 0] 1 false],0,false,0,2,true⟩] (.ret (.tup [])) [⟨[.ref 1 1 0 1,.ifc 101 (.agg [])],0,false,0,0,false⟩,⟨[.bool true,.sl zcc4_23 4 false],1,false,0,2,true⟩]:=cD az (.nil)
theorem U8:ah prog ap 99 [.ifc 99 (.ptr 0 0 0),ω 0,ω 0] [⟨[.ref 1 0 0 1,.ifc 101 (.agg [])],0,false,0,0,false⟩,⟨[.bool true,.sl zcc4_23 4 false],0,false,0,2,true⟩] (.ret (.bool false)) [⟨[.ref 1 0 0 1,.ifc 101 (.agg [])],0,false,0,0,false⟩,⟨[.bool true,.sl zcc4_23 4 false],0,false,0,2,true⟩]:=cD az (.nil)
theorem U9:ah prog ap 349 [.ptr 0 0 0] [⟨[.ref 1 0 0 1,.ifc 101 (.agg [])],0,false,0,0,false⟩,⟨[.bool true,.sl zcc4_23 4 false],0,false,0,2,true⟩] (.ret (.ifc 66 (.agg [.bool true,.sl zcc4_23 4 false]))) [⟨[.ref 1 0 0 0,.ifc 101 (.agg [])],0,false,0,0,false⟩,⟨[.bool true,.sl zcc4_23 4 false],0,false,0,2,true⟩]:=cD az (.nil)
theorem zJ:CO 239 [.str [1],.str [1]] (.ret (.str [1])):=cD az (.nil)
theorem gQ:CO 240 [.str [1],.str [1]] (.ret (.tup [.str [1],.str [],.bool true])):=cD az (.nil)
theorem zK:CO 193 [ω 0] (.ret (.str [])):=cD az (.nil)
theorem sD:CO 193 [ω 1] (.ret (.str [1])):=cD az (.nil)
theorem ahi:CO 150 [.agg [.sl [.str [98],.bool false,ω 0,ω 0] 1 true,.nilS,.sl [.str [97],.bool false,ω 0,ω 0,.sl zcc4_26 1 true,.bool false,.bool false,.str [1],.str [1],.bool false,.str [9],.str [1]] 1 true]] (.ret (ω 0)):=TY
theorem Z_:CO 111 [.sl zcc4_26 1 false] (.ret (ω 0)):=cD az (.nil)
theorem JZ:CO 239 [.str [9],.str [1]] (.ret (.str [1])):=cD az (.nil)
theorem J3:CO 240 [.str [9],.str [1]] (.ret (.tup [.str [9],.str [],.bool true])):=cD az (.nil)
theorem ahj:CO 250 [Ω false [9] [1],Ω false [1] [1]] (.ret (.tup [Ω false [9] [1],.bool true])):=cD az (.c gQ (.c J3 (.c JZ (.c gQ (.c gQ (.c zJ (.c gQ (.c J3 (.c JZ .nil)))))))))
theorem ahk:CO 193 [ω 200] (.ret (.str [200])):=cD az (.nil)
theorem aab:CO 239 [.str [200],.str [1]] (.ret (.str [1])):=cD az (.nil)
theorem aac:CO 240 [.str [200],.str [1]] (.ret (.tup [.str [200],.str [],.bool true])):=cD az (.nil)
theorem ahl:CO 269 [Ω false [200] [1]] (.ret (Ω true [200] [1])):=cD az (.c gQ (.c aac (.c aab .nil)))
theorem ahm:CO 315 [.sl [.int .u32 200] 1 true,.sl [.int .u32 9] 1 true] (.ret (.sl [.int .u32 191] 1 true)):=cD az (.nil)
theorem aad:CO 239 [.str [191],.str [1]] (.ret (.str [1])):=cD az (.nil)
theorem aae:CO 240 [.str [191],.str [1]] (.ret (.tup [.str [191],.str [],.bool true])):=cD az (.nil)
theorem ahn:CO 204 [Ω false [9] [1],Ω false [200] [1]] (.ret (ω (-1))):=cD az (.c sD (.c zK (.c gQ (.c aae (.c aad (.c gQ (.c aae (.c aad (.c ahm (.c gQ (.c aac (.c aab (.c gQ (.c J3 (.c JZ (.c ahl .nil))))))))))))))))
theorem J4:CO 110 [.agg [.sl [.str [98],.bool false,ω 0,ω 0] 1 true,.nilS,.sl [.str [97],.bool false,ω 0,ω 0,.sl zcc4_26 1 true,.bool false,.bool false,.str [1],.str [1],.bool false,.str [9],.str [1]] 1 true]] (.ret (ω 0)):=cD az (.c ahn (.c sD (.c ahk (.c sD (.c zK (.c gQ (.c J3 (.c JZ (.c sD (.c sD (.c ahj (.c sD (.c zK (.c gQ (.c gQ (.c zJ (.c gQ (.c J3 (.c JZ (.c gQ (.c gQ (.c zJ (.c Z_ (.c Z_ (.c ahi .nil)))))))))))))))))))))))))
end Go.Proofs.Tryz
namespace Go.Proofs.Tryz
open Go AM
theorem cE (c:List Nat) {ans:List (h_ × List aK)} {ps:List Prop} {f:Nat} {args:List AV} {h a:List aK} {out:h_} (hp:PS prog ap ps ans [] [])
  (he:lL ap (H5 prog ap 3000 c 24) 3000 .dead f args h ⟨true,[],[],[],ans,[]⟩= .ok (out,a,.dead) ⟨true,[],[],ps,[],[]⟩:=by kernel_rfl):ah prog ap f args h out a:=ML jW.apok jW.mixed jW.fnok he ⟨fun _ b=>(by cases b),hp.all.mem⟩
theorem cU (c:List Nat) {ans:List (h_ × List aK)} {ps:List Prop} {hs:List oh} {f:Nat} {args:List AV} {h a:List aK} {out:h_} (hp:PS prog ap ps ans [] hs)
  (he:lL ap (H5 prog ap 3000 c 24) 3000 .dead f args h ⟨true,[],[],[],ans,hs⟩= .ok (out,a,.dead) ⟨true,[],[],ps,[],[]⟩:=by kernel_rfl):ah prog ap f args h out a:=ML jW.apok jW.mixed jW.fnok he ⟨fun _ b=>(by cases b),hp.all.mem⟩
theorem sa0:CO 72 [.str zcc4_0,.str [10]] (.ret (.own [.str zcc4_6,.str zcc4_1,.str zcc4_5,.str zcc4_4,.str []] 5 1)):=cD az (.nil)
theorem sa1:CO 72 [.str zcc4_6,.str [32]] (.ret (.own [.str zcc4_11,.str [97],.str zcc4_15,.str [36,49]] 4 1)):=cD az (.nil)
theorem sa2:CO 73 [.str zcc4_6] (.ret (.tup [.agg [.str [],.bool false,ω 0,ω 0],.bool false])):=cD az (.c sa1 .nil)
theorem sa3:CO 118 [.str zcc4_6] (.ret (.tup [.str [112,114,111,118,105,115,105,111,110,32,97,32,109,49,100,48],.str [36,49],.bool true])):=cD az (.nil)
theorem sa4:CO 72 [.str [112,114,111,118,105,115,105,111,110,32,97,32,109,49,100,48],.str [32]] (.ret (.own [.str zcc4_11,.str [97],.str [109,49,100,48]] 3 1)):=cD az (.nil)
theorem sa5:CO 74 [.str zcc4_6] (.ret (.tup [.agg [.str [],ω 0,ω 0,.nilS],.bool false])):=cD az (.c sa4 (.c sa3 .nil))
theorem sa6:CO 161 [.str [97]] (.ret (.bool true)):=cD az (.nil)
theorem sa7:CO 116 [.str [97]] (.ret (.bool true)):=cD az (.c sa6 .nil)
theorem MM:CO 65 [ω 2] (.ret (.str [2])):=cD az (.nil)
theorem QK:CO 65 [ω 3] (.ret (.str [3])):=cD az (.nil)
theorem jP:CO 65 [ω 0] (.ret (.str [])):=cD az (.nil)
theorem EG:CO 65 [ω 10] (.ret (.str [10])):=cD az (.nil)
theorem z_:CO 225 [ω (-3)] (.ret (.str [45,51])):=cD az (.c dG (.c QK (.c jP (.c EG (.c dG (.c jP (.c QK (.c dG (.c QK (.c dG (.c MM .nil)))))))))))
theorem qI:CO 225 [ω (-2)] (.ret (.str [45,50])):=cD az (.c dG (.c MM (.c jP (.c EG (.c dG (.c jP (.c MM (.c dG (.c MM (.c dG (.c dG .nil)))))))))))
theorem qJ:CO 225 [ω (-1)] (.ret (.str [45,49])):=cD az (.c dG (.c dG (.c jP (.c EG (.c dG (.c jP (.c dG (.c dG (.c dG (.c dG (.c jP .nil)))))))))))
theorem lg:CO 225 [ω 0] (.ret (.str [48])):=cD az (.c dG (.c dG (.c dG (.c jP .nil))))
theorem qK:CO 225 [ω 1] (.ret (.str [49])):=cD az (.c dG (.c dG (.c jP (.c EG (.c dG (.c jP (.c dG (.c dG (.c dG .nil)))))))))
theorem O7:CO 225 [ω 2] (.ret (.str [50])):=cD az (.c dG (.c MM (.c jP (.c EG (.c dG (.c jP (.c MM (.c dG (.c MM .nil)))))))))
theorem O8:CO 225 [ω 3] (.ret (.str [51])):=cD az (.c dG (.c QK (.c jP (.c EG (.c dG (.c jP (.c QK (.c dG (.c QK .nil)))))))))
theorem O9:CO 117 [.str [109,49,100,48]] (.ret (.tup [.agg [.bool false,ω 1,ω 0],.bool true])):=cD az (.c lg (.c qK (.c qJ (.c qK (.c qI (.c qK (.c z_ (.c qK (.c O8 (.c lg (.c O7 (.c lg (.c qK (.c lg (.c lg (.c lg (.c qJ (.c lg (.c qI (.c lg (.c z_ (.c lg (.c O8 (.c qJ (.c O7 (.c qJ (.c qK (.c qJ (.c lg (.c qJ (.c qJ (.c qJ (.c qI (.c qJ (.c z_ (.c qJ (.c O8 (.c qI (.c O7 (.c qI (.c qK (.c qI (.c lg (.c qI (.c qJ (.c qI (.c qI (.c qI (.c z_ (.c qI (.c O8 (.c z_ (.c O7 (.c z_ (.c qK (.c z_ (.c lg (.c z_ (.c qJ (.c z_ (.c qI (.c z_ (.c z_ (.c z_ .nil))))))))))))))))))))))))))))))))))))))))))))))))))))))))))))))))
theorem ae6:ah prog ap 227 [.ptr 0 0 0,.str [36]] [⟨[.str [36,49],.nilS,ω 1,.bool false],0,false,0,0,true⟩] (.ret (.bool true)) [⟨[.str [49],.nilS,ω 1,.bool false],0,false,0,0,true⟩]:=cD az (.nil)
theorem ae7:ah prog ap 229 [.ptr 0 0 0,.str [45,48,49,50,51,52,53,54,55,56,57,47]] [⟨[.str [49],.nilS,ω 1,.bool false],0,false,0,0,true⟩] (.ret (.str [49])) [⟨[.str [],.nilS,ω 1,.bool false],0,false,0,0,true⟩]:=cD az (.nil)
theorem Y7:CO 164 [.str [49]] (.ret (.tup [.str [1],.bool true])):=cD az (.c dG (.c dG (.c jP (.c EG .nil))))
theorem ae8:ah prog ap 228 [.ptr 0 0 0] [⟨[.str [49],.nilS,ω 1,.bool false],0,false,0,0,true⟩] (.ret (Ω false [1] [1])) [⟨[.str [],.nilS,ω 1,.bool false],0,false,0,0,true⟩]:=cE az (.c dG (.c dG (.c jP (.c EG (.c dG (.c jP (.c dG (.c jP (.c dG (.c jP (.c dG (.c jP (.c dG (.c Y7 (.c Y7 (.c ae7 .nil))))))))))))))))
theorem ace:bD prog ap [⟨[.str [36,49],.nilS,ω 0,.bool false],0,false,0,0,true⟩] 206 (eQ 5 (ae f167)) ⟨[(0,.ptr 0 0 0),(2,.bool true),(3,.dead),(4,.dead),(5,.dead),(6,.dead),(7,.dead),(8,.dead),(9,.dead),(10,.dead),(11,.dead),(12,.dead),(13,.dead),(14,.dead),(15,.dead),(41,.bool false),(47,.bool true),(65,.dead),(70,.dead),(100,.dead),(102,.dead),(117,.dead),(122,.dead),(128,.dead),(133,.dead),(139,.dead),(145,.dead),(158,.dead),(166,.dead),(170,.dead),(175,.dead),(184,.dead),(188,.dead),(192,.dead)],[(0,⟨[.str [49],.nilS,ω 1,.bool false],0,false,0,0,true⟩)],.dead,[]⟩ (.normal) ⟨[(0,.ptr 0 0 0),(2,.bool true),(3,.dead),(4,.dead),(5,.dead),(6,.dead),(7,.dead),(8,.dead),(9,.dead),(10,.dead),(11,.dead),(12,.dead),(13,.dead),(14,.dead),(15,.dead),(41,.bool false),(47,.bool true),(65,.dead),(70,.dead),(100,.dead),(102,.dead),(117,.dead),(122,.dead),(128,.dead),(133,.dead),(139,.dead),(145,.dead),(158,.dead),(166,.dead),(170,.dead),(175,.dead),(184,.dead),(188,.dead),(192,.dead)],[(0,⟨[.str [],.ref 1 0 0 1,ω 1,.bool false],0,false,0,0,false⟩),(1,⟨zcc4_27,0,false,0,5,true⟩)],.dead,[]⟩:=fun nt a=>XX jW (keep:=Cf ap 167) (i:=4) (b:=0) (d:=52) (nt0:=206) (ans:= [(.ret (Ω false [1] [1]),[⟨[.str [],.nilS,ω 1,.bool false],0,false,0,0,true⟩])]) (.cons (rfl:(.nilS:AV)=(.nilS:AV)) (.cons (rfl:(.nilS:AV)=(.nilS:AV)) (.cons ae8 .nil))) a (by kernel_rfl)
theorem ae9:ah prog ap 167 [.ptr 0 0 0] [⟨[.str [36,49],.nilS,ω 0,.bool false],0,false,0,0,true⟩] (.ret (.tup [])) [⟨[.str [],.ref 1 0 0 1,ω 1,.bool false],0,false,0,0,false⟩,⟨zcc4_27,0,false,0,5,true⟩]:=pK [1005] 4 8 (.n 9 .nil) (.l ace (.c ae6 .nil))
theorem zG:CO 161 [.str []] (.ret (.bool false)):=cD az (.nil)
theorem ae_:CO 168 [.sl zcc4_27 1 true] (.ret (.tup [.str [36,49],ω 0])):=cE az (.c dG (.c dG (.c jP (.c EG (.c dG (.c jP (.c dG (.c zG (.c dG (.c jP (.c dG .nil)))))))))))
theorem afa:ah prog ap 168 [.ref 0 0 0 1] [⟨zcc4_27,0,false,0,5,true⟩] (.ret (.tup [.str [36,49],ω 0])) [⟨zcc4_27,0,false,0,5,true⟩]:=ah.lend (args':= [.sl zcc4_27 1 true]) (by kernel_rfl) (by kernel_rfl) ae_
theorem afb:CO 120 [.str [36,49]] (.ret (.tup [.own zcc4_27 1 5,ω 0])):=cD az (.c afa (.c ae9 .nil))
theorem afc:CO 75 [.str zcc4_6] (.ret (.tup [.agg [.str [97],.bool false,ω 1,ω 0,.sl zcc4_27 1 true,.bool false,.bool false,.str [],.str [],.bool false,.str [],.str []],.bool true])):=cD az (.c afb (.c O9 (.c sa7 (.c sa4 (.c sa3 .nil)))))
theorem afd:CO 72 [.str zcc4_1,.str [32]] (.ret (.own [.str zcc4_11,.str [98],.str zcc4_15,.str [97,100,100,40,111,119,110,46,97,44],.str zcc4_12] 5 1)):=cD az (.nil)
theorem afe:CO 73 [.str zcc4_1] (.ret (.tup [.agg [.str [],.bool false,ω 0,ω 0],.bool false])):=cD az (.c afd .nil)
theorem Y8:CO 118 [.str zcc4_1] (.ret (.tup [.str [112,114,111,118,105,115,105,111,110,32,98,32,109,49,100,48],.str zcc4_7,.bool true])):=cD az (.nil)
theorem Y9:CO 72 [.str [112,114,111,118,105,115,105,111,110,32,98,32,109,49,100,48],.str [32]] (.ret (.own [.str zcc4_11,.str [98],.str [109,49,100,48]] 3 1)):=cD az (.nil)
theorem aff:CO 74 [.str zcc4_1] (.ret (.tup [.agg [.str [],ω 0,ω 0,.nilS],.bool false])):=cD az (.c Y9 (.c Y8 .nil))
theorem JV:CO 161 [.str [98]] (.ret (.bool true)):=cD az (.nil)
theorem Y_:CO 116 [.str [98]] (.ret (.bool true)):=cD az (.c JV .nil)
theorem afg:ah prog ap 227 [.ptr 0 0 0,.str [36]] [⟨[.str zcc4_7,.nilS,ω 1,.bool false],0,false,0,0,true⟩] (.ret (.bool false)) [⟨[.str zcc4_7,.nilS,ω 1,.bool false],0,false,0,0,true⟩]:=cD az (.nil)
theorem afh:ah prog ap 229 [.ptr 0 0 0,.str zcc4_3] [⟨[.str zcc4_7,.nilS,ω 1,.bool false],0,false,0,0,true⟩] (.ret (.str [97,100,100])) [⟨[.str zcc4_8,.nilS,ω 1,.bool false],0,false,0,0,true⟩]:=cD az (.nil)
theorem afi:ah prog ap 227 [.ptr 0 0 0,.str [46]] [⟨[.str zcc4_8,.nilS,ω 1,.bool false],0,false,0,0,true⟩] (.ret (.bool false)) [⟨[.str zcc4_8,.nilS,ω 1,.bool false],0,false,0,0,true⟩]:=cD az (.nil)
theorem afj:ah prog ap 227 [.ptr 0 0 0,.str [40]] [⟨[.str zcc4_8,.nilS,ω 1,.bool false],0,false,0,0,true⟩] (.ret (.bool true)) [⟨[.str zcc4_9,.nilS,ω 1,.bool false],0,false,0,0,true⟩]:=cD az (.nil)
theorem afk:ah prog ap 227 [.ptr 0 0 0,.str [36]] [⟨[.str zcc4_9,.nilS,ω 2,.bool false],0,false,0,0,true⟩] (.ret (.bool false)) [⟨[.str zcc4_9,.nilS,ω 2,.bool false],0,false,0,0,true⟩]:=cD az (.nil)
theorem afl:ah prog ap 229 [.ptr 0 0 0,.str zcc4_3] [⟨[.str zcc4_9,.nilS,ω 2,.bool false],0,false,0,0,true⟩] (.ret (.str [111,119,110])) [⟨[.str [46,97,44,32,115,112,111,117,115,101,46,99,41],.nilS,ω 2,.bool false],0,false,0,0,true⟩]:=cD az (.nil)
theorem afm:ah prog ap 227 [.ptr 0 0 0,.str [46]] [⟨[.str [46,97,44,32,115,112,111,117,115,101,46,99,41],.nilS,ω 2,.bool false],0,false,0,0,true⟩] (.ret (.bool true)) [⟨[.str [97,44,32,115,112,111,117,115,101,46,99,41],.nilS,ω 2,.bool false],0,false,0,0,true⟩]:=cD az (.nil)
theorem afn:ah prog ap 229 [.ptr 0 0 0,.str zcc4_2] [⟨[.str [97,44,32,115,112,111,117,115,101,46,99,41],.nilS,ω 2,.bool false],0,false,0,0,true⟩] (.ret (.str [97])) [⟨[.str zcc4_10,.nilS,ω 2,.bool false],0,false,0,0,true⟩]:=cD az (.nil)
theorem afo:ah prog ap 167 [.ptr 0 0 0] [⟨[.str zcc4_9,.nilS,ω 1,.bool false],0,false,0,0,true⟩] (.ret (.tup [])) [⟨[.str zcc4_10,.ref 1 0 0 1,ω 2,.bool false],0,false,0,0,false⟩,⟨zcc4_29,0,false,0,5,true⟩]:=cD az (.c afn (.c afm (.c afl (.c afk .nil))))
theorem afp:ah prog ap 227 [.ptr 0 0 0,.str [44,32]] [⟨[.str zcc4_10,.ref 1 0 0 1,ω 2,.bool false],0,false,0,0,false⟩,⟨zcc4_29,0,false,0,5,true⟩] (.ret (.bool true)) [⟨[.str zcc4_12,.ref 1 0 0 1,ω 2,.bool false],0,false,0,0,false⟩,⟨zcc4_29,0,false,0,5,true⟩]:=cD az (.nil)
theorem afq:ah prog ap 227 [.ptr 0 0 0,.str [36]] [⟨[.str zcc4_12,.ref 1 0 0 1,ω 3,.bool false],0,false,0,0,false⟩,⟨zcc4_29,0,false,0,5,true⟩] (.ret (.bool false)) [⟨[.str zcc4_12,.ref 1 0 0 1,ω 3,.bool false],0,false,0,0,false⟩,⟨zcc4_29,0,false,0,5,true⟩]:=cD az (.nil)
theorem afr:ah prog ap 229 [.ptr 0 0 0,.str zcc4_3] [⟨[.str zcc4_12,.ref 1 0 0 1,ω 3,.bool false],0,false,0,0,false⟩,⟨zcc4_29,0,false,0,5,true⟩] (.ret (.str [115,112,111,117,115,101])) [⟨[.str [46,99,41],.ref 1 0 0 1,ω 3,.bool false],0,false,0,0,false⟩,⟨zcc4_29,0,false,0,5,true⟩]:=cD az (.nil)
theorem afs:ah prog ap 227 [.ptr 0 0 0,.str [46]] [⟨[.str [46,99,41],.ref 1 0 0 1,ω 3,.bool false],0,false,0,0,false⟩,⟨zcc4_29,0,false,0,5,true⟩] (.ret (.bool true)) [⟨[.str [99,41],.ref 1 0 0 1,ω 3,.bool false],0,false,0,0,false⟩,⟨zcc4_29,0,false,0,5,true⟩]:=cD az (.nil)
theorem aft:ah prog ap 229 [.ptr 0 0 0,.str zcc4_2] [⟨[.str [99,41],.ref 1 0 0 1,ω 3,.bool false],0,false,0,0,false⟩,⟨zcc4_29,0,false,0,5,true⟩] (.ret (.str [99])) [⟨[.str [41],.ref 1 0 0 1,ω 3,.bool false],0,false,0,0,false⟩,⟨zcc4_29,0,false,0,5,true⟩]:=cD az (.nil)
theorem afu:ah prog ap 167 [.ptr 0 0 0] [⟨[.str zcc4_12,.ref 1 0 0 1,ω 2,.bool false],0,false,0,0,false⟩,⟨zcc4_29,0,false,0,5,true⟩] (.ret (.tup [])) [⟨[.str [41],.ref 1 1 0 2,ω 3,.bool false],0,false,0,0,false⟩,⟨zcc4_21,1,false,0,5,true⟩]:=cD az (.c aft (.c afs (.c afr (.c afq .nil))))
theorem afv:ah prog ap 227 [.ptr 0 0 0,.str [41]] [⟨[.str [41],.ref 1 0 0 2,ω 3,.bool false],0,false,0,0,false⟩,⟨zcc4_21,0,false,0,5,true⟩] (.ret (.bool true)) [⟨[.str [],.ref 1 0 0 2,ω 3,.bool false],0,false,0,0,false⟩,⟨zcc4_21,0,false,0,5,true⟩]:=cD az (.nil)
theorem afw:ah prog ap 167 [.ptr 0 0 0] [⟨[.str zcc4_7,.nilS,ω 0,.bool false],0,false,0,0,true⟩] (.ret (.tup [])) [⟨[.str [],.ref 1 0 0 3,ω 3,.bool false],0,false,0,0,false⟩,⟨zcc4_19,0,false,0,5,true⟩]:=cD az (.c afv (.c afu (.c afp (.c afo (.c afj (.c afi (.c afh (.c afg .nil))))))))
theorem JW:CO 161 [.str [99]] (.ret (.bool true)):=cD az (.nil)
theorem afx:CO 168 [.sl zcc4_19 3 true] (.ret (.tup [.str zcc4_7,ω 0])):=cD az (.c zG (.c JW (.c sa6 .nil)))
theorem afy:ah prog ap 168 [.ref 0 0 0 3] [⟨zcc4_19,0,false,0,5,true⟩] (.ret (.tup [.str zcc4_7,ω 0])) [⟨zcc4_19,0,false,0,5,true⟩]:=ah.lend (args':= [.sl zcc4_19 3 true]) (by kernel_rfl) (by kernel_rfl) afx
theorem afz:CO 120 [.str zcc4_7] (.ret (.tup [.own zcc4_19 3 5,ω 0])):=cD az (.c afy (.c afw .nil))
theorem afA:ah prog ap 75 [.str zcc4_1] [] (.ret (.tup [.agg [.str [98],.bool false,ω 1,ω 0,.ref 1 0 0 3,.bool false,.bool false,.str [],.str [],.bool false,.str [],.str []],.bool true])) [⟨[.str [98],.bool false,ω 1,ω 0,.ref 1 0 0 3,.bool false,.bool false,.str [],.str [],.bool false,.str [],.str []],0,false,0,0,false⟩,⟨zcc4_19,0,false,0,5,true⟩]:=jm jW 2 (F:=⟨f75,[0,2,3,4,5,6,7,8,9,10,11,12,13,14,15,16,44,63,81,87,103,128],true⟩) rfl rfl (fun nt a=>(pN 75 [] 9 256 (.n 42 .nil) (.c afz (.c O9 (.c Y_ (.c Y9 (.c Y8 .nil))))) a:af prog ap [] nt (ae f75) (dO .dead [.str zcc4_1] []) .ret ⟨[(2,.ptr 0 0 0),(3,.bool true)],[(0,⟨[.str [98],.bool false,ω 1,ω 0,.ref 1 0 0 3,.bool false,.bool false,.str [],.str [],.bool false,.str [],.str []],0,false,0,0,false⟩),(1,⟨zcc4_19,0,false,0,5,true⟩)],.dead,[]⟩)) rfl (Xqp _) rfl
theorem afB:CO 72 [.str zcc4_5,.str [32]] (.ret (.own [.str zcc4_11,.str [99],.str zcc4_15,.str zcc4_14] 4 1)):=cD az (.nil)
theorem afC:CO 73 [.str zcc4_5] (.ret (.tup [.agg [.str [],.bool false,ω 0,ω 0],.bool false])):=cD az (.c afB .nil)
theorem Za:CO 118 [.str zcc4_5] (.ret (.tup [.str [112,114,111,118,105,115,105,111,110,32,99,32,109,49,100,48],.str zcc4_14,.bool true])):=cD az (.nil)
theorem Zb:CO 72 [.str [112,114,111,118,105,115,105,111,110,32,99,32,109,49,100,48],.str [32]] (.ret (.own [.str zcc4_11,.str [99],.str [109,49,100,48]] 3 1)):=cD az (.nil)
theorem afD:CO 74 [.str zcc4_5] (.ret (.tup [.agg [.str [],ω 0,ω 0,.nilS],.bool false])):=cD az (.c Zb (.c Za .nil))
theorem Zc:CO 116 [.str [99]] (.ret (.bool true)):=cD az (.c JW .nil)
theorem afE:ah prog ap 227 [.ptr 0 0 0,.str [36]] [⟨[.str zcc4_14,.nilS,ω 1,.bool false],0,false,0,0,true⟩] (.ret (.bool false)) [⟨[.str zcc4_14,.nilS,ω 1,.bool false],0,false,0,0,true⟩]:=cD az (.nil)
theorem afF:ah prog ap 229 [.ptr 0 0 0,.str zcc4_3] [⟨[.str zcc4_14,.nilS,ω 1,.bool false],0,false,0,0,true⟩] (.ret (.str [111,119,110])) [⟨[.str [46,98],.nilS,ω 1,.bool false],0,false,0,0,true⟩]:=cD az (.nil)
theorem afG:ah prog ap 227 [.ptr 0 0 0,.str [46]] [⟨[.str [46,98],.nilS,ω 1,.bool false],0,false,0,0,true⟩] (.ret (.bool true)) [⟨[.str [98],.nilS,ω 1,.bool false],0,false,0,0,true⟩]:=cD az (.nil)
theorem afH:ah prog ap 229 [.ptr 0 0 0,.str zcc4_2] [⟨[.str [98],.nilS,ω 1,.bool false],0,false,0,0,true⟩] (.ret (.str [98])) [⟨[.str [],.nilS,ω 1,.bool false],0,false,0,0,true⟩]:=cD az (.nil)
theorem afI:ah prog ap 167 [.ptr 0 0 0] [⟨[.str zcc4_14,.nilS,ω 0,.bool false],0,false,0,0,true⟩] (.ret (.tup [])) [⟨[.str [],.ref 1 0 0 1,ω 1,.bool false],0,false,0,0,false⟩,⟨zcc4_28,0,false,0,5,true⟩]:=cD az (.c afH (.c afG (.c afF (.c afE .nil))))
theorem afJ:CO 168 [.sl zcc4_28 1 true] (.ret (.tup [.str zcc4_14,ω 0])):=cD az (.c JV .nil)
theorem afK:ah prog ap 168 [.ref 0 0 0 1] [⟨zcc4_28,0,false,0,5,true⟩] (.ret (.tup [.str zcc4_14,ω 0])) [⟨zcc4_28,0,false,0,5,true⟩]:=ah.lend (args':= [.sl zcc4_28 1 true]) (by kernel_rfl) (by kernel_rfl) afJ
theorem afL:CO 120 [.str zcc4_14] (.ret (.tup [.own zcc4_28 1 5,ω 0])):=cD az (.c afK (.c afI .nil))
theorem afM:CO 75 [.str zcc4_5] (.ret (.tup [.agg [.str [99],.bool false,ω 1,ω 0,.sl zcc4_28 1 true,.bool false,.bool false,.str [],.str [],.bool false,.str [],.str []],.bool true])):=cD az (.c afL (.c O9 (.c Zc (.c Zb (.c Za .nil)))))
theorem afN:CO 72 [.str zcc4_4,.str [32]] (.ret (.own [.str zcc4_11,.str [100],.str zcc4_15,.str zcc4_13] 4 1)):=cD az (.nil)
theorem afO:CO 73 [.str zcc4_4] (.ret (.tup [.agg [.str [],.bool false,ω 0,ω 0],.bool false])):=cD az (.c afN .nil)
theorem Zd:CO 118 [.str zcc4_4] (.ret (.tup [.str [112,114,111,118,105,115,105,111,110,32,100,32,109,49,100,48],.str zcc4_13,.bool true])):=cD az (.nil)
theorem Ze:CO 72 [.str [112,114,111,118,105,115,105,111,110,32,100,32,109,49,100,48],.str [32]] (.ret (.own [.str zcc4_11,.str [100],.str [109,49,100,48]] 3 1)):=cD az (.nil)
theorem afP:CO 74 [.str zcc4_4] (.ret (.tup [.agg [.str [],ω 0,ω 0,.nilS],.bool false])):=cD az (.c Ze (.c Zd .nil))
theorem JX:CO 161 [.str [100]] (.ret (.bool true)):=cD az (.nil)
theorem Zf:CO 116 [.str [100]] (.ret (.bool true)):=cD az (.c JX .nil)
theorem afQ:ah prog ap 227 [.ptr 0 0 0,.str [36]] [⟨[.str zcc4_13,.nilS,ω 1,.bool false],0,false,0,0,true⟩] (.ret (.bool false)) [⟨[.str zcc4_13,.nilS,ω 1,.bool false],0,false,0,0,true⟩]:=cD az (.nil)
theorem afR:ah prog ap 229 [.ptr 0 0 0,.str zcc4_3] [⟨[.str zcc4_13,.nilS,ω 1,.bool false],0,false,0,0,true⟩] (.ret (.str [111,119,110])) [⟨[.str [46,100],.nilS,ω 1,.bool false],0,false,0,0,true⟩]:=cD az (.nil)
theorem afS:ah prog ap 227 [.ptr 0 0 0,.str [46]] [⟨[.str [46,100],.nilS,ω 1,.bool false],0,false,0,0,true⟩] (.ret (.bool true)) [⟨[.str [100],.nilS,ω 1,.bool false],0,false,0,0,true⟩]:=cD az (.nil)
theorem afT:ah prog ap 229 [.ptr 0 0 0,.str zcc4_2] [⟨[.str [100],.nilS,ω 1,.bool false],0,false,0,0,true⟩] (.ret (.str [100])) [⟨[.str [],.nilS,ω 1,.bool false],0,false,0,0,true⟩]:=cD az (.nil)
theorem afU:ah prog ap 167 [.ptr 0 0 0] [⟨[.str zcc4_13,.nilS,ω 0,.bool false],0,false,0,0,true⟩] (.ret (.tup [])) [⟨[.str [],.ref 1 0 0 1,ω 1,.bool false],0,false,0,0,false⟩,⟨zcc4_25,0,false,0,5,true⟩]:=cD az (.c afT (.c afS (.c afR (.c afQ .nil))))
theorem afV:CO 168 [.sl zcc4_25 1 true] (.ret (.tup [.str zcc4_13,ω 0])):=cD az (.c JX .nil)
theorem afW:ah prog ap 168 [.ref 0 0 0 1] [⟨zcc4_25,0,false,0,5,true⟩] (.ret (.tup [.str zcc4_13,ω 0])) [⟨zcc4_25,0,false,0,5,true⟩]:=ah.lend (args':= [.sl zcc4_25 1 true]) (by kernel_rfl) (by kernel_rfl) afV
theorem afX:CO 120 [.str zcc4_13] (.ret (.tup [.own zcc4_25 1 5,ω 0])):=cD az (.c afW (.c afU .nil))
theorem afY:CO 75 [.str zcc4_4] (.ret (.tup [.agg [.str [100],.bool false,ω 1,ω 0,.sl zcc4_25 1 true,.bool false,.bool false,.str [],.str [],.bool false,.str [],.str []],.bool true])):=cD az (.c afX (.c O9 (.c Zf (.c Ze (.c Zd .nil)))))
theorem zH:CO 170 [.agg [.bool false,ω 1,ω 0]] (.ret (.bool true)):=cD az (.nil)
theorem afZ:CO 263 [ω 1] (.ret (.bool false)):=cD az (.nil)
theorem af0:CO 173 [.sl zcc4_16 12 true,.sl zcc4_27 1 false] (.ret (.tup [.agg [.bool false,ω 1,ω 0],ω 0])):=cE az (.c afZ (.c zG (.c dG (.c jP (.c dG (.c zG (.c dG (.c jP (.c dG .nil)))))))))
theorem FQ:CO 263 [ω 6] (.ret (.bool true)):=cD az (.nil)
theorem Zg:CO 263 [ω 8] (.ret (.bool true)):=cD az (.nil)
theorem af1:CO 263 [ω 9] (.ret (.bool false)):=cD az (.nil)
theorem af2:CO 173 [.sl zcc4_16 12 true,.sl zcc4_19 3 false] (.ret (.tup [.agg [.bool false,ω 1,ω 0],ω 0])):=cD az (.c af1 (.c Zg (.c zH (.c Zg (.c FQ (.c zH (.c FQ (.c zG (.c JW (.c sa6 (.c zG (.c JW (.c sa6 .nil)))))))))))))
theorem af4:CO 173 [.sl zcc4_16 12 true,.sl zcc4_28 1 false] (.ret (.tup [.agg [.bool false,ω 1,ω 0],ω 0])):=cD az (.c FQ (.c zH (.c FQ (.c JV (.c JV .nil)))))
theorem af5:CO 173 [.sl zcc4_16 12 true,.sl zcc4_25 1 false] (.ret (.tup [.agg [.bool false,ω 1,ω 0],ω 0])):=cD az (.c FQ (.c zH (.c FQ (.c JX (.c JX .nil)))))
theorem af6:CO 76 [.agg [.nilS,.nilS,.sl [.str [97],.bool false,ω 1,ω 0,.sl zcc4_27 1 true,.bool false,.bool false,.str [],.str [],.bool false,.str [],.str [],.str [98],.bool false,ω 1,ω 0,.sl zcc4_19 3 true,.bool false,.bool false,.str [],.str [],.bool false,.str [],.str [],.str [99],.bool false,ω 1,ω 0,.sl zcc4_28 1 true,.bool false,.bool false,.str [],.str [],.bool false,.str [],.str [],.str [100],.bool false,ω 1,ω 0,.sl zcc4_25 1 true,.bool false,.bool false,.str [],.str [],.bool false,.str [],.str []] 4 true]] (.ret (ω 0)):=cD az (.c af5 (.c af4 (.c af2 (.c af0 (.c zH (.c zH (.c zH (.c zH (.c Zf (.c Zc (.c Y_ (.c sa7 .nil))))))))))))
theorem af7:ah prog ap 76 [.agg [.nilS,.nilS,.ref 0 0 0 4]] [⟨[.str [97],.bool false,ω 1,ω 0,.sl zcc4_27 1 true,.bool false,.bool false,.str [],.str [],.bool false,.str [],.str [],.str [98],.bool false,ω 1,ω 0,.ref 1 0 0 3,.bool false,.bool false,.str [],.str [],.bool false,.str [],.str [],.str [99],.bool false,ω 1,ω 0,.sl zcc4_28 1 true,.bool false,.bool false,.str [],.str [],.bool false,.str [],.str [],.str [100],.bool false,ω 1,ω 0,.sl zcc4_25 1 true,.bool false,.bool false,.str [],.str [],.bool false,.str [],.str []],0,false,0,12,false⟩,⟨zcc4_19,0,false,0,5,true⟩] (.ret (ω 0)) [⟨[.str [97],.bool false,ω 1,ω 0,.sl zcc4_27 1 true,.bool false,.bool false,.str [],.str [],.bool false,.str [],.str [],.str [98],.bool false,ω 1,ω 0,.ref 1 0 0 3,.bool false,.bool false,.str [],.str [],.bool false,.str [],.str [],.str [99],.bool false,ω 1,ω 0,.sl zcc4_28 1 true,.bool false,.bool false,.str [],.str [],.bool false,.str [],.str [],.str [100],.bool false,ω 1,ω 0,.sl zcc4_25 1 true,.bool false,.bool false,.str [],.str [],.bool false,.str [],.str []],0,false,0,12,false⟩,⟨zcc4_19,0,false,0,5,true⟩]:=ah.lend (args':= [.agg [.nilS,.nilS,.sl [.str [97],.bool false,ω 1,ω 0,.sl zcc4_27 1 true,.bool false,.bool false,.str [],.str [],.bool false,.str [],.str [],.str [98],.bool false,ω 1,ω 0,.sl zcc4_19 3 true,.bool false,.bool false,.str [],.str [],.bool false,.str [],.str [],.str [99],.bool false,ω 1,ω 0,.sl zcc4_28 1 true,.bool false,.bool false,.str [],.str [],.bool false,.str [],.str [],.str [100],.bool false,ω 1,ω 0,.sl zcc4_25 1 true,.bool false,.bool false,.str [],.str [],.bool false,.str [],.str []] 4 true]]) (by kernel_rfl) (by kernel_rfl) af6
theorem af8:CO 168 [.sl zcc4_27 1 false] (.ret (.tup [.str [36,49],ω 0])):=cE az (.c dG (.c dG (.c jP (.c EG (.c dG (.c jP (.c dG (.c zG (.c dG (.c jP (.c dG .nil)))))))))))
theorem af9:CO 168 [.sl zcc4_19 3 false] (.ret (.tup [.str zcc4_7,ω 0])):=cD az (.c zG (.c JW (.c sa6 .nil)))
theorem af_:CO 168 [.sl zcc4_28 1 false] (.ret (.tup [.str zcc4_14,ω 0])):=cD az (.c JV .nil)
theorem aga:CO 168 [.sl zcc4_25 1 false] (.ret (.tup [.str zcc4_13,ω 0])):=cD az (.c JX .nil)
theorem agb:CO 77 [.agg [.nilS,.nilS,.sl [.str [97],.bool false,ω 1,ω 0,.sl zcc4_27 1 true,.bool false,.bool false,.str [],.str [],.bool false,.str [],.str [],.str [98],.bool false,ω 1,ω 0,.sl zcc4_19 3 true,.bool false,.bool false,.str [],.str [],.bool false,.str [],.str [],.str [99],.bool false,ω 1,ω 0,.sl zcc4_28 1 true,.bool false,.bool false,.str [],.str [],.bool false,.str [],.str [],.str [100],.bool false,ω 1,ω 0,.sl zcc4_25 1 true,.bool false,.bool false,.str [],.str [],.bool false,.str [],.str []] 4 true]] (.ret (.str zcc4_0)):=cD az (.c aga (.c lg (.c qK (.c af_ (.c lg (.c qK (.c af9 (.c lg (.c qK (.c af8 (.c lg (.c qK .nil))))))))))))
theorem agc:ah prog ap 77 [.agg [.nilS,.nilS,.ref 0 0 0 4]] [⟨[.str [97],.bool false,ω 1,ω 0,.sl zcc4_27 1 true,.bool false,.bool false,.str [],.str [],.bool false,.str [],.str [],.str [98],.bool false,ω 1,ω 0,.ref 1 0 0 3,.bool false,.bool false,.str [],.str [],.bool false,.str [],.str [],.str [99],.bool false,ω 1,ω 0,.sl zcc4_28 1 true,.bool false,.bool false,.str [],.str [],.bool false,.str [],.str [],.str [100],.bool false,ω 1,ω 0,.sl zcc4_25 1 true,.bool false,.bool false,.str [],.str [],.bool false,.str [],.str []],0,false,0,12,false⟩,⟨zcc4_19,0,false,0,5,true⟩] (.ret (.str zcc4_0)) [⟨[.str [97],.bool false,ω 1,ω 0,.sl zcc4_27 1 true,.bool false,.bool false,.str [],.str [],.bool false,.str [],.str [],.str [98],.bool false,ω 1,ω 0,.ref 1 0 0 3,.bool false,.bool false,.str [],.str [],.bool false,.str [],.str [],.str [99],.bool false,ω 1,ω 0,.sl zcc4_28 1 true,.bool false,.bool false,.str [],.str [],.bool false,.str [],.str [],.str [100],.bool false,ω 1,ω 0,.sl zcc4_25 1 true,.bool false,.bool false,.str [],.str [],.bool false,.str [],.str []],0,false,0,12,false⟩,⟨zcc4_19,0,false,0,5,true⟩]:=ah.lend (args':= [.agg [.nilS,.nilS,.sl [.str [97],.bool false,ω 1,ω 0,.sl zcc4_27 1 true,.bool false,.bool false,.str [],.str [],.bool false,.str [],.str [],.str [98],.bool false,ω 1,ω 0,.sl zcc4_19 3 true,.bool false,.bool false,.str [],.str [],.bool false,.str [],.str [],.str [99],.bool false,ω 1,ω 0,.sl zcc4_28 1 true,.bool false,.bool false,.str [],.str [],.bool false,.str [],.str [],.str [100],.bool false,ω 1,ω 0,.sl zcc4_25 1 true,.bool false,.bool false,.str [],.str [],.bool false,.str [],.str []] 4 true]]) (by kernel_rfl) (by kernel_rfl) agb
theorem agd:ah prog ap 32 [.str zcc4_0] [] (.ret (.tup [.agg [.nilS,.nilS,.ref 1 0 0 4],ω 0,ω 0])) [⟨[.nilS,.nilS,.ref 1 0 0 4],0,false,0,0,false⟩,⟨[.str [97],.bool false,ω 1,ω 0,.sl zcc4_27 1 true,.bool false,.bool false,.str [],.str [],.bool false,.str [],.str [],.str [98],.bool false,ω 1,ω 0,.ref 2 0 0 3,.bool false,.bool false,.str [],.str [],.bool false,.str [],.str [],.str [99],.bool false,ω 1,ω 0,.sl zcc4_28 1 true,.bool false,.bool false,.str [],.str [],.bool false,.str [],.str [],.str [100],.bool false,ω 1,ω 0,.sl zcc4_25 1 true,.bool false,.bool false,.str [],.str [],.bool false,.str [],.str []],0,false,0,12,false⟩,⟨zcc4_19,0,false,0,5,true⟩]:=jm jW 3 (F:=⟨f32,[0,2,3,4,5,6,7,8,9,10,11,12,13,14,21,35,76,80,87,94,104,110],true⟩) rfl rfl (fun nt a=>(pN 32 [] 46 16599078767153 (.n 178 .nil) (.c agc (.c af7 (.c afY (.c afP (.c afO (.c afM (.c afD (.c afC (.c afA (.c aff (.c afe (.c afc (.c sa5 (.c sa2 (.c sa0 .nil))))))))))))))) a:af prog ap [] nt (ae f32) (dO .dead [.str zcc4_0] []) .ret ⟨[(2,.ptr 0 0 0),(3,ω 0),(4,ω 0)],[(0,⟨[.nilS,.nilS,.ref 1 0 0 4],0,false,0,0,false⟩),(1,⟨[.str [97],.bool false,ω 1,ω 0,.sl zcc4_27 1 true,.bool false,.bool false,.str [],.str [],.bool false,.str [],.str [],.str [98],.bool false,ω 1,ω 0,.ref 2 0 0 3,.bool false,.bool false,.str [],.str [],.bool false,.str [],.str [],.str [99],.bool false,ω 1,ω 0,.sl zcc4_28 1 true,.bool false,.bool false,.str [],.str [],.bool false,.str [],.str [],.str [100],.bool false,ω 1,ω 0,.sl zcc4_25 1 true,.bool false,.bool false,.str [],.str [],.bool false,.str [],.str []],0,false,0,12,false⟩),(2,⟨zcc4_19,0,false,0,5,true⟩)],.dead,[]⟩)) rfl (Xqp _) rfl
theorem agL:CO 26 [.agg [.nilS,.nilS,.sl [.str [97],.bool false,ω 1,ω 0,.sl zcc4_27 1 true,.bool false,.bool false,.str [],.str [],.bool false,.str [],.str [],.str [98],.bool false,ω 1,ω 0,.sl zcc4_19 3 true,.bool false,.bool false,.str [],.str [],.bool false,.str [],.str [],.str [99],.bool false,ω 1,ω 0,.sl zcc4_28 1 true,.bool false,.bool false,.str [],.str [],.bool false,.str [],.str [],.str [100],.bool false,ω 1,ω 0,.sl zcc4_25 1 true,.bool false,.bool false,.str [],.str [],.bool false,.str [],.str []] 4 true],ω 1] (.ret (ω 17)):=cD az (.c ZE (.c ZC (.c ZB (.c ZA (.c Zz (.c Zy (.c Zx (.c Zw (.c Zv (.c Zu (.c Zt (.c zI (.c Zr (.c U0 (.c Zq (.c Zp (.c Zh (.c Zo (.c U0 .nil)))))))))))))))))))
theorem agM:ah prog ap 26 [.agg [.nilS,.nilS,.ref 0 0 0 4],ω 1] [⟨[.str [97],.bool false,ω 1,ω 0,.sl zcc4_27 1 true,.bool false,.bool false,.str [],.str [],.bool false,.str [],.str [],.str [98],.bool false,ω 1,ω 0,.ref 1 0 0 3,.bool false,.bool false,.str [],.str [],.bool false,.str [],.str [],.str [99],.bool false,ω 1,ω 0,.sl zcc4_28 1 true,.bool false,.bool false,.str [],.str [],.bool false,.str [],.str [],.str [100],.bool false,ω 1,ω 0,.sl zcc4_25 1 true,.bool false,.bool false,.str [],.str [],.bool false,.str [],.str []],0,false,0,12,false⟩,⟨zcc4_19,0,false,0,5,true⟩] (.ret (ω 17)) [⟨[.str [97],.bool false,ω 1,ω 0,.sl zcc4_27 1 true,.bool false,.bool false,.str [],.str [],.bool false,.str [],.str [],.str [98],.bool false,ω 1,ω 0,.ref 1 0 0 3,.bool false,.bool false,.str [],.str [],.bool false,.str [],.str [],.str [99],.bool false,ω 1,ω 0,.sl zcc4_28 1 true,.bool false,.bool false,.str [],.str [],.bool false,.str [],.str [],.str [100],.bool false,ω 1,ω 0,.sl zcc4_25 1 true,.bool false,.bool false,.str [],.str [],.bool false,.str [],.str []],0,false,0,12,false⟩,⟨zcc4_19,0,false,0,5,true⟩]:=ah.lend (args':= [.agg [.nilS,.nilS,.sl [.str [97],.bool false,ω 1,ω 0,.sl zcc4_27 1 true,.bool false,.bool false,.str [],.str [],.bool false,.str [],.str [],.str [98],.bool false,ω 1,ω 0,.sl zcc4_19 3 true,.bool false,.bool false,.str [],.str [],.bool false,.str [],.str [],.str [99],.bool false,ω 1,ω 0,.sl zcc4_28 1 true,.bool false,.bool false,.str [],.str [],.bool false,.str [],.str [],.str [100],.bool false,ω 1,ω 0,.sl zcc4_25 1 true,.bool false,.bool false,.str [],.str [],.bool false,.str [],.str []] 4 true],ω 1]) (by kernel_rfl) (by kernel_rfl) agL
theorem agN:CO 26 [.agg [.nilS,.nilS,.sl [.str [97],.bool false,ω 1,ω 0,.sl zcc4_27 1 true,.bool false,.bool false,.str [],.str [],.bool false,.str [],.str [],.str [98],.bool false,ω 1,ω 0,.sl zcc4_19 3 true,.bool false,.bool false,.str [],.str [],.bool false,.str [],.str [],.str [99],.bool false,ω 1,ω 0,.sl zcc4_28 1 true,.bool false,.bool false,.str [],.str [],.bool false,.str [],.str [],.str [100],.bool false,ω 1,ω 0,.sl zcc4_25 1 true,.bool false,.bool false,.str [],.str [],.bool false,.str [],.str []] 4 true],ω 2] (.ret (ω 17)):=cD az (.c Z4 (.c ZZ (.c ZY (.c ZX (.c ZW (.c ZV (.c ZU (.c ZT (.c ZR (.c ZQ (.c ZP (.c ZO (.c ZN (.c JY (.c zI (.c ZM (.c U1 (.c ZL (.c ZK (.c Zl (.c ZJ (.c ZI (.c ZH (.c Zj (.c ZG (.c U1 .nil))))))))))))))))))))))))))
theorem agO:ah prog ap 26 [.agg [.nilS,.nilS,.ref 0 0 0 4],ω 2] [⟨[.str [97],.bool false,ω 1,ω 0,.sl zcc4_27 1 true,.bool false,.bool false,.str [],.str [],.bool false,.str [],.str [],.str [98],.bool false,ω 1,ω 0,.ref 1 0 0 3,.bool false,.bool false,.str [],.str [],.bool false,.str [],.str [],.str [99],.bool false,ω 1,ω 0,.sl zcc4_28 1 true,.bool false,.bool false,.str [],.str [],.bool false,.str [],.str [],.str [100],.bool false,ω 1,ω 0,.sl zcc4_25 1 true,.bool false,.bool false,.str [],.str [],.bool false,.str [],.str []],0,false,0,12,false⟩,⟨zcc4_19,0,false,0,5,true⟩] (.ret (ω 17)) [⟨[.str [97],.bool false,ω 1,ω 0,.sl zcc4_27 1 true,.bool false,.bool false,.str [],.str [],.bool false,.str [],.str [],.str [98],.bool false,ω 1,ω 0,.ref 1 0 0 3,.bool false,.bool false,.str [],.str [],.bool false,.str [],.str [],.str [99],.bool false,ω 1,ω 0,.sl zcc4_28 1 true,.bool false,.bool false,.str [],.str [],.bool false,.str [],.str [],.str [100],.bool false,ω 1,ω 0,.sl zcc4_25 1 true,.bool false,.bool false,.str [],.str [],.bool false,.str [],.str []],0,false,0,12,false⟩,⟨zcc4_19,0,false,0,5,true⟩]:=ah.lend (args':= [.agg [.nilS,.nilS,.sl [.str [97],.bool false,ω 1,ω 0,.sl zcc4_27 1 true,.bool false,.bool false,.str [],.str [],.bool false,.str [],.str [],.str [98],.bool false,ω 1,ω 0,.sl zcc4_19 3 true,.bool false,.bool false,.str [],.str [],.bool false,.str [],.str [],.str [99],.bool false,ω 1,ω 0,.sl zcc4_28 1 true,.bool false,.bool false,.str [],.str [],.bool false,.str [],.str [],.str [100],.bool false,ω 1,ω 0,.sl zcc4_25 1 true,.bool false,.bool false,.str [],.str [],.bool false,.str [],.str []] 4 true],ω 2]) (by kernel_rfl) (by kernel_rfl) agN
theorem agP:CO 26 [.agg [.nilS,.nilS,.sl [.str [97],.bool false,ω 1,ω 0,.sl zcc4_27 1 true,.bool false,.bool false,.str [],.str [],.bool false,.str [],.str [],.str [98],.bool false,ω 1,ω 0,.sl zcc4_19 3 true,.bool false,.bool false,.str [],.str [],.bool false,.str [],.str [],.str [99],.bool false,ω 1,ω 0,.sl zcc4_28 1 true,.bool false,.bool false,.str [],.str [],.bool false,.str [],.str [],.str [100],.bool false,ω 1,ω 0,.sl zcc4_25 1 true,.bool false,.bool false,.str [],.str [],.bool false,.str [],.str []] 4 true],ω 0] (.ret (ω 1)):=cD az (.nil)
theorem agQ:ah prog ap 26 [.agg [.nilS,.nilS,.ref 0 0 0 4],ω 0] [⟨[.str [97],.bool false,ω 1,ω 0,.sl zcc4_27 1 true,.bool false,.bool false,.str [],.str [],.bool false,.str [],.str [],.str [98],.bool false,ω 1,ω 0,.ref 1 0 0 3,.bool false,.bool false,.str [],.str [],.bool false,.str [],.str [],.str [99],.bool false,ω 1,ω 0,.sl zcc4_28 1 true,.bool false,.bool false,.str [],.str [],.bool false,.str [],.str [],.str [100],.bool false,ω 1,ω 0,.sl zcc4_25 1 true,.bool false,.bool false,.str [],.str [],.bool false,.str [],.str []],0,false,0,12,false⟩,⟨zcc4_19,0,false,0,5,true⟩] (.ret (ω 1)) [⟨[.str [97],.bool false,ω 1,ω 0,.sl zcc4_27 1 true,.bool false,.bool false,.str [],.str [],.bool false,.str [],.str [],.str [98],.bool false,ω 1,ω 0,.ref 1 0 0 3,.bool false,.bool false,.str [],.str [],.bool false,.str [],.str [],.str [99],.bool false,ω 1,ω 0,.sl zcc4_28 1 true,.bool false,.bool false,.str [],.str [],.bool false,.str [],.str [],.str [100],.bool false,ω 1,ω 0,.sl zcc4_25 1 true,.bool false,.bool false,.str [],.str [],.bool false,.str [],.str []],0,false,0,12,false⟩,⟨zcc4_19,0,false,0,5,true⟩]:=ah.lend (args':= [.agg [.nilS,.nilS,.sl [.str [97],.bool false,ω 1,ω 0,.sl zcc4_27 1 true,.bool false,.bool false,.str [],.str [],.bool false,.str [],.str [],.str [98],.bool false,ω 1,ω 0,.sl zcc4_19 3 true,.bool false,.bool false,.str [],.str [],.bool false,.str [],.str [],.str [99],.bool false,ω 1,ω 0,.sl zcc4_28 1 true,.bool false,.bool false,.str [],.str [],.bool false,.str [],.str [],.str [100],.bool false,ω 1,ω 0,.sl zcc4_25 1 true,.bool false,.bool false,.str [],.str [],.bool false,.str [],.str []] 4 true],ω 0]) (by kernel_rfl) (by kernel_rfl) agP
theorem Z5:CO 49 [.agg [.nilS,.nilS,.sl [.str [97],.bool false,ω 1,ω 0,.sl zcc4_27 1 true,.bool false,.bool false,.str [],.str [],.bool false,.str [],.str [],.str [98],.bool false,ω 1,ω 0,.sl zcc4_19 3 true,.bool false,.bool false,.str [],.str [],.bool false,.str [],.str [],.str [99],.bool false,ω 1,ω 0,.sl zcc4_28 1 true,.bool false,.bool false,.str [],.str [],.bool false,.str [],.str []] 3 true],ω 1] (.ret (.own zcc4_24 3 2)):=cD az (.nil)
theorem agR:CO 16 [.agg [.nilS,.nilS,.sl [.str [97],.bool false,ω 1,ω 0,.sl zcc4_27 1 true,.bool false,.bool false,.str [],.str [],.bool false,.str [],.str [],.str [98],.bool false,ω 1,ω 0,.sl zcc4_19 3 true,.bool false,.bool false,.str [],.str [],.bool false,.str [],.str [],.str [99],.bool false,ω 1,ω 0,.sl zcc4_28 1 true,.bool false,.bool false,.str [],.str [],.bool false,.str [],.str []] 3 true],ω 1,.agg [ω 0,ω 0]] (.ret (.nilS)):=cD az (.nil)
theorem agS:CO 16 [.agg [.nilS,.nilS,.sl [.str [97],.bool false,ω 1,ω 0,.sl zcc4_27 1 true,.bool false,.bool false,.str [],.str [],.bool false,.str [],.str [],.str [98],.bool false,ω 1,ω 0,.sl zcc4_19 3 true,.bool false,.bool false,.str [],.str [],.bool false,.str [],.str [],.str [99],.bool false,ω 1,ω 0,.sl zcc4_28 1 true,.bool false,.bool false,.str [],.str [],.bool false,.str [],.str []] 3 true],ω 1,.agg [ω 0,ω 1]] (.ret (.own [ω 0,ω 0] 1 2)):=cD az (.nil)
theorem agT:CO 16 [.agg [.nilS,.nilS,.sl [.str [97],.bool false,ω 1,ω 0,.sl zcc4_27 1 true,.bool false,.bool false,.str [],.str [],.bool false,.str [],.str [],.str [98],.bool false,ω 1,ω 0,.sl zcc4_19 3 true,.bool false,.bool false,.str [],.str [],.bool false,.str [],.str [],.str [99],.bool false,ω 1,ω 0,.sl zcc4_28 1 true,.bool false,.bool false,.str [],.str [],.bool false,.str [],.str []] 3 true],ω 1,.agg [ω 0,ω 2]] (.ret (.own [ω 0,ω 1] 1 2)):=cD az (.nil)
theorem agU:ah prog ap 48 [.mp [.agg [ω 0,ω 0],.agg [ω 0,ω 1],.agg [ω 0,ω 2]] [.nilS,.sl [ω 0,ω 0] 1 true,.sl [ω 0,ω 1] 1 true],.ref 0 0 0 3] [⟨zcc4_24,0,false,0,2,true⟩] (.ret (.sl [.bool false,.sl [ω 0,ω 0] 1 true,.bool false,.sl [ω 0,ω 1] 1 true,.bool false,.sl [ω 0,ω 2] 1 true] 3 true)) [⟨zcc4_24,0,false,0,2,true⟩]:=cD az (.nil)
theorem agV:ah prog ap 99 [.ifc 99 (.ptr 0 0 0),ω 0,ω 0] [⟨[.ref 1 0 0 1,.ifc 101 (.agg [])],0,false,0,0,false⟩,⟨[.bool false,.sl [ω 0,ω 0] 1 false],0,false,0,2,true⟩] (.ret (.bool false)) [⟨[.ref 1 0 0 1,.ifc 101 (.agg [])],0,false,0,0,false⟩,⟨[.bool false,.sl [ω 0,ω 0] 1 false],0,false,0,2,true⟩]:=cD az (.nil)
theorem agW:ah prog ap 349 [.ptr 0 0 0] [⟨[.ref 1 0 0 1,.ifc 101 (.agg [])],0,false,0,0,false⟩,⟨[.bool false,.sl [ω 0,ω 0] 1 false],0,false,0,2,true⟩] (.ret (.ifc 66 (.agg [.bool false,.sl [ω 0,ω 0] 1 false]))) [⟨[.ref 1 0 0 0,.ifc 101 (.agg [])],0,false,0,0,false⟩,⟨[.bool false,.sl [ω 0,ω 0] 1 false],0,false,0,2,true⟩]:=cD az (.nil)
theorem agX:ah prog ap 50 [.ifc 99 (.ptr 0 0 0),.ifc 66 (.agg [.bool false,.sl [ω 0,ω 1] 1 false])] [⟨[.ref 1 0 0 0,.ifc 101 (.agg [])],0,false,0,0,false⟩,⟨[.bool false,.sl [ω 0,ω 0] 1 false],0,false,0,2,true⟩] (.ret (.tup [])) [⟨[.ref 1 1 0 1,.ifc 101 (.agg [])],0,false,0,0,false⟩,⟨[.bool false,.sl [ω 0,ω 1] 1 false],1,false,0,2,true⟩]:=cD az (.nil)
theorem agY:ah prog ap 99 [.ifc 99 (.ptr 0 0 0),ω 0,ω 0] [⟨[.ref 1 0 0 1,.ifc 101 (.agg [])],0,false,0,0,false⟩,⟨[.bool false,.sl [ω 0,ω 1] 1 false],0,false,0,2,true⟩] (.ret (.bool false)) [⟨[.ref 1 0 0 1,.ifc 101 (.agg [])],0,false,0,0,false⟩,⟨[.bool false,.sl [ω 0,ω 1] 1 false],0,false,0,2,true⟩]:=cD az (.nil)
theorem agZ:ah prog ap 349 [.ptr 0 0 0] [⟨[.ref 1 0 0 1,.ifc 101 (.agg [])],0,false,0,0,false⟩,⟨[.bool false,.sl [ω 0,ω 1] 1 false],0,false,0,2,true⟩] (.ret (.ifc 66 (.agg [.bool false,.sl [ω 0,ω 1] 1 false]))) [⟨[.ref 1 0 0 0,.ifc 101 (.agg [])],0,false,0,0,false⟩,⟨[.bool false,.sl [ω 0,ω 1] 1 false],0,false,0,2,true⟩]:=cD az (.nil)
theorem ag0:ah prog ap 50 [.ifc 99 (.ptr 0 0 0),.ifc 66 (.agg [.bool false,.sl [ω 0,ω 2] 1 false])] [⟨[.ref 1 0 0 0,.ifc 101 (.agg [])],0,false,0,0,false⟩,⟨[.bool false,.sl [ω 0,ω 1] 1 false],0,false,0,2,true⟩] (.ret (.tup [])) [⟨[.ref 1 1 0 1,.ifc 101 (.agg [])],0,false,0,0,false⟩,⟨[.bool false,.sl [ω 0,ω 2] 1 false],1,false,0,2,true⟩]:=cD az (.nil)
theorem ag1:ah prog ap 99 [.ifc 99 (.ptr 0 0 0),ω 0,ω 0] [⟨[.ref 1 0 0 1,.ifc 101 (.agg [])],0,false,0,0,false⟩,⟨[.bool false,.sl [ω 0,ω 2] 1 false],0,false,0,2,true⟩] (.ret (.bool false)) [⟨[.ref 1 0 0 1,.ifc 101 (.agg [])],0,false,0,0,false⟩,⟨[.bool false,.sl [ω 0,ω 2] 1 false],0,false,0,2,true⟩]:=cD az (.nil)
theorem ag2:ah prog ap 349 [.ptr 0 0 0] [⟨[.ref 1 0 0 1,.ifc 101 (.agg [])],0,false,0,0,false⟩,⟨[.bool false,.sl [ω 0,ω 2] 1 false],0,false,0,2,true⟩] (.ret (.ifc 66 (.agg [.bool false,.sl [ω 0,ω 2] 1 false]))) [⟨[.ref 1 0 0 0,.ifc 101 (.agg [])],0,false,0,0,false⟩,⟨[.bool false,.sl [ω 0,ω 2] 1 false],0,false,0,2,true⟩]:=cD az (.nil)
theorem ag3:CO 26 [.agg [.nilS,.nilS,.sl [.str [97],.bool false,ω 1,ω 0,.sl zcc4_27 1 true,.bool false,.bool false,.str [],.str [],.bool false,.str [],.str [],.str [98],.bool false,ω 1,ω 0,.sl zcc4_19 3 true,.bool false,.bool false,.str [],.str [],.bool false,.str [],.str [],.str [99],.bool false,ω 1,ω 0,.sl zcc4_28 1 true,.bool false,.bool false,.str [],.str [],.bool false,.str [],.str []] 3 true],ω 1] (.ret (ω 0)):=cD az (.c ag2 (.c ag1 (.c ag0 (.c agZ (.c agY (.c agX (.c agW (.c agV (.c zI (.c agU (.c Z5 (.c agT (.c agS (.c agR (.c Z5 .nil)))))))))))))))
theorem ag4:ah prog ap 26 [.agg [.nilS,.nilS,.ref 0 0 0 3],ω 1] [⟨[.str [97],.bool false,ω 1,ω 0,.sl zcc4_27 1 true,.bool false,.bool false,.str [],.str [],.bool false,.str [],.str [],.str [98],.bool false,ω 1,ω 0,.ref 1 0 0 3,.bool false,.bool false,.str [],.str [],.bool false,.str [],.str [],.str [99],.bool false,ω 1,ω 0,.sl zcc4_28 1 true,.bool false,.bool false,.str [],.str [],.bool false,.str [],.str [],.str [100],.bool false,ω 1,ω 0,.sl zcc4_25 1 true,.bool false,.bool false,.str [],.str [],.bool false,.str [],.str []],0,false,0,12,false⟩,⟨zcc4_19,0,false,0,5,true⟩] (.ret (ω 0)) [⟨[.str [97],.bool false,ω 1,ω 0,.sl zcc4_27 1 true,.bool false,.bool false,.str [],.str [],.bool false,.str [],.str [],.str [98],.bool false,ω 1,ω 0,.ref 1 0 0 3,.bool false,.bool false,.str [],.str [],.bool false,.str [],.str [],.str [99],.bool false,ω 1,ω 0,.sl zcc4_28 1 true,.bool false,.bool false,.str [],.str [],.bool false,.str [],.str [],.str [100],.bool false,ω 1,ω 0,.sl zcc4_25 1 true,.bool false,.bool false,.str [],.str [],.bool false,.str [],.str []],0,false,0,12,false⟩,⟨zcc4_19,0,false,0,5,true⟩]:=ah.lend (args':= [.agg [.nilS,.nilS,.sl [.str [97],.bool false,ω 1,ω 0,.sl zcc4_27 1 true,.bool false,.bool false,.str [],.str [],.bool false,.str [],.str [],.str [98],.bool false,ω 1,ω 0,.sl zcc4_19 3 true,.bool false,.bool false,.str [],.str [],.bool false,.str [],.str [],.str [99],.bool false,ω 1,ω 0,.sl zcc4_28 1 true,.bool false,.bool false,.str [],.str [],.bool false,.str [],.str []] 3 true],ω 1]) (by kernel_rfl) (by kernel_rfl) ag3
theorem Z7:CO 49 [.agg [.nilS,.nilS,.sl [.str [97],.bool false,ω 1,ω 0,.sl zcc4_27 1 true,.bool false,.bool false,.str [],.str [],.bool false,.str [],.str [],.str [98],.bool false,ω 1,ω 0,.sl zcc4_19 3 true,.bool false,.bool false,.str [],.str [],.bool false,.str [],.str [],.str [99],.bool false,ω 1,ω 0,.sl zcc4_28 1 true,.bool false,.bool false,.str [],.str [],.bool false,.str [],.str []] 3 true],ω 2] (.ret (.own zcc4_20 6 2)):=cD az (.nil)
theorem ag5:CO 16 [.agg [.nilS,.nilS,.sl [.str [97],.bool false,ω 1,ω 0,.sl zcc4_27 1 true,.bool false,.bool false,.str [],.str [],.bool false,.str [],.str [],.str [98],.bool false,ω 1,ω 0,.sl zcc4_19 3 true,.bool false,.bool false,.str [],.str [],.bool false,.str [],.str [],.str [99],.bool false,ω 1,ω 0,.sl zcc4_28 1 true,.bool false,.bool false,.str [],.str [],.bool false,.str [],.str []] 3 true],ω 2,.agg [ω 0,ω 0]] (.ret (.nilS)):=cD az (.nil)
theorem ag6:CO 16 [.agg [.nilS,.nilS,.sl [.str [97],.bool false,ω 1,ω 0,.sl zcc4_27 1 true,.bool false,.bool false,.str [],.str [],.bool false,.str [],.str [],.str [98],.bool false,ω 1,ω 0,.sl zcc4_19 3 true,.bool false,.bool false,.str [],.str [],.bool false,.str [],.str [],.str [99],.bool false,ω 1,ω 0,.sl zcc4_28 1 true,.bool false,.bool false,.str [],.str [],.bool false,.str [],.str []] 3 true],ω 2,.agg [ω 0,ω 1]] (.ret (.own [ω 0,ω 0,ω 1,ω 2] 2 2)):=cD az (.nil)
theorem ag7:CO 16 [.agg [.nilS,.nilS,.sl [.str [97],.bool false,ω 1,ω 0,.sl zcc4_27 1 true,.bool false,.bool false,.str [],.str [],.bool false,.str [],.str [],.str [98],.bool false,ω 1,ω 0,.sl zcc4_19 3 true,.bool false,.bool false,.str [],.str [],.bool false,.str [],.str [],.str [99],.bool false,ω 1,ω 0,.sl zcc4_28 1 true,.bool false,.bool false,.str [],.str [],.bool false,.str [],.str []] 3 true],ω 2,.agg [ω 0,ω 2]] (.ret (.own [ω 0,ω 1] 1 2)):=cD az (.nil)
theorem ag8:CO 16 [.agg [.nilS,.nilS,.sl [.str [97],.bool false,ω 1,ω 0,.sl zcc4_27 1 true,.bool false,.bool false,.str [],.str [],.bool false,.str [],.str [],.str [98],.bool false,ω 1,ω 0,.sl zcc4_19 3 true,.bool false,.bool false,.str [],.str [],.bool false,.str [],.str [],.str [99],.bool false,ω 1,ω 0,.sl zcc4_28 1 true,.bool false,.bool false,.str [],.str [],.bool false,.str [],.str []] 3 true],ω 2,.agg [ω 1,ω 0]] (.ret (.nilS)):=cD az (.nil)
theorem ag9:CO 16 [.agg [.nilS,.nilS,.sl [.str [97],.bool false,ω 1,ω 0,.sl zcc4_27 1 true,.bool false,.bool false,.str [],.str [],.bool false,.str [],.str [],.str [98],.bool false,ω 1,ω 0,.sl zcc4_19 3 true,.bool false,.bool false,.str [],.str [],.bool false,.str [],.str [],.str [99],.bool false,ω 1,ω 0,.sl zcc4_28 1 true,.bool false,.bool false,.str [],.str [],.bool false,.str [],.str []] 3 true],ω 2,.agg [ω 1,ω 1]] (.ret (.own [ω 0,ω 2,ω 1,ω 0] 2 2)):=cD az (.nil)
theorem ag_:CO 16 [.agg [.nilS,.nilS,.sl [.str [97],.bool false,ω 1,ω 0,.sl zcc4_27 1 true,.bool false,.bool false,.str [],.str [],.bool false,.str [],.str [],.str [98],.bool false,ω 1,ω 0,.sl zcc4_19 3 true,.bool false,.bool false,.str [],.str [],.bool false,.str [],.str [],.str [99],.bool false,ω 1,ω 0,.sl zcc4_28 1 true,.bool false,.bool false,.str [],.str [],.bool false,.str [],.str []] 3 true],ω 2,.agg [ω 1,ω 2]] (.ret (.own [ω 1,ω 1] 1 2)):=cD az (.nil)
theorem aha:CO 26 [.agg [.nilS,.nilS,.sl [.str [97],.bool false,ω 1,ω 0,.sl zcc4_27 1 true,.bool false,.bool false,.str [],.str [],.bool false,.str [],.str [],.str [98],.bool false,ω 1,ω 0,.sl zcc4_19 3 true,.bool false,.bool false,.str [],.str [],.bool false,.str [],.str [],.str [99],.bool false,ω 1,ω 0,.sl zcc4_28 1 true,.bool false,.bool false,.str [],.str [],.bool false,.str [],.str []] 3 true],ω 2] (.ret (ω 17)):=cD az (.c U9 (.c U8 (.c U7 (.c U6 (.c U5 (.c U4 (.c U3 (.c JY (.c zI (.c U2 (.c Z7 (.c ag_ (.c ag9 (.c ag8 (.c ag7 (.c ag6 (.c ag5 (.c Z7 .nil))))))))))))))))))
theorem ahb:ah prog ap 26 [.agg [.nilS,.nilS,.ref 0 0 0 3],ω 2] [⟨[.str [97],.bool false,ω 1,ω 0,.sl zcc4_27 1 true,.bool false,.bool false,.str [],.str [],.bool false,.str [],.str [],.str [98],.bool false,ω 1,ω 0,.ref 1 0 0 3,.bool false,.bool false,.str [],.str [],.bool false,.str [],.str [],.str [99],.bool false,ω 1,ω 0,.sl zcc4_28 1 true,.bool false,.bool false,.str [],.str [],.bool false,.str [],.str [],.str [100],.bool false,ω 1,ω 0,.sl zcc4_25 1 true,.bool false,.bool false,.str [],.str [],.bool false,.str [],.str []],0,false,0,12,false⟩,⟨zcc4_19,0,false,0,5,true⟩] (.ret (ω 17)) [⟨[.str [97],.bool false,ω 1,ω 0,.sl zcc4_27 1 true,.bool false,.bool false,.str [],.str [],.bool false,.str [],.str [],.str [98],.bool false,ω 1,ω 0,.ref 1 0 0 3,.bool false,.bool false,.str [],.str [],.bool false,.str [],.str [],.str [99],.bool false,ω 1,ω 0,.sl zcc4_28 1 true,.bool false,.bool false,.str [],.str [],.bool false,.str [],.str [],.str [100],.bool false,ω 1,ω 0,.sl zcc4_25 1 true,.bool false,.bool false,.str [],.str [],.bool false,.str [],.str []],0,false,0,12,false⟩,⟨zcc4_19,0,false,0,5,true⟩]:=ah.lend (args':= [.agg [.nilS,.nilS,.sl [.str [97],.bool false,ω 1,ω 0,.sl zcc4_27 1 true,.bool false,.bool false,.str [],.str [],.bool false,.str [],.str [],.str [98],.bool false,ω 1,ω 0,.sl zcc4_19 3 true,.bool false,.bool false,.str [],.str [],.bool false,.str [],.str [],.str [99],.bool false,ω 1,ω 0,.sl zcc4_28 1 true,.bool false,.bool false,.str [],.str [],.bool false,.str [],.str []] 3 true],ω 2]) (by kernel_rfl) (by kernel_rfl) aha
theorem Z9:CO 49 [.agg [.nilS,.nilS,.sl [.str [97],.bool false,ω 1,ω 0,.sl zcc4_27 1 true,.bool false,.bool false,.str [],.str [],.bool false,.str [],.str [],.str [98],.bool false,ω 1,ω 0,.sl zcc4_19 3 true,.bool false,.bool false,.str [1],.str [1],.bool false,.str [9],.str [1],.str [99],.bool false,ω 1,ω 0,.sl zcc4_28 1 true,.bool false,.bool false,.str [1],.str [1],.bool false,.str [9],.str [1]] 3 true],ω 2] (.ret (.own zcc4_20 6 2)):=cD az (.nil)
theorem ahc:CO 16 [.agg [.nilS,.nilS,.sl [.str [97],.bool false,ω 1,ω 0,.sl zcc4_27 1 true,.bool false,.bool false,.str [],.str [],.bool false,.str [],.str [],.str [98],.bool false,ω 1,ω 0,.sl zcc4_19 3 true,.bool false,.bool false,.str [1],.str [1],.bool false,.str [9],.str [1],.str [99],.bool false,ω 1,ω 0,.sl zcc4_28 1 true,.bool false,.bool false,.str [1],.str [1],.bool false,.str [9],.str [1]] 3 true],ω 2,.agg [ω 0,ω 0]] (.ret (.nilS)):=cD az (.nil)
theorem ahd:CO 16 [.agg [.nilS,.nilS,.sl [.str [97],.bool false,ω 1,ω 0,.sl zcc4_27 1 true,.bool false,.bool false,.str [],.str [],.bool false,.str [],.str [],.str [98],.bool false,ω 1,ω 0,.sl zcc4_19 3 true,.bool false,.bool false,.str [1],.str [1],.bool false,.str [9],.str [1],.str [99],.bool false,ω 1,ω 0,.sl zcc4_28 1 true,.bool false,.bool false,.str [1],.str [1],.bool false,.str [9],.str [1]] 3 true],ω 2,.agg [ω 0,ω 1]] (.ret (.own [ω 0,ω 0,ω 1,ω 2] 2 2)):=cD az (.nil)
theorem ahe:CO 16 [.agg [.nilS,.nilS,.sl [.str [97],.bool false,ω 1,ω 0,.sl zcc4_27 1 true,.bool false,.bool false,.str [],.str [],.bool false,.str [],.str [],.str [98],.bool false,ω 1,ω 0,.sl zcc4_19 3 true,.bool false,.bool false,.str [1],.str [1],.bool false,.str [9],.str [1],.str [99],.bool false,ω 1,ω 0,.sl zcc4_28 1 true,.bool false,.bool false,.str [1],.str [1],.bool false,.str [9],.str [1]] 3 true],ω 2,.agg [ω 0,ω 2]] (.ret (.own [ω 0,ω 1] 1 2)):=cD az (.nil)
theorem ahf:CO 16 [.agg [.nilS,.nilS,.sl [.str [97],.bool false,ω 1,ω 0,.sl zcc4_27 1 true,.bool false,.bool false,.str [],.str [],.bool false,.str [],.str [],.str [98],.bool false,ω 1,ω 0,.sl zcc4_19 3 true,.bool false,.bool false,.str [1],.str [1],.bool false,.str [9],.str [1],.str [99],.bool false,ω 1,ω 0,.sl zcc4_28 1 true,.bool false,.bool false,.str [1],.str [1],.bool false,.str [9],.str [1]] 3 true],ω 2,.agg [ω 1,ω 0]] (.ret (.nilS)):=cD az (.nil)
theorem ahg:CO 16 [.agg [.nilS,.nilS,.sl [.str [97],.bool false,ω 1,ω 0,.sl zcc4_27 1 true,.bool false,.bool false,.str [],.str [],.bool false,.str [],.str [],.str [98],.bool false,ω 1,ω 0,.sl zcc4_19 3 true,.bool false,.bool false,.str [1],.str [1],.bool false,.str [9],.str [1],.str [99],.bool false,ω 1,ω 0,.sl zcc4_28 1 true,.bool false,.bool false,.str [1],.str [1],.bool false,.str [9],.str [1]] 3 true],ω 2,.agg [ω 1,ω 1]] (.ret (.own [ω 0,ω 2,ω 1,ω 0] 2 2)):=cD az (.nil)
theorem ahh:CO 16 [.agg [.nilS,.nilS,.sl [.str [97],.bool false,ω 1,ω 0,.sl zcc4_27 1 true,.bool false,.bool false,.str [],.str [],.bool false,.str [],.str [],.str [98],.bool false,ω 1,ω 0,.sl zcc4_19 3 true,.bool false,.bool false,.str [1],.str [1],.bool false,.str [9],.str [1],.str [99],.bool false,ω 1,ω 0,.sl zcc4_28 1 true,.bool false,.bool false,.str [1],.str [1],.bool false,.str [9],.str [1]] 3 true],ω 2,.agg [ω 1,ω 2]] (.ret (.own [ω 1,ω 1] 1 2)):=cD az (.nil)
theorem DU:CO 111 [.sl zcc4_19 3 false] (.ret (ω 0)):=cD az (.nil)
theorem UJ:CO 157 [.sl zcc4_19 3 false,.nilS,ω 6,.str [98]] (.ret (ω 0)):=cD az (.c DU .nil)
theorem UK:CO 157 [.sl zcc4_19 3 false,.nilS,ω 8,.str [98]] (.ret (ω 0)):=cD az (.c DU .nil)
theorem UL:CO 157 [.sl zcc4_19 3 false,.nilS,ω 6,.str [99]] (.ret (ω 0)):=cD az (.c DU .nil)
theorem UM:CO 157 [.sl zcc4_19 3 false,.nilS,ω 8,.str [99]] (.ret (ω 1)):=cU az (.u 99 (rfl:([some ⟨[.sl zcc4_19 3 false,.sl [.nilS,.sl [] 0 true,.sl [ω 0,ω 1] 2 true] 3 true,.nilS,.ref 2 0 0 3],0,false,0,0,false⟩,some ⟨[ω 0,ω 1,ω 0],0,false,0,1,true⟩]:List (Option aK))= [some ⟨[.sl zcc4_19 3 false,.sl [.nilS,.sl [] 0 true,.sl [ω 0,ω 1] 2 true] 3 true,.nilS,.ref 2 0 0 3],0,false,0,0,false⟩,some ⟨[ω 0,ω 1,ω 0],0,false,0,1,true⟩]) (.c DU .nil))
theorem UN:CO 68 [.sl zcc4_19 3 false,.nilS,.sl [.str [98],.str [99],.str [98],.str [99]] 4 true] (.ret (.bool true)):=by
 have h:=DD (.sl zcc4_19 3 false) (.nilS) true (acj _ _ _) aci DU [[98],[99],[98],[99]] (fun s=>if s= [99] then 0 else if s= [98] then 0 else 0) (fun s=>if s= [99] then 1 else if s= [98] then 0 else 0) (by decide) (fun s hs=>by
  simp only [Xqu,Xxb,or_false] at hs;rcases hs with rfl|rfl|rfl|rfl
  ·exact UJ
  ·exact UL
  ·exact UJ
  ·exact UL) (fun s hs=>by
  simp only [Xqu,Xxb,or_false] at hs;rcases hs with rfl|rfl|rfl|rfl
  ·exact UK
  ·exact UM
  ·exact UK
  ·exact UM)
 exact h
theorem DV:CO 111 [.sl zcc4_28 1 false] (.ret (ω 0)):=cD az (.nil)
theorem UO:CO 157 [.sl zcc4_28 1 false,.nilS,ω 6,.str [98]] (.ret (ω 1)):=cD az (.c DV .nil)
theorem UQ:CO 157 [.sl zcc4_28 1 false,.nilS,ω 8,.str [98]] (.ret (ω 0)):=cD az (.c DV .nil)
theorem UR:CO 157 [.sl zcc4_28 1 false,.nilS,ω 6,.str [99]] (.ret (ω 0)):=cD az (.c DV .nil)
theorem UT:CO 157 [.sl zcc4_28 1 false,.nilS,ω 8,.str [99]] (.ret (ω 0)):=cD az (.c DV .nil)
theorem UU:CO 68 [.sl zcc4_28 1 false,.nilS,.sl [.str [98],.str [99],.str [98],.str [99]] 4 true] (.ret (.bool true)):=by
 have h:=DD (.sl zcc4_28 1 false) (.nilS) true (acj _ _ _) aci DV [[98],[99],[98],[99]] (fun s=>if s= [99] then 0 else if s= [98] then 1 else 0) (fun s=>if s= [99] then 0 else if s= [98] then 0 else 0) (by decide) (fun s hs=>by
  simp only [Xqu,Xxb,or_false] at hs;rcases hs with rfl|rfl|rfl|rfl
  ·exact UO
  ·exact UR
  ·exact UO
  ·exact UR) (fun s hs=>by
  simp only [Xqu,Xxb,or_false] at hs;rcases hs with rfl|rfl|rfl|rfl
  ·exact UQ
  ·exact UT
  ·exact UQ
  ·exact UT)
 exact h
theorem ab3:CO 26 [.agg [.nilS,.nilS,.sl [.str [97],.bool false,ω 1,ω 0,.sl zcc4_27 1 true,.bool false,.bool false,.str [],.str [],.bool false,.str [],.str [],.str [98],.bool false,ω 1,ω 0,.sl zcc4_19 3 true,.bool false,.bool false,.str [1],.str [1],.bool false,.str [9],.str [1],.str [99],.bool false,ω 1,ω 0,.sl zcc4_28 1 true,.bool false,.bool false,.str [1],.str [1],.bool false,.str [9],.str [1]] 3 true],ω 2] (.ret (ω 0)):=cD az (.c UU (.c J4 (.c sD (.c zK (.c gQ (.c gQ (.c zJ (.c UN (.c J4 (.c sD (.c zK (.c gQ (.c gQ (.c zJ (.c UU (.c J4 (.c sD (.c zK (.c gQ (.c gQ (.c zJ (.c UN (.c J4 (.c sD (.c zK (.c gQ (.c gQ (.c zJ (.c U9 (.c U8 (.c U7 (.c U6 (.c U5 (.c U4 (.c U3 (.c JY (.c zI (.c U2 (.c Z9 (.c ahh (.c ahg (.c ahf (.c ahe (.c ahd (.c ahc (.c Z9 .nil))))))))))))))))))))))))))))))))))))))))))))))
theorem ab4:ah prog ap 26 [.agg [.nilS,.nilS,.ref 0 0 0 3],ω 2] [⟨[.str [97],.bool false,ω 1,ω 0,.sl zcc4_27 1 true,.bool false,.bool false,.str [],.str [],.bool false,.str [],.str [],.str [98],.bool false,ω 1,ω 0,.ref 1 0 0 3,.bool false,.bool false,.str [1],.str [1],.bool false,.str [9],.str [1],.str [99],.bool false,ω 1,ω 0,.sl zcc4_28 1 true,.bool false,.bool false,.str [1],.str [1],.bool false,.str [9],.str [1],.str [100],.bool false,ω 1,ω 0,.sl zcc4_25 1 true,.bool false,.bool false,.str [],.str [],.bool false,.str [],.str []],0,false,0,12,false⟩,⟨zcc4_19,0,false,0,5,true⟩] (.ret (ω 0)) [⟨[.str [97],.bool false,ω 1,ω 0,.sl zcc4_27 1 true,.bool false,.bool false,.str [],.str [],.bool false,.str [],.str [],.str [98],.bool false,ω 1,ω 0,.ref 1 0 0 3,.bool false,.bool false,.str [1],.str [1],.bool false,.str [9],.str [1],.str [99],.bool false,ω 1,ω 0,.sl zcc4_28 1 true,.bool false,.bool false,.str [1],.str [1],.bool false,.str [9],.str [1],.str [100],.bool false,ω 1,ω 0,.sl zcc4_25 1 true,.bool false,.bool false,.str [],.str [],.bool false,.str [],.str []],0,false,0,12,false⟩,⟨zcc4_19,0,false,0,5,true⟩]:=ah.lend (args':= [.agg [.nilS,.nilS,.sl [.str [97],.bool false,ω 1,ω 0,.sl zcc4_27 1 true,.bool false,.bool false,.str [],.str [],.bool false,.str [],.str [],.str [98],.bool false,ω 1,ω 0,.sl zcc4_19 3 true,.bool false,.bool false,.str [1],.str [1],.bool false,.str [9],.str [1],.str [99],.bool false,ω 1,ω 0,.sl zcc4_28 1 true,.bool false,.bool false,.str [1],.str [1],.bool false,.str [9],.str [1]] 3 true],ω 2]) (by kernel_rfl) (by kernel_rfl) ab3
theorem UV:CO 49 [.agg [.nilS,.nilS,.sl [.str [97],.bool false,ω 1,ω 0,.sl zcc4_27 1 true,.bool false,.bool false,.str [],.str [],.bool false,.str [],.str [],.str [98],.bool false,ω 1,ω 0,.sl zcc4_18 3 true,.bool false,.bool false,.str [1],.str [1],.bool false,.str [9],.str [1],.str [99],.bool false,ω 1,ω 0,.sl zcc4_28 1 true,.bool false,.bool false,.str [1],.str [1],.bool false,.str [9],.str [1]] 3 true],ω 2] (.ret (.own zcc4_20 6 2)):=cD az (.nil)
theorem ab5:CO 16 [.agg [.nilS,.nilS,.sl [.str [97],.bool false,ω 1,ω 0,.sl zcc4_27 1 true,.bool false,.bool false,.str [],.str [],.bool false,.str [],.str [],.str [98],.bool false,ω 1,ω 0,.sl zcc4_18 3 true,.bool false,.bool false,.str [1],.str [1],.bool false,.str [9],.str [1],.str [99],.bool false,ω 1,ω 0,.sl zcc4_28 1 true,.bool false,.bool false,.str [1],.str [1],.bool false,.str [9],.str [1]] 3 true],ω 2,.agg [ω 0,ω 0]] (.ret (.nilS)):=cD az (.nil)
theorem ab6:CO 16 [.agg [.nilS,.nilS,.sl [.str [97],.bool false,ω 1,ω 0,.sl zcc4_27 1 true,.bool false,.bool false,.str [],.str [],.bool false,.str [],.str [],.str [98],.bool false,ω 1,ω 0,.sl zcc4_18 3 true,.bool false,.bool false,.str [1],.str [1],.bool false,.str [9],.str [1],.str [99],.bool false,ω 1,ω 0,.sl zcc4_28 1 true,.bool false,.bool false,.str [1],.str [1],.bool false,.str [9],.str [1]] 3 true],ω 2,.agg [ω 0,ω 1]] (.ret (.own [ω 0,ω 0,ω 1,ω 2] 2 2)):=cD az (.nil)
theorem ab7:CO 16 [.agg [.nilS,.nilS,.sl [.str [97],.bool false,ω 1,ω 0,.sl zcc4_27 1 true,.bool false,.bool false,.str [],.str [],.bool false,.str [],.str [],.str [98],.bool false,ω 1,ω 0,.sl zcc4_18 3 true,.bool false,.bool false,.str [1],.str [1],.bool false,.str [9],.str [1],.str [99],.bool false,ω 1,ω 0,.sl zcc4_28 1 true,.bool false,.bool false,.str [1],.str [1],.bool false,.str [9],.str [1]] 3 true],ω 2,.agg [ω 0,ω 2]] (.ret (.own [ω 0,ω 1] 1 2)):=cD az (.nil)
theorem ab8:CO 16 [.agg [.nilS,.nilS,.sl [.str [97],.bool false,ω 1,ω 0,.sl zcc4_27 1 true,.bool false,.bool false,.str [],.str [],.bool false,.str [],.str [],.str [98],.bool false,ω 1,ω 0,.sl zcc4_18 3 true,.bool false,.bool false,.str [1],.str [1],.bool false,.str [9],.str [1],.str [99],.bool false,ω 1,ω 0,.sl zcc4_28 1 true,.bool false,.bool false,.str [1],.str [1],.bool false,.str [9],.str [1]] 3 true],ω 2,.agg [ω 1,ω 0]] (.ret (.nilS)):=cD az (.nil)
theorem ab9:CO 16 [.agg [.nilS,.nilS,.sl [.str [97],.bool false,ω 1,ω 0,.sl zcc4_27 1 true,.bool false,.bool false,.str [],.str [],.bool false,.str [],.str [],.str [98],.bool false,ω 1,ω 0,.sl zcc4_18 3 true,.bool false,.bool false,.str [1],.str [1],.bool false,.str [9],.str [1],.str [99],.bool false,ω 1,ω 0,.sl zcc4_28 1 true,.bool false,.bool false,.str [1],.str [1],.bool false,.str [9],.str [1]] 3 true],ω 2,.agg [ω 1,ω 1]] (.ret (.own [ω 0,ω 2,ω 1,ω 0] 2 2)):=cD az (.nil)
theorem ab_:CO 16 [.agg [.nilS,.nilS,.sl [.str [97],.bool false,ω 1,ω 0,.sl zcc4_27 1 true,.bool false,.bool false,.str [],.str [],.bool false,.str [],.str [],.str [98],.bool false,ω 1,ω 0,.sl zcc4_18 3 true,.bool false,.bool false,.str [1],.str [1],.bool false,.str [9],.str [1],.str [99],.bool false,ω 1,ω 0,.sl zcc4_28 1 true,.bool false,.bool false,.str [1],.str [1],.bool false,.str [9],.str [1]] 3 true],ω 2,.agg [ω 1,ω 2]] (.ret (.own [ω 1,ω 1] 1 2)):=cD az (.nil)
theorem DW:CO 111 [.sl zcc4_18 3 false] (.ret (ω 0)):=cD az (.nil)
theorem UW:CO 157 [.sl zcc4_18 3 false,.nilS,ω 6,.str [98]] (.ret (ω 0)):=cD az (.c DW .nil)
theorem UX:CO 157 [.sl zcc4_18 3 false,.nilS,ω 8,.str [98]] (.ret (ω 0)):=cD az (.c DW .nil)
theorem UY:CO 157 [.sl zcc4_18 3 false,.nilS,ω 6,.str [99]] (.ret (ω 0)):=cD az (.c DW .nil)
theorem UZ:CO 157 [.sl zcc4_18 3 false,.nilS,ω 8,.str [99]] (.ret (ω 2)):=cU az (.u 99 (rfl:([some ⟨[.sl zcc4_18 3 false,.sl [.nilS,.sl [] 0 true,.sl [ω 0,ω 1] 2 true] 3 true,.nilS,.ref 2 0 0 3],0,false,0,0,false⟩,some ⟨[ω 0,ω 1,ω 0],0,false,0,1,true⟩]:List (Option aK))= [some ⟨[.sl zcc4_18 3 false,.sl [.nilS,.sl [] 0 true,.sl [ω 0,ω 1] 2 true] 3 true,.nilS,.ref 2 0 0 3],0,false,0,0,false⟩,some ⟨[ω 0,ω 1,ω 0],0,false,0,1,true⟩]) (.c DW .nil))
theorem aca:CO 68 [.sl zcc4_18 3 false,.nilS,.sl [.str [98],.str [99],.str [98],.str [99]] 4 true] (.ret (.bool false)):=by
 have h:=DD (.sl zcc4_18 3 false) (.nilS) true (acj _ _ _) aci DW [[98],[99],[98],[99]] (fun s=>if s= [99] then 0 else if s= [98] then 0 else 0) (fun s=>if s= [99] then 2 else if s= [98] then 0 else 0) (by decide) (fun s hs=>by
  simp only [Xqu,Xxb,or_false] at hs;rcases hs with rfl|rfl|rfl|rfl
  ·exact UW
  ·exact UY
  ·exact UW
  ·exact UY) (fun s hs=>by
  simp only [Xqu,Xxb,or_false] at hs;rcases hs with rfl|rfl|rfl|rfl
  ·exact UX
  ·exact UZ
  ·exact UX
  ·exact UZ)
 exact h
theorem acb:CO 26 [.agg [.nilS,.nilS,.sl [.str [97],.bool false,ω 1,ω 0,.sl zcc4_27 1 true,.bool false,.bool false,.str [],.str [],.bool false,.str [],.str [],.str [98],.bool false,ω 1,ω 0,.sl zcc4_18 3 true,.bool false,.bool false,.str [1],.str [1],.bool false,.str [9],.str [1],.str [99],.bool false,ω 1,ω 0,.sl zcc4_28 1 true,.bool false,.bool false,.str [1],.str [1],.bool false,.str [9],.str [1]] 3 true],ω 2] (.ret (ω 17)):=cD az (.c aca (.c J4 (.c sD (.c zK (.c gQ (.c gQ (.c zJ (.c U9 (.c U8 (.c U7 (.c U6 (.c U5 (.c U4 (.c U3 (.c JY (.c zI (.c U2 (.c UV (.c ab_ (.c ab9 (.c ab8 (.c ab7 (.c ab6 (.c ab5 (.c UV .nil)))))))))))))))))))))))))
theorem acd:ah prog ap 26 [.agg [.nilS,.nilS,.ref 0 0 0 3],ω 2] [⟨[.str [97],.bool false,ω 1,ω 0,.sl zcc4_27 1 true,.bool false,.bool false,.str [],.str [],.bool false,.str [],.str [],.str [98],.bool false,ω 1,ω 0,.ref 1 0 0 3,.bool false,.bool false,.str [1],.str [1],.bool false,.str [9],.str [1],.str [99],.bool false,ω 1,ω 0,.sl zcc4_28 1 true,.bool false,.bool false,.str [1],.str [1],.bool false,.str [9],.str [1],.str [100],.bool false,ω 1,ω 0,.sl zcc4_25 1 true,.bool false,.bool false,.str [],.str [],.bool false,.str [],.str []],0,false,0,12,false⟩,⟨zcc4_18,0,false,0,5,true⟩] (.ret (ω 17)) [⟨[.str [97],.bool false,ω 1,ω 0,.sl zcc4_27 1 true,.bool false,.bool false,.str [],.str [],.bool false,.str [],.str [],.str [98],.bool false,ω 1,ω 0,.ref 1 0 0 3,.bool false,.bool false,.str [1],.str [1],.bool false,.str [9],.str [1],.str [99],.bool false,ω 1,ω 0,.sl zcc4_28 1 true,.bool false,.bool false,.str [1],.str [1],.bool false,.str [9],.str [1],.str [100],.bool false,ω 1,ω 0,.sl zcc4_25 1 true,.bool false,.bool false,.str [],.str [],.bool false,.str [],.str []],0,false,0,12,false⟩,⟨zcc4_18,0,false,0,5,true⟩]:=ah.lend (args':= [.agg [.nilS,.nilS,.sl [.str [97],.bool false,ω 1,ω 0,.sl zcc4_27 1 true,.bool false,.bool false,.str [],.str [],.bool false,.str [],.str [],.str [98],.bool false,ω 1,ω 0,.sl zcc4_18 3 true,.bool false,.bool false,.str [1],.str [1],.bool false,.str [9],.str [1],.str [99],.bool false,ω 1,ω 0,.sl zcc4_28 1 true,.bool false,.bool false,.str [1],.str [1],.bool false,.str [9],.str [1]] 3 true],ω 2]) (by kernel_rfl) (by kernel_rfl) acb
end Go.Proofs.Tryz
