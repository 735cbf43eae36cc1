/- Contracts of functions that the law reaches, each by its own hypotheses; joined by a program of mine. -/
import Derived.Test.YtcjindbblhcopaaGreatDoorC3
import Derived.Test.YtcjindbblhcopaaGreatDoorC2
import Derived.Test.YtcjindbblhcopaaGreatDoorM5
import Derived.Test.YtcjindbblhcopaaGreatDoorC1
import Derived.Test.YtcjindbblhcopaaGreatDoorM4
import Derived.Test.YtcjindbblhcopaaGreatDoorCards
import Derived.Test.YtcjindbblhcopaaGreatDoorTie
import Derived.Deep.DeepHandedRow
set_option linter.unusedSimpArgs false
set_option linter.unusedVariables false
set_option maxRecDepth 100000
set_option linter.unusedVariables false
open Go AM
open AV renaming toInt→τ,str→Xzq
open List renaming headD→η,drop→ε,length→ζ,take→μ,map_drop→Xjx,length_drop→Xx5,length_cons→ν,length_nil→Δ,take_length→Xqy,length_append→θ,length_singleton→ο,drop_drop→Xjy,append_assoc→Ψ,singleton_append→Xxg,mem_cons→Xz3,not_mem_nil→Xk4,drop_zero→Xx7,take_of_length_le→Xqd,length_take→Xqq,map→Xjh,length_map→Xxd,flatMap_cons→Xjm,flatMap_append→Xwb,mem_of_getElem?→Xqr
open Int renaming toNat→δ,tmod→Xjt,tdiv→Xxi
open IntKind renaming wrap→γ
open Nat renaming ble→Ξ,mul_one→υ,ble_eq→Xqn,eq_zero_or_pos→Xqb,mod_lt→Xqw,lt_of_lt_of_le→Xqg,lt_or_ge→Xq9,lt_of_le_of_lt→Xq7,sub_le→Xwo,mul_pos→Xz0,le_refl→Θ,pow_add→Xxn,pow_le_pow_right→Xqj,div_le_self→Xzz,le_trans→Xxm,le_of_ble_eq_true→Xj9,ble_eq_true_of_le→Xq4,zero_mul→Xzl,zero_le→Xxq
open Bool renaming and_eq_true→σ,not_eq_true'→Xqm
open UInt8 renaming ofNat→Xqi
namespace Go.Proofs.Tryz
abbrev zcc4_0 : List AV := [.bool false,.str [],.str [1],.bool false,.str [1],.str [10],.bool false,.str [5],.str [1],.bool false,.str [1],.str [5]]
abbrev zcc4_1 : List AV := [.bool false,.str [],.str [1],.bool false,.str [1],.str [10],.bool false,.str [5],.str [1],.bool true,.str [1],.str [5]]
theorem aiH {nt:Nat} (j:83≤nt) (u v o:List Nat) (k c x y:Nat) (p:ω (τ (η (ε ((δ (k:Int))*1) (ah u)) .dead))= ω (x:Int)) (a:ω (γ .i64 ((c:Int)+(x:Int)))= ω (((c+x):Nat):Int)) (m:ω (τ (η (ε ((δ (k:Int))*1) (ah v)) .dead))= ω (y:Int)) (d:ω (γ .i64 ((((c+x):Nat):Int)+(y:Int)))= ω (((c+x+y):Nat):Int)) (b:ω (Xjt (((c+x+y):Nat):Int) ((16777216:Nat):Int))= ω ((((c+x+y) % 16777216):Nat):Int)) (e:ω (γ .i64 (Xxi (((c+x+y):Nat):Int) ((16777216:Nat):Int)))= ω ((((c+x+y) / 16777216):Nat):Int)) (g:ω (γ .i64 ((k:Int)+((1:Nat):Int)))= ω (((k+1):Nat):Int)) (l:(chk (.int .i64) (η (ε ((δ (k:Int))*1) (ah v)) .dead))=true) (h:(decide (((0:Nat):Int)≤(k:Int)))=true) (i:(decide ((k:Int)<(v.length:Int)))=true) (n:(chk (.int .i64) (η (ε ((δ (k:Int))*1) (ah u)) .dead))=true) (f:(decide ((k:Int)<(u.length:Int)))=true):ψ nt f61 ⟨[(9,.sl (ah u) u.length false),(10,.sl (ah v) v.length false),(11,.nilS),(12,ω (c:Int)),(13,ω (k:Int))],[],.dead,[]⟩ (.normal) ⟨[(9,.sl (ah u) u.length false),(10,.sl (ah v) v.length false),(11,.ref 0 0 0 1),(12,ω ((((c+x+y) / 16777216):Nat):Int)),(13,ω (((k+1):Nat):Int))],[(0,⟨[ω ((((c+x+y) % 16777216):Nat):Int)],0,false,0,1,true⟩)],.dead,[]⟩:=pN 61 [] 6 31 (.k 5 l (.c h (.c i (.c (aC i) (.c n (.c h (.c f (.c (aC f) (.k 2 (aC f) .nil))))))))) (.v 52 (.eq g) (.v 80 (.eq e) (.v 76 (.eq b) (.v 73 (.eq d) (.v 72 (.eq m) (.v 63 (.eq a) (.v 62 (.eq p) .nil))))))) j
theorem aiI {nt:Nat} (g:83≤nt) (u v o:List Nat) (k c x y:Nat) (i:ω (τ (η (ε ((δ (k:Int))*1) (ah u)) .dead))= ω (x:Int)) (e:ω (γ .i64 ((c:Int)+(x:Int)))= ω (((c+x):Nat):Int)) (b:ω (Xjt (((c+x):Nat):Int) ((16777216:Nat):Int))= ω ((((c+x) % 16777216):Nat):Int)) (f:ω (γ .i64 (Xxi (((c+x):Nat):Int) ((16777216:Nat):Int)))= ω ((((c+x) / 16777216):Nat):Int)) (d:ω (γ .i64 ((k:Int)+((1:Nat):Int)))= ω (((k+1):Nat):Int)) (j:(decide ((k:Int)<(v.length:Int)))=false) (h:(chk (.int .i64) (η (ε ((δ (k:Int))*1) (ah u)) .dead))=true) (l:(decide (((0:Nat):Int)≤(k:Int)))=true) (a:(decide ((k:Int)<(u.length:Int)))=true):ψ nt f61 ⟨[(9,.sl (ah u) u.length false),(10,.sl (ah v) v.length false),(11,.nilS),(12,ω (c:Int)),(13,ω (k:Int))],[],.dead,[]⟩ (.normal) ⟨[(9,.sl (ah u) u.length false),(10,.sl (ah v) v.length false),(11,.ref 0 0 0 1),(12,ω ((((c+x) / 16777216):Nat):Int)),(13,ω (((k+1):Nat):Int))],[(0,⟨[ω ((((c+x) % 16777216):Nat):Int)],0,false,0,1,true⟩)],.dead,[]⟩:=pN 61 [] 6 15 (.k 5 (aB j) (.c h (.c l (.c a (.c (aC a) (.k 2 (aC a) .nil)))))) (.v 52 (.eq d) (.v 80 (.eq f) (.v 76 (.eq b) (.v 63 (.eq e) (.v 62 (.eq i) .nil))))) g
theorem aiJ {nt:Nat} (h:83≤nt) (u v o:List Nat) (k c x y:Nat) (i:ω (τ (η (ε ((δ (k:Int))*1) (ah v)) .dead))= ω (y:Int)) (e:ω (γ .i64 ((c:Int)+(y:Int)))= ω (((c+y):Nat):Int)) (b:ω (Xjt (((c+y):Nat):Int) ((16777216:Nat):Int))= ω ((((c+y) % 16777216):Nat):Int)) (f:ω (γ .i64 (Xxi (((c+y):Nat):Int) ((16777216:Nat):Int)))= ω ((((c+y) / 16777216):Nat):Int)) (d:ω (γ .i64 ((k:Int)+((1:Nat):Int)))= ω (((k+1):Nat):Int)) (l:(chk (.int .i64) (η (ε ((δ (k:Int))*1) (ah v)) .dead))=true) (j:(decide (((0:Nat):Int)≤(k:Int)))=true) (a:(decide ((k:Int)<(v.length:Int)))=true) (g:(decide ((k:Int)<(u.length:Int)))=false):ψ nt f61 ⟨[(9,.sl (ah u) u.length false),(10,.sl (ah v) v.length false),(11,.nilS),(12,ω (c:Int)),(13,ω (k:Int))],[],.dead,[]⟩ (.normal) ⟨[(9,.sl (ah u) u.length false),(10,.sl (ah v) v.length false),(11,.ref 0 0 0 1),(12,ω ((((c+y) / 16777216):Nat):Int)),(13,ω (((k+1):Nat):Int))],[(0,⟨[ω ((((c+y) % 16777216):Nat):Int)],0,false,0,1,true⟩)],.dead,[]⟩:=pN 61 [] 6 22 (.k 5 l (.c j (.c a (.c (aC a) (.c (aB g) (.k 1 (aC a) (.c (aB g) .nil))))))) (.v 52 (.eq d) (.v 80 (.eq f) (.v 76 (.eq b) (.v 73 (.eq e) (.v 72 (.eq i) .nil))))) h
theorem aiK {nt:Nat} (g:83≤nt) (u v o:List Nat) (k c x y:Nat) (a:ω (Xjt (c:Int) ((16777216:Nat):Int))= ω (((c % 16777216):Nat):Int)) (d:ω (γ .i64 (Xxi (c:Int) ((16777216:Nat):Int)))= ω (((c / 16777216):Nat):Int)) (b:ω (γ .i64 ((k:Int)+((1:Nat):Int)))= ω (((k+1):Nat):Int)) (f:(decide ((k:Int)<(v.length:Int)))=false) (e:(decide ((k:Int)<(u.length:Int)))=false) (h:(decide (((0:Nat):Int)<(c:Int)))=true):ψ nt f61 ⟨[(9,.sl (ah u) u.length false),(10,.sl (ah v) v.length false),(11,.nilS),(12,ω (c:Int)),(13,ω (k:Int))],[],.dead,[]⟩ (.normal) ⟨[(9,.sl (ah u) u.length false),(10,.sl (ah v) v.length false),(11,.ref 0 0 0 1),(12,ω (((c / 16777216):Nat):Int)),(13,ω (((k+1):Nat):Int))],[(0,⟨[ω (((c % 16777216):Nat):Int)],0,false,0,1,true⟩)],.dead,[]⟩:=pN 61 [] 6 4 (.k 5 (aB f) (.c (aB e) (.c (aC h) (.c (aB f) (.c (aB e) .nil))))) (.v 52 (.eq b) (.v 80 (.eq d) (.v 76 (.eq a) .nil))) g
theorem aiL {nt:Nat} (a:83≤nt) (u v o:List Nat) (k c x y:Nat) (d:(decide (((0:Nat):Int)<(c:Int)))=false) (b:(decide ((k:Int)<(v.length:Int)))=false) (e:(decide ((k:Int)<(u.length:Int)))=false):ψ nt f61 ⟨[(9,.sl (ah u) u.length false),(10,.sl (ah v) v.length false),(11,.nilS),(12,ω (c:Int)),(13,ω (k:Int))],[],.dead,[]⟩ (.exit 0) ⟨[(11,.nilS)],[],.dead,[]⟩:=pN 61 [] 3 0 (.c (aB d) (.c (aB b) (.c (aB e) .nil))) (.nil) a
theorem aiC {nt:Nat} (j:83≤nt) (u v o:List Nat) (k c x y:Nat) (r:ω (τ (η (ε ((δ (k:Int))*1) (ah u)) .dead))= ω (x:Int)) (b:ω (γ .i64 ((c:Int)+(x:Int)))= ω (((c+x):Nat):Int)) (q:ω (τ (η (ε ((δ (k:Int))*1) (ah v)) .dead))= ω (y:Int)) (e:ω (γ .i64 ((((c+x):Nat):Int)+(y:Int)))= ω (((c+x+y):Nat):Int)) (d:ω (Xjt (((c+x+y):Nat):Int) ((16777216:Nat):Int))= ω ((((c+x+y) % 16777216):Nat):Int)) (f:ω (γ .i64 (Xxi (((c+x+y):Nat):Int) ((16777216:Nat):Int)))= ω ((((c+x+y) / 16777216):Nat):Int)) (g:ω (γ .i64 ((k:Int)+((1:Nat):Int)))= ω (((k+1):Nat):Int)) (m:(Ξ (o.length+1) 1099511627776)=true) (l:(Ξ (o.length*1) (ζ (ah o)))=true) (n:(chk (.int .i64) (η (ε ((δ (k:Int))*1) (ah v)) .dead))=true) (h:(decide (((0:Nat):Int)≤(k:Int)))=true) (i:(decide ((k:Int)<(v.length:Int)))=true) (p:(chk (.int .i64) (η (ε ((δ (k:Int))*1) (ah u)) .dead))=true) (a:(decide ((k:Int)<(u.length:Int)))=true):ψ nt f61 ⟨[(9,.sl (ah u) u.length false),(10,.sl (ah v) v.length false),(11,.ref 0 0 0 o.length),(12,ω (c:Int)),(13,ω (k:Int))],[(0,⟨(ah o),0,false,0,1,true⟩)],.dead,[]⟩ (.normal) ⟨[(9,.sl (ah u) u.length false),(10,.sl (ah v) v.length false),(11,.ref 0 0 0 (o.length+1)),(12,ω ((((c+x+y) / 16777216):Nat):Int)),(13,ω (((k+1):Nat):Int))],[(0,⟨((μ (o.length*1) (ah o))++ [ω ((((c+x+y) % 16777216):Nat):Int)]),0,false,0,1,true⟩)],.dead,[]⟩:=pN 61 [] 5 31 (.k 2 m (.c l (.k 2 n (.c h (.c i (.c (aC i) (.c p (.c h (.c a (.c (aC a) (.k 2 (aC a) .nil))))))))))) (.v 52 (.eq g) (.v 80 (.eq f) (.v 76 (.eq d) (.v 73 (.eq e) (.v 72 (.eq q) (.v 63 (.eq b) (.v 62 (.eq r) .nil))))))) j
theorem aiD {nt:Nat} (g:83≤nt) (u v o:List Nat) (k c x y:Nat) (n:ω (τ (η (ε ((δ (k:Int))*1) (ah u)) .dead))= ω (x:Int)) (a:ω (γ .i64 ((c:Int)+(x:Int)))= ω (((c+x):Nat):Int)) (b:ω (Xjt (((c+x):Nat):Int) ((16777216:Nat):Int))= ω ((((c+x) % 16777216):Nat):Int)) (d:ω (γ .i64 (Xxi (((c+x):Nat):Int) ((16777216:Nat):Int)))= ω ((((c+x) / 16777216):Nat):Int)) (f:ω (γ .i64 ((k:Int)+((1:Nat):Int)))= ω (((k+1):Nat):Int)) (i:(Ξ (o.length+1) 1099511627776)=true) (h:(Ξ (o.length*1) (ζ (ah o)))=true) (j:(decide ((k:Int)<(v.length:Int)))=false) (l:(chk (.int .i64) (η (ε ((δ (k:Int))*1) (ah u)) .dead))=true) (m:(decide (((0:Nat):Int)≤(k:Int)))=true) (e:(decide ((k:Int)<(u.length:Int)))=true):ψ nt f61 ⟨[(9,.sl (ah u) u.length false),(10,.sl (ah v) v.length false),(11,.ref 0 0 0 o.length),(12,ω (c:Int)),(13,ω (k:Int))],[(0,⟨(ah o),0,false,0,1,true⟩)],.dead,[]⟩ (.normal) ⟨[(9,.sl (ah u) u.length false),(10,.sl (ah v) v.length false),(11,.ref 0 0 0 (o.length+1)),(12,ω ((((c+x) / 16777216):Nat):Int)),(13,ω (((k+1):Nat):Int))],[(0,⟨((μ (o.length*1) (ah o))++ [ω ((((c+x) % 16777216):Nat):Int)]),0,false,0,1,true⟩)],.dead,[]⟩:=pN 61 [] 5 15 (.k 2 i (.c h (.k 2 (aB j) (.c l (.c m (.c e (.c (aC e) (.k 2 (aC e) .nil)))))))) (.v 52 (.eq f) (.v 80 (.eq d) (.v 76 (.eq b) (.v 63 (.eq a) (.v 62 (.eq n) .nil))))) g
theorem aiE {nt:Nat} (h:83≤nt) (u v o:List Nat) (k c x y:Nat) (n:ω (τ (η (ε ((δ (k:Int))*1) (ah v)) .dead))= ω (y:Int)) (b:ω (γ .i64 ((c:Int)+(y:Int)))= ω (((c+y):Nat):Int)) (a:ω (Xjt (((c+y):Nat):Int) ((16777216:Nat):Int))= ω ((((c+y) % 16777216):Nat):Int)) (d:ω (γ .i64 (Xxi (((c+y):Nat):Int) ((16777216:Nat):Int)))= ω ((((c+y) / 16777216):Nat):Int)) (e:ω (γ .i64 ((k:Int)+((1:Nat):Int)))= ω (((k+1):Nat):Int)) (j:(Ξ (o.length+1) 1099511627776)=true) (i:(Ξ (o.length*1) (ζ (ah o)))=true) (l:(chk (.int .i64) (η (ε ((δ (k:Int))*1) (ah v)) .dead))=true) (m:(decide (((0:Nat):Int)≤(k:Int)))=true) (f:(decide ((k:Int)<(v.length:Int)))=true) (g:(decide ((k:Int)<(u.length:Int)))=false):ψ nt f61 ⟨[(9,.sl (ah u) u.length false),(10,.sl (ah v) v.length false),(11,.ref 0 0 0 o.length),(12,ω (c:Int)),(13,ω (k:Int))],[(0,⟨(ah o),0,false,0,1,true⟩)],.dead,[]⟩ (.normal) ⟨[(9,.sl (ah u) u.length false),(10,.sl (ah v) v.length false),(11,.ref 0 0 0 (o.length+1)),(12,ω ((((c+y) / 16777216):Nat):Int)),(13,ω (((k+1):Nat):Int))],[(0,⟨((μ (o.length*1) (ah o))++ [ω ((((c+y) % 16777216):Nat):Int)]),0,false,0,1,true⟩)],.dead,[]⟩:=pN 61 [] 5 22 (.k 2 j (.c i (.k 2 l (.c m (.c f (.c (aC f) (.c (aB g) (.k 1 (aC f) (.c (aB g) .nil))))))))) (.v 52 (.eq e) (.v 80 (.eq d) (.v 76 (.eq a) (.v 73 (.eq b) (.v 72 (.eq n) .nil))))) h
theorem aiF {nt:Nat} (g:83≤nt) (u v o:List Nat) (k c x y:Nat) (a:ω (Xjt (c:Int) ((16777216:Nat):Int))= ω (((c % 16777216):Nat):Int)) (d:ω (γ .i64 (Xxi (c:Int) ((16777216:Nat):Int)))= ω (((c / 16777216):Nat):Int)) (b:ω (γ .i64 ((k:Int)+((1:Nat):Int)))= ω (((k+1):Nat):Int)) (j:(Ξ (o.length+1) 1099511627776)=true) (h:(Ξ (o.length*1) (ζ (ah o)))=true) (f:(decide ((k:Int)<(v.length:Int)))=false) (e:(decide ((k:Int)<(u.length:Int)))=false) (i:(decide (((0:Nat):Int)<(c:Int)))=true):ψ nt f61 ⟨[(9,.sl (ah u) u.length false),(10,.sl (ah v) v.length false),(11,.ref 0 0 0 o.length),(12,ω (c:Int)),(13,ω (k:Int))],[(0,⟨(ah o),0,false,0,1,true⟩)],.dead,[]⟩ (.normal) ⟨[(9,.sl (ah u) u.length false),(10,.sl (ah v) v.length false),(11,.ref 0 0 0 (o.length+1)),(12,ω (((c / 16777216):Nat):Int)),(13,ω (((k+1):Nat):Int))],[(0,⟨((μ (o.length*1) (ah o))++ [ω (((c % 16777216):Nat):Int)]),0,false,0,1,true⟩)],.dead,[]⟩:=pN 61 [] 5 4 (.k 2 j (.c h (.k 2 (aB f) (.c (aB e) (.c (aC i) (.c (aB f) (.c (aB e) .nil))))))) (.v 52 (.eq b) (.v 80 (.eq d) (.v 76 (.eq a) .nil))) g
theorem aiG {nt:Nat} (a:83≤nt) (u v o:List Nat) (k c x y:Nat) (d:(decide (((0:Nat):Int)<(c:Int)))=false) (b:(decide ((k:Int)<(v.length:Int)))=false) (e:(decide ((k:Int)<(u.length:Int)))=false):ψ nt f61 ⟨[(9,.sl (ah u) u.length false),(10,.sl (ah v) v.length false),(11,.ref 0 0 0 o.length),(12,ω (c:Int)),(13,ω (k:Int))],[(0,⟨(ah o),0,false,0,1,true⟩)],.dead,[]⟩ (.exit 0) ⟨[(11,.ref 0 0 0 o.length)],[(0,⟨(ah o),0,false,0,1,true⟩)],.dead,[]⟩:=pN 61 [] 3 0 (.c (aB d) (.c (aB b) (.c (aB e) .nil))) (.nil) a
theorem adf (s t:List UInt8) (x y z:Nat) (w:List Nat) (c:CO 77 [.str s,ω 7] (.ret (.tup [ω (x:Int),.bool true]))) (a:CO 77 [.str t,ω 7] (.ret (.tup [ω (y:Int),.bool true]))) (b:CO 49 [ω (γ .i64 ((x:Int)+(y:Int)))] (.ret (.str (ai z)))):CO 61 [.str s,.str t] (.ret (.str (ai z))):=pK [] 2 3 (.n 2 .nil) (.c b (.c a (.c c .nil)))
theorem adg (s t:List UInt8) (x y z:Nat) (w:List Nat) (e:CO 77 [.str s,ω 7] (.ret (.tup [ω (x:Int),.bool true]))) (b:CO 77 [.str t,ω 7] (.ret (.tup [ω (y:Int),.bool false]))) (d:CO 78 [.str s] (.ret (.sl (ah (ay (ag s))) (ay (ag s)).length false))) (c:CO 78 [.str t] (.ret (.sl (ah (ay (ag t))) (ay (ag t)).length false))) (f:CO 79 [.sl (μ (w.length*1) (ah w)) w.length true] (.ret (.str (ai z)))) (a:aI prog ap [] 83 (.block 0 (.loop (ae 0 (af f61)))) ⟨[(0,.str s),(1,.str t),(4,.str []),(5,ω (x:Int)),(6,.bool true),(7,ω (y:Int)),(8,.bool false),(9,.sl (ah (ay (ag s))) (ay (ag s)).length false),(10,.sl (ah (ay (ag t))) (ay (ag t)).length false),(11,.nilS),(12,ω 0),(13,ω 0),(14,.dead),(28,.bool false),(50,.dead),(57,.dead),(67,.dead)],[],.dead,[]⟩ (.normal) ⟨[(11,.ref 0 0 0 w.length)],[(0,⟨(ah w),0,false,0,1,true⟩)],.dead,[]⟩):CO 61 [.str s,.str t] (.ret (.str (ai z))):=pK [0] 2 1 (.n 2 .nil) (.c f (.l a (.c c (.c d (.c b (.c e .nil))))))
theorem adh (s t:List UInt8) (x y z:Nat) (w:List Nat) (e:CO 77 [.str s,ω 7] (.ret (.tup [ω (x:Int),.bool false]))) (b:CO 77 [.str t,ω 7] (.ret (.tup [ω (y:Int),.bool true]))) (d:CO 78 [.str s] (.ret (.sl (ah (ay (ag s))) (ay (ag s)).length false))) (c:CO 78 [.str t] (.ret (.sl (ah (ay (ag t))) (ay (ag t)).length false))) (f:CO 79 [.sl (μ (w.length*1) (ah w)) w.length true] (.ret (.str (ai z)))) (a:aI prog ap [] 83 (.block 0 (.loop (ae 0 (af f61)))) ⟨[(0,.str s),(1,.str t),(4,.str []),(5,ω (x:Int)),(6,.bool false),(7,ω (y:Int)),(8,.bool true),(9,.sl (ah (ay (ag s))) (ay (ag s)).length false),(10,.sl (ah (ay (ag t))) (ay (ag t)).length false),(11,.nilS),(12,ω 0),(13,ω 0),(14,.dead),(28,.bool false),(50,.dead),(57,.dead),(67,.dead)],[],.dead,[]⟩ (.normal) ⟨[(11,.ref 0 0 0 w.length)],[(0,⟨(ah w),0,false,0,1,true⟩)],.dead,[]⟩):CO 61 [.str s,.str t] (.ret (.str (ai z))):=pK [0] 2 0 (.n 2 .nil) (.c f (.l a (.c c (.c d (.c b (.c e .nil))))))
theorem adi (s t:List UInt8) (x y z:Nat) (w:List Nat) (e:CO 77 [.str s,ω 7] (.ret (.tup [ω (x:Int),.bool false]))) (b:CO 77 [.str t,ω 7] (.ret (.tup [ω (y:Int),.bool false]))) (d:CO 78 [.str s] (.ret (.sl (ah (ay (ag s))) (ay (ag s)).length false))) (c:CO 78 [.str t] (.ret (.sl (ah (ay (ag t))) (ay (ag t)).length false))) (f:CO 79 [.sl (μ (w.length*1) (ah w)) w.length true] (.ret (.str (ai z)))) (a:aI prog ap [] 83 (.block 0 (.loop (ae 0 (af f61)))) ⟨[(0,.str s),(1,.str t),(4,.str []),(5,ω (x:Int)),(6,.bool false),(7,ω (y:Int)),(8,.bool false),(9,.sl (ah (ay (ag s))) (ay (ag s)).length false),(10,.sl (ah (ay (ag t))) (ay (ag t)).length false),(11,.nilS),(12,ω 0),(13,ω 0),(14,.dead),(28,.bool false),(50,.dead),(57,.dead),(67,.dead)],[],.dead,[]⟩ (.normal) ⟨[(11,.ref 0 0 0 w.length)],[(0,⟨(ah w),0,false,0,1,true⟩)],.dead,[]⟩):CO 61 [.str s,.str t] (.ret (.str (ai z))):=pK [0] 2 0 (.n 2 .nil) (.c f (.l a (.c c (.c d (.c b (.c e .nil))))))
theorem ajB (s t:List UInt8) (x y z:Nat) (w:List Nat) (d:(decide ((lU (ag s) (ag t))<((0:Nat):Int)))=false) (e:CO 118 [.str s,.str t] (.ret (ω (lU (ag s) (ag t))))) (a:CO 78 [.str s] (.ret (.sl (ah (ay (ag s))) (ay (ag s)).length false))) (c:CO 78 [.str t] (.ret (.sl (ah (ay (ag t))) (ay (ag t)).length false))) (b:CO 111 [.sl (ah (ay (ag s))) (ay (ag s)).length false,.sl (ah (ay (ag t))) (ay (ag t)).length false] (.ret (.sl (ah (ay z)) (ay z).length false))) (f:CO 79 [.sl (ah (ay z)) (ay z).length false] (.ret (.str (ai z)))):CO 119 [.str s,.str t] (.ret (.tup [.str (ai z),.bool true])):=pK [] 1 0 (.c (aB d) .nil) (.c f (.c b (.c c (.c a (.c e .nil)))))
def apQ (o:List Nat):AV:=match o with| []=> .nilS|_::_=> .ref 0 0 0 o.length
def hpQ (o:List Nat):Hp:=match o with| []=> []|a::r=> [(0,⟨ah (a::r),0,false,0,1,true⟩)]
def zW (u v:List Nat) (p:List Nat × Nat):St:=⟨[(9,.sl (ah u) u.length false),(10,.sl (ah v) v.length false),(11,apQ p.1),(12,ω (p.2:Int)),(13,ω (p.1.length:Int))],hpQ p.1,.dead,[]⟩
def Qn (o:List Nat):St:=⟨[(11,apQ o)],hpQ o,.dead,[]⟩
theorem Js {u r:List Nat} {x k:Nat} (h:ε k u=x::r):(η (ε ((δ (k:Int))*1) (ah u)) .dead)= ω (x:Int)∧k<u.length:=by
 refine ⟨?_, ?_⟩
 ·rw [aA,υ];have:ε k (ah u)=ah (ε k u):=by unfold ah;rw [Xjx]
  rw [this,h];rfl
 ·have:=congrArg ζ h;rw [Xx5,ν] at this;omega
theorem zV {u:List Nat} {k:Nat} (h:ε k u= []):u.length≤k:=by
 have:=congrArg ζ h;rw [Xx5,Δ] at this;omega
theorem Qm (o:List Nat) (d:Nat):μ (o.length*1) (ah o)++ [ω (d:Int)]=ah (o++ [d]):=by
 rw [υ,dC,Xqy,iT]
theorem Lt (S:Nat):ω (Xjt (S:Int) ((16777216:Nat):Int))= ω (((S % 16777216):Nat):Int):=by rw [xg]
theorem Ls {S:Nat} (h:S<2^62):ω (γ .i64 (Xxi (S:Int) ((16777216:Nat):Int)))= ω (((S / 16777216):Nat):Int):=by rw [pO,aX (by omega)]
theorem aiB {nt:Nat} (d:83≤nt) {u v o ru rv:List Nat} {c x y:Nat} (g:ε o.length u=x::ru) (i:ε o.length v=y::rv) (m:x<16777216) (k:y<16777216) (l:c<16777216) (j:o.length<2^39):
  ψ nt f61 (zW u v (o,c)) .normal (zW u v (o++ [(c+x+y) % 16777216],(c+x+y) / 16777216)):=by
 obtain ⟨e,k1⟩:=Js g;obtain ⟨f,k2⟩:=Js i;cases o with
 |nil=>
  have hs:=aiH d u v [] ([]:List Nat).length c x y;rw [e,f] at hs;apply hs<;>first|exact rfl|exact QL (by omega)|exact Lt _|exact Ls (by omega)|exact oz _|exact dO k1|exact dO k2
 |cons a r=>
  have hs:=aiC d u v (a::r) (a::r).length c x y;rw [e,f,Qm,show (a::r).length+1=((a::r)++ [(c+x+y) % 16777216]).length by simp] at hs;apply hs<;>first|exact rfl|exact QL (by omega)|exact Lt _|exact Ls (by omega)|exact oz _|exact dO k1|exact dO k2|(rw [Xqn];simp only [θ,ο,bQ,υ];omega)|(have h:=QL (a:=(a::r).length) (b:=1) (by omega);rw [show (a::r).length+1=((a::r)++ [(c+x+y) % 16777216]).length by simp] at h;exact h)
theorem aiA {nt:Nat} (d:83≤nt) {u v o ru rv:List Nat} {c x y:Nat} (f:ε o.length u=x::ru) (g:ε o.length v= []) (k:x<16777216) (j:c<16777216) (i:o.length<2^39):
  ψ nt f61 (zW u v (o,c)) .normal (zW u v (o++ [(c+x) % 16777216],(c+x) / 16777216)):=by
 obtain ⟨e,k1⟩:=Js f;have k2:=zV g;cases o with
 |nil=>
  have hs:=aiI d u v [] ([]:List Nat).length c x y;rw [e] at hs;apply hs<;>first|exact rfl|exact QL (by omega)|exact Lt _|exact Ls (by omega)|exact oz _|exact dO k1|exact Bh k2
 |cons a r=>
  have hs:=aiD d u v (a::r) (a::r).length c x y;rw [e,Qm,show (a::r).length+1=((a::r)++ [(c+x) % 16777216]).length by simp] at hs;apply hs<;>first|exact rfl|exact QL (by omega)|exact Lt _|exact Ls (by omega)|exact oz _|exact dO k1|exact Bh k2|(rw [Xqn];simp only [θ,ο,bQ,υ];omega)|(have h:=QL (a:=(a::r).length) (b:=1) (by omega);rw [show (a::r).length+1=((a::r)++ [(c+x) % 16777216]).length by simp] at h;exact h)
theorem aiz {nt:Nat} (d:83≤nt) {u v o ru rv:List Nat} {c x y:Nat} (f:ε o.length u= []) (g:ε o.length v=y::rv) (j:y<16777216) (k:c<16777216) (i:o.length<2^39):
  ψ nt f61 (zW u v (o,c)) .normal (zW u v (o++ [(c+y) % 16777216],(c+y) / 16777216)):=by
 have k1:=zV f;obtain ⟨e,k2⟩:=Js g;cases o with
 |nil=>
  have hs:=aiJ d u v [] ([]:List Nat).length c x y;rw [e] at hs;apply hs<;>first|exact rfl|exact QL (by omega)|exact Lt _|exact Ls (by omega)|exact oz _|exact Bh k1|exact dO k2
 |cons a r=>
  have hs:=aiE d u v (a::r) (a::r).length c x y;rw [e,Qm,show (a::r).length+1=((a::r)++ [(c+y) % 16777216]).length by simp] at hs;apply hs<;>first|exact rfl|exact QL (by omega)|exact Lt _|exact Ls (by omega)|exact oz _|exact Bh k1|exact dO k2|(rw [Xqn];simp only [θ,ο,bQ,υ];omega)|(have h:=QL (a:=(a::r).length) (b:=1) (by omega);rw [show (a::r).length+1=((a::r)++ [(c+y) % 16777216]).length by simp] at h;exact h)
theorem aiy {nt:Nat} (e:83≤nt) {u v o ru rv:List Nat} {c x y:Nat} (f:ε o.length u= []) (g:ε o.length v= []) (d:0<c) (j:c<16777216) (i:o.length<2^39):
  ψ nt f61 (zW u v (o,c)) .normal (zW u v (o++ [(c) % 16777216],(c) / 16777216)):=by
 have k1:=zV f;have k2:=zV g;cases o with
 |nil=>
  have hs:=aiK e u v [] ([]:List Nat).length c x y;apply hs<;>first|exact rfl|exact QL (by omega)|exact Lt _|exact Ls (by omega)|exact oz _|exact Bh k1|exact Bh k2|exact dO d
 |cons a r=>
  have hs:=aiF e u v (a::r) (a::r).length c x y;rw [Qm,show (a::r).length+1=((a::r)++ [(c) % 16777216]).length by simp] at hs;apply hs<;>first|exact rfl|exact QL (by omega)|exact Lt _|exact Ls (by omega)|exact oz _|exact Bh k1|exact Bh k2|exact dO d|(rw [Xqn];simp only [θ,ο,bQ,υ];omega)|(have h:=QL (a:=(a::r).length) (b:=1) (by omega);rw [show (a::r).length+1=((a::r)++ [(c) % 16777216]).length by simp] at h;exact h)
theorem Ws {nt:Nat} (b:83≤nt) {u v o:List Nat} (c:ε o.length u= []) (d:ε o.length v= []):ψ nt f61 (zW u v (o,0)) (.exit 0) (Qn o):=by
 have k1:=zV c;have k2:=zV d;cases o with
 |nil=>exact aiL b u v [] ([]:List Nat).length 0 0 0 rfl (Bh k2) (Bh k1)
 |cons a r=>exact aiG b u v (a::r) (a::r).length 0 0 0 rfl (Bh k2) (Bh k1)
def J3:List Nat→List Nat→Nat→List Nat
 | [],[],c=>if 0<c then [c % 16777216] else []
 | [],y::v,c=>(c+y) % 16777216::J3 [] v ((c+y) / 16777216)
 |x::u,[],c=>(c+x) % 16777216::J3 u [] ((c+x) / 16777216)
 |x::u,y::v,c=>(c+x+y) % 16777216::J3 u v ((c+x+y) / 16777216)
theorem BK:∀ (u v:List Nat) (c:Nat),bz u→bz v→c≤1→dA (J3 u v c)=dA u+dA v+c∧bz (J3 u v c)∧(J3 u v c).length≤u.length+v.length+1∧u.length≤(J3 u v c).length∧v.length≤(J3 u v c).length
 | [],[],c,_,_,hc=>by
  simp only [J3];rcases Xqb c with h|h
  ·subst h;exact ⟨rfl,bz.nil,by simp,by simp,by simp⟩
  ·rw [if_pos h];exact ⟨by simp only [dA];omega,bz.cons (Xqw _ (by omega)) bz.nil,by simp,by simp,by simp⟩
 | [],y::v,c,hu,hv,hc=>by
  have g:=hv.head;obtain ⟨b,a,e,d,f⟩:=BK [] v ((c+y) / 16777216) hu hv.tail (by omega);simp only [J3];refine ⟨?_,bz.cons (Xqw _ (by omega)) a,by simp only [ν,Δ] at*;omega,by simp,by simp only [ν];omega⟩;simp only [dA] at*
  rw [b];omega
 |x::u,[],c,hu,hv,hc=>by
  have i:=hu.head;obtain ⟨b,a,e,d,f⟩:=BK u [] ((c+x) / 16777216) hu.tail hv (by omega);simp only [J3];refine ⟨?_,bz.cons (Xqw _ (by omega)) a,by simp only [ν,Δ] at*;omega,by simp only [ν];omega,by simp⟩;simp only [dA] at*
  rw [b];omega
 |x::u,y::v,c,hu,hv,hc=>by
  have i:=hu.head;have g:=hv.head;obtain ⟨b,a,e,d,f⟩:=BK u v ((c+x+y) / 16777216) hu.tail hv.tail (by omega);simp only [J3];refine ⟨?_,bz.cons (Xqw _ (by omega)) a,by simp only [ν] at*;omega,by simp only [ν];omega,by simp only [ν];omega⟩;simp only [dA] at*
  rw [b];omega
theorem PI {u r:List Nat} {x d:Nat} {o:List Nat} (h:ε o.length u=x::r):ε (o++ [d]).length u=r:=by
 rw [θ,ο,← Xjy,h];rfl
theorem PH {u:List Nat} {d:Nat} {o:List Nat} (h:ε o.length u= []):ε (o++ [d]).length u= []:=by
 rw [θ,ο,← Xjy,h];rfl
theorem BZ {nt:Nat} (d:83≤nt) {u v:List Nat}:∀ (a b o:List Nat) (c:Nat),ε o.length u=a→ε o.length v=b→bz a→bz b→c≤1→o.length+a.length+b.length<2^38→
  aF prog ap [] nt (ae 0 (af f61)) (fun _=> .exit 0) (zW u v) Qn (o,c) (o++J3 a b c)
 | [],[],o,c,hu,hv,_,_,hc,hl=>by
  simp only [Δ] at hl;simp only [J3];rcases Xqb c with h|h
  ·subst h;rw [if_neg (by omega),List.append_nil];exact .done (Ws d hu hv)
  ·rw [if_pos h];have h0:c / 16777216=0:=by omega
   have i:=aiy d (x:=0) (y:=0) (ru:= []) (rv:= []) hu hv h (by omega) (by omega);rw [h0] at i;exact .next i (.done (Ws d (PH hu) (PH hv)))
 | [],y::b,o,c,hu,hv,ha,hb,hc,hl=>by
  have f:=hb.head;simp only [Δ,ν] at hl;have e:=BZ d [] b (o++ [(c+y) % 16777216]) ((c+y) / 16777216) (PH hu) (PI hv) ha hb.tail (by omega) (by simp only [θ,ο,Δ];omega);rw [Ψ,Xxg] at e;simp only [J3];exact .next (aiz d (x:=0) (ru:= []) hu hv f (by omega) (by omega)) e
 |x::a,[],o,c,hu,hv,ha,hb,hc,hl=>by
  have g:=ha.head;simp only [Δ,ν] at hl;have e:=BZ d a [] (o++ [(c+x) % 16777216]) ((c+x) / 16777216) (PI hu) (PH hv) ha.tail hb (by omega) (by simp only [θ,ο,Δ];omega);rw [Ψ,Xxg] at e;simp only [J3];exact .next (aiA d (y:=0) (rv:= []) hu hv g (by omega) (by omega)) e
 |x::a,y::b,o,c,hu,hv,ha,hb,hc,hl=>by
  have g:=ha.head;have f:=hb.head;simp only [ν] at hl;have e:=BZ d a b (o++ [(c+x+y) % 16777216]) ((c+x+y) / 16777216) (PI hu) (PI hv) ha.tail hb.tail (by omega) (by simp only [θ,ο];omega);rw [Ψ,Xxg] at e;simp only [J3];exact .next (aiB d hu hv g f (by omega) (by omega)) e
theorem PD (s:List UInt8):(ay (ag s)).length≤s.length:=qY (Xqg (jS s) (by rw [Nat.pow_mul];exact Nat.pow_le_pow_left (by decide) _))
theorem Wp (s t:List UInt8) (hs:s.length<2^35) (g:t.length<2^35) (h:2^(8*7)≤ag s∨2^(8*7)≤ag t):∃ w:List Nat,w.length≤s.length+t.length+1∧bz w∧dA w=ag s+ag t∧w ≠ []∧∀ nt,83≤nt→aF prog ap [] nt (ae 0 (af f61)) (fun _=> .exit 0) (zW (ay (ag s)) (ay (ag t))) Qn ([],0) w:=by
 have j:=PD s;have f:=PD t;obtain ⟨a,c,i,d,e⟩:=BK (ay (ag s)) (ay (ag t)) 0 (bz.dig _) (bz.dig _) (by omega);rw [fF,fF,Nat.add_zero] at a;refine ⟨_,by omega,c,a, ?_,fun nt b=>BZ b (ay (ag s)) (ay (ag t)) [] 0 rfl rfl (bz.dig _) (bz.dig _) (by omega) (by simp only [Δ];omega)⟩;intro h0;rw [h0] at a;simp only [dA] at a;omega
theorem SB (s t:List UInt8) (hs:s.length<2^34) (q:t.length<2^34):CO 61 [.str s,.str t] (.ret (.str (ai (ag s+ag t)))):=by
 have k:=A7 s (by omega);have j:=A7 t (by omega);have x:=xu (s:=s) (by omega);have u:=xu (s:=t) (by omega);have d:2^(8*7)≤ag s∨2^(8*7)≤ag t→∃ w:List Nat,CO 79 [.sl (μ (w.length*1) (ah w)) w.length true] (.ret (.str (ai (ag s+ag t))))∧aI prog ap [] 83 (.block 0 (.loop (ae 0 (af f61)))) (zW (ay (ag s)) (ay (ag t)) ([],0)) .normal ⟨[(11,.ref 0 0 0 w.length)],[(0,⟨ah w,0,false,0,1,true⟩)],.dead,[]⟩:=by
  intro h;obtain ⟨w,v,o,p,m,n⟩:=Wp s t (by omega) (by omega) h;have i:w.length<2^36:=by omega
  have b:=uI w true i o;rw [p] at b;have g:μ (w.length*1) (ah w)=ah w:=by rw [υ,dC,Xqy]
  refine ⟨w,by rw [g];exact b, ?_⟩;have c:=aF.blk (s:=zW (ay (ag s)) (ay (ag t)) ([],0)) (s':=Qn w) (id:=0) n (by simp) rfl (aJ.refl _) (aJ.refl _);cases w with
  |nil=>exact absurd rfl m
  |cons a r=>exact c
 rcases Xq9 (ag s) (2^(8*7)) with c1|c1
 ·have f:=jP s 7 (by omega) (by omega) c1;rcases Xq9 (ag t) (2^(8*7)) with c2|c2
  ·have l:=ku (ag s+ag t) (by omega);have i:γ .i64 (((ag s:Nat):Int)+((ag t:Nat):Int))=((ag s+ag t:Nat):Int):=by rw [bW,aX (by omega)]
   rw [← i] at l;exact adf s t _ _ _ [] f (jP t 7 (by omega) (by omega) c2) l
  ·obtain ⟨w,b,c⟩:=d (.inr c2);exact adg s t _ 0 _ w f (kZ t 7 (by omega) c2) k j b fun nt e=>(c nt e).weak (aJ.of ⟨rfl,rfl,rfl,rfl,rfl,trivial⟩) (aJ.refl _)
 ·have f:=kZ s 7 (by omega) c1;obtain ⟨w,b,c⟩:=d (.inl c1);rcases Xq9 (ag t) (2^(8*7)) with c2|c2
  ·exact adh s t 0 _ _ w f (jP t 7 (by omega) (by omega) c2) k j b fun nt e=>(c nt e).weak (aJ.of ⟨rfl,rfl,rfl,rfl,rfl,trivial⟩) (aJ.refl _)
  ·exact adi s t 0 0 _ w f (kZ t 7 (by omega) c2) k j b fun nt e=>(c nt e).weak (aJ.of ⟨rfl,rfl,rfl,rfl,rfl,trivial⟩) (aJ.refl _)
theorem W9 (x y:Nat):decide (lU x y<((0:Nat):Int))=decide (x<y):=by
 unfold lU;by_cases h:x<y
 ·rw [if_pos h,Yq0 h];rfl
 ·rw [if_neg h,Yq1 h];split<;>rfl
theorem Yn {x y:Nat} (h:y≤x) (b:(ay x).length<2^36):(ay y).length<2^36:=by
 have a:=zi (bz.dig x);rw [fF] at a;exact Xq7 (qY (Xq7 h a)) b
theorem SV (s t:List UInt8) (hs:s.length<2^35) (c:t.length<2^35) (h:ag t≤ag s):CO 119 [.str s,.str t] (.ret (.tup [.str (ai (ag s - ag t)),.bool true])):=by
 have d:=xu (s:=s) hs;have b:=Yn (Xwo (ag s) (ag t)) (by omega);have a:=uI (ay (ag s - ag t)) false b (bz.dig _);rw [fF] at a;exact ajB s t 0 0 _ [] (by rw [W9];exact Yq1 (by omega)) (Jt s t (by omega) (by omega)) (A7 s (by omega)) (A7 t (by omega)) (KY _ _ false false h (by omega)) a
theorem ajG (c i:Bool) (e d j k:List UInt8) (a b r:RQ) (g:(iR c e d)=false) (h:CO 115 [Ω c e d] (.ret (.bool (iR c e d)))) (f:CO 83 [ω 0] (.ret (Ω false (ai 0) (ai 1)))):CO 174 [Ω c e d] (.ret (Ω false (ai 0) (ai 1))):=pK [] 1 1 (.k 4 (dK g) (.n 3 .nil)) (.c f (.c h .nil))
theorem ajH (c h:Bool) (e d i j:List UInt8) (a b r:RQ) (f:(iR c e d)=true) (g:CO 115 [Ω c e d] (.ret (.bool (iR c e d)))):CO 174 [Ω c e d] (.ret (Ω c e d)):=pK [] 1 0 (.k 7 (aS f) (.n 3 .nil)) (.c g .nil)
theorem ai6 (c h:Bool) (e d i j:List UInt8) (a b r:RQ) (f:a.neg=false) (g:CO 174 [Ω c e d] (.ret (.agg [.bool a.neg,.str (ai a.n),.str (ai a.d)]))):CO 182 [Ω c e d] (.ret (.agg [.bool (!((ai a.n)== [])),.str (ai a.n),.str (ai a.d)])):=pK [] 1 1 (.k 9 (dK f) (.n 5 .nil)) (.c g .nil)
theorem ai7 (c h:Bool) (e d i j:List UInt8) (a b r:RQ) (f:a.neg=true) (g:CO 174 [Ω c e d] (.ret (.agg [.bool a.neg,.str (ai a.n),.str (ai a.d)]))):CO 182 [Ω c e d] (.ret (Ω false (ai a.n) (ai a.d))):=pK [] 1 0 (.k 8 (aS f) (.n 5 .nil)) (.c g .nil)
theorem ZT (c d:Bool) (g e f h:List UInt8) (a b r:RQ) (k:(a.neg==b.neg)=true) (l:CO 174 [Ω c g e] (.ret (.agg [.bool a.neg,.str (ai a.n),.str (ai a.d)]))) (i:CO 174 [Ω d f h] (.ret (.agg [.bool b.neg,.str (ai b.n),.str (ai b.d)]))) (m:CO 175 [.str (ai a.n),.str (ai b.d)] (.ret (.str (ai (a.n*b.d))))) (j:CO 175 [.str (ai b.n),.str (ai a.d)] (.ret (.str (ai (b.n*a.d))))) (p:CO 175 [.str (ai a.d),.str (ai b.d)] (.ret (.str (ai (a.d*b.d))))) (n:CO 113 [.str (ai (a.n*b.d)),.str (ai (b.n*a.d))] (.ret (.str (ai ((a.n*b.d)+(b.n*a.d)))))) (o:CO 139 [.bool a.neg,.str (ai ((a.n*b.d)+(b.n*a.d))),.str (ai (a.d*b.d))] (.ret (.agg [.bool r.neg,.str (ai r.n),.str (ai r.d)]))):CO 172 [Ω c g e,Ω d f h] (.ret (.agg [.bool r.neg,.str (ai r.n),.str (ai r.d)])):=pK [] 1 1 (.k 5 (aC k) (.n 16 .nil)) (.c o (.c n (.c p (.c j (.c m (.c i (.c l .nil)))))))
theorem ZU (c d:Bool) (g e f h:List UInt8) (a b r:RQ) (k:(a.neg==b.neg)=false) (l:CO 174 [Ω c g e] (.ret (.agg [.bool a.neg,.str (ai a.n),.str (ai a.d)]))) (i:CO 174 [Ω d f h] (.ret (.agg [.bool b.neg,.str (ai b.n),.str (ai b.d)]))) (m:CO 175 [.str (ai a.n),.str (ai b.d)] (.ret (.str (ai (a.n*b.d))))) (j:CO 175 [.str (ai b.n),.str (ai a.d)] (.ret (.str (ai (b.n*a.d))))) (p:CO 175 [.str (ai a.d),.str (ai b.d)] (.ret (.str (ai (a.d*b.d))))) (n:CO 188 [.str (ai (a.n*b.d)),.str (ai (b.n*a.d))] (.ret (.tup [.str (ai ((a.n*b.d) - (b.n*a.d))),.bool true]))) (o:CO 139 [.bool a.neg,.str (ai ((a.n*b.d) - (b.n*a.d))),.str (ai (a.d*b.d))] (.ret (.agg [.bool r.neg,.str (ai r.n),.str (ai r.d)]))):CO 172 [Ω c g e,Ω d f h] (.ret (.agg [.bool r.neg,.str (ai r.n),.str (ai r.d)])):=pK [] 2 2 (.k 6 (aB k) (.n 16 .nil)) (.c o (.c n (.c p (.c j (.c m (.c i (.c l .nil)))))))
theorem ZR (c d:Bool) (g e f h:List UInt8) (a b r:RQ) (k:(a.neg==b.neg)=false) (l:CO 174 [Ω c g e] (.ret (.agg [.bool a.neg,.str (ai a.n),.str (ai a.d)]))) (i:CO 174 [Ω d f h] (.ret (.agg [.bool b.neg,.str (ai b.n),.str (ai b.d)]))) (m:CO 175 [.str (ai a.n),.str (ai b.d)] (.ret (.str (ai (a.n*b.d))))) (j:CO 175 [.str (ai b.n),.str (ai a.d)] (.ret (.str (ai (b.n*a.d))))) (q:CO 175 [.str (ai a.d),.str (ai b.d)] (.ret (.str (ai (a.d*b.d))))) (n:CO 188 [.str (ai (a.n*b.d)),.str (ai (b.n*a.d))] (.ret (.tup [.str [],.bool false]))) (o:CO 188 [.str (ai (b.n*a.d)),.str (ai (a.n*b.d))] (.ret (.tup [.str (ai ((b.n*a.d) - (a.n*b.d))),.bool true]))) (p:CO 139 [.bool b.neg,.str (ai ((b.n*a.d) - (a.n*b.d))),.str (ai (a.d*b.d))] (.ret (.agg [.bool r.neg,.str (ai r.n),.str (ai r.d)]))):CO 172 [Ω c g e,Ω d f h] (.ret (.agg [.bool r.neg,.str (ai r.n),.str (ai r.d)])):=pK [] 2 0 (.k 6 (aB k) (.n 16 .nil)) (.c p (.c o (.c n (.c q (.c j (.c m (.c i (.c l .nil))))))))
theorem ajC (c d:Bool) (g e f h:List UInt8) (a b r:RQ) (j:CO 182 [Ω d f h] (.ret (.agg [.bool b.neg,.str (ai b.n),.str (ai b.d)]))) (i:CO 172 [Ω c g e,.agg [.bool b.neg,.str (ai b.n),.str (ai b.d)]] (.ret (.agg [.bool r.neg,.str (ai r.n),.str (ai r.d)]))):CO 158 [Ω c g e,Ω d f h] (.ret (.agg [.bool r.neg,.str (ai r.n),.str (ai r.d)])):=pK [] 0 0 (.n 10 .nil) (.c i (.c j .nil))
theorem aiZ (c d:Bool) (g e f h:List UInt8) (a b r:RQ) (j:CO 158 [Ω c g e,Ω d f h] (.ret (.agg [.bool r.neg,.str (ai r.n),.str (ai r.d)]))) (i:CO 85 [.agg [.bool r.neg,.str (ai r.n),.str (ai r.d)]] (.ret (ω (Gm r)))):CO 129 [Ω c g e,Ω d f h] (.ret (ω (Gm r))):=pK [] 0 0 (.n 6 .nil) (.c i (.c j .nil))
theorem aiq (c h:Bool) (e d i j:List UInt8) (a b r:RQ) (f:((ai a.n)== [])=false) (g:CO 70 [Ω c e d] (.ret (.agg [.bool a.neg,.str (ai a.n),.str (ai a.d)]))):CO 59 [Ω c e d] (.ret (Ω (!a.neg) (ai a.n) (ai a.d))):=pK [] 1 1 (.k 9 (dK f) (.n 5 .nil)) (.c g .nil)
theorem air (c h:Bool) (e d i j:List UInt8) (a b r:RQ) (f:((ai a.n)== [])=true) (g:CO 70 [Ω c e d] (.ret (.agg [.bool a.neg,.str (ai a.n),.str (ai a.d)]))):CO 59 [Ω c e d] (.ret (.agg [.bool a.neg,.str (ai a.n),.str (ai a.d)])):=pK [] 1 0 (.k 7 (aS f) (.n 5 .nil)) (.c g .nil)
theorem ZC (c d:Bool) (g e f h:List UInt8) (a b r:RQ) (k:(a.neg==b.neg)=true) (l:CO 70 [Ω c g e] (.ret (.agg [.bool a.neg,.str (ai a.n),.str (ai a.d)]))) (i:CO 70 [Ω d f h] (.ret (.agg [.bool b.neg,.str (ai b.n),.str (ai b.d)]))) (m:CO 50 [.str (ai a.n),.str (ai b.d)] (.ret (.str (ai (a.n*b.d))))) (j:CO 50 [.str (ai b.n),.str (ai a.d)] (.ret (.str (ai (b.n*a.d))))) (p:CO 50 [.str (ai a.d),.str (ai b.d)] (.ret (.str (ai (a.d*b.d))))) (n:CO 61 [.str (ai (a.n*b.d)),.str (ai (b.n*a.d))] (.ret (.str (ai ((a.n*b.d)+(b.n*a.d)))))) (o:CO 51 [.bool a.neg,.str (ai ((a.n*b.d)+(b.n*a.d))),.str (ai (a.d*b.d))] (.ret (.agg [.bool r.neg,.str (ai r.n),.str (ai r.d)]))):CO 87 [Ω c g e,Ω d f h] (.ret (.agg [.bool r.neg,.str (ai r.n),.str (ai r.d)])):=pK [] 1 1 (.k 5 (aC k) (.n 16 .nil)) (.c o (.c n (.c p (.c j (.c m (.c i (.c l .nil)))))))
theorem ZE (g c:Bool) (d f h e:List UInt8) (a b r:RQ) (m:(decide (((0:Nat):Int)≤(lU (a.n*b.d) (b.n*a.d))))=true) (i:(a.neg==b.neg)=false) (p:CO 70 [Ω g d f] (.ret (.agg [.bool a.neg,.str (ai a.n),.str (ai a.d)]))) (j:CO 70 [Ω c h e] (.ret (.agg [.bool b.neg,.str (ai b.n),.str (ai b.d)]))) (l:CO 50 [.str (ai a.n),.str (ai b.d)] (.ret (.str (ai (a.n*b.d))))) (k:CO 50 [.str (ai b.n),.str (ai a.d)] (.ret (.str (ai (b.n*a.d))))) (s:CO 50 [.str (ai a.d),.str (ai b.d)] (.ret (.str (ai (a.d*b.d))))) (q:CO 118 [.str (ai (a.n*b.d)),.str (ai (b.n*a.d))] (.ret (ω (lU (a.n*b.d) (b.n*a.d))))) (n:CO 119 [.str (ai (a.n*b.d)),.str (ai (b.n*a.d))] (.ret (.tup [.str (ai ((a.n*b.d) - (b.n*a.d))),.bool true]))) (o:CO 51 [.bool a.neg,.str (ai ((a.n*b.d) - (b.n*a.d))),.str (ai (a.d*b.d))] (.ret (.agg [.bool r.neg,.str (ai r.n),.str (ai r.d)]))):CO 87 [Ω g d f,Ω c h e] (.ret (.agg [.bool r.neg,.str (ai r.n),.str (ai r.d)])):=pK [] 2 2 (.k 5 (aC m) (.c (aB i) (.n 16 .nil))) (.c o (.c n (.c q (.c s (.c k (.c l (.c j (.c p .nil))))))))
theorem ZF (g c:Bool) (d f h e:List UInt8) (a b r:RQ) (m:(decide (((0:Nat):Int)≤(lU (a.n*b.d) (b.n*a.d))))=false) (i:(a.neg==b.neg)=false) (p:CO 70 [Ω g d f] (.ret (.agg [.bool a.neg,.str (ai a.n),.str (ai a.d)]))) (j:CO 70 [Ω c h e] (.ret (.agg [.bool b.neg,.str (ai b.n),.str (ai b.d)]))) (l:CO 50 [.str (ai a.n),.str (ai b.d)] (.ret (.str (ai (a.n*b.d))))) (k:CO 50 [.str (ai b.n),.str (ai a.d)] (.ret (.str (ai (b.n*a.d))))) (s:CO 50 [.str (ai a.d),.str (ai b.d)] (.ret (.str (ai (a.d*b.d))))) (q:CO 118 [.str (ai (a.n*b.d)),.str (ai (b.n*a.d))] (.ret (ω (lU (a.n*b.d) (b.n*a.d))))) (n:CO 119 [.str (ai (b.n*a.d)),.str (ai (a.n*b.d))] (.ret (.tup [.str (ai ((b.n*a.d) - (a.n*b.d))),.bool true]))) (o:CO 51 [.bool b.neg,.str (ai ((b.n*a.d) - (a.n*b.d))),.str (ai (a.d*b.d))] (.ret (.agg [.bool r.neg,.str (ai r.n),.str (ai r.d)]))):CO 87 [Ω g d f,Ω c h e] (.ret (.agg [.bool r.neg,.str (ai r.n),.str (ai r.d)])):=pK [] 2 0 (.k 5 (aB m) (.c (aB i) (.n 16 .nil))) (.c o (.c n (.c q (.c s (.c k (.c l (.c j (.c p .nil))))))))
theorem ais (c d:Bool) (g e f h:List UInt8) (a b r:RQ) (j:CO 59 [Ω d f h] (.ret (.agg [.bool b.neg,.str (ai b.n),.str (ai b.d)]))) (i:CO 87 [Ω c g e,.agg [.bool b.neg,.str (ai b.n),.str (ai b.d)]] (.ret (.agg [.bool r.neg,.str (ai r.n),.str (ai r.d)]))):CO 53 [Ω c g e,Ω d f h] (.ret (.agg [.bool r.neg,.str (ai r.n),.str (ai r.d)])):=pK [] 0 0 (.n 10 .nil) (.c i (.c j .nil))
theorem aio (c d:Bool) (g e f h:List UInt8) (a b r:RQ) (j:CO 53 [Ω c g e,Ω d f h] (.ret (.agg [.bool r.neg,.str (ai r.n),.str (ai r.d)]))) (i:CO 45 [.agg [.bool r.neg,.str (ai r.n),.str (ai r.d)]] (.ret (ω (Gm r)))):CO 24 [Ω c g e,Ω d f h] (.ret (ω (Gm r))):=pK [] 0 0 (.n 6 .nil) (.c i (.c j .nil))
def xH (q:RQ):RQ:=⟨!q.neg && decide (0<q.n),q.n,q.d⟩
def F7 (a b:RQ):RQ:=if a.neg=b.neg then Eo a.neg (a.n*b.d+b.n*a.d) (a.d*b.d) else if b.n*a.d≤a.n*b.d then Eo a.neg (a.n*b.d - b.n*a.d) (a.d*b.d) else Eo b.neg (b.n*a.d - a.n*b.d) (a.d*b.d)
def Fh (a b:RQ):RQ:=F7 a (xH b)
def Q7 (a b:RQ):Int:=Gm (Fh a b)
theorem QJ {q:RQ} (h:q.ok):vQ q.neg (ai q.n) (ai q.d)=q:=by
 unfold vQ;rw [if_pos (acN q h),aN,aN]
theorem Jh {q:RQ} (h:q.ok):(xH q).ok:=by
 refine ⟨h.1,h.2.1,fun a=> ?_⟩;simp only [xH,σ,decide_eq_true_eq] at a;exact a.2
theorem O8 {a b:RQ} (d:a.ok) (c:b.ok):(F7 a b).ok:=by
 have hd:0<a.d*b.d:=Xz0 d.1 c.1;unfold F7;split
 ·exact Jd hd
 ·split
  ·exact Jd hd
  ·exact Jd hd
theorem Ec (x:Nat):x<2^(8*(ai x).length):=rJ.1 (Θ _)
theorem ng (x y:Nat):(ai (x*y)).length≤(ai x).length+(ai y).length:=by
 refine jM ?_;rw [Nat.mul_add,Xxn];exact Nat.mul_lt_mul'' (Ec x) (Ec y)
theorem uA {x y:Nat} (h:x≤y):(ai x).length≤(ai y).length:=jM (Xq7 h (Ec y))
theorem I_ (x y:Nat):(ai (x+y)).length≤(ai x).length+(ai y).length+1:=by
 refine jM ?_;have a:=Xqg (Ec x) (Xqj (n:=2) (by omega) (show 8*(ai x).length≤8*((ai x).length+(ai y).length) by omega));have b:=Xqg (Ec y) (Xqj (n:=2) (by omega) (show 8*(ai y).length≤8*((ai x).length+(ai y).length) by omega));rw [show 8*((ai x).length+(ai y).length+1)=8*((ai x).length+(ai y).length)+8 by omega,Xxn];generalize 2^(8*((ai x).length+(ai y).length))=P at*
 omega
theorem abp (s:List UInt8):(ai (ag s)).length≤s.length:=jM (jS s)
theorem pW (s:Bool) (n d:List UInt8):(ai (vQ s n d).n).length≤n.length∧(ai (vQ s n d).d).length≤d.length+1:=by
 unfold vQ;split
 ·exact ⟨abp n,Nat.le_succ_of_le (abp d)⟩
 ·refine ⟨by show (ai 0).length≤_;rw [fK];simp, ?_⟩;show (ai 1).length≤_;have:(ai 1).length≤1:=jM (by decide);omega
theorem Ja (a:Bool) (n d:Nat):(ai (Eo a n d).n).length≤(ai n).length∧(ai (Eo a n d).d).length≤(ai d).length:=
 ⟨uA (Xzz _ _),uA (Xzz _ _)⟩
theorem KO (a b:RQ) (L:Nat) (h:(ai a.n).length≤L) (f:(ai a.d).length≤L) (j:(ai b.n).length≤L) (c:(ai b.d).length≤L):(ai (F7 a b).n).length≤4*L+1∧(ai (F7 a b).d).length≤2*L:=by
 have g:=ng a.n b.d;have i:=ng b.n a.d;have d:=ng a.d b.d;have e:=I_ (a.n*b.d) (b.n*a.d);unfold F7;split
 ·have:=Ja a.neg (a.n*b.d+b.n*a.d) (a.d*b.d);omega
 ·split
  ·have:=Ja a.neg (a.n*b.d - b.n*a.d) (a.d*b.d);have:=uA (Xwo (a.n*b.d) (b.n*a.d));omega
  ·have:=Ja b.neg (b.n*a.d - a.n*b.d) (a.d*b.d);have:=uA (Xwo (b.n*a.d) (a.n*b.d));omega
theorem VT (x y:Nat) (b:(ai x).length<2^34) (a:(ai y).length<2^34):CO 175 [.str (ai x),.str (ai y)] (.ret (.str (ai (x*y)))):=by
 have h:=Zk (ai x) (ai y) (by omega) (by omega);rw [aN,aN] at h;exact h
theorem ahB (x y:Nat) (b:(ai x).length<2^34) (a:(ai y).length<2^34):CO 113 [.str (ai x),.str (ai y)] (.ret (.str (ai (x+y)))):=by
 have h:=Zb (ai x) (ai y) (by omega) (by omega);rw [aN,aN] at h;exact h
theorem abr (x y:Nat) (c:(ai x).length<2^34) (b:(ai y).length<2^34) (a:y≤x):CO 188 [.str (ai x),.str (ai y)] (.ret (.tup [.str (ai (x - y)),.bool true])):=by
 have h:=Zm (ai x) (ai y) (by omega) (by omega) (by rw [aN,aN];exact a);rw [aN,aN] at h;exact h
theorem ahE (x y:Nat) (c:(ai x).length<2^34) (b:(ai y).length<2^34) (a:x<y):CO 188 [.str (ai x),.str (ai y)] (.ret (.tup [.str [],.bool false])):=
 Zl (ai x) (ai y) (by omega) (by omega) (by rw [aN,aN];exact a)
theorem Wl (x y:Nat) (b:(ai x).length<2^33) (a:(ai y).length<2^33):CO 50 [.str (ai x),.str (ai y)] (.ret (.str (ai (x*y)))):=by
 have h:=VK (ai x) (ai y) (by omega) (by omega);rw [aN,aN] at h;exact h
theorem aim (x y:Nat) (b:(ai x).length<2^33) (a:(ai y).length<2^33):CO 61 [.str (ai x),.str (ai y)] (.ret (.str (ai (x+y)))):=by
 have h:=SB (ai x) (ai y) (by omega) (by omega);rw [aN,aN] at h;exact h
theorem abw (x y:Nat) (c:(ai x).length<2^33) (b:(ai y).length<2^33) (a:y≤x):CO 119 [.str (ai x),.str (ai y)] (.ret (.tup [.str (ai (x - y)),.bool true])):=by
 have h:=SV (ai x) (ai y) (by omega) (by omega) (by rw [aN,aN];exact a);rw [aN,aN] at h;exact h
theorem ain (x y:Nat) (b:(ai x).length<2^33) (a:(ai y).length<2^33):CO 118 [.str (ai x),.str (ai y)] (.ret (ω (lU x y))):=by
 have h:=Jt (ai x) (ai y) (by omega) (by omega);rw [aN,aN] at h;exact h
theorem WF (a:Bool) (n d:Nat) (b:(ai n).length<2^33) (hd:(ai d).length<2^33) (h0:0<d):CO 139 [.bool a,.str (ai n),.str (ai d)] (.ret (qA (Eo a n d))):=by
 have h:=VE a (ai n) (ai d) (by omega) (by omega) (by rw [aN];exact h0);rw [aN,aN] at h;exact h
theorem aev (q:RQ) (a:q.ok) (b:(ai q.n).length<2^33) (hd:(ai q.d).length<2^33):CO 85 [.agg [.bool q.neg,.str (ai q.n),.str (ai q.d)]] (.ret (ω (Gm q))):=by
 have h:=jO q.neg (ai q.n) (ai q.d) (by omega) (by omega);rw [OE,QJ a] at h;exact h
theorem ait (q:RQ) (a:q.ok) (b:(ai q.n).length<2^33) (hd:(ai q.d).length<2^33):CO 45 [.agg [.bool q.neg,.str (ai q.n),.str (ai q.d)]] (.ret (ω (Gm q))):=by
 have h:=qM q.neg (ai q.n) (ai q.d) (by omega) (by omega);rw [OE,QJ a] at h;exact h
theorem Jz (a:Bool) (n d:List UInt8) (e:n.length<2^33) (hd:d.length<2^33):CO 174 [Ω a n d] (.ret (qA (vQ a n d))):=by
 have c:=uO a n d (by omega) (by omega);unfold vQ;cases b:iR a n d with
 |false=>
  rw [b] at c;have h:=ajG a false n d [] [] q0 q0 q0 b (by rw [b];exact c) mF;rw [if_neg (by simp)];exact h
 |true=>
  rw [b] at c;have h:=ajH a false n d [] [] q0 q0 q0 b (by rw [b];exact c);rw [if_pos rfl,← PX b];exact h
theorem WR (b:Bool) (n d:List UInt8) (g:n.length<2^33) (hd:d.length<2^33):CO 182 [Ω b n d] (.ret (qA (xH (vQ b n d)))):=by
 have c:=Jz b n d g hd;generalize vQ b n d=a at*
 have e:(!((ai a.n)== []))=decide (0<a.n):=by
  rcases Xqb a.n with h|h
  ·rw [h,fK];rfl
  ·rw [Yq0 h,Xqm,Yq2];intro h0;rw [jm] at h0;omega
 unfold xH qA;cases f:a.neg with
 |false=>
  have h:=ai6 b false n d [] [] a q0 q0 f c;rw [e] at h;exact h
 |true=>exact ai7 b false n d [] [] a q0 q0 f c
theorem ZK (b:Bool) (n d:List UInt8) (g:n.length<2^33) (hd:d.length<2^33):CO 59 [Ω b n d] (.ret (qA (xH (vQ b n d)))):=by
 have e:=iY b n d g hd;have i:=uZ b n d;generalize vQ b n d=a at*
 unfold xH qA;rcases Xqb a.n with h|h
 ·have f:a.neg=false:=by
   cases j:a.neg with
   |false=>rfl
   |true=>have:=i.2.2 j;omega
  have c:=air b false n d [] [] a q0 q0 (by rw [h,fK];rfl) e;rw [f,Yq1 (by omega)];rw [f] at c;exact c
 ·have c:=aiq b false n d [] [] a q0 q0 (by rw [Yq2];intro h0;rw [jm] at h0;omega) e;rw [Yq0 h,Bool.and_true];exact c
theorem WQ (h g:Bool) (e c d f:List UInt8) (B:e.length<2^29) (z:c.length<2^29) (D:d.length<2^29) (r:f.length<2^29):CO 172 [Ω h e c,Ω g d f] (.ret (qA (F7 (vQ h e c) (vQ g d f)))):=by
 have m:=Jz h e c (by omega) (by omega);have n:=Jz g d f (by omega) (by omega);obtain ⟨y,t⟩:=pW h e c;obtain ⟨u,q⟩:=pW g d f;have o:=uZ h e c;have p:=uZ g d f;generalize vQ h e c=a at*
 generalize vQ g d f=b at*
 have hd:0<a.d*b.d:=Xz0 o.1 p.1;have A:=ng a.n b.d;have s:=ng b.n a.d;have x:=ng a.d b.d;have l:=VT a.n b.d (by omega) (by omega);have k:=VT b.n a.d (by omega) (by omega);have j:=VT a.d b.d (by omega) (by omega);have v:=I_ (a.n*b.d) (b.n*a.d);have C:=uA (Xwo (a.n*b.d) (b.n*a.d));have w:=uA (Xwo (b.n*a.d) (a.n*b.d));unfold F7;by_cases hs:a.neg=b.neg
 ·rw [if_pos hs];exact ZT h g e c d f a b _ (by rw [hs];exact beq_self_eq_true _) m n l k j (ahB _ _ (by omega) (by omega)) (WF a.neg _ _ (by omega) (by omega) hd)
 ·rw [if_neg hs];have i:(a.neg==b.neg)=false:=beq_eq_false_iff_ne.2 hs;by_cases hl:b.n*a.d≤a.n*b.d
  ·rw [if_pos hl];exact ZU h g e c d f a b _ i m n l k j (abr _ _ (by omega) (by omega) hl) (WF a.neg _ _ (by omega) (by omega) hd)
  ·rw [if_neg hl];exact ZR h g e c d f a b _ i m n l k j (ahE _ _ (by omega) (by omega) (by omega)) (abr _ _ (by omega) (by omega) (by omega)) (WF b.neg _ _ (by omega) (by omega) hd)
theorem WT (f c:Bool) (e d a b:List UInt8) (l:e.length<2^29) (k:d.length<2^29) (o:a.length<2^28) (n:b.length<2^28):CO 158 [Ω f e d,Ω c a b] (.ret (qA (Fh (vQ f e d) (vQ c a b)))):=by
 have i:=WR c a b (by omega) (by omega);obtain ⟨m,g⟩:=pW c a b;have j:=Jh (uZ c a b);unfold Fh;have h:=WQ f (xH (vQ c a b)).neg e d (ai (xH (vQ c a b)).n) (ai (xH (vQ c a b)).d) l k (Xq7 m (by omega)) (Xq7 g (by omega));rw [QJ j] at h;exact ajC f c e d a b q0 _ _ i h
theorem LQ (e f:Bool) (c a b d:List UInt8) (q:c.length<2^28) (p:a.length<2^28) (k:b.length<2^28) (i:d.length<2^28):CO 129 [Ω e c a,Ω f b d] (.ret (ω (Q7 (vQ e c a) (vQ f b d)))):=by
 have h:=WT e f c a b d (by omega) (by omega) k i;obtain ⟨n,o⟩:=pW e c a;obtain ⟨l,g⟩:=pW f b d;have j:(Fh (vQ e c a) (vQ f b d)).ok:=O8 (uZ _ _ _) (Jh (uZ _ _ _));have m:=KO (vQ e c a) (xH (vQ f b d)) (2^29) (by omega) (by omega) (Xxm l (by omega)) (Xxm g (by omega));exact aiZ e f c a b d q0 q0 _ h (aev _ j (by unfold Fh;omega) (by unfold Fh;omega))
theorem ZB (h g:Bool) (e c d f:List UInt8) (D:e.length<2^29) (B:c.length<2^29) (F:d.length<2^29) (t:f.length<2^29):CO 87 [Ω h e c,Ω g d f] (.ret (qA (F7 (vQ h e c) (vQ g d f)))):=by
 have n:=iY h e c (by omega) (by omega);have o:=iY g d f (by omega) (by omega);obtain ⟨A,v⟩:=pW h e c;obtain ⟨w,s⟩:=pW g d f;have q:=uZ h e c;have r:=uZ g d f;generalize vQ h e c=a at*
 generalize vQ g d f=b at*
 have hd:0<a.d*b.d:=Xz0 q.1 r.1;have C:=ng a.n b.d;have u:=ng b.n a.d;have z:=ng a.d b.d;have l:=Wl a.n b.d (by omega) (by omega);have k:=Wl b.n a.d (by omega) (by omega);have j:=Wl a.d b.d (by omega) (by omega);have x:=I_ (a.n*b.d) (b.n*a.d);have E:=uA (Xwo (a.n*b.d) (b.n*a.d));have y:=uA (Xwo (b.n*a.d) (a.n*b.d));unfold F7;by_cases hs:a.neg=b.neg
 ·rw [if_pos hs];exact ZC h g e c d f a b _ (by rw [hs];exact beq_self_eq_true _) n o l k j (aim _ _ (by omega) (by omega)) (iW a.neg _ _ (by omega) (by omega) hd)
 ·rw [if_neg hs];have i:(a.neg==b.neg)=false:=beq_eq_false_iff_ne.2 hs;have p:=ain (a.n*b.d) (b.n*a.d) (by omega) (by omega);by_cases hl:b.n*a.d≤a.n*b.d
  ·rw [if_pos hl];have m:decide (((0:Nat):Int)≤lU (a.n*b.d) (b.n*a.d))=true:=by unfold lU;rw [if_neg (by omega)];split<;>rfl
   exact ZE h g e c d f a b _ m i n o l k j p (abw _ _ (by omega) (by omega) hl) (iW a.neg _ _ (by omega) (by omega) hd)
  ·rw [if_neg hl];have m:decide (((0:Nat):Int)≤lU (a.n*b.d) (b.n*a.d))=false:=by unfold lU;rw [if_pos (by omega)];rfl
   exact ZF h g e c d f a b _ m i n o l k j p (abw _ _ (by omega) (by omega) (by omega)) (iW b.neg _ _ (by omega) (by omega) hd)
theorem ZL (f c:Bool) (e d a b:List UInt8) (l:e.length<2^29) (k:d.length<2^29) (o:a.length<2^28) (n:b.length<2^28):CO 53 [Ω f e d,Ω c a b] (.ret (qA (Fh (vQ f e d) (vQ c a b)))):=by
 have i:=ZK c a b (by omega) (by omega);obtain ⟨m,g⟩:=pW c a b;have j:=Jh (uZ c a b);unfold Fh;have h:=ZB f (xH (vQ c a b)).neg e d (ai (xH (vQ c a b)).n) (ai (xH (vQ c a b)).d) l k (Xq7 m (by omega)) (Xq7 g (by omega));rw [QJ j] at h;exact ais f c e d a b q0 _ _ i h
theorem ZG (e f:Bool) (c a b d:List UInt8) (q:c.length<2^28) (p:a.length<2^28) (k:b.length<2^28) (i:d.length<2^28):CO 24 [Ω e c a,Ω f b d] (.ret (ω (Q7 (vQ e c a) (vQ f b d)))):=by
 have h:=ZL e f c a b d (by omega) (by omega) k i;obtain ⟨n,o⟩:=pW e c a;obtain ⟨l,g⟩:=pW f b d;have j:(Fh (vQ e c a) (vQ f b d)).ok:=O8 (uZ _ _ _) (Jh (uZ _ _ _));have m:=KO (vQ e c a) (xH (vQ f b d)) (2^29) (by omega) (by omega) (Xxm l (by omega)) (Xxm g (by omega));exact aio e f c a b d q0 q0 _ h (ait _ j (by unfold Fh;omega) (by unfold Fh;omega))
theorem fP {p q:Prop} (h:p) (e:p=q):q:=e ▸ h
theorem dG {x:Nat} (h:x<2^128):(ai x).length<2^33:=Xq7 (jM (k:=16) h) (by decide)
theorem ak3 (n:Nat) (h:1≤n∧n≤9):Q7 (vQ false [] [1]) (vQ false [Xqi n] [1])= -1:=by
 have a:n=1∨n=2∨n=3∨n=4∨n=5∨n=6∨n=7∨n=8∨n=9:=by omega
 rcases a with e|e|e|e|e|e|e|e|e<;>(subst e;clear h;exact of_decide_eq_true (by kernel_rfl))
theorem af0 (n:Nat) (h:1≤n∧n≤9):CO 129 [Ω false [] [1],Ω false [Xqi n] [1]] (.ret (ω (-1))):=ak3 n h ▸ LQ false false [] [1] [Xqi n] [1] (by decide) (by decide) (show 1<2^28 by decide) (by decide)
theorem jw {a:List Nd} (h:a.all (fun x=>Ξ (x.num.length+1) 8589934592 && Ξ (x.den.length+1) 8589934592)=true):∀ x ∈ a,x.sm:=by
 intro x b;have:=List.all_eq_true.1 h x b;rw [σ] at this;exact ⟨Xj9 this.1,Xj9 this.2⟩
def oG:Br→Br→Int:=fun _ _=> -1
theorem uU {f:Nat}:JX f oG []:=fun q a=>by simp at a
theorem Q5 {f:Nat} {a b:Br} (h:CO f [Np a,Np b] (.ret (ω (-1)))):tJ f oG [a,b]:=by
 intro i y x d c _ _
 match i with
 |0=>simp at d c;subst d c;exact h
 |i+1=>simp at c
theorem L6 {f:Nat} {a b:Br} {i:List UInt8} {u1 u2:Int} (e:a.sm) (g:b.sm) (h:CO f [Np a,Np b] (.ret (ω (-1)))):JX f oG [⟨i,u1,u2,[a,b]⟩]:=by
 intro q c;rw [List.mem_singleton] at c;subst c;refine ⟨by simp, ?_,Q5 h⟩;intro x d;simp only [Xz3,Xk4,or_false] at d;rcases d with rfl|rfl
 ·exact e
 ·exact g
def wU:List Nd:= [⟨6,false,[],[],[97]⟩,⟨5,false,[],[],[97]⟩,⟨9,false,[],[],[]⟩]
def sZ:List Sq:= [⟨[120],0,0,[⟨false,[],[1],false,[1],[10]⟩,⟨false,[5],[1],false,[1],[5]⟩]⟩]
def E9:List Nd:= [⟨6,false,[],[],[97]⟩,⟨6,false,[],[],[97]⟩,⟨10,false,[],[],[]⟩]
def E_:List Nd:= [⟨1,false,[5],[1],[]⟩,⟨3,true,[1],[2],[]⟩,⟨6,false,[],[],[97]⟩,⟨11,false,[],[],[]⟩,⟨10,false,[],[],[]⟩]
def mQ:List Nd:= [⟨6,false,[],[],[97]⟩,⟨5,false,[],[],[98]⟩,⟨11,false,[],[],[]⟩]
def Fa:List Nd:= [⟨1,false,[1],[1],[]⟩,⟨6,false,[],[],[97]⟩,⟨12,false,[],[],[]⟩]
def Fb:List Nd:= [⟨6,false,[],[],[97]⟩,⟨3,true,[2],[1],[]⟩,⟨12,false,[],[],[]⟩]
def wV:List Nd:= [⟨6,false,[],[],[97]⟩,⟨1,false,[3],[1],[]⟩,⟨16,false,[],[],[]⟩,⟨6,false,[],[],[98]⟩,⟨1,false,[],[1],[]⟩,⟨15,false,[],[],[]⟩]
def mV:List Nd:= [⟨6,false,[],[],[97]⟩,⟨24,false,[],[],[120]⟩]
def abz:List Sq:= [⟨[120],0,0,[⟨false,[],[1],false,[1],[10]⟩,⟨false,[5],[1],true,[1],[5]⟩]⟩]
theorem gB:JX 129 oG sZ:=L6 ⟨⟨by decide,by decide⟩,⟨by decide,by decide⟩⟩ ⟨⟨by decide,by decide⟩,⟨by decide,by decide⟩⟩ (fP (af0 5 (by omega)) (by kernel_rfl))
theorem OM:JX 129 oG abz:=L6 ⟨⟨by decide,by decide⟩,⟨by decide,by decide⟩⟩ ⟨⟨by decide,by decide⟩,⟨by decide,by decide⟩⟩ (fP (af0 5 (by omega)) (by kernel_rfl))
def dE (l:List Nat):iO:=l.map fun t=>(t,.dead)
def rA (s:List UInt8) (k:Int):List bi:= [⟨[.str s,.nilS,ω k,.bool false],0,false,0,0,true⟩]
def rB (s:List UInt8) (n:Nat) (k:Int) (os:List AV):List bi:= [⟨[.str s,.ref 1 0 0 n,ω k,.bool false],0,false,0,0,false⟩,⟨os,0,false,0,5,true⟩]
def zo0:List AV:= [ω 6,.bool false,.str [],.str [],.str [97],ω 1,.bool false,.str [3],.str [1],.str [],ω 16,.bool false,.str [],.str [],.str [],ω 6,.bool false,.str [],.str [],.str [98],ω 1,.bool false,.str [],.str [1],.str []]
def QN:List AV:= [ω 6,.bool false,.str [],.str [],.str [97],ω 1,.bool false,.str [3],.str [1],.str [],ω 16,.bool false,.str [],.str [],.str [],ω 6,.bool false,.str [],.str [],.str [98]]
def zo2:List AV:= [ω 1,.bool false,.str [5],.str [1],.str [],ω 3,.bool true,.str [1],.str [2],.str [],ω 6,.bool false,.str [],.str [],.str [97],ω 11,.bool false,.str [],.str [],.str []]
def zo3:List AV:= [ω 1,.bool false,.str [5],.str [1],.str [],ω 3,.bool true,.str [1],.str [2],.str [],ω 6,.bool false,.str [],.str [],.str [97]]
def QO:List AV:= [ω 6,.bool false,.str [],.str [],.str [97],ω 1,.bool false,.str [3],.str [1],.str [],ω 16,.bool false,.str [],.str [],.str []]
def zo5:List AV:= [ω 6,.bool false,.str [],.str [],.str [97],ω 5,.bool false,.str [],.str [],.str [97]]
def zo6:List AV:= [ω 6,.bool false,.str [],.str [],.str [97],ω 6,.bool false,.str [],.str [],.str [97]]
def zo7:List AV:= [ω 6,.bool false,.str [],.str [],.str [97],ω 5,.bool false,.str [],.str [],.str [98]]
def zo8:List AV:= [ω 1,.bool false,.str [1],.str [1],.str [],ω 6,.bool false,.str [],.str [],.str [97]]
def zo9:List AV:= [ω 6,.bool false,.str [],.str [],.str [97],ω 1,.bool false,.str [3],.str [1],.str []]
def zl:List AV:= [ω 1,.bool false,.str [5],.str [1],.str [],ω 3,.bool true,.str [1],.str [2],.str []]
def aeZ:List AV:= [ω 6,.bool false,.str [],.str [],.str [97],ω 3,.bool true,.str [2],.str [1],.str []]
def dQ:List AV:= [ω 6,.bool false,.str [],.str [],.str [97]]
def mM:List AV:= [ω 1,.bool false,.str [5],.str [1],.str []]
def wI:List AV:= [ω 1,.bool false,.str [1],.str [1],.str []]
def Cj:List UInt8:= [97,98,99,100,101,102,103,104,105,106,107,108,109,110,111,112,113,114,115,116,117,118,119,120,121,122,48,49,50,51,52,53,54,55,56,57,95]
def zs1:List UInt8:= [105,102,40,108,101,115,115,40,111,119,110,46,97,44,32,36,51,41,44,32,111,119,110,46,98,44,32,36,48,41]
def pI:List UInt8:= [97,98,99,100,101,102,103,104,105,106,107,108,109,110,111,112,113,114,115,116,117,118,119,120,121,122]
def zs3:List UInt8:= [40,108,101,115,115,40,111,119,110,46,97,44,32,36,51,41,44,32,111,119,110,46,98,44,32,36,48,41]
def zs4:List UInt8:= [108,101,115,115,40,111,119,110,46,97,44,32,36,51,41,44,32,111,119,110,46,98,44,32,36,48,41]
def zs5:List UInt8:= [115,117,98,40,36,53,44,32,109,117,108,40,45,49,47,50,44,32,111,119,110,46,97,41,41]
def zs6:List UInt8:= [40,111,119,110,46,97,44,32,36,51,41,44,32,111,119,110,46,98,44,32,36,48,41]
def zs7:List UInt8:= [40,36,53,44,32,109,117,108,40,45,49,47,50,44,32,111,119,110,46,97,41,41]
def zs8:List UInt8:= [111,119,110,46,97,44,32,36,51,41,44,32,111,119,110,46,98,44,32,36,48,41]
def zs9:List UInt8:= [36,53,44,32,109,117,108,40,45,49,47,50,44,32,111,119,110,46,97,41,41]
def Xz:List UInt8:= [53,44,32,109,117,108,40,45,49,47,50,44,32,111,119,110,46,97,41,41]
def TN:List UInt8:= [44,32,109,117,108,40,45,49,47,50,44,32,111,119,110,46,97,41,41]
def MM:List UInt8:= [109,117,108,40,111,119,110,46,97,44,32,102,97,99,116,46,98,41]
def JL:List UInt8:= [97,100,100,40,111,119,110,46,97,44,32,102,97,99,116,46,97,41]
def akk:List UInt8:= [46,97,44,32,36,51,41,44,32,111,119,110,46,98,44,32,36,48,41]
def MN:List UInt8:= [115,117,98,40,111,119,110,46,97,44,32,111,119,110,46,97,41]
def ae0:List UInt8:= [97,44,32,36,51,41,44,32,111,119,110,46,98,44,32,36,48,41]
def TP:List UInt8:= [109,117,108,40,45,49,47,50,44,32,111,119,110,46,97,41,41]
def ae1:List UInt8:= [44,32,36,51,41,44,32,111,119,110,46,98,44,32,36,48,41]
def aaS:List UInt8:= [40,111,119,110,46,97,44,32,102,97,99,116,46,97,41]
def aaT:List UInt8:= [40,111,119,110,46,97,44,32,102,97,99,116,46,98,41]
def aaU:List UInt8:= [36,51,41,44,32,111,119,110,46,98,44,32,36,48,41]
def aaV:List UInt8:= [40,111,119,110,46,97,44,32,111,119,110,46,97,41]
def MO:List UInt8:= [100,105,118,40,36,49,44,32,111,119,110,46,97,41]
def MP:List UInt8:= [100,105,118,40,111,119,110,46,97,44,32,45,50,41]
def TQ:List UInt8:= [111,119,110,46,97,44,32,102,97,99,116,46,97,41]
def TR:List UInt8:= [111,119,110,46,97,44,32,102,97,99,116,46,98,41]
def aaW:List UInt8:= [40,45,49,47,50,44,32,111,119,110,46,97,41,41]
def XB:List UInt8:= [51,41,44,32,111,119,110,46,98,44,32,36,48,41]
def MQ:List UInt8:= [114,97,116,101,46,120,40,111,119,110,46,97,41]
def TS:List UInt8:= [111,119,110,46,97,44,32,111,119,110,46,97,41]
def O4:List UInt8:= [45,49,47,50,44,32,111,119,110,46,97,41,41]
def TT:List UInt8:= [41,44,32,111,119,110,46,98,44,32,36,48,41]
def ae2:List UInt8:= [44,32,111,119,110,46,98,44,32,36,48,41]
def BG:List UInt8:= [45,48,49,50,51,52,53,54,55,56,57,47]
def aaX:List UInt8:= [40,36,49,44,32,111,119,110,46,97,41]
def aaY:List UInt8:= [40,111,119,110,46,97,44,32,45,50,41]
def akl:List UInt8:= [46,97,44,32,102,97,99,116,46,97,41]
def akm:List UInt8:= [46,97,44,32,102,97,99,116,46,98,41]
def akn:List UInt8:= [46,97,44,32,111,119,110,46,97,41]
def aaZ:List UInt8:= [36,49,44,32,111,119,110,46,97,41]
def TU:List UInt8:= [111,119,110,46,97,44,32,45,50,41]
def TV:List UInt8:= [111,119,110,46,98,44,32,36,48,41]
def ae3:List UInt8:= [97,44,32,102,97,99,116,46,97,41]
def ae4:List UInt8:= [97,44,32,102,97,99,116,46,98,41]
def ako:List UInt8:= [46,120,40,111,119,110,46,97,41]
def ae5:List UInt8:= [97,44,32,111,119,110,46,97,41]
def TW:List UInt8:= [44,32,111,119,110,46,97,41,41]
def XC:List UInt8:= [49,44,32,111,119,110,46,97,41]
def ae6:List UInt8:= [44,32,102,97,99,116,46,97,41]
def ae7:List UInt8:= [44,32,102,97,99,116,46,98,41]
def ae8:List UInt8:= [120,40,111,119,110,46,97,41]
def JM:List UInt8:= [44,32,111,119,110,46,97,41]
def TY:List UInt8:= [111,119,110,46,97,41,41]
def akp:List UInt8:= [40,111,119,110,46,97,41]
def TZ:List UInt8:= [102,97,99,116,46,97,41]
def T_:List UInt8:= [102,97,99,116,46,98,41]
def akq:List UInt8:= [46,97,44,32,45,50,41]
def akr:List UInt8:= [46,98,44,32,36,48,41]
def tH:List UInt8:= [111,119,110,46,97,41]
def ae9:List UInt8:= [97,44,32,45,50,41]
def ae_:List UInt8:= [98,44,32,36,48,41]
def aks:List UInt8:= [108,101,115,115]
def afa:List UInt8:= [44,32,45,50,41]
def afb:List UInt8:= [44,32,36,48,41]
def akt:List UInt8:= [102,97,99,116]
def afc:List UInt8:= [45,49,47,50]
def aku:List UInt8:= [46,97,41,41]
theorem k0:ax prog ap 90 [.ptr 0 0 0,.str [36]] (rA JL 1) (.ret (.bool false)) (rA JL 1):=cK (.nil)
theorem k1:ax prog ap 92 [.ptr 0 0 0,.str pI] (rA JL 1) (.ret (.str [97,100,100])) (rA aaS 1):=fP (fV JL pI (1) false (by decide) (by decide)) (by kernel_rfl)
theorem k2:ax prog ap 90 [.ptr 0 0 0,.str [46]] (rA aaS 1) (.ret (.bool false)) (rA aaS 1):=cK (.nil)
theorem k3:CO 93 [ω 5] (.ret (.str [102,97,99,116,46])):=cK (.nil)
theorem k4:CO 93 [ω 6] (.ret (.str [111,119,110,46])):=cK (.nil)
theorem k5:CO 93 [ω 7] (.ret (.str [112,114,105,111,114,46])):=cK (.nil)
theorem k6:CO 93 [ω 8] (.ret (.str [115,112,111,117,115,101,46])):=cK (.nil)
theorem k7:CO 93 [ω 9] (.ret (.str [97,100,100])):=cK (.nil)
theorem k8:CO 93 [ω 10] (.ret (.str [115,117,98])):=cK (.nil)
theorem k9:CO 93 [ω 11] (.ret (.str [109,117,108])):=cK (.nil)
theorem BP:CO 93 [ω 12] (.ret (.str [100,105,118])):=cK (.nil)
theorem FM:CO 93 [ω 13] (.ret (.str [109,105,110])):=cK (.nil)
theorem FN:CO 93 [ω 14] (.ret (.str [109,97,120])):=cK (.nil)
theorem DZ:CO 93 [ω 15] (.ret (.str [105,102])):=cK (.nil)
theorem D5:CO 93 [ω 16] (.ret (.str aks)):=cK (.nil)
theorem FO:CO 93 [ω 17] (.ret (.str [101,113,117,97,108])):=cK (.nil)
theorem FP:CO 93 [ω 18] (.ret (.str [97,110,100])):=cK (.nil)
theorem FQ:CO 93 [ω 19] (.ret (.str [111,114])):=cK (.nil)
theorem FT:CO 93 [ω 20] (.ret (.str [110,111,116])):=cK (.nil)
theorem FU:CO 93 [ω 21] (.ret (.str [100,111,119,110])):=cK (.nil)
theorem FV:CO 93 [ω 22] (.ret (.str [117,112])):=cK (.nil)
theorem FW:CO 93 [ω 23] (.ret (.str [110,101,97,114])):=cK (.nil)
theorem D6:CO 93 [ω 24] (.ret (.str [114,97,116,101,46])):=cK (.nil)
theorem k23:CO 32 [ω 9] (.ret (.bool false)):=cK (.nil)
theorem k24:CO 34 [ω 9] (.ret (.bool false)):=cK (.nil)
theorem k25:CO 30 [ω 9] (.ret (ω 2)):=cK (.nil)
theorem k26:ax prog ap 90 [.ptr 0 0 0,.str [40]] (rA aaS 1) (.ret (.bool true)) (rA TQ 1):=cK (.nil)
theorem k27:ax prog ap 90 [.ptr 0 0 0,.str [36]] (rA TQ 2) (.ret (.bool false)) (rA TQ 2):=cK (.nil)
theorem k28:ax prog ap 92 [.ptr 0 0 0,.str pI] (rA TQ 2) (.ret (.str [111,119,110])) (rA akl 2):=fP (fV TQ pI (2) false (by decide) (by decide)) (by kernel_rfl)
theorem k29:ax prog ap 90 [.ptr 0 0 0,.str [46]] (rA akl 2) (.ret (.bool true)) (rA ae3 2):=cK (.nil)
theorem G7:CO 32 [ω 6] (.ret (.bool true)):=cK (.nil)
theorem k31:ax prog ap 92 [.ptr 0 0 0,.str Cj] (rA ae3 2) (.ret (.str [97])) (rA ae6 2):=fP (fV ae3 Cj (2) false (by decide) (by decide)) (by kernel_rfl)
theorem FX:CO 34 [ω 6] (.ret (.bool false)):=cK (.nil)
theorem qQ:CO 30 [ω 6] (.ret (ω 0)):=cK (.nil)
theorem k34:ax prog ap 56 [.ptr 0 0 0] (rA TQ 1) (.ret (.tup [])) (rB ae6 1 2 dQ):=cK (.c qQ (.c qQ (.c FX (.c k31 (.c G7 (.c D6 (.c FW (.c FV (.c FU (.c FT (.c FQ (.c FP (.c FO (.c D5 (.c DZ (.c FN (.c FM (.c BP (.c k9 (.c k8 (.c k7 (.c k6 (.c k5 (.c k4 (.c k3 (.c k29 (.c k28 (.c k27 .nil))))))))))))))))))))))))))))
theorem k35:ax prog ap 90 [.ptr 0 0 0,.str [44,32]] (rB ae6 1 2 dQ) (.ret (.bool true)) (rB TZ 1 2 dQ):=cK (.nil)
theorem k36:ax prog ap 90 [.ptr 0 0 0,.str [36]] (rB TZ 1 3 dQ) (.ret (.bool false)) (rB TZ 1 3 dQ):=cK (.nil)
theorem k37:ax prog ap 92 [.ptr 0 0 0,.str pI] (rB TZ 1 3 dQ) (.ret (.str akt)) (rB [46,97,41] 1 3 dQ):=fP (jG TZ pI (3) false 1 dQ (by decide) (by decide)) (by kernel_rfl)
theorem k38:ax prog ap 90 [.ptr 0 0 0,.str [46]] (rB [46,97,41] 1 3 dQ) (.ret (.bool true)) (rB [97,41] 1 3 dQ):=cK (.nil)
theorem k39:CO 32 [ω 5] (.ret (.bool true)):=cK (.nil)
theorem k40:ax prog ap 92 [.ptr 0 0 0,.str Cj] (rB [97,41] 1 3 dQ) (.ret (.str [97])) (rB [41] 1 3 dQ):=fP (jG [97,41] Cj (3) false 1 dQ (by decide) (by decide)) (by kernel_rfl)
theorem k41:CO 34 [ω 5] (.ret (.bool false)):=cK (.nil)
theorem k42:CO 30 [ω 5] (.ret (ω 0)):=cK (.nil)
theorem k43:ax prog ap 56 [.ptr 0 0 0] (rB TZ 1 2 dQ) (.ret (.tup [])) [⟨[.str [41],.ref 1 1 0 2,ω 3,.bool false],0,false,0,0,false⟩,⟨zo5,1,false,0,5,true⟩]:=cK (.c k42 (.c k42 (.c k41 (.c k40 (.c k39 (.c D6 (.c FW (.c FV (.c FU (.c FT (.c FQ (.c FP (.c FO (.c D5 (.c DZ (.c FN (.c FM (.c BP (.c k9 (.c k8 (.c k7 (.c k6 (.c k5 (.c k4 (.c k3 (.c k38 (.c k37 (.c k36 .nil))))))))))))))))))))))))))))
theorem k44:ax prog ap 90 [.ptr 0 0 0,.str [41]] (rB [41] 2 3 zo5) (.ret (.bool true)) (rB [] 2 3 zo5):=cK (.nil)
theorem k45:ax prog ap 56 [.ptr 0 0 0] (rA JL 0) (.ret (.tup [])) [⟨[.str [],.ref 1 0 0 3,ω 3,.bool false],0,false,0,0,false⟩,⟨(aH wU),0,false,0,5,true⟩]:=cK (.c k44 (.c k25 (.c k25 (.c k43 (.c k35 (.c k25 (.c k34 (.c k26 (.c k25 (.c k24 (.c k23 (.c D6 (.c FW (.c FV (.c FU (.c FT (.c FQ (.c FP (.c FO (.c D5 (.c DZ (.c FN (.c FM (.c BP (.c k9 (.c k8 (.c k7 (.c k6 (.c k5 (.c k4 (.c k3 (.c k2 (.c k1 (.c k0 .nil))))))))))))))))))))))))))))))))))
theorem Ub:CO 94 [ω 6] (.ret (.bool false)):=cK (.nil)
theorem YV:CO 74 [.agg dQ] (.ret (.bool true)):=cK (.c FX (.c Ub .nil))
theorem XG:CO 75 [.str [97]] (.ret (.bool true)):=cK (.nil)
theorem k49:CO 94 [ω 5] (.ret (.bool false)):=cK (.nil)
theorem k50:CO 74 [.agg [ω 5,.bool false,.str [],.str [],.str [97]]] (.ret (.bool true)):=cK (.c k41 (.c k49 .nil))
theorem k51:CO 94 [ω 9] (.ret (.bool false)):=cK (.nil)
theorem k52:CO 74 [.agg [ω 9,.bool false,.str [],.str [],.str []]] (.ret (.bool true)):=cK (.c k24 (.c k51 .nil))
theorem N8:CO 75 [.str []] (.ret (.bool false)):=cK (.nil)
theorem k54:CO 48 [.sl (aH wU) 3 true] (.ret (ω 0)):=cK (.c k25 (.c N8 (.c k52 (.c k23 (.c k42 (.c XG (.c k50 (.c k39 (.c qQ (.c XG (.c YV (.c G7 .nil))))))))))))
theorem k55:CO 57 [.sl (aH wU) 3 true] (.ret (.tup [.str JL,ω 0])):=cK (.c k24 (.c k51 (.c k7 (.c k25 (.c k41 (.c k49 (.c k3 (.c k42 (.c FX (.c Ub (.c k4 (.c qQ (.c k54 .nil)))))))))))))
theorem k56:CO 27 [.str JL] (.ret (.tup [.sl (aH wU) 3 true,ω 0])):=cK (.c k55 (.c k45 .nil))
theorem k57:CO 36 [ω 1] (.ret (Ω false [1] [1])):=fP (Sv 1 (by decide)) (by kernel_rfl)
theorem k58:CO 36 [ω 10] (.ret (Ω false [10] [1])):=fP (Sv 10 (by decide)) (by kernel_rfl)
theorem k59:CO 70 [Ω false [1] [1]] (.ret (Ω false [1] [1])):=fP (iY false [1] [1] (by decide) (by decide)) (by kernel_rfl)
theorem k60:CO 70 [Ω false [10] [1]] (.ret (Ω false [10] [1])):=fP (iY false [10] [1] (by decide) (by decide)) (by kernel_rfl)
theorem k61:CO 76 [.str [1]] (.ret (.str [1])):=cK (.nil)
theorem k62:CO 107 [.str [1]] (.ret (.tup [ω 1,.bool true])):=cK (.c k61 .nil)
theorem k63:CO 77 [.str [1],ω 3] (.ret (.tup [ω 1,.bool true])):=cK (.c k62 (.c k61 .nil))
theorem k64:CO 77 [.str [1],ω 4] (.ret (.tup [ω 1,.bool true])):=cK (.c k62 (.c k61 .nil))
theorem Vr:CO 49 [ω 1] (.ret (.str [1])):=fP (ku 1 (by decide)) (by kernel_rfl)
theorem k66:CO 50 [.str [1],.str [1]] (.ret (.str [1])):=cK (.c Vr (.c k64 (.c k63 .nil)))
theorem k67:CO 76 [.str [10]] (.ret (.str [10])):=cK (.nil)
theorem k68:CO 107 [.str [10]] (.ret (.tup [ω 10,.bool true])):=cK (.c k67 .nil)
theorem k69:CO 77 [.str [10],ω 4] (.ret (.tup [ω 10,.bool true])):=cK (.c k68 (.c k67 .nil))
theorem XH:CO 49 [ω 10] (.ret (.str [10])):=fP (ku 10 (by decide)) (by kernel_rfl)
theorem k71:CO 50 [.str [1],.str [10]] (.ret (.str [10])):=cK (.c XH (.c k69 (.c k63 .nil)))
theorem k72:CO 51 [.bool false,.str [1],.str [10]] (.ret (Ω false [1] [10])):=fP (iW false 1 10 (dG (by decide)) (dG (by decide)) (by decide)) (by kernel_rfl)
theorem k73:CO 58 [Ω false [1] [1],Ω false [10] [1]] (.ret (.tup [Ω false [1] [10],.bool true])):=cK (.c k72 (.c k71 (.c k66 (.c k60 (.c k59 .nil)))))
theorem k74:CO 36 [ω 5] (.ret (Ω false [5] [1])):=fP (Sv 5 (by decide)) (by kernel_rfl)
theorem k75:CO 70 [Ω false [5] [1]] (.ret (Ω false [5] [1])):=fP (iY false [5] [1] (by decide) (by decide)) (by kernel_rfl)
theorem k76:CO 76 [.str [5]] (.ret (.str [5])):=cK (.nil)
theorem k77:CO 107 [.str [5]] (.ret (.tup [ω 5,.bool true])):=cK (.c k76 .nil)
theorem k78:CO 77 [.str [5],ω 4] (.ret (.tup [ω 5,.bool true])):=cK (.c k77 (.c k76 .nil))
theorem k79:CO 49 [ω 5] (.ret (.str [5])):=fP (ku 5 (by decide)) (by kernel_rfl)
theorem k80:CO 50 [.str [1],.str [5]] (.ret (.str [5])):=cK (.c k79 (.c k78 (.c k63 .nil)))
theorem k81:CO 51 [.bool false,.str [1],.str [5]] (.ret (Ω false [1] [5])):=fP (iW false 1 5 (dG (by decide)) (dG (by decide)) (by decide)) (by kernel_rfl)
theorem k82:CO 58 [Ω false [1] [1],Ω false [5] [1]] (.ret (.tup [Ω false [1] [5],.bool true])):=cK (.c k81 (.c k80 (.c k66 (.c k75 (.c k59 .nil)))))
theorem k83:CO 36 [ω 0] (.ret (Ω false [] [1])):=fP (Sv 0 (by decide)) (by kernel_rfl)
theorem Vs:CO 28 [ω 1] (.ret (.sl [.str [120],ω 0,ω 0,.sl zcc4_0 2 true] 1 true)):=cK (.c k74 (.c k83 (.c k82 (.c k74 (.c k57 (.c k73 (.c k58 (.c k57 .nil))))))))
theorem k85:CO 14 [.sl (aH wU) 3 true,.sl [.str [120],ω 0,ω 0,.sl zcc4_0 2 true] 1 true,ω 6,.str [97]] (.ret (ω 1)):=ax.args (args:= [.sl (aH wU) 3 true,.sl [.str [120],ω 0,ω 0,.sl zcc4_0 2 false] 1 true,ω 6,.str [97]]) (.cons (aZ.refl _) (.cons (aZ.slP (.same (.same (.same (.sl .nil))))) (.cons (aZ.refl _) (.cons (aZ.refl _) .nil)))) (fP (dh wU true sZ true oG 6 [97] (jw (by kernel_rfl)) (by decide) (by decide) (gB)) (by kernel_rfl))
theorem k86:CO 26 [.str JL,.str [97],ω 1] (.ret (.bool true)):=cK (.c k85 (.c Vs (.c k56 .nil)))
theorem k87:CO 14 [.sl (aH wU) 3 true,.sl [.str [120],ω 0,ω 0,.sl zcc4_0 2 true] 1 true,ω 6,.str [98]] (.ret (ω 0)):=ax.args (args:= [.sl (aH wU) 3 true,.sl [.str [120],ω 0,ω 0,.sl zcc4_0 2 false] 1 true,ω 6,.str [98]]) (.cons (aZ.refl _) (.cons (aZ.slP (.same (.same (.same (.sl .nil))))) (.cons (aZ.refl _) (.cons (aZ.refl _) .nil)))) (fP (dh wU true sZ true oG 6 [98] (jw (by kernel_rfl)) (by decide) (by decide) (gB)) (by kernel_rfl))
theorem k88:CO 26 [.str JL,.str [98],ω 0] (.ret (.bool true)):=cK (.c k87 (.c Vs (.c k56 .nil)))
theorem k89:ax prog ap 90 [.ptr 0 0 0,.str [36]] (rA MN 1) (.ret (.bool false)) (rA MN 1):=cK (.nil)
theorem k90:ax prog ap 92 [.ptr 0 0 0,.str pI] (rA MN 1) (.ret (.str [115,117,98])) (rA aaV 1):=fP (fV MN pI (1) false (by decide) (by decide)) (by kernel_rfl)
theorem k91:ax prog ap 90 [.ptr 0 0 0,.str [46]] (rA aaV 1) (.ret (.bool false)) (rA aaV 1):=cK (.nil)
theorem k92:CO 32 [ω 10] (.ret (.bool false)):=cK (.nil)
theorem k93:CO 34 [ω 10] (.ret (.bool false)):=cK (.nil)
theorem Uc:CO 30 [ω 10] (.ret (ω 2)):=cK (.nil)
theorem k95:ax prog ap 90 [.ptr 0 0 0,.str [40]] (rA aaV 1) (.ret (.bool true)) (rA TS 1):=cK (.nil)
theorem k96:ax prog ap 90 [.ptr 0 0 0,.str [36]] (rA TS 2) (.ret (.bool false)) (rA TS 2):=cK (.nil)
theorem k97:ax prog ap 92 [.ptr 0 0 0,.str pI] (rA TS 2) (.ret (.str [111,119,110])) (rA akn 2):=fP (fV TS pI (2) false (by decide) (by decide)) (by kernel_rfl)
theorem k98:ax prog ap 90 [.ptr 0 0 0,.str [46]] (rA akn 2) (.ret (.bool true)) (rA ae5 2):=cK (.nil)
theorem k99:ax prog ap 92 [.ptr 0 0 0,.str Cj] (rA ae5 2) (.ret (.str [97])) (rA JM 2):=fP (fV ae5 Cj (2) false (by decide) (by decide)) (by kernel_rfl)
theorem ak8:ax prog ap 56 [.ptr 0 0 0] (rA TS 1) (.ret (.tup [])) (rB JM 1 2 dQ):=cK (.c qQ (.c qQ (.c FX (.c k99 (.c G7 (.c D6 (.c FW (.c FV (.c FU (.c FT (.c FQ (.c FP (.c FO (.c D5 (.c DZ (.c FN (.c FM (.c BP (.c k9 (.c k8 (.c k7 (.c k6 (.c k5 (.c k4 (.c k3 (.c k98 (.c k97 (.c k96 .nil))))))))))))))))))))))))))))
theorem ak9:ax prog ap 90 [.ptr 0 0 0,.str [44,32]] (rB JM 1 2 dQ) (.ret (.bool true)) (rB tH 1 2 dQ):=cK (.nil)
theorem ak_:ax prog ap 90 [.ptr 0 0 0,.str [36]] (rB tH 1 3 dQ) (.ret (.bool false)) (rB tH 1 3 dQ):=cK (.nil)
theorem ala:ax prog ap 92 [.ptr 0 0 0,.str pI] (rB tH 1 3 dQ) (.ret (.str [111,119,110])) (rB [46,97,41] 1 3 dQ):=fP (jG tH pI (3) false 1 dQ (by decide) (by decide)) (by kernel_rfl)
theorem alb:ax prog ap 56 [.ptr 0 0 0] (rB tH 1 2 dQ) (.ret (.tup [])) [⟨[.str [41],.ref 1 1 0 2,ω 3,.bool false],0,false,0,0,false⟩,⟨zo6,1,false,0,5,true⟩]:=cK (.c qQ (.c qQ (.c FX (.c k40 (.c G7 (.c D6 (.c FW (.c FV (.c FU (.c FT (.c FQ (.c FP (.c FO (.c D5 (.c DZ (.c FN (.c FM (.c BP (.c k9 (.c k8 (.c k7 (.c k6 (.c k5 (.c k4 (.c k3 (.c k38 (.c ala (.c ak_ .nil))))))))))))))))))))))))))))
theorem alc:ax prog ap 90 [.ptr 0 0 0,.str [41]] (rB [41] 2 3 zo6) (.ret (.bool true)) (rB [] 2 3 zo6):=cK (.nil)
theorem ald:ax prog ap 56 [.ptr 0 0 0] (rA MN 0) (.ret (.tup [])) [⟨[.str [],.ref 1 0 0 3,ω 3,.bool false],0,false,0,0,false⟩,⟨(aH E9),0,false,0,5,true⟩]:=cK (.c alc (.c Uc (.c Uc (.c alb (.c ak9 (.c Uc (.c ak8 (.c k95 (.c Uc (.c k93 (.c k92 (.c D6 (.c FW (.c FV (.c FU (.c FT (.c FQ (.c FP (.c FO (.c D5 (.c DZ (.c FN (.c FM (.c BP (.c k9 (.c k8 (.c k7 (.c k6 (.c k5 (.c k4 (.c k3 (.c k91 (.c k90 (.c k89 .nil))))))))))))))))))))))))))))))))))
theorem acO:CO 94 [ω 10] (.ret (.bool false)):=cK (.nil)
theorem agO:CO 74 [.agg [ω 10,.bool false,.str [],.str [],.str []]] (.ret (.bool true)):=cK (.c k93 (.c acO .nil))
theorem ale:CO 48 [.sl (aH E9) 3 true] (.ret (ω 0)):=cK (.c Uc (.c N8 (.c agO (.c k92 (.c qQ (.c XG (.c YV (.c G7 (.c qQ (.c XG (.c YV (.c G7 .nil))))))))))))
theorem alf:CO 57 [.sl (aH E9) 3 true] (.ret (.tup [.str MN,ω 0])):=cK (.c k93 (.c acO (.c k8 (.c Uc (.c FX (.c Ub (.c k4 (.c qQ (.c FX (.c Ub (.c k4 (.c qQ (.c ale .nil)))))))))))))
theorem alg:CO 27 [.str MN] (.ret (.tup [.sl (aH E9) 3 true,ω 0])):=cK (.c alf (.c ald .nil))
theorem alh:CO 14 [.sl (aH E9) 3 true,.sl [.str [120],ω 0,ω 0,.sl zcc4_0 2 true] 1 true,ω 6,.str [97]] (.ret (ω 3)):=ax.args (args:= [.sl (aH E9) 3 true,.sl [.str [120],ω 0,ω 0,.sl zcc4_0 2 false] 1 true,ω 6,.str [97]]) (.cons (aZ.refl _) (.cons (aZ.slP (.same (.same (.same (.sl .nil))))) (.cons (aZ.refl _) (.cons (aZ.refl _) .nil)))) (fP (dh E9 true sZ true oG 6 [97] (jw (by kernel_rfl)) (by decide) (by decide) (gB)) (by kernel_rfl))
theorem ali:CO 26 [.str MN,.str [97],ω 3] (.ret (.bool true)):=cK (.c alh (.c Vs (.c alg .nil)))
theorem alj:ax prog ap 90 [.ptr 0 0 0,.str [36]] (rA zs5 1) (.ret (.bool false)) (rA zs5 1):=cK (.nil)
theorem alk:ax prog ap 92 [.ptr 0 0 0,.str pI] (rA zs5 1) (.ret (.str [115,117,98])) (rA zs7 1):=fP (fV zs5 pI (1) false (by decide) (by decide)) (by kernel_rfl)
theorem alm:ax prog ap 90 [.ptr 0 0 0,.str [46]] (rA zs7 1) (.ret (.bool false)) (rA zs7 1):=cK (.nil)
theorem aln:ax prog ap 90 [.ptr 0 0 0,.str [40]] (rA zs7 1) (.ret (.bool true)) (rA zs9 1):=cK (.nil)
theorem alo:ax prog ap 90 [.ptr 0 0 0,.str [36]] (rA zs9 2) (.ret (.bool true)) (rA Xz 2):=cK (.nil)
theorem alp:ax prog ap 92 [.ptr 0 0 0,.str BG] (rA Xz 2) (.ret (.str [53])) (rA TN 2):=fP (fV Xz BG (2) false (by decide) (by decide)) (by kernel_rfl)
theorem YM:CO 76 [.str []] (.ret (.str [])):=cK (.nil)
theorem agP:CO 107 [.str []] (.ret (.tup [ω 0,.bool true])):=cK (.c YM .nil)
theorem alq:CO 77 [.str [],ω 3] (.ret (.tup [ω 0,.bool true])):=cK (.c agP (.c YM .nil))
theorem YN:CO 49 [ω 0] (.ret (.str [])):=fP (ku 0 (by decide)) (by kernel_rfl)
theorem Vl:CO 50 [.str [],.str [10]] (.ret (.str [])):=cK (.c YN (.c k69 (.c alq .nil)))
theorem RD:CO 77 [.str [],ω 7] (.ret (.tup [ω 0,.bool true])):=cK (.c agP (.c YM .nil))
theorem alr:CO 77 [.str [5],ω 7] (.ret (.tup [ω 5,.bool true])):=cK (.c k77 (.c k76 .nil))
theorem als:CO 61 [.str [],.str [5]] (.ret (.str [5])):=cK (.c k79 (.c alr (.c RD .nil)))
theorem alu:CO 157 [.str [53]] (.ret (.tup [.str [5],.bool true])):=cK (.c als (.c k79 (.c Vl (.c XH .nil))))
theorem alv:CO 77 [.str [1],ω 7] (.ret (.tup [ω 1,.bool true])):=cK (.c k62 (.c k61 .nil))
theorem agQ:CO 61 [.str [],.str [1]] (.ret (.str [1])):=cK (.c Vr (.c alv (.c RD .nil)))
theorem NY:CO 157 [.str [49]] (.ret (.tup [.str [1],.bool true])):=cK (.c agQ (.c Vr (.c Vl (.c XH .nil))))
theorem alx:CO 128 [.str [5]] (.ret (.bool true)):=fP (xM [5]) (by kernel_rfl)
theorem NZ:CO 128 [.str [1]] (.ret (.bool true)):=fP (xM [1]) (by kernel_rfl)
theorem aly:CO 51 [.bool false,.str [5],.str [1]] (.ret (Ω false [5] [1])):=fP (iW false 5 1 (dG (by decide)) (dG (by decide)) (by decide)) (by kernel_rfl)
theorem alz:CO 96 [.bool false,.str [5],.str [1]] (.ret (.tup [Ω false [5] [1],.bool true])):=cK (.c aly (.c NZ (.c alx .nil)))
theorem alA:CO 81 [.str [5],.str [10]] (.ret (.tup [.str [],.str [5],.bool true])):=fP (rY [5] [10] (by decide) (by decide) (by decide)) (by kernel_rfl)
theorem alB:CO 127 [.str [5]] (.ret (.str [53])):=cK (.c k77 (.c alA (.c XH (.c k76 .nil))))
theorem Vm:CO 118 [.str [1],.str [1]] (.ret (ω 0)):=cK (.c k61 (.c k61 .nil))
theorem agR:CO 95 [Ω false [5] [1]] (.ret (.str [53])):=cK (.c Vm (.c Vr (.c alB (.c k75 .nil))))
theorem alC:CO 126 [.str [53]] (.ret (.tup [Ω false [5] [1],.bool true])):=cK (.c agR (.c alz (.c NY (.c alu .nil))))
theorem alD:ax prog ap 91 [.ptr 0 0 0] (rA Xz 2) (.ret (Ω false [5] [1])) (rA TN 2):=cK (.c alC (.c alp .nil))
theorem agS:aI prog ap (rA zs9 1) 206 (EW 5 (af f56)) ⟨([(0,.ptr 0 0 0),(2,.bool true)]++dE [3,4,5,6,7,8,9,10,11,12,13,14,15]++ [(41,.bool false),(47,.bool true)]++dE [65,70,100,102,117,122,128,133,139,145,158,166,170,175,184,188,192]),[(0,⟨[.str Xz,.nilS,ω 2,.bool false],0,false,0,0,true⟩)],.dead,[]⟩ (.normal) ⟨([(0,.ptr 0 0 0),(2,.bool true)]++dE [3,4,5,6,7,8,9,10,11,12,13,14,15]++ [(41,.bool false),(47,.bool true)]++dE [65,70,100,102,117,122,128,133,139,145,158,166,170,175,184,188,192]),[(0,⟨[.str TN,.ref 1 0 0 1,ω 2,.bool false],0,false,0,0,false⟩),(1,⟨mM,0,false,0,5,true⟩)],.dead,[]⟩:=fun nt a=>Cb IU (keep:=uw ap 56) (i:=4) (b:=0) (d:=52) (nt0:=206) (ans:= [(.ret (Ω false [5] [1]),(rA TN 2))]) (.cons (rfl:(.nilS:AV)=(.nilS:AV)) (.cons (rfl:(.nilS:AV)=(.nilS:AV)) (.cons alD .nil))) a (by kernel_rfl)
theorem alE:ax prog ap 56 [.ptr 0 0 0] (rA zs9 1) (.ret (.tup [])) (rB TN 1 2 mM):=pK [1005] 4 8 (.n 9 .nil) (.l agS (.c alo .nil))
theorem alF:ax prog ap 90 [.ptr 0 0 0,.str [44,32]] (rB TN 1 2 mM) (.ret (.bool true)) (rB TP 1 2 mM):=cK (.nil)
theorem alG:ax prog ap 90 [.ptr 0 0 0,.str [36]] (rB TP 1 3 mM) (.ret (.bool false)) (rB TP 1 3 mM):=cK (.nil)
theorem alH:ax prog ap 92 [.ptr 0 0 0,.str pI] (rB TP 1 3 mM) (.ret (.str [109,117,108])) (rB aaW 1 3 mM):=fP (jG TP pI (3) false 1 mM (by decide) (by decide)) (by kernel_rfl)
theorem alI:ax prog ap 90 [.ptr 0 0 0,.str [46]] (rB aaW 1 3 mM) (.ret (.bool false)) (rB aaW 1 3 mM):=cK (.nil)
theorem YO:CO 32 [ω 11] (.ret (.bool false)):=cK (.nil)
theorem Vo:CO 34 [ω 11] (.ret (.bool false)):=cK (.nil)
theorem Bz:CO 30 [ω 11] (.ret (ω 2)):=cK (.nil)
theorem alJ:ax prog ap 90 [.ptr 0 0 0,.str [40]] (rB aaW 1 3 mM) (.ret (.bool true)) (rB O4 1 3 mM):=cK (.nil)
theorem alK:ax prog ap 90 [.ptr 0 0 0,.str [36]] (rB O4 1 4 mM) (.ret (.bool false)) (rB O4 1 4 mM):=cK (.nil)
theorem alL:ax prog ap 92 [.ptr 0 0 0,.str BG] (rB O4 1 4 mM) (.ret (.str afc)) (rB TW 1 4 mM):=fP (jG O4 BG (4) false 1 mM (by decide) (by decide)) (by kernel_rfl)
theorem agT:CO 49 [ω 2] (.ret (.str [2])):=fP (ku 2 (by decide)) (by kernel_rfl)
theorem YP:CO 76 [.str [2]] (.ret (.str [2])):=cK (.nil)
theorem agU:CO 107 [.str [2]] (.ret (.tup [ω 2,.bool true])):=cK (.c YP .nil)
theorem alM:CO 77 [.str [2],ω 7] (.ret (.tup [ω 2,.bool true])):=cK (.c agU (.c YP .nil))
theorem alN:CO 61 [.str [],.str [2]] (.ret (.str [2])):=cK (.c agT (.c alM (.c RD .nil)))
theorem agV:CO 157 [.str [50]] (.ret (.tup [.str [2],.bool true])):=cK (.c alN (.c agT (.c Vl (.c XH .nil))))
theorem agW:CO 128 [.str [2]] (.ret (.bool true)):=fP (xM [2]) (by kernel_rfl)
theorem alO:CO 51 [.bool true,.str [1],.str [2]] (.ret (Ω true [1] [2])):=fP (iW true 1 2 (dG (by decide)) (dG (by decide)) (by decide)) (by kernel_rfl)
theorem alP:CO 96 [.bool true,.str [1],.str [2]] (.ret (.tup [Ω true [1] [2],.bool true])):=cK (.c alO (.c agW (.c NZ .nil)))
theorem alQ:CO 70 [Ω true [1] [2]] (.ret (Ω true [1] [2])):=fP (iY true [1] [2] (by decide) (by decide)) (by kernel_rfl)
theorem alR:CO 81 [.str [1],.str [10]] (.ret (.tup [.str [],.str [1],.bool true])):=fP (rY [1] [10] (by decide) (by decide) (by decide)) (by kernel_rfl)
theorem agX:CO 127 [.str [1]] (.ret (.str [49])):=cK (.c k62 (.c alR (.c XH (.c k61 .nil))))
theorem alS:CO 118 [.str [2],.str [1]] (.ret (ω 1)):=cK (.c k61 (.c YP .nil))
theorem alT:CO 81 [.str [2],.str [10]] (.ret (.tup [.str [],.str [2],.bool true])):=fP (rY [2] [10] (by decide) (by decide) (by decide)) (by kernel_rfl)
theorem agY:CO 127 [.str [2]] (.ret (.str [50])):=cK (.c agU (.c alT (.c XH (.c YP .nil))))
theorem agZ:CO 95 [Ω true [1] [2]] (.ret (.str afc)):=cK (.c agY (.c alS (.c Vr (.c agX (.c alQ .nil)))))
theorem alU:CO 126 [.str afc] (.ret (.tup [Ω true [1] [2],.bool true])):=cK (.c agZ (.c alP (.c agV (.c NY .nil))))
theorem alV:ax prog ap 91 [.ptr 0 0 0] (rB O4 1 4 mM) (.ret (Ω true [1] [2])) (rB TW 1 4 mM):=cK (.c alU (.c alL .nil))
theorem alW:ax prog ap 90 [.ptr 0 0 0,.str [100]] (rB TW 1 4 mM) (.ret (.bool false)) (rB TW 1 4 mM):=cK (.nil)
theorem alX:ax prog ap 56 [.ptr 0 0 0] (rB O4 1 3 mM) (.ret (.tup [])) [⟨[.str TW,.ref 1 1 0 2,ω 4,.bool false],0,false,0,0,false⟩,⟨zl,1,false,0,5,true⟩]:=cK (.c alW (.c alV (.c alK .nil)))
theorem alY:ax prog ap 90 [.ptr 0 0 0,.str [44,32]] (rB TW 2 4 zl) (.ret (.bool true)) (rB TY 2 4 zl):=cK (.nil)
theorem alZ:ax prog ap 90 [.ptr 0 0 0,.str [36]] (rB TY 2 5 zl) (.ret (.bool false)) (rB TY 2 5 zl):=cK (.nil)
theorem al0:ax prog ap 92 [.ptr 0 0 0,.str pI] (rB TY 2 5 zl) (.ret (.str [111,119,110])) (rB aku 2 5 zl):=fP (jG TY pI (5) false 2 zl (by decide) (by decide)) (by kernel_rfl)
theorem al1:ax prog ap 90 [.ptr 0 0 0,.str [46]] (rB aku 2 5 zl) (.ret (.bool true)) (rB [97,41,41] 2 5 zl):=cK (.nil)
theorem al2:ax prog ap 92 [.ptr 0 0 0,.str Cj] (rB [97,41,41] 2 5 zl) (.ret (.str [97])) (rB [41,41] 2 5 zl):=fP (jG [97,41,41] Cj (5) false 2 zl (by decide) (by decide)) (by kernel_rfl)
theorem al3:ax prog ap 56 [.ptr 0 0 0] (rB TY 2 4 zl) (.ret (.tup [])) [⟨[.str [41,41],.ref 1 1 0 3,ω 5,.bool false],0,false,0,0,false⟩,⟨zo3,1,false,0,5,true⟩]:=cK (.c qQ (.c qQ (.c FX (.c al2 (.c G7 (.c D6 (.c FW (.c FV (.c FU (.c FT (.c FQ (.c FP (.c FO (.c D5 (.c DZ (.c FN (.c FM (.c BP (.c k9 (.c k8 (.c k7 (.c k6 (.c k5 (.c k4 (.c k3 (.c al1 (.c al0 (.c alZ .nil))))))))))))))))))))))))))))
theorem al4:ax prog ap 90 [.ptr 0 0 0,.str [41]] (rB [41,41] 3 5 zo3) (.ret (.bool true)) (rB [41] 3 5 zo3):=cK (.nil)
theorem al5:ax prog ap 56 [.ptr 0 0 0] (rB TP 1 2 mM) (.ret (.tup [])) [⟨[.str [41],.ref 1 3 0 4,ω 5,.bool false],0,false,0,0,false⟩,⟨zo2,3,false,0,5,true⟩]:=cK (.c al4 (.c Bz (.c Bz (.c al3 (.c alY (.c Bz (.c alX (.c alJ (.c Bz (.c Vo (.c YO (.c D6 (.c FW (.c FV (.c FU (.c FT (.c FQ (.c FP (.c FO (.c D5 (.c DZ (.c FN (.c FM (.c BP (.c k9 (.c k8 (.c k7 (.c k6 (.c k5 (.c k4 (.c k3 (.c alI (.c alH (.c alG .nil))))))))))))))))))))))))))))))))))
theorem al6:ax prog ap 90 [.ptr 0 0 0,.str [41]] (rB [41] 4 5 zo2) (.ret (.bool true)) (rB [] 4 5 zo2):=cK (.nil)
theorem al7:ax prog ap 56 [.ptr 0 0 0] (rA zs5 0) (.ret (.tup [])) [⟨[.str [],.ref 1 0 0 5,ω 5,.bool false],0,false,0,0,false⟩,⟨(aH E_),0,false,0,5,true⟩]:=cK (.c al6 (.c Uc (.c Uc (.c al5 (.c alF (.c Uc (.c alE (.c aln (.c Uc (.c k93 (.c k92 (.c D6 (.c FW (.c FV (.c FU (.c FT (.c FQ (.c FP (.c FO (.c D5 (.c DZ (.c FN (.c FM (.c BP (.c k9 (.c k8 (.c k7 (.c k6 (.c k5 (.c k4 (.c k3 (.c alm (.c alk (.c alj .nil))))))))))))))))))))))))))))))))))
theorem YQ:CO 32 [ω 1] (.ret (.bool false)):=cK (.nil)
theorem KI:CO 94 [ω 1] (.ret (.bool true)):=cK (.nil)
theorem al8:CO 105 [Ω false [5] [1]] (.ret (.bool true)):=fP (iK false [5] [1] (by decide) (by decide)) (by kernel_rfl)
theorem al9:CO 74 [.agg mM] (.ret (.bool true)):=cK (.c al8 (.c KI .nil))
theorem KJ:CO 30 [ω 1] (.ret (ω 0)):=cK (.nil)
theorem ag0:CO 32 [ω 3] (.ret (.bool false)):=cK (.nil)
theorem YR:CO 94 [ω 3] (.ret (.bool true)):=cK (.nil)
theorem al_:CO 105 [Ω true [1] [2]] (.ret (.bool true)):=fP (iK true [1] [2] (by decide) (by decide)) (by kernel_rfl)
theorem ama:CO 74 [.agg [ω 3,.bool true,.str [1],.str [2],.str []]] (.ret (.bool true)):=cK (.c al_ (.c YR .nil))
theorem YS:CO 30 [ω 3] (.ret (ω 0)):=cK (.nil)
theorem acP:CO 94 [ω 11] (.ret (.bool false)):=cK (.nil)
theorem ag1:CO 74 [.agg [ω 11,.bool false,.str [],.str [],.str []]] (.ret (.bool true)):=cK (.c Vo (.c acP .nil))
theorem amb:CO 48 [.sl (aH E_) 5 true] (.ret (ω 0)):=cK (.c Uc (.c N8 (.c agO (.c k92 (.c Bz (.c N8 (.c ag1 (.c YO (.c qQ (.c XG (.c YV (.c G7 (.c YS (.c N8 (.c ama (.c ag0 (.c KJ (.c N8 (.c al9 (.c YQ .nil))))))))))))))))))))
theorem YT:CO 93 [ω 1] (.ret (.str [36])):=cK (.nil)
theorem ag2:CO 93 [ω 3] (.ret (.str [])):=cK (.nil)
theorem amc:CO 57 [.sl (aH E_) 5 true] (.ret (.tup [.str zs5,ω 0])):=cK (.c k93 (.c acO (.c k8 (.c Uc (.c Vo (.c acP (.c k9 (.c Bz (.c FX (.c Ub (.c k4 (.c qQ (.c agZ (.c YR (.c ag2 (.c YS (.c agR (.c KI (.c YT (.c KJ (.c amb .nil)))))))))))))))))))))
theorem amd:CO 27 [.str zs5] (.ret (.tup [.sl (aH E_) 5 true,ω 0])):=cK (.c amc (.c al7 .nil))
theorem ame:CO 14 [.sl (aH E_) 5 true,.sl [.str [120],ω 0,ω 0,.sl zcc4_0 2 true] 1 true,ω 6,.str [97]] (.ret (ω 1)):=ax.args (args:= [.sl (aH E_) 5 true,.sl [.str [120],ω 0,ω 0,.sl zcc4_0 2 false] 1 true,ω 6,.str [97]]) (.cons (aZ.refl _) (.cons (aZ.slP (.same (.same (.same (.sl .nil))))) (.cons (aZ.refl _) (.cons (aZ.refl _) .nil)))) (fP (dh E_ true sZ true oG 6 [97] (jw (by kernel_rfl)) (by decide) (by decide) (gB)) (by kernel_rfl))
theorem amf:CO 26 [.str zs5,.str [97],ω 1] (.ret (.bool true)):=cK (.c ame (.c Vs (.c amd .nil)))
theorem amg:ax prog ap 90 [.ptr 0 0 0,.str [36]] (rA MM 1) (.ret (.bool false)) (rA MM 1):=cK (.nil)
theorem amh:ax prog ap 92 [.ptr 0 0 0,.str pI] (rA MM 1) (.ret (.str [109,117,108])) (rA aaT 1):=fP (fV MM pI (1) false (by decide) (by decide)) (by kernel_rfl)
theorem ami:ax prog ap 90 [.ptr 0 0 0,.str [46]] (rA aaT 1) (.ret (.bool false)) (rA aaT 1):=cK (.nil)
theorem amj:ax prog ap 90 [.ptr 0 0 0,.str [40]] (rA aaT 1) (.ret (.bool true)) (rA TR 1):=cK (.nil)
theorem amk:ax prog ap 90 [.ptr 0 0 0,.str [36]] (rA TR 2) (.ret (.bool false)) (rA TR 2):=cK (.nil)
theorem aml:ax prog ap 92 [.ptr 0 0 0,.str pI] (rA TR 2) (.ret (.str [111,119,110])) (rA akm 2):=fP (fV TR pI (2) false (by decide) (by decide)) (by kernel_rfl)
theorem amm:ax prog ap 90 [.ptr 0 0 0,.str [46]] (rA akm 2) (.ret (.bool true)) (rA ae4 2):=cK (.nil)
theorem amn:ax prog ap 92 [.ptr 0 0 0,.str Cj] (rA ae4 2) (.ret (.str [97])) (rA ae7 2):=fP (fV ae4 Cj (2) false (by decide) (by decide)) (by kernel_rfl)
theorem amo:ax prog ap 56 [.ptr 0 0 0] (rA TR 1) (.ret (.tup [])) (rB ae7 1 2 dQ):=cK (.c qQ (.c qQ (.c FX (.c amn (.c G7 (.c D6 (.c FW (.c FV (.c FU (.c FT (.c FQ (.c FP (.c FO (.c D5 (.c DZ (.c FN (.c FM (.c BP (.c k9 (.c k8 (.c k7 (.c k6 (.c k5 (.c k4 (.c k3 (.c amm (.c aml (.c amk .nil))))))))))))))))))))))))))))
theorem amq:ax prog ap 90 [.ptr 0 0 0,.str [44,32]] (rB ae7 1 2 dQ) (.ret (.bool true)) (rB T_ 1 2 dQ):=cK (.nil)
theorem amr:ax prog ap 90 [.ptr 0 0 0,.str [36]] (rB T_ 1 3 dQ) (.ret (.bool false)) (rB T_ 1 3 dQ):=cK (.nil)
theorem ams:ax prog ap 92 [.ptr 0 0 0,.str pI] (rB T_ 1 3 dQ) (.ret (.str akt)) (rB [46,98,41] 1 3 dQ):=fP (jG T_ pI (3) false 1 dQ (by decide) (by decide)) (by kernel_rfl)
theorem amu:ax prog ap 90 [.ptr 0 0 0,.str [46]] (rB [46,98,41] 1 3 dQ) (.ret (.bool true)) (rB [98,41] 1 3 dQ):=cK (.nil)
theorem amv:ax prog ap 92 [.ptr 0 0 0,.str Cj] (rB [98,41] 1 3 dQ) (.ret (.str [98])) (rB [41] 1 3 dQ):=fP (jG [98,41] Cj (3) false 1 dQ (by decide) (by decide)) (by kernel_rfl)
theorem amw:ax prog ap 56 [.ptr 0 0 0] (rB T_ 1 2 dQ) (.ret (.tup [])) [⟨[.str [41],.ref 1 1 0 2,ω 3,.bool false],0,false,0,0,false⟩,⟨zo7,1,false,0,5,true⟩]:=cK (.c k42 (.c k42 (.c k41 (.c amv (.c k39 (.c D6 (.c FW (.c FV (.c FU (.c FT (.c FQ (.c FP (.c FO (.c D5 (.c DZ (.c FN (.c FM (.c BP (.c k9 (.c k8 (.c k7 (.c k6 (.c k5 (.c k4 (.c k3 (.c amu (.c ams (.c amr .nil))))))))))))))))))))))))))))
theorem amx:ax prog ap 90 [.ptr 0 0 0,.str [41]] (rB [41] 2 3 zo7) (.ret (.bool true)) (rB [] 2 3 zo7):=cK (.nil)
theorem amy:ax prog ap 56 [.ptr 0 0 0] (rA MM 0) (.ret (.tup [])) [⟨[.str [],.ref 1 0 0 3,ω 3,.bool false],0,false,0,0,false⟩,⟨(aH mQ),0,false,0,5,true⟩]:=cK (.c amx (.c Bz (.c Bz (.c amw (.c amq (.c Bz (.c amo (.c amj (.c Bz (.c Vo (.c YO (.c D6 (.c FW (.c FV (.c FU (.c FT (.c FQ (.c FP (.c FO (.c D5 (.c DZ (.c FN (.c FM (.c BP (.c k9 (.c k8 (.c k7 (.c k6 (.c k5 (.c k4 (.c k3 (.c ami (.c amh (.c amg .nil))))))))))))))))))))))))))))))))))
theorem amz:CO 74 [.agg [ω 5,.bool false,.str [],.str [],.str [98]]] (.ret (.bool true)):=cK (.c k41 (.c k49 .nil))
theorem ag3:CO 75 [.str [98]] (.ret (.bool true)):=cK (.nil)
theorem amA:CO 48 [.sl (aH mQ) 3 true] (.ret (ω 0)):=cK (.c Bz (.c N8 (.c ag1 (.c YO (.c k42 (.c ag3 (.c amz (.c k39 (.c qQ (.c XG (.c YV (.c G7 .nil))))))))))))
theorem amB:CO 57 [.sl (aH mQ) 3 true] (.ret (.tup [.str MM,ω 0])):=cK (.c Vo (.c acP (.c k9 (.c Bz (.c k41 (.c k49 (.c k3 (.c k42 (.c FX (.c Ub (.c k4 (.c qQ (.c amA .nil)))))))))))))
theorem ag4:CO 27 [.str MM] (.ret (.tup [.sl (aH mQ) 3 true,ω 0])):=cK (.c amB (.c amy .nil))
theorem amC:CO 14 [.sl (aH mQ) 3 true,.sl [.str [120],ω 0,ω 0,.sl zcc4_0 2 true] 1 true,ω 6,.str [97]] (.ret (ω 3)):=ax.args (args:= [.sl (aH mQ) 3 true,.sl [.str [120],ω 0,ω 0,.sl zcc4_0 2 false] 1 true,ω 6,.str [97]]) (.cons (aZ.refl _) (.cons (aZ.slP (.same (.same (.same (.sl .nil))))) (.cons (aZ.refl _) (.cons (aZ.refl _) .nil)))) (fP (dh mQ true sZ true oG 6 [97] (jw (by kernel_rfl)) (by decide) (by decide) (gB)) (by kernel_rfl))
theorem amD:CO 26 [.str MM,.str [97],ω 3] (.ret (.bool true)):=cK (.c amC (.c Vs (.c ag4 .nil)))
theorem amE:ax prog ap 90 [.ptr 0 0 0,.str [36]] (rA MO 1) (.ret (.bool false)) (rA MO 1):=cK (.nil)
theorem amF:ax prog ap 92 [.ptr 0 0 0,.str pI] (rA MO 1) (.ret (.str [100,105,118])) (rA aaX 1):=fP (fV MO pI (1) false (by decide) (by decide)) (by kernel_rfl)
theorem amG:ax prog ap 90 [.ptr 0 0 0,.str [46]] (rA aaX 1) (.ret (.bool false)) (rA aaX 1):=cK (.nil)
theorem YU:CO 32 [ω 12] (.ret (.bool false)):=cK (.nil)
theorem Vp:CO 34 [ω 12] (.ret (.bool false)):=cK (.nil)
theorem BA:CO 30 [ω 12] (.ret (ω 2)):=cK (.nil)
theorem amH:ax prog ap 90 [.ptr 0 0 0,.str [40]] (rA aaX 1) (.ret (.bool true)) (rA aaZ 1):=cK (.nil)
theorem amI:ax prog ap 90 [.ptr 0 0 0,.str [36]] (rA aaZ 2) (.ret (.bool true)) (rA XC 2):=cK (.nil)
theorem amJ:ax prog ap 92 [.ptr 0 0 0,.str BG] (rA XC 2) (.ret (.str [49])) (rA JM 2):=fP (fV XC BG (2) false (by decide) (by decide)) (by kernel_rfl)
theorem amK:CO 51 [.bool false,.str [1],.str [1]] (.ret (Ω false [1] [1])):=fP (iW false 1 1 (dG (by decide)) (dG (by decide)) (by decide)) (by kernel_rfl)
theorem amL:CO 96 [.bool false,.str [1],.str [1]] (.ret (.tup [Ω false [1] [1],.bool true])):=cK (.c amK (.c NZ (.c NZ .nil)))
theorem ag5:CO 95 [Ω false [1] [1]] (.ret (.str [49])):=cK (.c Vm (.c Vr (.c agX (.c k59 .nil))))
theorem amM:CO 126 [.str [49]] (.ret (.tup [Ω false [1] [1],.bool true])):=cK (.c ag5 (.c amL (.c NY (.c NY .nil))))
theorem amN:ax prog ap 91 [.ptr 0 0 0] (rA XC 2) (.ret (Ω false [1] [1])) (rA JM 2):=cK (.c amM (.c amJ .nil))
theorem ag6:aI prog ap (rA aaZ 1) 206 (EW 5 (af f56)) ⟨([(0,.ptr 0 0 0),(2,.bool true)]++dE [3,4,5,6,7,8,9,10,11,12,13,14,15]++ [(41,.bool false),(47,.bool true)]++dE [65,70,100,102,117,122,128,133,139,145,158,166,170,175,184,188,192]),[(0,⟨[.str XC,.nilS,ω 2,.bool false],0,false,0,0,true⟩)],.dead,[]⟩ (.normal) ⟨([(0,.ptr 0 0 0),(2,.bool true)]++dE [3,4,5,6,7,8,9,10,11,12,13,14,15]++ [(41,.bool false),(47,.bool true)]++dE [65,70,100,102,117,122,128,133,139,145,158,166,170,175,184,188,192]),[(0,⟨[.str JM,.ref 1 0 0 1,ω 2,.bool false],0,false,0,0,false⟩),(1,⟨wI,0,false,0,5,true⟩)],.dead,[]⟩:=fun nt a=>Cb IU (keep:=uw ap 56) (i:=4) (b:=0) (d:=52) (nt0:=206) (ans:= [(.ret (Ω false [1] [1]),(rA JM 2))]) (.cons (rfl:(.nilS:AV)=(.nilS:AV)) (.cons (rfl:(.nilS:AV)=(.nilS:AV)) (.cons amN .nil))) a (by kernel_rfl)
theorem amP:ax prog ap 56 [.ptr 0 0 0] (rA aaZ 1) (.ret (.tup [])) (rB JM 1 2 wI):=pK [1005] 4 8 (.n 9 .nil) (.l ag6 (.c amI .nil))
theorem amQ:ax prog ap 90 [.ptr 0 0 0,.str [44,32]] (rB JM 1 2 wI) (.ret (.bool true)) (rB tH 1 2 wI):=cK (.nil)
theorem amR:ax prog ap 90 [.ptr 0 0 0,.str [36]] (rB tH 1 3 wI) (.ret (.bool false)) (rB tH 1 3 wI):=cK (.nil)
theorem amS:ax prog ap 92 [.ptr 0 0 0,.str pI] (rB tH 1 3 wI) (.ret (.str [111,119,110])) (rB [46,97,41] 1 3 wI):=fP (jG tH pI (3) false 1 wI (by decide) (by decide)) (by kernel_rfl)
theorem amT:ax prog ap 90 [.ptr 0 0 0,.str [46]] (rB [46,97,41] 1 3 wI) (.ret (.bool true)) (rB [97,41] 1 3 wI):=cK (.nil)
theorem amU:ax prog ap 92 [.ptr 0 0 0,.str Cj] (rB [97,41] 1 3 wI) (.ret (.str [97])) (rB [41] 1 3 wI):=fP (jG [97,41] Cj (3) false 1 wI (by decide) (by decide)) (by kernel_rfl)
theorem amV:ax prog ap 56 [.ptr 0 0 0] (rB tH 1 2 wI) (.ret (.tup [])) [⟨[.str [41],.ref 1 1 0 2,ω 3,.bool false],0,false,0,0,false⟩,⟨zo8,1,false,0,5,true⟩]:=cK (.c qQ (.c qQ (.c FX (.c amU (.c G7 (.c D6 (.c FW (.c FV (.c FU (.c FT (.c FQ (.c FP (.c FO (.c D5 (.c DZ (.c FN (.c FM (.c BP (.c k9 (.c k8 (.c k7 (.c k6 (.c k5 (.c k4 (.c k3 (.c amT (.c amS (.c amR .nil))))))))))))))))))))))))))))
theorem amW:ax prog ap 90 [.ptr 0 0 0,.str [41]] (rB [41] 2 3 zo8) (.ret (.bool true)) (rB [] 2 3 zo8):=cK (.nil)
theorem amX:ax prog ap 56 [.ptr 0 0 0] (rA MO 0) (.ret (.tup [])) [⟨[.str [],.ref 1 0 0 3,ω 3,.bool false],0,false,0,0,false⟩,⟨(aH Fa),0,false,0,5,true⟩]:=cK (.c amW (.c BA (.c BA (.c amV (.c amQ (.c BA (.c amP (.c amH (.c BA (.c Vp (.c YU (.c D6 (.c FW (.c FV (.c FU (.c FT (.c FQ (.c FP (.c FO (.c D5 (.c DZ (.c FN (.c FM (.c BP (.c k9 (.c k8 (.c k7 (.c k6 (.c k5 (.c k4 (.c k3 (.c amG (.c amF (.c amE .nil))))))))))))))))))))))))))))))))))
theorem amY:CO 105 [Ω false [1] [1]] (.ret (.bool true)):=fP (iK false [1] [1] (by decide) (by decide)) (by kernel_rfl)
theorem amZ:CO 74 [.agg wI] (.ret (.bool true)):=cK (.c amY (.c KI .nil))
theorem acQ:CO 94 [ω 12] (.ret (.bool false)):=cK (.nil)
theorem ag7:CO 74 [.agg [ω 12,.bool false,.str [],.str [],.str []]] (.ret (.bool true)):=cK (.c Vp (.c acQ .nil))
theorem am0:CO 48 [.sl (aH Fa) 3 true] (.ret (ω 0)):=cK (.c BA (.c N8 (.c ag7 (.c YU (.c qQ (.c XG (.c YV (.c G7 (.c KJ (.c N8 (.c amZ (.c YQ .nil))))))))))))
theorem am1:CO 57 [.sl (aH Fa) 3 true] (.ret (.tup [.str MO,ω 0])):=cK (.c Vp (.c acQ (.c BP (.c BA (.c FX (.c Ub (.c k4 (.c qQ (.c ag5 (.c KI (.c YT (.c KJ (.c am0 .nil)))))))))))))
theorem am2:CO 27 [.str MO] (.ret (.tup [.sl (aH Fa) 3 true,ω 0])):=cK (.c am1 (.c amX .nil))
theorem am3:CO 14 [.sl (aH Fa) 3 true,.sl [.str [120],ω 0,ω 0,.sl zcc4_0 2 true] 1 true,ω 6,.str [97]] (.ret (ω 3)):=ax.args (args:= [.sl (aH Fa) 3 true,.sl [.str [120],ω 0,ω 0,.sl zcc4_0 2 false] 1 true,ω 6,.str [97]]) (.cons (aZ.refl _) (.cons (aZ.slP (.same (.same (.same (.sl .nil))))) (.cons (aZ.refl _) (.cons (aZ.refl _) .nil)))) (fP (dh Fa true sZ true oG 6 [97] (jw (by kernel_rfl)) (by decide) (by decide) (gB)) (by kernel_rfl))
theorem am4:CO 26 [.str MO,.str [97],ω 3] (.ret (.bool true)):=cK (.c am3 (.c Vs (.c am2 .nil)))
theorem am5:ax prog ap 90 [.ptr 0 0 0,.str [36]] (rA MP 1) (.ret (.bool false)) (rA MP 1):=cK (.nil)
theorem am6:ax prog ap 92 [.ptr 0 0 0,.str pI] (rA MP 1) (.ret (.str [100,105,118])) (rA aaY 1):=fP (fV MP pI (1) false (by decide) (by decide)) (by kernel_rfl)
theorem am7:ax prog ap 90 [.ptr 0 0 0,.str [46]] (rA aaY 1) (.ret (.bool false)) (rA aaY 1):=cK (.nil)
theorem am8:ax prog ap 90 [.ptr 0 0 0,.str [40]] (rA aaY 1) (.ret (.bool true)) (rA TU 1):=cK (.nil)
theorem am9:ax prog ap 90 [.ptr 0 0 0,.str [36]] (rA TU 2) (.ret (.bool false)) (rA TU 2):=cK (.nil)
theorem am_:ax prog ap 92 [.ptr 0 0 0,.str pI] (rA TU 2) (.ret (.str [111,119,110])) (rA akq 2):=fP (fV TU pI (2) false (by decide) (by decide)) (by kernel_rfl)
theorem ana:ax prog ap 90 [.ptr 0 0 0,.str [46]] (rA akq 2) (.ret (.bool true)) (rA ae9 2):=cK (.nil)
theorem anb:ax prog ap 92 [.ptr 0 0 0,.str Cj] (rA ae9 2) (.ret (.str [97])) (rA afa 2):=fP (fV ae9 Cj (2) false (by decide) (by decide)) (by kernel_rfl)
theorem anc:ax prog ap 56 [.ptr 0 0 0] (rA TU 1) (.ret (.tup [])) (rB afa 1 2 dQ):=cK (.c qQ (.c qQ (.c FX (.c anb (.c G7 (.c D6 (.c FW (.c FV (.c FU (.c FT (.c FQ (.c FP (.c FO (.c D5 (.c DZ (.c FN (.c FM (.c BP (.c k9 (.c k8 (.c k7 (.c k6 (.c k5 (.c k4 (.c k3 (.c ana (.c am_ (.c am9 .nil))))))))))))))))))))))))))))
theorem ane:ax prog ap 90 [.ptr 0 0 0,.str [44,32]] (rB afa 1 2 dQ) (.ret (.bool true)) (rB [45,50,41] 1 2 dQ):=cK (.nil)
theorem anf:ax prog ap 90 [.ptr 0 0 0,.str [36]] (rB [45,50,41] 1 3 dQ) (.ret (.bool false)) (rB [45,50,41] 1 3 dQ):=cK (.nil)
theorem ang:ax prog ap 92 [.ptr 0 0 0,.str BG] (rB [45,50,41] 1 3 dQ) (.ret (.str [45,50])) (rB [41] 1 3 dQ):=fP (jG [45,50,41] BG (3) false 1 dQ (by decide) (by decide)) (by kernel_rfl)
theorem anh:CO 51 [.bool true,.str [2],.str [1]] (.ret (Ω true [2] [1])):=fP (iW true 2 1 (dG (by decide)) (dG (by decide)) (by decide)) (by kernel_rfl)
theorem ani:CO 96 [.bool true,.str [2],.str [1]] (.ret (.tup [Ω true [2] [1],.bool true])):=cK (.c anh (.c NZ (.c agW .nil)))
theorem anj:CO 70 [Ω true [2] [1]] (.ret (Ω true [2] [1])):=fP (iY true [2] [1] (by decide) (by decide)) (by kernel_rfl)
theorem ag8:CO 95 [Ω true [2] [1]] (.ret (.str [45,50])):=cK (.c Vm (.c Vr (.c agY (.c anj .nil))))
theorem ank:CO 126 [.str [45,50]] (.ret (.tup [Ω true [2] [1],.bool true])):=cK (.c ag8 (.c ani (.c NY (.c agV .nil))))
theorem anl:ax prog ap 91 [.ptr 0 0 0] (rB [45,50,41] 1 3 dQ) (.ret (Ω true [2] [1])) (rB [41] 1 3 dQ):=cK (.c ank (.c ang .nil))
theorem anm:ax prog ap 90 [.ptr 0 0 0,.str [100]] (rB [41] 1 3 dQ) (.ret (.bool false)) (rB [41] 1 3 dQ):=cK (.nil)
theorem ann:ax prog ap 56 [.ptr 0 0 0] (rB [45,50,41] 1 2 dQ) (.ret (.tup [])) [⟨[.str [41],.ref 1 1 0 2,ω 3,.bool false],0,false,0,0,false⟩,⟨aeZ,1,false,0,5,true⟩]:=cK (.c anm (.c anl (.c anf .nil)))
theorem ano:ax prog ap 90 [.ptr 0 0 0,.str [41]] (rB [41] 2 3 aeZ) (.ret (.bool true)) (rB [] 2 3 aeZ):=cK (.nil)
theorem anp:ax prog ap 56 [.ptr 0 0 0] (rA MP 0) (.ret (.tup [])) [⟨[.str [],.ref 1 0 0 3,ω 3,.bool false],0,false,0,0,false⟩,⟨(aH Fb),0,false,0,5,true⟩]:=cK (.c ano (.c BA (.c BA (.c ann (.c ane (.c BA (.c anc (.c am8 (.c BA (.c Vp (.c YU (.c D6 (.c FW (.c FV (.c FU (.c FT (.c FQ (.c FP (.c FO (.c D5 (.c DZ (.c FN (.c FM (.c BP (.c k9 (.c k8 (.c k7 (.c k6 (.c k5 (.c k4 (.c k3 (.c am7 (.c am6 (.c am5 .nil))))))))))))))))))))))))))))))))))
theorem anq:CO 105 [Ω true [2] [1]] (.ret (.bool true)):=fP (iK true [2] [1] (by decide) (by decide)) (by kernel_rfl)
theorem anr:CO 74 [.agg [ω 3,.bool true,.str [2],.str [1],.str []]] (.ret (.bool true)):=cK (.c anq (.c YR .nil))
theorem ant:CO 48 [.sl (aH Fb) 3 true] (.ret (ω 0)):=cK (.c BA (.c N8 (.c ag7 (.c YU (.c YS (.c N8 (.c anr (.c ag0 (.c qQ (.c XG (.c YV (.c G7 .nil))))))))))))
theorem anu:CO 57 [.sl (aH Fb) 3 true] (.ret (.tup [.str MP,ω 0])):=cK (.c Vp (.c acQ (.c BP (.c BA (.c ag8 (.c YR (.c ag2 (.c YS (.c FX (.c Ub (.c k4 (.c qQ (.c ant .nil)))))))))))))
theorem anv:CO 27 [.str MP] (.ret (.tup [.sl (aH Fb) 3 true,ω 0])):=cK (.c anu (.c anp .nil))
theorem anw:CO 14 [.sl (aH Fb) 3 true,.sl [.str [120],ω 0,ω 0,.sl zcc4_0 2 true] 1 true,ω 6,.str [97]] (.ret (ω 2)):=ax.args (args:= [.sl (aH Fb) 3 true,.sl [.str [120],ω 0,ω 0,.sl zcc4_0 2 false] 1 true,ω 6,.str [97]]) (.cons (aZ.refl _) (.cons (aZ.slP (.same (.same (.same (.sl .nil))))) (.cons (aZ.refl _) (.cons (aZ.refl _) .nil)))) (fP (dh Fb true sZ true oG 6 [97] (jw (by kernel_rfl)) (by decide) (by decide) (gB)) (by kernel_rfl))
theorem anx:CO 26 [.str MP,.str [97],ω 2] (.ret (.bool true)):=cK (.c anw (.c Vs (.c anv .nil)))
theorem anz:ax prog ap 90 [.ptr 0 0 0,.str [36]] (rA zs1 1) (.ret (.bool false)) (rA zs1 1):=cK (.nil)
theorem anA:ax prog ap 92 [.ptr 0 0 0,.str pI] (rA zs1 1) (.ret (.str [105,102])) (rA zs3 1):=fP (fV zs1 pI (1) false (by decide) (by decide)) (by kernel_rfl)
theorem anB:ax prog ap 90 [.ptr 0 0 0,.str [46]] (rA zs3 1) (.ret (.bool false)) (rA zs3 1):=cK (.nil)
theorem ag9:CO 32 [ω 15] (.ret (.bool false)):=cK (.nil)
theorem acR:CO 34 [ω 15] (.ret (.bool false)):=cK (.nil)
theorem N7:CO 30 [ω 15] (.ret (ω 3)):=cK (.nil)
theorem anC:ax prog ap 90 [.ptr 0 0 0,.str [40]] (rA zs3 1) (.ret (.bool true)) (rA zs4 1):=cK (.nil)
theorem anD:ax prog ap 90 [.ptr 0 0 0,.str [36]] (rA zs4 2) (.ret (.bool false)) (rA zs4 2):=cK (.nil)
theorem anE:ax prog ap 92 [.ptr 0 0 0,.str pI] (rA zs4 2) (.ret (.str aks)) (rA zs6 2):=fP (fV zs4 pI (2) false (by decide) (by decide)) (by kernel_rfl)
theorem anF:ax prog ap 90 [.ptr 0 0 0,.str [46]] (rA zs6 2) (.ret (.bool false)) (rA zs6 2):=cK (.nil)
theorem ag_:CO 32 [ω 16] (.ret (.bool false)):=cK (.nil)
theorem acS:CO 34 [ω 16] (.ret (.bool false)):=cK (.nil)
theorem RF:CO 30 [ω 16] (.ret (ω 2)):=cK (.nil)
theorem anG:ax prog ap 90 [.ptr 0 0 0,.str [40]] (rA zs6 2) (.ret (.bool true)) (rA zs8 2):=cK (.nil)
theorem anH:ax prog ap 90 [.ptr 0 0 0,.str [36]] (rA zs8 3) (.ret (.bool false)) (rA zs8 3):=cK (.nil)
theorem anI:ax prog ap 92 [.ptr 0 0 0,.str pI] (rA zs8 3) (.ret (.str [111,119,110])) (rA akk 3):=fP (fV zs8 pI (3) false (by decide) (by decide)) (by kernel_rfl)
theorem anJ:ax prog ap 90 [.ptr 0 0 0,.str [46]] (rA akk 3) (.ret (.bool true)) (rA ae0 3):=cK (.nil)
theorem anK:ax prog ap 92 [.ptr 0 0 0,.str Cj] (rA ae0 3) (.ret (.str [97])) (rA ae1 3):=fP (fV ae0 Cj (3) false (by decide) (by decide)) (by kernel_rfl)
theorem anL:ax prog ap 56 [.ptr 0 0 0] (rA zs8 2) (.ret (.tup [])) (rB ae1 1 3 dQ):=cK (.c qQ (.c qQ (.c FX (.c anK (.c G7 (.c D6 (.c FW (.c FV (.c FU (.c FT (.c FQ (.c FP (.c FO (.c D5 (.c DZ (.c FN (.c FM (.c BP (.c k9 (.c k8 (.c k7 (.c k6 (.c k5 (.c k4 (.c k3 (.c anJ (.c anI (.c anH .nil))))))))))))))))))))))))))))
theorem anM:ax prog ap 90 [.ptr 0 0 0,.str [44,32]] (rB ae1 1 3 dQ) (.ret (.bool true)) (rB aaU 1 3 dQ):=cK (.nil)
theorem anN:ax prog ap 90 [.ptr 0 0 0,.str [36]] (rB aaU 1 4 dQ) (.ret (.bool true)) (rB XB 1 4 dQ):=cK (.nil)
theorem anO:ax prog ap 92 [.ptr 0 0 0,.str BG] (rB XB 1 4 dQ) (.ret (.str [51])) (rB TT 1 4 dQ):=fP (jG XB BG (4) false 1 dQ (by decide) (by decide)) (by kernel_rfl)
theorem aha:CO 49 [ω 3] (.ret (.str [3])):=fP (ku 3 (by decide)) (by kernel_rfl)
theorem acT:CO 76 [.str [3]] (.ret (.str [3])):=cK (.nil)
theorem ahb:CO 107 [.str [3]] (.ret (.tup [ω 3,.bool true])):=cK (.c acT .nil)
theorem anP:CO 77 [.str [3],ω 7] (.ret (.tup [ω 3,.bool true])):=cK (.c ahb (.c acT .nil))
theorem anQ:CO 61 [.str [],.str [3]] (.ret (.str [3])):=cK (.c aha (.c anP (.c RD .nil)))
theorem anR:CO 157 [.str [51]] (.ret (.tup [.str [3],.bool true])):=cK (.c anQ (.c aha (.c Vl (.c XH .nil))))
theorem anS:CO 128 [.str [3]] (.ret (.bool true)):=fP (xM [3]) (by kernel_rfl)
theorem anT:CO 51 [.bool false,.str [3],.str [1]] (.ret (Ω false [3] [1])):=fP (iW false 3 1 (dG (by decide)) (dG (by decide)) (by decide)) (by kernel_rfl)
theorem anU:CO 96 [.bool false,.str [3],.str [1]] (.ret (.tup [Ω false [3] [1],.bool true])):=cK (.c anT (.c NZ (.c anS .nil)))
theorem anV:CO 70 [Ω false [3] [1]] (.ret (Ω false [3] [1])):=fP (iY false [3] [1] (by decide) (by decide)) (by kernel_rfl)
theorem anW:CO 81 [.str [3],.str [10]] (.ret (.tup [.str [],.str [3],.bool true])):=fP (rY [3] [10] (by decide) (by decide) (by decide)) (by kernel_rfl)
theorem anX:CO 127 [.str [3]] (.ret (.str [51])):=cK (.c ahb (.c anW (.c XH (.c acT .nil))))
theorem ahc:CO 95 [Ω false [3] [1]] (.ret (.str [51])):=cK (.c Vm (.c Vr (.c anX (.c anV .nil))))
theorem anY:CO 126 [.str [51]] (.ret (.tup [Ω false [3] [1],.bool true])):=cK (.c ahc (.c anU (.c NY (.c anR .nil))))
theorem anZ:ax prog ap 91 [.ptr 0 0 0] (rB XB 1 4 dQ) (.ret (Ω false [3] [1])) (rB TT 1 4 dQ):=cK (.c anY (.c anO .nil))
theorem ahd:aI prog ap (rB aaU 1 3 dQ) 206 (EW 5 (af f56)) ⟨([(0,.ptr 0 0 0),(2,.bool true)]++dE [3,4,5,6,7,8,9,10,11,12,13,14,15]++ [(41,.bool false),(47,.bool true)]++dE [65,70,100,102,117,122,128,133,139,145,158,166,170,175,184,188,192]),[(0,⟨[.str XB,.ref 1 0 0 1,ω 4,.bool false],0,false,0,0,false⟩),(1,⟨dQ,0,false,0,5,true⟩)],.dead,[]⟩ (.normal) ⟨([(0,.ptr 0 0 0),(2,.bool true)]++dE [3,4,5,6,7,8,9,10,11,12,13,14,15]++ [(41,.bool false),(47,.bool true)]++dE [65,70,100,102,117,122,128,133,139,145,158,166,170,175,184,188,192]),[(0,⟨[.str TT,.ref 1 1 0 2,ω 4,.bool false],0,false,0,0,false⟩),(1,⟨zo9,1,false,0,5,true⟩)],.dead,[]⟩:=fun nt a=>Cb IU (keep:=uw ap 56) (i:=4) (b:=0) (d:=52) (nt0:=206) (ans:= [(.ret (Ω false [3] [1]),(rB TT 1 4 dQ))]) (.cons (rfl:(.ref 1 0 0 1:AV)=(.ref 1 0 0 1:AV)) (.cons (rfl:(.ref 1 0 0 1:AV)=(.ref 1 0 0 1:AV)) (.cons anZ .nil))) a (by kernel_rfl)
theorem an0:ax prog ap 56 [.ptr 0 0 0] (rB aaU 1 3 dQ) (.ret (.tup [])) [⟨[.str TT,.ref 1 1 0 2,ω 4,.bool false],0,false,0,0,false⟩,⟨zo9,1,false,0,5,true⟩]:=pK [1005] 4 8 (.n 9 .nil) (.l ahd (.c anN .nil))
theorem an1:ax prog ap 90 [.ptr 0 0 0,.str [41]] (rB TT 2 4 zo9) (.ret (.bool true)) (rB ae2 2 4 zo9):=cK (.nil)
theorem an2:ax prog ap 56 [.ptr 0 0 0] (rA zs4 1) (.ret (.tup [])) (rB ae2 3 4 QO):=cK (.c an1 (.c RF (.c RF (.c an0 (.c anM (.c RF (.c anL (.c anG (.c RF (.c acS (.c ag_ (.c D6 (.c FW (.c FV (.c FU (.c FT (.c FQ (.c FP (.c FO (.c D5 (.c DZ (.c FN (.c FM (.c BP (.c k9 (.c k8 (.c k7 (.c k6 (.c k5 (.c k4 (.c k3 (.c anF (.c anE (.c anD .nil))))))))))))))))))))))))))))))))))
theorem an3:ax prog ap 90 [.ptr 0 0 0,.str [44,32]] (rB ae2 3 4 QO) (.ret (.bool true)) (rB TV 3 4 QO):=cK (.nil)
theorem an4:ax prog ap 90 [.ptr 0 0 0,.str [36]] (rB TV 3 5 QO) (.ret (.bool false)) (rB TV 3 5 QO):=cK (.nil)
theorem an5:ax prog ap 92 [.ptr 0 0 0,.str pI] (rB TV 3 5 QO) (.ret (.str [111,119,110])) (rB akr 3 5 QO):=fP (jG TV pI (5) false 3 QO (by decide) (by decide)) (by kernel_rfl)
theorem an6:ax prog ap 90 [.ptr 0 0 0,.str [46]] (rB akr 3 5 QO) (.ret (.bool true)) (rB ae_ 3 5 QO):=cK (.nil)
theorem an7:ax prog ap 92 [.ptr 0 0 0,.str Cj] (rB ae_ 3 5 QO) (.ret (.str [98])) (rB afb 3 5 QO):=fP (jG ae_ Cj (5) false 3 QO (by decide) (by decide)) (by kernel_rfl)
theorem an8:ax prog ap 56 [.ptr 0 0 0] (rB TV 3 4 QO) (.ret (.tup [])) [⟨[.str afb,.ref 1 1 0 4,ω 5,.bool false],0,false,0,0,false⟩,⟨QN,1,false,0,5,true⟩]:=cK (.c qQ (.c qQ (.c FX (.c an7 (.c G7 (.c D6 (.c FW (.c FV (.c FU (.c FT (.c FQ (.c FP (.c FO (.c D5 (.c DZ (.c FN (.c FM (.c BP (.c k9 (.c k8 (.c k7 (.c k6 (.c k5 (.c k4 (.c k3 (.c an6 (.c an5 (.c an4 .nil))))))))))))))))))))))))))))
theorem an9:ax prog ap 90 [.ptr 0 0 0,.str [44,32]] (rB afb 4 5 QN) (.ret (.bool true)) (rB [36,48,41] 4 5 QN):=cK (.nil)
theorem an_:ax prog ap 90 [.ptr 0 0 0,.str [36]] (rB [36,48,41] 4 6 QN) (.ret (.bool true)) (rB [48,41] 4 6 QN):=cK (.nil)
theorem aoa:ax prog ap 92 [.ptr 0 0 0,.str BG] (rB [48,41] 4 6 QN) (.ret (.str [48])) (rB [41] 4 6 QN):=fP (jG [48,41] BG (6) false 4 QN (by decide) (by decide)) (by kernel_rfl)
theorem aob:CO 61 [.str [],.str []] (.ret (.str [])):=cK (.c YN (.c RD (.c RD .nil)))
theorem aoc:CO 157 [.str [48]] (.ret (.tup [.str [],.bool true])):=cK (.c aob (.c YN (.c Vl (.c XH .nil))))
theorem aod:CO 128 [.str []] (.ret (.bool true)):=fP (xM []) (by kernel_rfl)
theorem aoe:CO 51 [.bool false,.str [],.str [1]] (.ret (Ω false [] [1])):=fP (iW false 0 1 (dG (by decide)) (dG (by decide)) (by decide)) (by kernel_rfl)
theorem aof:CO 96 [.bool false,.str [],.str [1]] (.ret (.tup [Ω false [] [1],.bool true])):=cK (.c aoe (.c NZ (.c aod .nil)))
theorem aog:CO 70 [Ω false [] [1]] (.ret (Ω false [] [1])):=fP (iY false [] [1] (by decide) (by decide)) (by kernel_rfl)
theorem aoh:CO 127 [.str []] (.ret (.str [48])):=cK (.c YM .nil)
theorem ahe:CO 95 [Ω false [] [1]] (.ret (.str [48])):=cK (.c Vm (.c Vr (.c aoh (.c aog .nil))))
theorem aoi:CO 126 [.str [48]] (.ret (.tup [Ω false [] [1],.bool true])):=cK (.c ahe (.c aof (.c NY (.c aoc .nil))))
theorem aoj:ax prog ap 91 [.ptr 0 0 0] (rB [48,41] 4 6 QN) (.ret (Ω false [] [1])) (rB [41] 4 6 QN):=cK (.c aoi (.c aoa .nil))
theorem ahf:aI prog ap (rB [36,48,41] 4 5 QN) 206 (EW 5 (af f56)) ⟨([(0,.ptr 0 0 0),(2,.bool true)]++dE [3,4,5,6,7,8,9,10,11,12,13,14,15]++ [(41,.bool false),(47,.bool true)]++dE [65,70,100,102,117,122,128,133,139,145,158,166,170,175,184,188,192]),[(0,⟨[.str [48,41],.ref 1 0 0 4,ω 6,.bool false],0,false,0,0,false⟩),(1,⟨QN,0,false,0,5,true⟩)],.dead,[]⟩ (.normal) ⟨([(0,.ptr 0 0 0),(2,.bool true)]++dE [3,4,5,6,7,8,9,10,11,12,13,14,15]++ [(41,.bool false),(47,.bool true)]++dE [65,70,100,102,117,122,128,133,139,145,158,166,170,175,184,188,192]),[(0,⟨[.str [41],.ref 1 1 0 5,ω 6,.bool false],0,false,0,0,false⟩),(1,⟨zo0,1,false,0,5,true⟩)],.dead,[]⟩:=fun nt a=>Cb IU (keep:=uw ap 56) (i:=4) (b:=0) (d:=52) (nt0:=206) (ans:= [(.ret (Ω false [] [1]),(rB [41] 4 6 QN))]) (.cons (rfl:(.ref 1 0 0 4:AV)=(.ref 1 0 0 4:AV)) (.cons (rfl:(.ref 1 0 0 4:AV)=(.ref 1 0 0 4:AV)) (.cons aoj .nil))) a (by kernel_rfl)
theorem aok:ax prog ap 56 [.ptr 0 0 0] (rB [36,48,41] 4 5 QN) (.ret (.tup [])) [⟨[.str [41],.ref 1 1 0 5,ω 6,.bool false],0,false,0,0,false⟩,⟨zo0,1,false,0,5,true⟩]:=pK [1005] 4 8 (.n 9 .nil) (.l ahf (.c an_ .nil))
theorem aol:ax prog ap 90 [.ptr 0 0 0,.str [41]] (rB [41] 5 6 zo0) (.ret (.bool true)) (rB [] 5 6 zo0):=cK (.nil)
theorem aom:ax prog ap 56 [.ptr 0 0 0] (rA zs1 0) (.ret (.tup [])) [⟨[.str [],.ref 1 0 0 6,ω 6,.bool false],0,false,0,0,false⟩,⟨(aH wV),0,false,0,5,true⟩]:=cK (.c aol (.c N7 (.c N7 (.c aok (.c an9 (.c N7 (.c an8 (.c an3 (.c N7 (.c an2 (.c anC (.c N7 (.c acR (.c ag9 (.c D6 (.c FW (.c FV (.c FU (.c FT (.c FQ (.c FP (.c FO (.c D5 (.c DZ (.c FN (.c FM (.c BP (.c k9 (.c k8 (.c k7 (.c k6 (.c k5 (.c k4 (.c k3 (.c anB (.c anA (.c anz .nil)))))))))))))))))))))))))))))))))))))
theorem aon:CO 105 [Ω false [3] [1]] (.ret (.bool true)):=fP (iK false [3] [1] (by decide) (by decide)) (by kernel_rfl)
theorem aoo:CO 74 [.agg [ω 1,.bool false,.str [3],.str [1],.str []]] (.ret (.bool true)):=cK (.c aon (.c KI .nil))
theorem ahg:CO 94 [ω 16] (.ret (.bool false)):=cK (.nil)
theorem aop:CO 74 [.agg [ω 16,.bool false,.str [],.str [],.str []]] (.ret (.bool true)):=cK (.c acS (.c ahg .nil))
theorem aoq:CO 74 [.agg [ω 6,.bool false,.str [],.str [],.str [98]]] (.ret (.bool true)):=cK (.c FX (.c Ub .nil))
theorem aor:CO 105 [Ω false [] [1]] (.ret (.bool true)):=fP (iK false [] [1] (by decide) (by decide)) (by kernel_rfl)
theorem aos:CO 74 [.agg [ω 1,.bool false,.str [],.str [1],.str []]] (.ret (.bool true)):=cK (.c aor (.c KI .nil))
theorem ahh:CO 94 [ω 15] (.ret (.bool false)):=cK (.nil)
theorem aot:CO 74 [.agg [ω 15,.bool false,.str [],.str [],.str []]] (.ret (.bool true)):=cK (.c acR (.c ahh .nil))
theorem aou:CO 48 [.sl (aH wV) 6 true] (.ret (ω 0)):=cK (.c N7 (.c N8 (.c aot (.c ag9 (.c KJ (.c N8 (.c aos (.c YQ (.c qQ (.c ag3 (.c aoq (.c G7 (.c RF (.c N8 (.c aop (.c ag_ (.c KJ (.c N8 (.c aoo (.c YQ (.c qQ (.c XG (.c YV (.c G7 .nil))))))))))))))))))))))))
theorem aov:CO 57 [.sl (aH wV) 6 true] (.ret (.tup [.str zs1,ω 0])):=cK (.c acR (.c ahh (.c DZ (.c N7 (.c ahe (.c KI (.c YT (.c KJ (.c FX (.c Ub (.c k4 (.c qQ (.c acS (.c ahg (.c D5 (.c RF (.c ahc (.c KI (.c YT (.c KJ (.c FX (.c Ub (.c k4 (.c qQ (.c aou .nil)))))))))))))))))))))))))
theorem ahi:CO 27 [.str zs1] (.ret (.tup [.sl (aH wV) 6 true,ω 0])):=cK (.c aov (.c aom .nil))
theorem aow:CO 14 [.sl (aH wV) 6 true,.sl [.str [120],ω 0,ω 0,.sl zcc4_0 2 true] 1 true,ω 6,.str [97]] (.ret (ω 3)):=ax.args (args:= [.sl (aH wV) 6 true,.sl [.str [120],ω 0,ω 0,.sl zcc4_0 2 false] 1 true,ω 6,.str [97]]) (.cons (aZ.refl _) (.cons (aZ.slP (.same (.same (.same (.sl .nil))))) (.cons (aZ.refl _) (.cons (aZ.refl _) .nil)))) (fP (dh wV true sZ true oG 6 [97] (jw (by kernel_rfl)) (by decide) (by decide) (gB)) (by kernel_rfl))
theorem aox:CO 26 [.str zs1,.str [97],ω 3] (.ret (.bool true)):=cK (.c aow (.c Vs (.c ahi .nil)))
theorem aoy:CO 14 [.sl (aH wV) 6 true,.sl [.str [120],ω 0,ω 0,.sl zcc4_0 2 true] 1 true,ω 6,.str [98]] (.ret (ω 1)):=ax.args (args:= [.sl (aH wV) 6 true,.sl [.str [120],ω 0,ω 0,.sl zcc4_0 2 false] 1 true,ω 6,.str [98]]) (.cons (aZ.refl _) (.cons (aZ.slP (.same (.same (.same (.sl .nil))))) (.cons (aZ.refl _) (.cons (aZ.refl _) .nil)))) (fP (dh wV true sZ true oG 6 [98] (jw (by kernel_rfl)) (by decide) (by decide) (gB)) (by kernel_rfl))
theorem aoz:CO 26 [.str zs1,.str [98],ω 1] (.ret (.bool true)):=cK (.c aoy (.c Vs (.c ahi .nil)))
theorem aoA:ax prog ap 90 [.ptr 0 0 0,.str [36]] (rA MQ 1) (.ret (.bool false)) (rA MQ 1):=cK (.nil)
theorem aoB:ax prog ap 92 [.ptr 0 0 0,.str pI] (rA MQ 1) (.ret (.str [114,97,116,101])) (rA ako 1):=fP (fV MQ pI (1) false (by decide) (by decide)) (by kernel_rfl)
theorem aoC:ax prog ap 90 [.ptr 0 0 0,.str [46]] (rA ako 1) (.ret (.bool true)) (rA ae8 1):=cK (.nil)
theorem ahj:CO 32 [ω 24] (.ret (.bool true)):=cK (.nil)
theorem aoD:ax prog ap 92 [.ptr 0 0 0,.str Cj] (rA ae8 1) (.ret (.str [120])) (rA akp 1):=fP (fV ae8 Cj (1) false (by decide) (by decide)) (by kernel_rfl)
theorem acU:CO 34 [ω 24] (.ret (.bool false)):=cK (.nil)
theorem Vq:CO 30 [ω 24] (.ret (ω 1)):=cK (.nil)
theorem aoE:ax prog ap 90 [.ptr 0 0 0,.str [40]] (rA akp 1) (.ret (.bool true)) (rA tH 1):=cK (.nil)
theorem aoF:ax prog ap 90 [.ptr 0 0 0,.str [36]] (rA tH 2) (.ret (.bool false)) (rA tH 2):=cK (.nil)
theorem aoG:ax prog ap 92 [.ptr 0 0 0,.str pI] (rA tH 2) (.ret (.str [111,119,110])) (rA [46,97,41] 2):=fP (fV tH pI (2) false (by decide) (by decide)) (by kernel_rfl)
theorem aoH:ax prog ap 90 [.ptr 0 0 0,.str [46]] (rA [46,97,41] 2) (.ret (.bool true)) (rA [97,41] 2):=cK (.nil)
theorem aoI:ax prog ap 92 [.ptr 0 0 0,.str Cj] (rA [97,41] 2) (.ret (.str [97])) (rA [41] 2):=fP (fV [97,41] Cj (2) false (by decide) (by decide)) (by kernel_rfl)
theorem aoJ:ax prog ap 56 [.ptr 0 0 0] (rA tH 1) (.ret (.tup [])) (rB [41] 1 2 dQ):=cK (.c qQ (.c qQ (.c FX (.c aoI (.c G7 (.c D6 (.c FW (.c FV (.c FU (.c FT (.c FQ (.c FP (.c FO (.c D5 (.c DZ (.c FN (.c FM (.c BP (.c k9 (.c k8 (.c k7 (.c k6 (.c k5 (.c k4 (.c k3 (.c aoH (.c aoG (.c aoF .nil))))))))))))))))))))))))))))
theorem aoK:ax prog ap 90 [.ptr 0 0 0,.str [41]] (rB [41] 1 2 dQ) (.ret (.bool true)) (rB [] 1 2 dQ):=cK (.nil)
theorem aoL:ax prog ap 56 [.ptr 0 0 0] (rA MQ 0) (.ret (.tup [])) [⟨[.str [],.ref 1 0 0 2,ω 2,.bool false],0,false,0,0,false⟩,⟨(aH mV),0,false,0,5,true⟩]:=cK (.c aoK (.c Vq (.c Vq (.c aoJ (.c aoE (.c Vq (.c acU (.c aoD (.c ahj (.c D6 (.c FW (.c FV (.c FU (.c FT (.c FQ (.c FP (.c FO (.c D5 (.c DZ (.c FN (.c FM (.c BP (.c k9 (.c k8 (.c k7 (.c k6 (.c k5 (.c k4 (.c k3 (.c aoC (.c aoB (.c aoA .nil))))))))))))))))))))))))))))))))
theorem ahk:CO 94 [ω 24] (.ret (.bool false)):=cK (.nil)
theorem aoM:CO 74 [.agg [ω 24,.bool false,.str [],.str [],.str [120]]] (.ret (.bool true)):=cK (.c acU (.c ahk .nil))
theorem aoN:CO 75 [.str [120]] (.ret (.bool true)):=cK (.nil)
theorem aoO:CO 48 [.sl (aH mV) 2 true] (.ret (ω 0)):=cK (.c Vq (.c aoN (.c aoM (.c ahj (.c qQ (.c XG (.c YV (.c G7 .nil))))))))
theorem aoP:CO 57 [.sl (aH mV) 2 true] (.ret (.tup [.str MQ,ω 0])):=cK (.c acU (.c ahk (.c D6 (.c Vq (.c FX (.c Ub (.c k4 (.c qQ (.c aoO .nil)))))))))
theorem ahl:CO 27 [.str MQ] (.ret (.tup [.sl (aH mV) 2 true,ω 0])):=cK (.c aoP (.c aoL .nil))
theorem aoQ:CO 14 [.sl (aH mV) 2 true,.sl [.str [120],ω 0,ω 0,.sl zcc4_0 2 true] 1 true,ω 6,.str [97]] (.ret (ω 1)):=ax.args (args:= [.sl (aH mV) 2 true,.sl [.str [120],ω 0,ω 0,.sl zcc4_0 2 false] 1 true,ω 6,.str [97]]) (.cons (aZ.refl _) (.cons (aZ.slP (.same (.same (.same (.sl .nil))))) (.cons (aZ.refl _) (.cons (aZ.refl _) .nil)))) (fP (dh mV true sZ true oG 6 [97] (jw (by kernel_rfl)) (by decide) (by decide) (gB)) (by kernel_rfl))
theorem aoR:CO 26 [.str MQ,.str [97],ω 1] (.ret (.bool true)):=cK (.c aoQ (.c Vs (.c ahl .nil)))
theorem aoS:CO 36 [ω (-1)] (.ret (Ω true [1] [1])):=cK (.c Vr (.c agQ (.c Vr (.c YN .nil))))
theorem aoT:CO 70 [Ω true [1] [1]] (.ret (Ω true [1] [1])):=fP (iY true [1] [1] (by decide) (by decide)) (by kernel_rfl)
theorem aoU:CO 51 [.bool true,.str [1],.str [5]] (.ret (Ω true [1] [5])):=fP (iW true 1 5 (dG (by decide)) (dG (by decide)) (by decide)) (by kernel_rfl)
theorem aoV:CO 58 [Ω true [1] [1],Ω false [5] [1]] (.ret (.tup [Ω true [1] [5],.bool true])):=cK (.c aoU (.c k80 (.c k66 (.c k75 (.c aoT .nil)))))
theorem aoW:CO 28 [ω (-1)] (.ret (.sl [.str [120],ω 0,ω 0,.sl zcc4_1 2 true] 1 true)):=cK (.c k74 (.c k83 (.c aoV (.c k74 (.c aoS (.c k73 (.c k58 (.c k57 .nil))))))))
theorem aoX:CO 14 [.sl (aH mV) 2 true,.sl [.str [120],ω 0,ω 0,.sl zcc4_1 2 true] 1 true,ω 6,.str [97]] (.ret (ω 3)):=ax.args (args:= [.sl (aH mV) 2 true,.sl [.str [120],ω 0,ω 0,.sl zcc4_1 2 false] 1 true,ω 6,.str [97]]) (.cons (aZ.refl _) (.cons (aZ.slP (.same (.same (.same (.sl .nil))))) (.cons (aZ.refl _) (.cons (aZ.refl _) .nil)))) (fP (dh mV true abz true oG 6 [97] (jw (by kernel_rfl)) (by decide) (by decide) (OM)) (by kernel_rfl))
theorem aoY:CO 14 [.sl (aH mV) 2 true,.nilS,ω 6,.str [97]] (.ret (ω 3)):=ax.args (args:= [.sl (aH mV) 2 true,.sl [] 0 false,ω 6,.str [97]]) (.cons (aZ.refl _) (.cons (aZ.nilS false rfl) (.cons (aZ.refl _) (.cons (aZ.refl _) .nil)))) (fP (dh mV true [] false oG 6 [97] (jw (by kernel_rfl)) (by decide) (by decide) (uU)) (by kernel_rfl))
theorem aoZ:CO 14 [.sl (aH mQ) 3 true,.nilS,ω 5,.str [98]] (.ret (ω 3)):=ax.args (args:= [.sl (aH mQ) 3 true,.sl [] 0 false,ω 5,.str [98]]) (.cons (aZ.refl _) (.cons (aZ.nilS false rfl) (.cons (aZ.refl _) (.cons (aZ.refl _) .nil)))) (fP (dh mQ true [] false oG 5 [98] (jw (by kernel_rfl)) (by decide) (by decide) (uU)) (by kernel_rfl))
theorem ao0:CO 17 [.sl (aH mV) 2 true,.sl [.str [120],ω 0,ω 0,.sl zcc4_0 2 true] 1 true,.sl [.str [97],.str [98]] 2 true] (.ret (.bool true)):=ax.args (args:= [.sl (aH mV) 2 true,.sl [.str [120],ω 0,ω 0,.sl zcc4_0 2 false] 1 true,.sl [.str [97],.str [98]] 2 true]) (.cons (aZ.refl _) (.cons (aZ.slP (.same (.same (.same (.sl .nil))))) (.cons (aZ.refl _) .nil))) (fP (lL mV true sZ true oG [[97],[98]] true (jw (by kernel_rfl)) (by decide) (by decide) (gB) (by decide)) (by kernel_rfl))
theorem ao1:CO 17 [.sl (aH mQ) 3 true,.nilS,.sl [.str [97]] 1 true] (.ret (.bool false)):=ax.args (args:= [.sl (aH mQ) 3 true,.sl [] 0 false,.sl [.str [97]] 1 true]) (.cons (aZ.refl _) (.cons (aZ.nilS false rfl) (.cons (aZ.refl _) .nil))) (fP (lL mQ true [] false oG [[97]] true (jw (by kernel_rfl)) (by decide) (by decide) (uU) (by decide)) (by kernel_rfl))
theorem ao2:CO 17 [.sl (aH mQ) 3 true,.nilS,.sl [.str [98]] 1 true] (.ret (.bool true)):=ax.args (args:= [.sl (aH mQ) 3 true,.sl [] 0 false,.sl [.str [98]] 1 true]) (.cons (aZ.refl _) (.cons (aZ.nilS false rfl) (.cons (aZ.refl _) .nil))) (fP (lL mQ true [] false oG [[98]] true (jw (by kernel_rfl)) (by decide) (by decide) (uU) (by decide)) (by kernel_rfl))
theorem ao3:CO 17 [.nilS,.nilS,.nilS] (.ret (.bool false)):=ax.args (args:= [.sl [] 0 false,.sl [] 0 false,.sl [] 0 false]) (.cons (aZ.nilS false rfl) (.cons (aZ.nilS false rfl) (.cons (aZ.nilS false rfl) .nil))) (fP (lL [] false [] false oG [] false (jw (by kernel_rfl)) (by decide) (by decide) (uU) (by decide)) (by kernel_rfl))
theorem ao4:CO 10 [] (.ret (.bool true)):=cK (.c ao3 (.c ao2 (.c ao1 (.c ao0 (.c Vs (.c aoZ (.c aoY (.c aoX (.c aoW (.c ag4 (.c ahl (.c aoR (.c aoz (.c aox (.c anx (.c am4 (.c amD (.c amf (.c ali (.c k88 (.c k86 .nil)))))))))))))))))))))
theorem H8:CO 10 [] (.ret (.bool true)):=ao4
theorem sV (k:Nat) (s:List UInt8):ω (if (k:Int)<(s.length:Int) then (k:Int) else (s.length:Int))= ω ((min k s.length:Nat):Int):=by
 congr 1;split<;>omega
theorem sQ (k:Nat) (s:List UInt8):Xzq (ε 0 (μ (δ ((min k s.length:Nat):Int)) s))= .str (s.take k):=by
 rw [Xx7,aA];congr 1;rcases Nat.le_total k s.length with h|h
 ·rw [Nat.min_eq_left h]
 ·rw [Nat.min_eq_right h,Xqd (Θ _),Xqd h]
theorem wkR {i:Nat} (h:i<2^62):ω (γ .i64 ((i:Int)+((1:Nat):Int)))= ω ((i+1:Nat):Int):=by
 have e:γ .i64 ((i:Int)+((1:Nat):Int))=((i+1:Nat):Int):=by rw [dL]<;>omega
 rw [e]
theorem dF {k n:Nat} (h:n≤k):decide ((k:Int)<(n:Int))=false:=Yq1 (by omega)
def F9 (x:Nd):Nd:=⟨x.op,x.neg,x.num.take 60,x.den.take 60,x.name.take 30⟩
theorem VQ (own:List Nd) (x:Nd):μ (own.length*5) (aH own)++ [ω x.op,.bool x.neg,.str (μ 60 x.num),.str (μ 60 x.den),.str (μ 30 x.name)]=aH (own++ [F9 x]):=by
 rw [Xqd (by rw [BX];omega),Qa];simp [aH,iE,F9]
theorem af_ {nt:Nat} (d:55≤nt) (a:List Nd) (c:Bool) (k:Nat) (x:Nd) (r:List Nd) (e:ω (γ .i64 ((k:Int)+((1:Nat):Int)))= ω ((k+1:Nat):Int)) (b:(ε ((δ (k:Int))*5) (aH a))=iE x++aH r) (h0:(decide (((0:Nat):Int)≤(((min 60 x.den.length):Nat):Int)))=true) (j:(decide ((((min 60 x.den.length):Nat):Int)≤(((ζ x.den):Nat):Int)))=true) (i:(decide (((0:Nat):Int)≤(((min 60 x.num.length):Nat):Int)))=true) (l:(decide ((((min 60 x.num.length):Nat):Int)≤(((ζ x.num):Nat):Int)))=true) (m:(decide (((0:Nat):Int)≤(((min 30 x.name.length):Nat):Int)))=true) (o:(decide ((((min 30 x.name.length):Nat):Int)≤(((ζ x.name):Nat):Int)))=true) (g:(decide (((0:Nat):Int)≤(k:Int)))=true) (n:(decide ((k:Int)<(a.length:Int)))=true) (f:lit true (decide ((k:Int)<((64:Nat):Int)))=true) (h:lit true (decide ((k:Int)<(a.length:Int)))=true):ψ nt f16 ⟨[(0,.sl (aH a) a.length c),(3,.nilS),(4,ω (k:Int))],[],.dead,[]⟩ (.normal) ⟨[(0,.sl (aH a) a.length c),(3,.ref 0 0 0 1),(4,ω (((k+1):Nat):Int))],[(0,⟨[ω x.op,.bool x.neg,.str (μ 60 x.num),.str (μ 60 x.den),.str (μ 30 x.name)],0,false,0,5,true⟩)],.dead,[]⟩:=pN 16 [] 3 3 (.k 10 h0 (.c j (.k 4 i (.c l (.k 4 m (.c o (.k 8 g (.c n (.c f (.c h .nil)))))))))) (.v 15 (.eq e) (.v 47 (.eq (sQ 60 x.den)) (.v 46 (.eq (sV 60 x.den)) (.v 36 (.eq (sQ 60 x.num)) (.v 35 (.eq (sV 60 x.num)) (.v 26 (.eq (sQ 30 x.name)) (.v 25 (.eq (sV 30 x.name)) (.v 18 (.ppt b) .nil)))))))) d
theorem aga {nt:Nat} (b:55≤nt) (a:List Nd) (c:Bool) (k:Nat) (h0:lit false (decide ((k:Int)<((64:Nat):Int)))=true) (d:lit true (decide ((k:Int)<(a.length:Int)))=true):ψ nt f16 ⟨[(0,.sl (aH a) a.length c),(3,.nilS),(4,ω (k:Int))],[],.dead,[]⟩ (.exit 0) ⟨[(3,.nilS)],[],.dead,[]⟩:=pN 16 [] 2 1 (.c h0 (.c d .nil)) (.nil) b
theorem agb {nt:Nat} (b:55≤nt) (a:List Nd) (c:Bool) (k:Nat) (h0:lit false (decide ((k:Int)<(a.length:Int)))=true):ψ nt f16 ⟨[(0,.sl (aH a) a.length c),(3,.nilS),(4,ω (k:Int))],[],.dead,[]⟩ (.exit 0) ⟨[(3,.nilS)],[],.dead,[]⟩:=pN 16 [] 2 0 (.k 1 h0 .nil) (.nil) b
theorem af5 {nt:Nat} (f:55≤nt) (a cs:List Nd) (e:Bool) (k:Nat) (x:Nd) (r:List Nd) (g:ω (γ .i64 ((k:Int)+((1:Nat):Int)))= ω ((k+1:Nat):Int)) (c:(ε ((δ (k:Int))*5) (aH a))=iE x++aH r) (h0:(Ξ (cs.length+1) 1099511627776)=true) (m:(Ξ (cs.length*5) (ζ (aH cs)))=true) (l:(decide (((0:Nat):Int)≤(((min 60 x.den.length):Nat):Int)))=true) (n:(decide ((((min 60 x.den.length):Nat):Int)≤(((ζ x.den):Nat):Int)))=true) (o:(decide (((0:Nat):Int)≤(((min 60 x.num.length):Nat):Int)))=true) (q:(decide ((((min 60 x.num.length):Nat):Int)≤(((ζ x.num):Nat):Int)))=true) (i:(decide (((0:Nat):Int)≤(((min 30 x.name.length):Nat):Int)))=true) (p:(decide ((((min 30 x.name.length):Nat):Int)≤(((ζ x.name):Nat):Int)))=true) (h:(decide (((0:Nat):Int)≤(k:Int)))=true) (j:(decide ((k:Int)<(a.length:Int)))=true) (d:lit true (decide ((k:Int)<((64:Nat):Int)))=true) (b:lit true (decide ((k:Int)<(a.length:Int)))=true):ψ nt f16 ⟨[(0,.sl (aH a) a.length e),(3,.ref 0 0 0 cs.length),(4,ω (k:Int))],[(0,⟨(aH cs),0,false,0,5,true⟩)],.dead,[]⟩ (.normal) ⟨[(0,.sl (aH a) a.length e),(3,.ref 0 0 0 (cs.length+1)),(4,ω (((k+1):Nat):Int))],[(0,⟨(aH (cs++ [F9 x])),0,false,0,5,true⟩)],.dead,[]⟩:=pN 16 [] 2 3 (.k 1 h0 (.c m (.k 8 l (.c n (.k 4 o (.c q (.k 4 i (.c p (.k 8 h (.c j (.c d (.c b .nil)))))))))))) (.v 15 (.eq g) (.b 53 (VQ cs x) (.v 47 (.eq (sQ 60 x.den)) (.v 46 (.eq (sV 60 x.den)) (.v 36 (.eq (sQ 60 x.num)) (.v 35 (.eq (sV 60 x.num)) (.v 26 (.eq (sQ 30 x.name)) (.v 25 (.eq (sV 30 x.name)) (.v 18 (.ppt c) .nil))))))))) f
theorem af6 {nt:Nat} (b:55≤nt) (a cs:List Nd) (c:Bool) (k:Nat) (h0:lit false (decide ((k:Int)<((64:Nat):Int)))=true) (d:lit true (decide ((k:Int)<(a.length:Int)))=true):ψ nt f16 ⟨[(0,.sl (aH a) a.length c),(3,.ref 0 0 0 cs.length),(4,ω (k:Int))],[(0,⟨(aH cs),0,false,0,5,true⟩)],.dead,[]⟩ (.exit 0) ⟨[(3,.ref 0 0 0 cs.length)],[(0,⟨(aH cs),0,false,0,5,true⟩)],.dead,[]⟩:=pN 16 [] 2 1 (.c h0 (.c d .nil)) (.nil) b
theorem af7 {nt:Nat} (b:55≤nt) (a cs:List Nd) (c:Bool) (k:Nat) (h0:lit false (decide ((k:Int)<(a.length:Int)))=true):ψ nt f16 ⟨[(0,.sl (aH a) a.length c),(3,.ref 0 0 0 cs.length),(4,ω (k:Int))],[(0,⟨(aH cs),0,false,0,5,true⟩)],.dead,[]⟩ (.exit 0) ⟨[(3,.ref 0 0 0 cs.length)],[(0,⟨(aH cs),0,false,0,5,true⟩)],.dead,[]⟩:=pN 16 [] 2 0 (.k 1 h0 .nil) (.nil) b
theorem af8 (a:List Nd) (b:Bool) (c:aI prog ap [] 55 (.block 0 (.loop (ae 0 (af f16)))) ⟨[(0,.sl (aH a) a.length b),(2,.nilS),(3,.nilS),(4,ω 0),(5,.dead),(13,.dead)],[],.dead,[]⟩ (.normal) ⟨[(3,.nilS)],[],.dead,[]⟩):CO 16 [.sl (aH a) a.length b] (.ret (.nilS)):=pK [0] 0 0 .nil (.l c .nil)
theorem af9 (a cs:List Nd) (b:Bool) (c:aI prog ap [] 55 (.block 0 (.loop (ae 0 (af f16)))) ⟨[(0,.sl (aH a) a.length b),(2,.nilS),(3,.nilS),(4,ω 0),(5,.dead),(13,.dead)],[],.dead,[]⟩ (.normal) ⟨[(3,.ref 0 0 0 cs.length)],[(0,⟨(aH cs),0,false,0,5,true⟩)],.dead,[]⟩):CO 16 [.sl (aH a) a.length b] (.ret (.own (μ (cs.length*5) (aH cs)) cs.length 5)):=pK [0] 0 0 .nil (.l c .nil)
def xq (ns:List Nd):List Nd:=(ns.take 64).map F9
theorem r_ {α:Type} {a p r:List α} {x:α} {n:Nat} (h:a.take n=p++x::r):a=p++x::(r++a.drop n)∧p.length<n∧p.length<a.length:=by
 have b:=List.take_append_drop n a;rw [h] at b;have c:(a.take n).length=p.length+(r.length+1):=by rw [h];simp
 rw [Xqq] at c;exact ⟨by have d:=b.symm;simpa using d,by omega,by omega⟩
def Yi (ns:List Nd) (nn:Bool) (p:Nat × List Nd):St:=match p.2 with
 | []=> ⟨[(0,.sl (aH ns) ns.length nn),(3,.nilS),(4,.int .i64 (p.1:Int))],[],.dead,[]⟩
 |x::r=> ⟨[(0,.sl (aH ns) ns.length nn),(3,.ref 0 0 0 (x::r).length),(4,.int .i64 (p.1:Int))],[(0,⟨(aH (x::r)),0,false,0,5,true⟩)],.dead,[]⟩
def UG:List Nd→St
 | []=> ⟨[(3,.nilS)],[],.dead,[]⟩
 |x::r=> ⟨[(3,.ref 0 0 0 (x::r).length)],[(0,⟨(aH (x::r)),0,false,0,5,true⟩)],.dead,[]⟩
theorem Pz {a:List Nd} {b:Bool} {k:Nat} {cs:List Nd} (h:cs ≠ []):Yi a b (k,cs)=⟨[(0,.sl (aH a) a.length b),(3,.ref 0 0 0 cs.length),(4,ω (k:Int))],[(0,⟨(aH cs),0,false,0,5,true⟩)],.dead,[]⟩:=by cases cs with|nil=>exact absurd rfl h|cons _ _=>rfl
theorem Yj {nt:Nat} (d:55≤nt) (a:List Nd) (c:Bool):aF prog ap [] nt (ae 0 (af f16)) (fun _=> .exit 0) (Yi a c) UG (0,[]) (xq a):=by
  refine aF.mapL F9 (a.take 64) ?_ ?_
  · intro p x r h;obtain ⟨A,D,E⟩:=r_ h;have e:ε (δ (p.length:Int)*5) (aH a)=iE x++aH (r++a.drop 64):=by
      have:=vO (p:=p) (r:=r++a.drop 64) (x:=x) rfl;rwa [← A] at this
    have m:decide (((0:Nat):Int)≤((min 60 x.den.length:Nat):Int))=true:=Yq0 (by omega);have o:decide (((min 60 x.den.length:Nat):Int)≤((ζ x.den:Nat):Int))=true:=Yq0 (by omega);have j:decide (((0:Nat):Int)≤((min 60 x.num.length:Nat):Int))=true:=Yq0 (by omega);have u:decide (((min 60 x.num.length:Nat):Int)≤((ζ x.num:Nat):Int))=true:=Yq0 (by omega);have n:decide (((0:Nat):Int)≤((min 30 x.name.length:Nat):Int))=true:=Yq0 (by omega);have s:decide (((min 30 x.name.length:Nat):Int)≤((ζ x.name:Nat):Int))=true:=Yq0 (by omega);have t:decide (((0:Nat):Int)≤(p.length:Int))=true:=Yq0 (by omega);have f:decide ((p.length:Int)<(a.length:Int))=true:=Yq0 (by omega);have v:lit true (decide ((p.length:Int)<((64:Nat):Int)))=true:=Yq0 (by omega);have w:Xjh F9 p++ [F9 x] ≠ []:=by simp
    rw [Pz w];have l:=wkR (i:=p.length) (by omega);cases hp:p with
    |nil=>subst hp;exact af_ d a c 0 x _ l e m o j u n s t f v f
    | cons y q=>
      rw [← hp,Pz (by rw [hp];simp),θ,ο];have z:(Xjh F9 p).length=p.length:=Xxd ..;exact af5 d a (Xjh F9 p) c p.length x _ l e (by simp;omega) (by rw [BX];simp) m o j u n s t f v f
  · have C:(a.take 64).length=min 64 a.length:=Xqq;generalize B:(a.take 64).length=k at*
    have b:(lit false (decide ((k:Int)<(a.length:Int)))=true)∨(lit false (decide ((k:Int)<((64:Nat):Int)))=true∧lit true (decide ((k:Int)<(a.length:Int)))=true):=by
      by_cases h:k<a.length
      · right;refine ⟨?_,Yq0 (by omega)⟩;simp only [lit,Xqm];exact Yq1 (by omega)
      · left;simp only [lit,Xqm];exact Yq1 (by omega)
    show aj _ _ _ _ _ (Yi a c (k,xq a)) _ (UG (xq a));generalize xq a=cs;cases cs with
    | nil => rcases b with b|⟨b,g⟩
             · exact agb d a c k b
             · exact aga d a c k b g
    | cons y q => rcases b with b|⟨b,g⟩
                  · exact af7 d a (y::q) c k b
                  · exact af6 d a (y::q) c k b g
theorem UF (a:List Nd) (c:Bool):CO 16 [.sl (aH a) a.length c] (.ret (.sl (aH (xq a)) (xq a).length false)):=by
 have hloop:=fun nt (hn:55≤nt)=>Yj hn a c
 have e:=aF.blk (id:=0) (e':= .normal) (s:=Yi a c (0,[])) (s':=UG (xq a)) hloop (by simp) rfl (aJ.refl _) (aJ.refl _);generalize xq a=cs at*
 cases cs with
 |nil=>
  have h:=af8 a c (fun nt b=>(e nt b).weak (aJ.of ⟨rfl,rfl,rfl,trivial⟩) (aJ.refl _));exact h.out (jC.ret rfl rfl (aZ.nilS false rfl))
 |cons y q=>
  have d:μ ((y::q).length*5) (aH (y::q))=aH (y::q):=Xqd (by rw [BX];omega);have h:=af9 a (y::q) c (fun nt b=>(e nt b).weak (aJ.of ⟨rfl,rfl,rfl,trivial⟩) (aJ.refl _));have h:=h.thaw (by simp);simp only [uV,thaw] at h;rw [Xqd (by rw [Xqq];exact Nat.min_le_left _ _),d] at h;exact h.out (jC.ret rfl rfl (aZ.sl _ _ _))
theorem acm (a:List Nd):∀ x ∈ xq a,x.sm:=by
 intro x b;obtain ⟨y,_,rfl⟩:=List.mem_map.1 b;refine ⟨?_, ?_⟩<;>simp only [F9,Xqq]<;>omega
theorem Yh (a:List Nd):(xq a).length≤64:=by simp only [xq,Xxd,Xqq];omega
def kV (b:Br):Br:=⟨b.fn,b.fa.take 60,b.fd.take 60,b.rn,b.ra.take 60,b.rd.take 60⟩
def yw (q:Sq):Sq:=⟨q.nm.take 30,q.u1,q.u2,(q.l.take 10).map kV⟩
theorem Pm {bs:List Br} {i:Nat} (h:bs.length=i) (b:Br):μ (i*6) (bP bs)++ [AV.bool b.fn,.str (μ 60 b.fa),.str (μ 60 b.fd),.bool b.rn,.str (μ 60 b.ra),.str (μ 60 b.rd)]=bP (bs++ [kV b]):=by
 have a:(bP bs).length=bs.length*6:=by
  unfold bP
  induction bs generalizing i with
  |nil=>rfl
  |cons x r ih=>rw [Xjm,θ,ih rfl];simp [xU];omega
 rw [Xqd (by omega)];unfold bP;rw [Xwb];rfl
theorem adE {nt:Nat} (l:137≤nt) (a:List Nd) (qs:List Sq) (c:Bool) (f:Int) (g h:List UInt8) (u1 u2:Int) (k i:Nat) (q:Sq) (b:Br) (s rb:List AV) (n:i<2^62) (j:(ε ((δ (k:Int))*4) (bT (qs.map Sq.c)))= [Xzq q.nm,ω q.u1,ω q.u2,.sl (bP q.l) q.l.length false]++s) (t:(ε ((δ (i:Int))*6) (bP q.l))=xU b++rb) (h0:(decide (((0:Nat):Int)≤(i:Int)))=true) (m:(decide ((i:Int)<(q.l.length:Int)))=true) (d:(decide (((0:Nat):Int)≤(k:Int)))=true) (e:(decide ((k:Int)<(qs.length:Int)))=true) (o:lit true (decide ((i:Int)<((10:Nat):Int)))=true) (r:lit true (decide ((i:Int)<(q.l.length:Int)))=true) (p:CO 16 [.sl [ω 0,.bool b.fn,.str b.fa,.str b.fd,.str [],ω 0,.bool b.rn,.str b.ra,.str b.rd,.str []] 2 true] (.ret (.sl [ω 0,.bool b.fn,.str (μ 60 b.fa),.str (μ 60 b.fd),.str [],ω 0,.bool b.rn,.str (μ 60 b.ra),.str (μ 60 b.rd),.str []] 2 false))):aj prog ap [] nt (ae 2 (af f4)) ⟨[(0,.sl (aH a) a.length false),(1,.sl (bT (qs.map Sq.c)) qs.length c),(5,.ptr 0 0 0),(7,.bool true),(8,.nilS),(9,ω (k:Int)),(10,.ptr 1 0 0),(11,ω (i:Int))],[(0,⟨[ω f,.str g],0,false,0,0,true⟩),(1,⟨[.str h,ω u1,ω u2,.nilS],0,false,0,0,true⟩)],.dead,[]⟩ (.normal) ⟨[(0,.sl (aH a) a.length false),(1,.sl (bT (qs.map Sq.c)) qs.length c),(5,.ptr 0 0 0),(7,.bool true),(8,.nilS),(9,ω (k:Int)),(10,.ptr 1 0 0),(11,ω (((i+1):Nat):Int))],[(0,⟨[ω f,.str g],0,false,0,0,true⟩),(1,⟨[.str h,ω u1,ω u2,.ref 2 0 0 1],0,false,0,0,false⟩),(2,⟨[.bool b.fn,.str (μ 60 b.fa),.str (μ 60 b.fd),.bool b.rn,.str (μ 60 b.ra),.str (μ 60 b.rd)],0,false,0,6,true⟩)],.dead,[]⟩:=pN 4 [] 3 3 (.k 28 h0 (.c m (.k 1 d (.c e (.c o (.c r (.k 1 d (.c e .nil)))))))) (.v 62 (.eq (wkR n)) (.c p (.v 69 (.ppt t) (.v 65 (.ppt j) (.v 52 (.ppt j) .nil))))) l
theorem adF {nt:Nat} (f:137≤nt) (a:List Nd) (qs:List Sq) (b:Bool) (c:Int) (d e:List UInt8) (u1 u2:Int) (k i:Nat) (q:Sq) (m:List AV) (l:(ε ((δ (k:Int))*4) (bT (qs.map Sq.c)))= [Xzq q.nm,ω q.u1,ω q.u2,.sl (bP q.l) q.l.length false]++m) (h0:lit false (decide ((i:Int)<((10:Nat):Int)))=true) (h:lit true (decide ((i:Int)<(q.l.length:Int)))=true) (g:(decide (((0:Nat):Int)≤(k:Int)))=true) (j:(decide ((k:Int)<(qs.length:Int)))=true):aj prog ap [] nt (ae 2 (af f4)) ⟨[(0,.sl (aH a) a.length false),(1,.sl (bT (qs.map Sq.c)) qs.length b),(5,.ptr 0 0 0),(7,.bool true),(8,.nilS),(9,ω (k:Int)),(10,.ptr 1 0 0),(11,ω (i:Int))],[(0,⟨[ω c,.str d],0,false,0,0,true⟩),(1,⟨[.str e,ω u1,ω u2,.nilS],0,false,0,0,true⟩)],.dead,[]⟩ (.exit 2) ⟨[(0,.sl (aH a) a.length false),(1,.sl (bT (qs.map Sq.c)) qs.length b),(5,.ptr 0 0 0),(7,.bool true),(8,.nilS),(9,ω (k:Int)),(10,.ptr 1 0 0)],[(0,⟨[ω c,.str d],0,false,0,0,true⟩),(1,⟨[.str e,ω u1,ω u2,.nilS],0,false,0,0,true⟩)],.dead,[]⟩:=pN 4 [] 2 1 (.c h0 (.c h (.k 1 g (.c j .nil)))) (.v 52 (.ppt l) .nil) f
theorem adG {nt:Nat} (f:137≤nt) (a:List Nd) (qs:List Sq) (b:Bool) (c:Int) (d e:List UInt8) (u1 u2:Int) (k i:Nat) (q:Sq) (h:List AV) (g:(ε ((δ (k:Int))*4) (bT (qs.map Sq.c)))= [Xzq q.nm,ω q.u1,ω q.u2,.sl (bP q.l) q.l.length false]++h) (h0:lit false (decide ((i:Int)<(q.l.length:Int)))=true) (l:(decide (((0:Nat):Int)≤(k:Int)))=true) (j:(decide ((k:Int)<(qs.length:Int)))=true):aj prog ap [] nt (ae 2 (af f4)) ⟨[(0,.sl (aH a) a.length false),(1,.sl (bT (qs.map Sq.c)) qs.length b),(5,.ptr 0 0 0),(7,.bool true),(8,.nilS),(9,ω (k:Int)),(10,.ptr 1 0 0),(11,ω (i:Int))],[(0,⟨[ω c,.str d],0,false,0,0,true⟩),(1,⟨[.str e,ω u1,ω u2,.nilS],0,false,0,0,true⟩)],.dead,[]⟩ (.exit 2) ⟨[(0,.sl (aH a) a.length false),(1,.sl (bT (qs.map Sq.c)) qs.length b),(5,.ptr 0 0 0),(7,.bool true),(8,.nilS),(9,ω (k:Int)),(10,.ptr 1 0 0)],[(0,⟨[ω c,.str d],0,false,0,0,true⟩),(1,⟨[.str e,ω u1,ω u2,.nilS],0,false,0,0,true⟩)],.dead,[]⟩:=pN 4 [] 2 0 (.k 1 h0 (.k 1 l (.c j .nil))) (.v 52 (.ppt g) .nil) f
theorem adB {nt:Nat} (m:137≤nt) (a:List Nd) (qs:List Sq) (d:Bool) (f:Int) (g h:List UInt8) (u1 u2:Int) (k i:Nat) (bs:List Br) (q:Sq) (b:Br) (v rb:List AV) (r:i<2^62) (c:bs.length=i) (j:(ε ((δ (k:Int))*4) (bT (qs.map Sq.c)))= [Xzq q.nm,ω q.u1,ω q.u2,.sl (bP q.l) q.l.length false]++v) (w:(ε ((δ (i:Int))*6) (bP q.l))=xU b++rb) (h0:(Ξ (i+1) 1099511627776)=true) (p:(Ξ (i*6) (ζ (bP bs)))=true) (o:(decide (((0:Nat):Int)≤(i:Int)))=true) (s:(decide ((i:Int)<(q.l.length:Int)))=true) (e:(decide (((0:Nat):Int)≤(k:Int)))=true) (l:(decide ((k:Int)<(qs.length:Int)))=true) (n:lit true (decide ((i:Int)<((10:Nat):Int)))=true) (u:lit true (decide ((i:Int)<(q.l.length:Int)))=true) (t:CO 16 [.sl [ω 0,.bool b.fn,.str b.fa,.str b.fd,.str [],ω 0,.bool b.rn,.str b.ra,.str b.rd,.str []] 2 true] (.ret (.sl [ω 0,.bool b.fn,.str (μ 60 b.fa),.str (μ 60 b.fd),.str [],ω 0,.bool b.rn,.str (μ 60 b.ra),.str (μ 60 b.rd),.str []] 2 false))):aj prog ap [] nt (ae 2 (af f4)) ⟨[(0,.sl (aH a) a.length false),(1,.sl (bT (qs.map Sq.c)) qs.length d),(5,.ptr 0 0 0),(7,.bool true),(8,.nilS),(9,ω (k:Int)),(10,.ptr 1 0 0),(11,ω (i:Int))],[(0,⟨[ω f,.str g],0,false,0,0,true⟩),(1,⟨[.str h,ω u1,ω u2,.ref 2 0 0 i],0,false,0,0,false⟩),(2,⟨(bP bs),0,false,0,6,true⟩)],.dead,[]⟩ (.normal) ⟨[(0,.sl (aH a) a.length false),(1,.sl (bT (qs.map Sq.c)) qs.length d),(5,.ptr 0 0 0),(7,.bool true),(8,.nilS),(9,ω (k:Int)),(10,.ptr 1 0 0),(11,ω (((i+1):Nat):Int))],[(0,⟨[ω f,.str g],0,false,0,0,true⟩),(1,⟨[.str h,ω u1,ω u2,.ref 2 0 0 (i+1)],0,false,0,0,false⟩),(2,⟨(bP (bs++ [kV b])),0,false,0,6,true⟩)],.dead,[]⟩:=pN 4 [] 2 3 (.k 2 h0 (.c p (.k 25 o (.c s (.k 1 e (.c l (.c n (.c u (.k 1 e (.c l .nil)))))))))) (.v 62 (.eq (wkR r)) (.b 91 (Pm c b) (.c t (.v 69 (.ppt w) (.v 65 (.ppt j) (.v 52 (.ppt j) .nil)))))) m
theorem adC {nt:Nat} (f:137≤nt) (a:List Nd) (qs:List Sq) (b:Bool) (c:Int) (d e:List UInt8) (u1 u2:Int) (k i:Nat) (bs:List Br) (q:Sq) (m:List AV) (l:(ε ((δ (k:Int))*4) (bT (qs.map Sq.c)))= [Xzq q.nm,ω q.u1,ω q.u2,.sl (bP q.l) q.l.length false]++m) (h0:lit false (decide ((i:Int)<((10:Nat):Int)))=true) (h:lit true (decide ((i:Int)<(q.l.length:Int)))=true) (g:(decide (((0:Nat):Int)≤(k:Int)))=true) (j:(decide ((k:Int)<(qs.length:Int)))=true):aj prog ap [] nt (ae 2 (af f4)) ⟨[(0,.sl (aH a) a.length false),(1,.sl (bT (qs.map Sq.c)) qs.length b),(5,.ptr 0 0 0),(7,.bool true),(8,.nilS),(9,ω (k:Int)),(10,.ptr 1 0 0),(11,ω (i:Int))],[(0,⟨[ω c,.str d],0,false,0,0,true⟩),(1,⟨[.str e,ω u1,ω u2,.ref 2 0 0 i],0,false,0,0,false⟩),(2,⟨(bP bs),0,false,0,6,true⟩)],.dead,[]⟩ (.exit 2) ⟨[(0,.sl (aH a) a.length false),(1,.sl (bT (qs.map Sq.c)) qs.length b),(5,.ptr 0 0 0),(7,.bool true),(8,.nilS),(9,ω (k:Int)),(10,.ptr 1 0 0)],[(0,⟨[ω c,.str d],0,false,0,0,true⟩),(1,⟨[.str e,ω u1,ω u2,.ref 2 0 0 i],0,false,0,0,false⟩),(2,⟨(bP bs),0,false,0,6,true⟩)],.dead,[]⟩:=pN 4 [] 2 1 (.c h0 (.c h (.k 1 g (.c j .nil)))) (.v 52 (.ppt l) .nil) f
theorem adD {nt:Nat} (f:137≤nt) (a:List Nd) (qs:List Sq) (b:Bool) (c:Int) (d e:List UInt8) (u1 u2:Int) (k i:Nat) (bs:List Br) (q:Sq) (l:List AV) (j:(ε ((δ (k:Int))*4) (bT (qs.map Sq.c)))= [Xzq q.nm,ω q.u1,ω q.u2,.sl (bP q.l) q.l.length false]++l) (h0:lit false (decide ((i:Int)<(q.l.length:Int)))=true) (h:(decide (((0:Nat):Int)≤(k:Int)))=true) (g:(decide ((k:Int)<(qs.length:Int)))=true):aj prog ap [] nt (ae 2 (af f4)) ⟨[(0,.sl (aH a) a.length false),(1,.sl (bT (qs.map Sq.c)) qs.length b),(5,.ptr 0 0 0),(7,.bool true),(8,.nilS),(9,ω (k:Int)),(10,.ptr 1 0 0),(11,ω (i:Int))],[(0,⟨[ω c,.str d],0,false,0,0,true⟩),(1,⟨[.str e,ω u1,ω u2,.ref 2 0 0 i],0,false,0,0,false⟩),(2,⟨(bP bs),0,false,0,6,true⟩)],.dead,[]⟩ (.exit 2) ⟨[(0,.sl (aH a) a.length false),(1,.sl (bT (qs.map Sq.c)) qs.length b),(5,.ptr 0 0 0),(7,.bool true),(8,.nilS),(9,ω (k:Int)),(10,.ptr 1 0 0)],[(0,⟨[ω c,.str d],0,false,0,0,true⟩),(1,⟨[.str e,ω u1,ω u2,.ref 2 0 0 i],0,false,0,0,false⟩),(2,⟨(bP bs),0,false,0,6,true⟩)],.dead,[]⟩:=pN 4 [] 2 0 (.k 1 h0 (.k 1 h (.c g .nil))) (.v 52 (.ppt j) .nil) f
theorem adw {nt:Nat} (m:137≤nt) (a:List Nd) (qs:List Sq) (c:Bool) (f:Int) (g l:List UInt8) (u1 u2:Int) (k i:Nat) (h:List AV) (q:Sq) (b:Br) (t rb:List AV) (o:i<2^62) (j:(ε ((δ (k:Int))*4) (bT (qs.map Sq.c)))= [Xzq q.nm,ω q.u1,ω q.u2,.sl (bP q.l) q.l.length false]++t) (u:(ε ((δ (i:Int))*6) (bP q.l))=xU b++rb) (h0:(decide (((0:Nat):Int)≤(i:Int)))=true) (n:(decide ((i:Int)<(q.l.length:Int)))=true) (d:(decide (((0:Nat):Int)≤(k:Int)))=true) (e:(decide ((k:Int)<(qs.length:Int)))=true) (p:lit true (decide ((i:Int)<((10:Nat):Int)))=true) (s:lit true (decide ((i:Int)<(q.l.length:Int)))=true) (r:CO 16 [.sl [ω 0,.bool b.fn,.str b.fa,.str b.fd,.str [],ω 0,.bool b.rn,.str b.ra,.str b.rd,.str []] 2 true] (.ret (.sl [ω 0,.bool b.fn,.str (μ 60 b.fa),.str (μ 60 b.fd),.str [],ω 0,.bool b.rn,.str (μ 60 b.ra),.str (μ 60 b.rd),.str []] 2 false))):aj prog ap [] nt (ae 2 (af f4)) ⟨[(0,.sl (aH a) a.length false),(1,.sl (bT (qs.map Sq.c)) qs.length c),(5,.ptr 0 0 0),(7,.bool true),(8,.ref 1 0 0 k),(9,ω (k:Int)),(10,.ptr 2 0 0),(11,ω (i:Int))],[(0,⟨[ω f,.str g],0,false,0,0,true⟩),(1,⟨h,0,false,0,4,true⟩),(2,⟨[.str l,ω u1,ω u2,.nilS],0,false,0,0,true⟩)],.dead,[]⟩ (.normal) ⟨[(0,.sl (aH a) a.length false),(1,.sl (bT (qs.map Sq.c)) qs.length c),(5,.ptr 0 0 0),(7,.bool true),(8,.ref 1 0 0 k),(9,ω (k:Int)),(10,.ptr 2 0 0),(11,ω (((i+1):Nat):Int))],[(0,⟨[ω f,.str g],0,false,0,0,true⟩),(1,⟨h,0,false,0,4,true⟩),(2,⟨[.str l,ω u1,ω u2,.ref 3 0 0 1],0,false,0,0,false⟩),(3,⟨[.bool b.fn,.str (μ 60 b.fa),.str (μ 60 b.fd),.bool b.rn,.str (μ 60 b.ra),.str (μ 60 b.rd)],0,false,0,6,true⟩)],.dead,[]⟩:=pN 4 [] 3 3 (.k 28 h0 (.c n (.k 1 d (.c e (.c p (.c s (.k 1 d (.c e .nil)))))))) (.v 62 (.eq (wkR o)) (.c r (.v 69 (.ppt u) (.v 65 (.ppt j) (.v 52 (.ppt j) .nil))))) m
theorem adx {nt:Nat} (g:137≤nt) (a:List Nd) (qs:List Sq) (b:Bool) (c:Int) (d f:List UInt8) (u1 u2:Int) (k i:Nat) (e:List AV) (q:Sq) (n:List AV) (m:(ε ((δ (k:Int))*4) (bT (qs.map Sq.c)))= [Xzq q.nm,ω q.u1,ω q.u2,.sl (bP q.l) q.l.length false]++n) (h0:lit false (decide ((i:Int)<((10:Nat):Int)))=true) (j:lit true (decide ((i:Int)<(q.l.length:Int)))=true) (h:(decide (((0:Nat):Int)≤(k:Int)))=true) (l:(decide ((k:Int)<(qs.length:Int)))=true):aj prog ap [] nt (ae 2 (af f4)) ⟨[(0,.sl (aH a) a.length false),(1,.sl (bT (qs.map Sq.c)) qs.length b),(5,.ptr 0 0 0),(7,.bool true),(8,.ref 1 0 0 k),(9,ω (k:Int)),(10,.ptr 2 0 0),(11,ω (i:Int))],[(0,⟨[ω c,.str d],0,false,0,0,true⟩),(1,⟨e,0,false,0,4,true⟩),(2,⟨[.str f,ω u1,ω u2,.nilS],0,false,0,0,true⟩)],.dead,[]⟩ (.exit 2) ⟨[(0,.sl (aH a) a.length false),(1,.sl (bT (qs.map Sq.c)) qs.length b),(5,.ptr 0 0 0),(7,.bool true),(8,.ref 1 0 0 k),(9,ω (k:Int)),(10,.ptr 2 0 0)],[(0,⟨[ω c,.str d],0,false,0,0,true⟩),(1,⟨e,0,false,0,4,true⟩),(2,⟨[.str f,ω u1,ω u2,.nilS],0,false,0,0,true⟩)],.dead,[]⟩:=pN 4 [] 2 1 (.c h0 (.c j (.k 1 h (.c l .nil)))) (.v 52 (.ppt m) .nil) g
theorem ady {nt:Nat} (g:137≤nt) (a:List Nd) (qs:List Sq) (b:Bool) (c:Int) (d f:List UInt8) (u1 u2:Int) (k i:Nat) (e:List AV) (q:Sq) (m:List AV) (l:(ε ((δ (k:Int))*4) (bT (qs.map Sq.c)))= [Xzq q.nm,ω q.u1,ω q.u2,.sl (bP q.l) q.l.length false]++m) (h0:lit false (decide ((i:Int)<(q.l.length:Int)))=true) (j:(decide (((0:Nat):Int)≤(k:Int)))=true) (h:(decide ((k:Int)<(qs.length:Int)))=true):aj prog ap [] nt (ae 2 (af f4)) ⟨[(0,.sl (aH a) a.length false),(1,.sl (bT (qs.map Sq.c)) qs.length b),(5,.ptr 0 0 0),(7,.bool true),(8,.ref 1 0 0 k),(9,ω (k:Int)),(10,.ptr 2 0 0),(11,ω (i:Int))],[(0,⟨[ω c,.str d],0,false,0,0,true⟩),(1,⟨e,0,false,0,4,true⟩),(2,⟨[.str f,ω u1,ω u2,.nilS],0,false,0,0,true⟩)],.dead,[]⟩ (.exit 2) ⟨[(0,.sl (aH a) a.length false),(1,.sl (bT (qs.map Sq.c)) qs.length b),(5,.ptr 0 0 0),(7,.bool true),(8,.ref 1 0 0 k),(9,ω (k:Int)),(10,.ptr 2 0 0)],[(0,⟨[ω c,.str d],0,false,0,0,true⟩),(1,⟨e,0,false,0,4,true⟩),(2,⟨[.str f,ω u1,ω u2,.nilS],0,false,0,0,true⟩)],.dead,[]⟩:=pN 4 [] 2 0 (.k 1 h0 (.k 1 j (.c h .nil))) (.v 52 (.ppt l) .nil) g
theorem adt {nt:Nat} (n:137≤nt) (a:List Nd) (qs:List Sq) (d:Bool) (f:Int) (g j:List UInt8) (u1 u2:Int) (k i:Nat) (h:List AV) (bs:List Br) (q:Sq) (b:Br) (w rb:List AV) (s:i<2^62) (c:bs.length=i) (l:(ε ((δ (k:Int))*4) (bT (qs.map Sq.c)))= [Xzq q.nm,ω q.u1,ω q.u2,.sl (bP q.l) q.l.length false]++w) (x:(ε ((δ (i:Int))*6) (bP q.l))=xU b++rb) (h0:(Ξ (i+1) 1099511627776)=true) (r:(Ξ (i*6) (ζ (bP bs)))=true) (p:(decide (((0:Nat):Int)≤(i:Int)))=true) (t:(decide ((i:Int)<(q.l.length:Int)))=true) (e:(decide (((0:Nat):Int)≤(k:Int)))=true) (m:(decide ((k:Int)<(qs.length:Int)))=true) (o:lit true (decide ((i:Int)<((10:Nat):Int)))=true) (v:lit true (decide ((i:Int)<(q.l.length:Int)))=true) (u:CO 16 [.sl [ω 0,.bool b.fn,.str b.fa,.str b.fd,.str [],ω 0,.bool b.rn,.str b.ra,.str b.rd,.str []] 2 true] (.ret (.sl [ω 0,.bool b.fn,.str (μ 60 b.fa),.str (μ 60 b.fd),.str [],ω 0,.bool b.rn,.str (μ 60 b.ra),.str (μ 60 b.rd),.str []] 2 false))):aj prog ap [] nt (ae 2 (af f4)) ⟨[(0,.sl (aH a) a.length false),(1,.sl (bT (qs.map Sq.c)) qs.length d),(5,.ptr 0 0 0),(7,.bool true),(8,.ref 1 0 0 k),(9,ω (k:Int)),(10,.ptr 2 0 0),(11,ω (i:Int))],[(0,⟨[ω f,.str g],0,false,0,0,true⟩),(1,⟨h,0,false,0,4,true⟩),(2,⟨[.str j,ω u1,ω u2,.ref 3 0 0 i],0,false,0,0,false⟩),(3,⟨(bP bs),0,false,0,6,true⟩)],.dead,[]⟩ (.normal) ⟨[(0,.sl (aH a) a.length false),(1,.sl (bT (qs.map Sq.c)) qs.length d),(5,.ptr 0 0 0),(7,.bool true),(8,.ref 1 0 0 k),(9,ω (k:Int)),(10,.ptr 2 0 0),(11,ω (((i+1):Nat):Int))],[(0,⟨[ω f,.str g],0,false,0,0,true⟩),(1,⟨h,0,false,0,4,true⟩),(2,⟨[.str j,ω u1,ω u2,.ref 3 0 0 (i+1)],0,false,0,0,false⟩),(3,⟨(bP (bs++ [kV b])),0,false,0,6,true⟩)],.dead,[]⟩:=pN 4 [] 2 3 (.k 2 h0 (.c r (.k 25 p (.c t (.k 1 e (.c m (.c o (.c v (.k 1 e (.c m .nil)))))))))) (.v 62 (.eq (wkR s)) (.b 91 (Pm c b) (.c u (.v 69 (.ppt x) (.v 65 (.ppt l) (.v 52 (.ppt l) .nil)))))) n
theorem adu {nt:Nat} (g:137≤nt) (a:List Nd) (qs:List Sq) (b:Bool) (c:Int) (d f:List UInt8) (u1 u2:Int) (k i:Nat) (e:List AV) (bs:List Br) (q:Sq) (n:List AV) (m:(ε ((δ (k:Int))*4) (bT (qs.map Sq.c)))= [Xzq q.nm,ω q.u1,ω q.u2,.sl (bP q.l) q.l.length false]++n) (h0:lit false (decide ((i:Int)<((10:Nat):Int)))=true) (j:lit true (decide ((i:Int)<(q.l.length:Int)))=true) (h:(decide (((0:Nat):Int)≤(k:Int)))=true) (l:(decide ((k:Int)<(qs.length:Int)))=true):aj prog ap [] nt (ae 2 (af f4)) ⟨[(0,.sl (aH a) a.length false),(1,.sl (bT (qs.map Sq.c)) qs.length b),(5,.ptr 0 0 0),(7,.bool true),(8,.ref 1 0 0 k),(9,ω (k:Int)),(10,.ptr 2 0 0),(11,ω (i:Int))],[(0,⟨[ω c,.str d],0,false,0,0,true⟩),(1,⟨e,0,false,0,4,true⟩),(2,⟨[.str f,ω u1,ω u2,.ref 3 0 0 i],0,false,0,0,false⟩),(3,⟨(bP bs),0,false,0,6,true⟩)],.dead,[]⟩ (.exit 2) ⟨[(0,.sl (aH a) a.length false),(1,.sl (bT (qs.map Sq.c)) qs.length b),(5,.ptr 0 0 0),(7,.bool true),(8,.ref 1 0 0 k),(9,ω (k:Int)),(10,.ptr 2 0 0)],[(0,⟨[ω c,.str d],0,false,0,0,true⟩),(1,⟨e,0,false,0,4,true⟩),(2,⟨[.str f,ω u1,ω u2,.ref 3 0 0 i],0,false,0,0,false⟩),(3,⟨(bP bs),0,false,0,6,true⟩)],.dead,[]⟩:=pN 4 [] 2 1 (.c h0 (.c j (.k 1 h (.c l .nil)))) (.v 52 (.ppt m) .nil) g
theorem adv {nt:Nat} (g:137≤nt) (a:List Nd) (qs:List Sq) (b:Bool) (c:Int) (d f:List UInt8) (u1 u2:Int) (k i:Nat) (e:List AV) (bs:List Br) (q:Sq) (m:List AV) (l:(ε ((δ (k:Int))*4) (bT (qs.map Sq.c)))= [Xzq q.nm,ω q.u1,ω q.u2,.sl (bP q.l) q.l.length false]++m) (h0:lit false (decide ((i:Int)<(q.l.length:Int)))=true) (j:(decide (((0:Nat):Int)≤(k:Int)))=true) (h:(decide ((k:Int)<(qs.length:Int)))=true):aj prog ap [] nt (ae 2 (af f4)) ⟨[(0,.sl (aH a) a.length false),(1,.sl (bT (qs.map Sq.c)) qs.length b),(5,.ptr 0 0 0),(7,.bool true),(8,.ref 1 0 0 k),(9,ω (k:Int)),(10,.ptr 2 0 0),(11,ω (i:Int))],[(0,⟨[ω c,.str d],0,false,0,0,true⟩),(1,⟨e,0,false,0,4,true⟩),(2,⟨[.str f,ω u1,ω u2,.ref 3 0 0 i],0,false,0,0,false⟩),(3,⟨(bP bs),0,false,0,6,true⟩)],.dead,[]⟩ (.exit 2) ⟨[(0,.sl (aH a) a.length false),(1,.sl (bT (qs.map Sq.c)) qs.length b),(5,.ptr 0 0 0),(7,.bool true),(8,.ref 1 0 0 k),(9,ω (k:Int)),(10,.ptr 2 0 0)],[(0,⟨[ω c,.str d],0,false,0,0,true⟩),(1,⟨e,0,false,0,4,true⟩),(2,⟨[.str f,ω u1,ω u2,.ref 3 0 0 i],0,false,0,0,false⟩),(3,⟨(bP bs),0,false,0,6,true⟩)],.dead,[]⟩:=pN 4 [] 2 0 (.k 1 h0 (.k 1 j (.c h .nil))) (.v 52 (.ppt l) .nil) g
theorem aej {nt:Nat} (e:137≤nt) (a:List Nd) (qs:List Sq) (b:Bool) (c:Int) (d:List UInt8) (k:Nat) (q:Sq) (o:List AV) (l:k<2^62) (m:(ε ((δ (k:Int))*4) (bT (qs.map Sq.c)))= [Xzq q.nm,ω q.u1,ω q.u2,.sl (bP q.l) q.l.length false]++o) (h0:(decide (((0:Nat):Int)≤(((min 30 q.nm.length):Nat):Int)))=true) (g:(decide ((((min 30 q.nm.length):Nat):Int)≤(((ζ q.nm):Nat):Int)))=true) (f:(decide (((0:Nat):Int)≤(k:Int)))=true) (h:(decide ((k:Int)<(qs.length:Int)))=true) (i:lit true (decide ((k:Int)<((4:Nat):Int)))=true) (n:lit true (decide ((k:Int)<(qs.length:Int)))=true) (j:aI prog ap [] 137 (.block 2 (.loop (ae 2 (af f4)))) ⟨[(0,.sl (aH a) a.length false),(1,.sl (bT (qs.map Sq.c)) qs.length b),(2,.dead),(5,.ptr 0 0 0),(6,.dead),(7,.bool true),(8,.nilS),(9,ω (k:Int)),(10,.ptr 1 0 0),(11,ω 0),(12,.dead),(13,.dead),(14,.dead),(33,.bool (decide ((k:Int)<((4:Nat):Int)))),(60,.dead),(102,.dead)],[(0,⟨[ω c,.str d],0,false,0,0,true⟩),(1,⟨[.str (μ 30 q.nm),ω q.u1,ω q.u2,.nilS],0,false,0,0,true⟩)],.dead,[]⟩ (.normal) ⟨[(0,.sl (aH a) a.length false),(1,.sl (bT (qs.map Sq.c)) qs.length b),(5,.ptr 0 0 0),(7,.bool true),(8,.nilS),(9,ω (k:Int)),(10,.ptr 1 0 0)],[(0,⟨[ω c,.str d],0,false,0,0,true⟩),(1,⟨[.str (μ 30 q.nm),ω q.u1,ω q.u2,.nilS],0,false,0,0,true⟩)],.dead,[]⟩):ψ nt f4 ⟨[(0,.sl (aH a) a.length false),(1,.sl (bT (qs.map Sq.c)) qs.length b),(5,.ptr 0 0 0),(7,.bool true),(8,.nilS),(9,ω (k:Int))],[(0,⟨[ω c,.str d],0,false,0,0,true⟩)],.dead,[]⟩ (.normal) ⟨[(0,.sl (aH a) a.length false),(1,.sl (bT (qs.map Sq.c)) qs.length b),(5,.ptr 0 0 0),(7,.bool true),(8,.ref 1 0 0 1),(9,ω (((k+1):Nat):Int))],[(0,⟨[ω c,.str d],0,false,0,0,true⟩),(1,⟨[.str (μ 30 q.nm),ω q.u1,ω q.u2,.nilS],0,false,0,4,true⟩)],.dead,[]⟩:=pN 4 [2] 3 3 (.k 10 h0 (.c g (.k 7 f (.c h (.c i (.c n .nil)))))) (.v 35 (.eq (wkR l)) (.l j (.v 46 (.eq (sQ 30 q.nm)) (.v 45 (.eq (sV 30 q.nm)) (.v 38 (.ppt m) .nil))))) e
theorem aek {nt:Nat} (e:137≤nt) (a:List Nd) (qs:List Sq) (b:Bool) (c:Int) (d:List UInt8) (k:Nat) (h0:lit false (decide ((k:Int)<((4:Nat):Int)))=true) (f:lit true (decide ((k:Int)<(qs.length:Int)))=true):ψ nt f4 ⟨[(0,.sl (aH a) a.length false),(1,.sl (bT (qs.map Sq.c)) qs.length b),(5,.ptr 0 0 0),(7,.bool true),(8,.nilS),(9,ω (k:Int))],[(0,⟨[ω c,.str d],0,false,0,0,true⟩)],.dead,[]⟩ (.exit 0) ⟨[(0,.sl (aH a) a.length false),(1,.sl (bT (qs.map Sq.c)) qs.length b),(5,.ptr 0 0 0),(7,.bool true),(8,.nilS)],[(0,⟨[ω c,.str d],0,false,0,0,true⟩)],.dead,[]⟩:=pN 4 [2] 2 1 (.c h0 (.c f .nil)) (.nil) e
theorem ael {nt:Nat} (e:137≤nt) (a:List Nd) (qs:List Sq) (b:Bool) (c:Int) (d:List UInt8) (k:Nat) (h0:lit false (decide ((k:Int)<(qs.length:Int)))=true):ψ nt f4 ⟨[(0,.sl (aH a) a.length false),(1,.sl (bT (qs.map Sq.c)) qs.length b),(5,.ptr 0 0 0),(7,.bool true),(8,.nilS),(9,ω (k:Int))],[(0,⟨[ω c,.str d],0,false,0,0,true⟩)],.dead,[]⟩ (.exit 0) ⟨[(0,.sl (aH a) a.length false),(1,.sl (bT (qs.map Sq.c)) qs.length b),(5,.ptr 0 0 0),(7,.bool true),(8,.nilS)],[(0,⟨[ω c,.str d],0,false,0,0,true⟩)],.dead,[]⟩:=pN 4 [2] 2 0 (.k 1 h0 .nil) (.nil) e
theorem aei {nt:Nat} (g:137≤nt) (a:List Nd) (qs:List Sq) (b:Bool) (c:Int) (d:List UInt8) (k:Nat) (e:List AV) (f:Nat) (q:Sq) (r:List AV) (n:k<2^62) (o:(ε ((δ (k:Int))*4) (bT (qs.map Sq.c)))= [Xzq q.nm,ω q.u1,ω q.u2,.sl (bP q.l) q.l.length false]++r) (h0:(decide (((0:Nat):Int)≤(((min 30 q.nm.length):Nat):Int)))=true) (i:(decide ((((min 30 q.nm.length):Nat):Int)≤(((ζ q.nm):Nat):Int)))=true) (h:(decide (((0:Nat):Int)≤(k:Int)))=true) (j:(decide ((k:Int)<(qs.length:Int)))=true) (l:lit true (decide ((k:Int)<((4:Nat):Int)))=true) (p:lit true (decide ((k:Int)<(qs.length:Int)))=true) (m:aI prog ap [] 137 (.block 2 (.loop (ae 2 (af f4)))) ⟨[(0,.sl (aH a) a.length false),(1,.sl (bT (qs.map Sq.c)) qs.length b),(2,.dead),(5,.ptr 0 0 0),(6,.dead),(7,.bool true),(8,.nilS),(9,ω (k:Int)),(10,.ptr 1 0 0),(11,ω 0),(12,.dead),(13,.dead),(14,.dead),(33,.bool (decide ((k:Int)<((4:Nat):Int)))),(60,.dead),(102,.dead)],[(0,⟨[ω c,.str d],0,false,0,0,true⟩),(1,⟨[.str (μ 30 q.nm),ω q.u1,ω q.u2,.nilS],0,false,0,0,true⟩)],.dead,[]⟩ (.normal) ⟨[(0,.sl (aH a) a.length false),(1,.sl (bT (qs.map Sq.c)) qs.length b),(5,.ptr 0 0 0),(7,.bool true),(8,.nilS),(9,ω (k:Int)),(10,.ptr 1 0 0)],[(0,⟨[ω c,.str d],0,false,0,0,true⟩),(1,⟨[.str (μ 30 q.nm),ω q.u1,ω q.u2,.sl e f false],0,false,0,0,true⟩)],.dead,[]⟩):ψ nt f4 ⟨[(0,.sl (aH a) a.length false),(1,.sl (bT (qs.map Sq.c)) qs.length b),(5,.ptr 0 0 0),(7,.bool true),(8,.nilS),(9,ω (k:Int))],[(0,⟨[ω c,.str d],0,false,0,0,true⟩)],.dead,[]⟩ (.normal) ⟨[(0,.sl (aH a) a.length false),(1,.sl (bT (qs.map Sq.c)) qs.length b),(5,.ptr 0 0 0),(7,.bool true),(8,.ref 1 0 0 1),(9,ω (((k+1):Nat):Int))],[(0,⟨[ω c,.str d],0,false,0,0,true⟩),(1,⟨[.str (μ 30 q.nm),ω q.u1,ω q.u2,.sl e f false],0,false,0,4,true⟩)],.dead,[]⟩:=pN 4 [2] 3 3 (.k 10 h0 (.c i (.k 7 h (.c j (.c l (.c p .nil)))))) (.v 35 (.eq (wkR n)) (.l m (.v 46 (.eq (sQ 30 q.nm)) (.v 45 (.eq (sV 30 q.nm)) (.v 38 (.ppt o) .nil))))) g
theorem aed {nt:Nat} (h:137≤nt) (a:List Nd) (qs:List Sq) (d:Bool) (e:Int) (f:List UInt8) (k:Nat) (b c:List AV) (q:Sq) (u:List AV) (p:k<2^62) (g:μ (k*4) b++ [Xzq (μ 30 q.nm),ω q.u1,ω q.u2,.nilS]=c) (r:(ε ((δ (k:Int))*4) (bT (qs.map Sq.c)))= [Xzq q.nm,ω q.u1,ω q.u2,.sl (bP q.l) q.l.length false]++u) (h0:(Ξ (k+1) 1099511627776)=true) (l:(Ξ (k*4) (ζ b))=true) (j:(decide (((0:Nat):Int)≤(((min 30 q.nm.length):Nat):Int)))=true) (m:(decide ((((min 30 q.nm.length):Nat):Int)≤(((ζ q.nm):Nat):Int)))=true) (n:(decide (((0:Nat):Int)≤(k:Int)))=true) (t:(decide ((k:Int)<(qs.length:Int)))=true) (i:lit true (decide ((k:Int)<((4:Nat):Int)))=true) (s:lit true (decide ((k:Int)<(qs.length:Int)))=true) (o:aI prog ap [] 137 (.block 2 (.loop (ae 2 (af f4)))) ⟨[(0,.sl (aH a) a.length false),(1,.sl (bT (qs.map Sq.c)) qs.length d),(2,.dead),(5,.ptr 0 0 0),(6,.dead),(7,.bool true),(8,.ref 1 0 0 k),(9,ω (k:Int)),(10,.ptr 2 0 0),(11,ω 0),(12,.dead),(13,.dead),(14,.dead),(33,.bool (decide ((k:Int)<((4:Nat):Int)))),(60,.dead),(102,.dead)],[(0,⟨[ω e,.str f],0,false,0,0,true⟩),(1,⟨b,0,false,0,4,true⟩),(2,⟨[.str (μ 30 q.nm),ω q.u1,ω q.u2,.nilS],0,false,0,0,true⟩)],.dead,[]⟩ (.normal) ⟨[(0,.sl (aH a) a.length false),(1,.sl (bT (qs.map Sq.c)) qs.length d),(5,.ptr 0 0 0),(7,.bool true),(8,.ref 1 0 0 k),(9,ω (k:Int)),(10,.ptr 2 0 0)],[(0,⟨[ω e,.str f],0,false,0,0,true⟩),(1,⟨b,0,false,0,4,true⟩),(2,⟨[.str (μ 30 q.nm),ω q.u1,ω q.u2,.nilS],0,false,0,0,true⟩)],.dead,[]⟩):ψ nt f4 ⟨[(0,.sl (aH a) a.length false),(1,.sl (bT (qs.map Sq.c)) qs.length d),(5,.ptr 0 0 0),(7,.bool true),(8,.ref 1 0 0 k),(9,ω (k:Int))],[(0,⟨[ω e,.str f],0,false,0,0,true⟩),(1,⟨b,0,false,0,4,true⟩)],.dead,[]⟩ (.normal) ⟨[(0,.sl (aH a) a.length false),(1,.sl (bT (qs.map Sq.c)) qs.length d),(5,.ptr 0 0 0),(7,.bool true),(8,.ref 1 0 0 (k+1)),(9,ω (((k+1):Nat):Int))],[(0,⟨[ω e,.str f],0,false,0,0,true⟩),(1,⟨c,0,false,0,4,true⟩)],.dead,[]⟩:=pN 4 [2] 2 3 (.k 1 h0 (.c l (.k 8 j (.c m (.k 7 n (.c t (.c i (.c s .nil)))))))) (.v 35 (.eq (wkR p)) (.b 96 g (.l o (.v 46 (.eq (sQ 30 q.nm)) (.v 45 (.eq (sV 30 q.nm)) (.v 38 (.ppt r) .nil)))))) h
theorem aee {nt:Nat} (f:137≤nt) (a:List Nd) (qs:List Sq) (b:Bool) (c:Int) (d:List UInt8) (k:Nat) (e:List AV) (h0:lit false (decide ((k:Int)<((4:Nat):Int)))=true) (g:lit true (decide ((k:Int)<(qs.length:Int)))=true):ψ nt f4 ⟨[(0,.sl (aH a) a.length false),(1,.sl (bT (qs.map Sq.c)) qs.length b),(5,.ptr 0 0 0),(7,.bool true),(8,.ref 1 0 0 k),(9,ω (k:Int))],[(0,⟨[ω c,.str d],0,false,0,0,true⟩),(1,⟨e,0,false,0,4,true⟩)],.dead,[]⟩ (.exit 0) ⟨[(0,.sl (aH a) a.length false),(1,.sl (bT (qs.map Sq.c)) qs.length b),(5,.ptr 0 0 0),(7,.bool true),(8,.ref 1 0 0 k)],[(0,⟨[ω c,.str d],0,false,0,0,true⟩),(1,⟨e,0,false,0,4,true⟩)],.dead,[]⟩:=pN 4 [2] 2 1 (.c h0 (.c g .nil)) (.nil) f
theorem aef {nt:Nat} (f:137≤nt) (a:List Nd) (qs:List Sq) (b:Bool) (c:Int) (d:List UInt8) (k:Nat) (e:List AV) (h0:lit false (decide ((k:Int)<(qs.length:Int)))=true):ψ nt f4 ⟨[(0,.sl (aH a) a.length false),(1,.sl (bT (qs.map Sq.c)) qs.length b),(5,.ptr 0 0 0),(7,.bool true),(8,.ref 1 0 0 k),(9,ω (k:Int))],[(0,⟨[ω c,.str d],0,false,0,0,true⟩),(1,⟨e,0,false,0,4,true⟩)],.dead,[]⟩ (.exit 0) ⟨[(0,.sl (aH a) a.length false),(1,.sl (bT (qs.map Sq.c)) qs.length b),(5,.ptr 0 0 0),(7,.bool true),(8,.ref 1 0 0 k)],[(0,⟨[ω c,.str d],0,false,0,0,true⟩),(1,⟨e,0,false,0,4,true⟩)],.dead,[]⟩:=pN 4 [2] 2 0 (.k 1 h0 .nil) (.nil) f
theorem aec {nt:Nat} (j:137≤nt) (a:List Nd) (qs:List Sq) (d:Bool) (e:Int) (f:List UInt8) (k:Nat) (b c:List AV) (h:List AV) (i:Nat) (q:Sq) (w:List AV) (s:k<2^62) (g:μ (k*4) b++ [Xzq (μ 30 q.nm),ω q.u1,ω q.u2,.sl h i false]=c) (t:(ε ((δ (k:Int))*4) (bT (qs.map Sq.c)))= [Xzq q.nm,ω q.u1,ω q.u2,.sl (bP q.l) q.l.length false]++w) (h0:(Ξ (k+1) 1099511627776)=true) (n:(Ξ (k*4) (ζ b))=true) (m:(decide (((0:Nat):Int)≤(((min 30 q.nm.length):Nat):Int)))=true) (o:(decide ((((min 30 q.nm.length):Nat):Int)≤(((ζ q.nm):Nat):Int)))=true) (p:(decide (((0:Nat):Int)≤(k:Int)))=true) (v:(decide ((k:Int)<(qs.length:Int)))=true) (l:lit true (decide ((k:Int)<((4:Nat):Int)))=true) (u:lit true (decide ((k:Int)<(qs.length:Int)))=true) (r:aI prog ap [] 137 (.block 2 (.loop (ae 2 (af f4)))) ⟨[(0,.sl (aH a) a.length false),(1,.sl (bT (qs.map Sq.c)) qs.length d),(2,.dead),(5,.ptr 0 0 0),(6,.dead),(7,.bool true),(8,.ref 1 0 0 k),(9,ω (k:Int)),(10,.ptr 2 0 0),(11,ω 0),(12,.dead),(13,.dead),(14,.dead),(33,.bool (decide ((k:Int)<((4:Nat):Int)))),(60,.dead),(102,.dead)],[(0,⟨[ω e,.str f],0,false,0,0,true⟩),(1,⟨b,0,false,0,4,true⟩),(2,⟨[.str (μ 30 q.nm),ω q.u1,ω q.u2,.nilS],0,false,0,0,true⟩)],.dead,[]⟩ (.normal) ⟨[(0,.sl (aH a) a.length false),(1,.sl (bT (qs.map Sq.c)) qs.length d),(5,.ptr 0 0 0),(7,.bool true),(8,.ref 1 0 0 k),(9,ω (k:Int)),(10,.ptr 2 0 0)],[(0,⟨[ω e,.str f],0,false,0,0,true⟩),(1,⟨b,0,false,0,4,true⟩),(2,⟨[.str (μ 30 q.nm),ω q.u1,ω q.u2,.sl h i false],0,false,0,0,true⟩)],.dead,[]⟩):ψ nt f4 ⟨[(0,.sl (aH a) a.length false),(1,.sl (bT (qs.map Sq.c)) qs.length d),(5,.ptr 0 0 0),(7,.bool true),(8,.ref 1 0 0 k),(9,ω (k:Int))],[(0,⟨[ω e,.str f],0,false,0,0,true⟩),(1,⟨b,0,false,0,4,true⟩)],.dead,[]⟩ (.normal) ⟨[(0,.sl (aH a) a.length false),(1,.sl (bT (qs.map Sq.c)) qs.length d),(5,.ptr 0 0 0),(7,.bool true),(8,.ref 1 0 0 (k+1)),(9,ω (((k+1):Nat):Int))],[(0,⟨[ω e,.str f],0,false,0,0,true⟩),(1,⟨c,0,false,0,4,true⟩)],.dead,[]⟩:=pN 4 [2] 2 3 (.k 1 h0 (.c n (.k 8 m (.c o (.k 7 p (.c v (.c l (.c u .nil)))))))) (.v 35 (.eq (wkR s)) (.b 96 g (.l r (.v 46 (.eq (sQ 30 q.nm)) (.v 45 (.eq (sV 30 q.nm)) (.v 38 (.ppt t) .nil)))))) j
theorem mle (k:Nat) (s:List UInt8):decide (((min k s.length:Nat):Int)≤((ζ s:Nat):Int))=true:=Yq0 (by omega)
theorem vC (l:List Br):(bP l).length=l.length*6:=by
 unfold bP
 induction l with
 |nil=>rfl
 |cons x r ih=>rw [Xjm,θ,ih];simp [xU];omega
def bV (l:List Br):AV:=match l with| []=> .nilS|b::r=> .sl (bP (b::r)) (b::r).length false
def swC (q:Sq):List AV:= [.str q.nm,ω q.u1,ω q.u2,bV q.l]
def JF (l:List Sq):List AV:=l.flatMap swC
theorem JG (l:List Sq):(JF l).length=l.length*4:=by
 unfold JF
 induction l with
 |nil=>rfl
 |cons x r ih=>rw [Xjm,θ,ih];simp [swC];omega
theorem aav {a:List Sq} {k:Nat} (h:a.length=k) (q:Sq):μ (k*4) (JF a)++swC q=JF (a++ [q]):=by
 rw [Xqd (by rw [JG];omega)];unfold JF;rw [Xwb];simp
theorem afx {S:aU} {l:List Br} {v:Value} (h:PR S (bV l) v):PR S (.sl (bP l) l.length false) v:=by
 cases l with
 |nil=>simp only [bV,PR] at h;subst h;simp only [PR];exact ⟨none,0,rfl,Θ _,.inl (by simp [bP])⟩
 |cons _ _=>exact h
theorem Uj {S:aU}:∀ (ss:List Sq) {vs:List Value},dD S (JF ss) vs→dD S (bT (ss.map Sq.c)) vs
 | [],vs,h=>h
 |q::r,vs,h=>by
  have h:dD S (.str q.nm::.int .i64 q.u1::.int .i64 q.u2::bV q.l::JF r) vs:=h;show dD S (.str q.nm::.int .i64 q.u1::.int .i64 q.u2::.sl (bP q.l) q.l.length false::bT (r.map Sq.c)) vs;rcases vs with _|⟨v0,_|⟨v1,_|⟨b,_|⟨a,vs⟩⟩⟩⟩<;>simp only [dD,and_false,false_and] at h ⊢
  exact ⟨h.1,h.2.1,h.2.2.1,afx h.2.2.2.1,Uj r h.2.2.2.2⟩
theorem aau (a:List Sq):aZ (.sl (JF a) a.length true) (.sl (bT (a.map Sq.c)) a.length false):=by
 intro g m S v i;simp only [VR,PR] at i ⊢;obtain ⟨p,h,e,k,f⟩:=i;refine ⟨p,h,e,k, ?_⟩;rcases f with ⟨n,f,j,c⟩|⟨b,d,vs,j,c,l⟩
 ·cases a with
  |nil=>exact .inl (by simp [bT,c])
  |cons x r=>cases f
 ·exact .inr ⟨b,d,vs,j,Uj a c,l⟩
theorem zD {α:Type} {l p r:List α} {x:α} (h:l=p++x::r) (a:p.length<l.length):l[p.length]=x∧l.drop (p.length+1)=r:=by
 subst h;simp
def wM (qs:List Sq):List Sq:=(qs.take 4).map yw
theorem Py (b:Br):CO 16 [.sl [ω 0,.bool b.fn,.str b.fa,.str b.fd,.str [],ω 0,.bool b.rn,.str b.ra,.str b.rd,.str []] 2 true] (.ret (.sl [ω 0,.bool b.fn,.str (μ 60 b.fa),.str (μ 60 b.fd),.str [],ω 0,.bool b.rn,.str (μ 60 b.ra),.str (μ 60 b.rd),.str []] 2 false)):=
 UF [⟨0,b.fn,b.fa,b.fd,[]⟩,⟨0,b.rn,b.ra,b.rd,[]⟩] true
def acF (es:List Nd) (qs:List Sq) (nq:Bool) (op:Int) (nm tn:List UInt8) (u1 u2:Int) (k:Nat) (p:Nat × List Br):St:=match p.2 with
 | []=> ⟨[(0,.sl (aH es) es.length false),(1,.sl (bT (qs.map Sq.c)) qs.length nq),(5,.ptr 0 0 0),(7,.bool true),(8,.nilS),(9,.int .i64 (k:Int)),(10,.ptr 1 0 0),(11,.int .i64 (p.1:Int))],[(0,⟨[.int .i64 op,.str nm],0,false,0,0,true⟩),(1,⟨[.str tn,.int .i64 u1,.int .i64 u2,.nilS],0,false,0,0,true⟩)],.dead,[]⟩
 |x::r=> ⟨[(0,.sl (aH es) es.length false),(1,.sl (bT (qs.map Sq.c)) qs.length nq),(5,.ptr 0 0 0),(7,.bool true),(8,.nilS),(9,.int .i64 (k:Int)),(10,.ptr 1 0 0),(11,.int .i64 (p.1:Int))],[(0,⟨[.int .i64 op,.str nm],0,false,0,0,true⟩),(1,⟨[.str tn,.int .i64 u1,.int .i64 u2,.ref 2 0 0 (x::r).length],0,false,0,0,false⟩),(2,⟨(bP (x::r)),0,false,0,6,true⟩)],.dead,[]⟩
def agF (es:List Nd) (qs:List Sq) (nq:Bool) (op:Int) (nm tn:List UInt8) (u1 u2:Int) (k:Nat):List Br→St
 | []=> ⟨[(0,.sl (aH es) es.length false),(1,.sl (bT (qs.map Sq.c)) qs.length nq),(5,.ptr 0 0 0),(7,.bool true),(8,.nilS),(9,.int .i64 (k:Int)),(10,.ptr 1 0 0)],[(0,⟨[.int .i64 op,.str nm],0,false,0,0,true⟩),(1,⟨[.str tn,.int .i64 u1,.int .i64 u2,.nilS],0,false,0,0,true⟩)],.dead,[]⟩
 |x::r=> ⟨[(0,.sl (aH es) es.length false),(1,.sl (bT (qs.map Sq.c)) qs.length nq),(5,.ptr 0 0 0),(7,.bool true),(8,.nilS),(9,.int .i64 (k:Int)),(10,.ptr 1 0 0)],[(0,⟨[.int .i64 op,.str nm],0,false,0,0,true⟩),(1,⟨[.str tn,.int .i64 u1,.int .i64 u2,.ref 2 0 0 (x::r).length],0,false,0,0,false⟩),(2,⟨(bP (x::r)),0,false,0,6,true⟩)],.dead,[]⟩
theorem Vj (a:List Nd) (qs:List Sq) (b:Bool) (c:Int) (d e:List UInt8) (u1 u2:Int) (k:Nat) {i:Nat} {bs:List Br} (h:bs ≠ []):acF a qs b c d e u1 u2 k (i,bs)=⟨[(0,.sl (aH a) a.length false),(1,.sl (bT (qs.map Sq.c)) qs.length b),(5,.ptr 0 0 0),(7,.bool true),(8,.nilS),(9,ω (k:Int)),(10,.ptr 1 0 0),(11,ω (i:Int))],[(0,⟨[ω c,.str d],0,false,0,0,true⟩),(1,⟨[.str e,ω u1,ω u2,.ref 2 0 0 bs.length],0,false,0,0,false⟩),(2,⟨(bP bs),0,false,0,6,true⟩)],.dead,[]⟩:=by cases bs with|nil=>exact absurd rfl h|cons _ _=>rfl
theorem Vh {nt:Nat} (n:137≤nt) (e:List Nd) (qs:List Sq) (f:Bool) (g:Int) (j l:List UInt8) (u1 u2:Int) (k:Nat) (q:Sq) (A:List AV) (o:ε (δ (k:Int)*4) (bT (qs.map Sq.c))= [Xzq q.nm,ω q.u1,ω q.u2,.sl (bP q.l) q.l.length false]++A) (d:k<qs.length):aF prog ap [] nt (ae 2 (af f4)) (fun _=> .exit 2) (acF e qs f g j l u1 u2 k) (agF e qs f g j l u1 u2 k) (0,[]) ((q.l.take 10).map kV):=by
 refine aF.mapL kV (q.l.take 10) ?_ ?_
 ·intro p b r h;obtain ⟨x,c,a⟩:=r_ h;have w:ε (δ (p.length:Int)*6) (bP q.l)=xU b++bP (r++q.l.drop 10):=by
   have:=jh a;rw [this,(zD x a).1,(zD x a).2]
  have z:Xjh kV p++ [kV b] ≠ []:=by simp
  rw [Vj _ _ _ _ _ _ _ _ _ z];have m:(Xjh kV p).length=p.length:=Xxd ..;rw [θ,ο,m];have v:=Py b;cases hp:p with
  |nil=>subst hp;exact adE n e qs f g j l u1 u2 k 0 q b _ _ (by omega) o w (oz 0) (dO a) (oz k) (dO d) (aC (dO c)) (aC (dO a)) v
  |cons y t=>
   rw [← hp,Vj _ _ _ _ _ _ _ _ _ (by rw [hp];simp),m];have u:(Xjh kV p).length=p.length:=m;generalize Xjh kV p=bs at*
   exact adB n e qs f g j l u1 u2 k p.length bs q b _ _ (by omega) u o w (Xq4 (by first|omega|(rw [vC];omega))) (Xq4 (by first|omega|(rw [vC];omega))) (oz p.length) (dO a) (oz k) (dO d) (aC (dO c)) (aC (dO a)) v
 ·have B:(q.l.take 10).length=min 10 q.l.length:=Xqq;have s:((q.l.take 10).map kV).length=(q.l.take 10).length:=Xxd ..;generalize (q.l.take 10).map kV=bs at*
  generalize (q.l.take 10).length=i at*
  by_cases a:q.l.length≤i
  ·cases bs with
   |nil=>exact adG n e qs f g j l u1 u2 k i q _ o (aB (dF a)) (oz k) (dO d)
   |cons y t=>subst s;exact adD n e qs f g j l u1 u2 k (y::t).length (y::t) q _ o (aB (dF a)) (oz k) (dO d)
  ·have c:10≤i:=by omega
   have a:i<q.l.length:=by omega
   cases bs with
   |nil=>exact adF n e qs f g j l u1 u2 k i q _ o (aB (dF c)) (aC (dO a)) (oz k) (dO d)
   |cons y t=>subst s;exact adC n e qs f g j l u1 u2 k (y::t).length (y::t) q _ o (aB (dF c)) (aC (dO a)) (oz k) (dO d)
def acD (es:List Nd) (qs:List Sq) (nq:Bool) (op:Int) (nm tn:List UInt8) (u1 u2:Int) (k:Nat) (os:List AV) (p:Nat × List Br):St:=match p.2 with
 | []=> ⟨[(0,.sl (aH es) es.length false),(1,.sl (bT (qs.map Sq.c)) qs.length nq),(5,.ptr 0 0 0),(7,.bool true),(8,.ref 1 0 0 k),(9,.int .i64 (k:Int)),(10,.ptr 2 0 0),(11,.int .i64 (p.1:Int))],[(0,⟨[.int .i64 op,.str nm],0,false,0,0,true⟩),(1,⟨os,0,false,0,4,true⟩),(2,⟨[.str tn,.int .i64 u1,.int .i64 u2,.nilS],0,false,0,0,true⟩)],.dead,[]⟩
 |x::r=> ⟨[(0,.sl (aH es) es.length false),(1,.sl (bT (qs.map Sq.c)) qs.length nq),(5,.ptr 0 0 0),(7,.bool true),(8,.ref 1 0 0 k),(9,.int .i64 (k:Int)),(10,.ptr 2 0 0),(11,.int .i64 (p.1:Int))],[(0,⟨[.int .i64 op,.str nm],0,false,0,0,true⟩),(1,⟨os,0,false,0,4,true⟩),(2,⟨[.str tn,.int .i64 u1,.int .i64 u2,.ref 3 0 0 (x::r).length],0,false,0,0,false⟩),(3,⟨(bP (x::r)),0,false,0,6,true⟩)],.dead,[]⟩
def agD (es:List Nd) (qs:List Sq) (nq:Bool) (op:Int) (nm tn:List UInt8) (u1 u2:Int) (k:Nat) (os:List AV):List Br→St
 | []=> ⟨[(0,.sl (aH es) es.length false),(1,.sl (bT (qs.map Sq.c)) qs.length nq),(5,.ptr 0 0 0),(7,.bool true),(8,.ref 1 0 0 k),(9,.int .i64 (k:Int)),(10,.ptr 2 0 0)],[(0,⟨[.int .i64 op,.str nm],0,false,0,0,true⟩),(1,⟨os,0,false,0,4,true⟩),(2,⟨[.str tn,.int .i64 u1,.int .i64 u2,.nilS],0,false,0,0,true⟩)],.dead,[]⟩
 |x::r=> ⟨[(0,.sl (aH es) es.length false),(1,.sl (bT (qs.map Sq.c)) qs.length nq),(5,.ptr 0 0 0),(7,.bool true),(8,.ref 1 0 0 k),(9,.int .i64 (k:Int)),(10,.ptr 2 0 0)],[(0,⟨[.int .i64 op,.str nm],0,false,0,0,true⟩),(1,⟨os,0,false,0,4,true⟩),(2,⟨[.str tn,.int .i64 u1,.int .i64 u2,.ref 3 0 0 (x::r).length],0,false,0,0,false⟩),(3,⟨(bP (x::r)),0,false,0,6,true⟩)],.dead,[]⟩
theorem Vg (a:List Nd) (qs:List Sq) (b:Bool) (d:Int) (e f:List UInt8) (u1 u2:Int) (k:Nat) (c:List AV) {i:Nat} {bs:List Br} (h:bs ≠ []):acD a qs b d e f u1 u2 k c (i,bs)=⟨[(0,.sl (aH a) a.length false),(1,.sl (bT (qs.map Sq.c)) qs.length b),(5,.ptr 0 0 0),(7,.bool true),(8,.ref 1 0 0 k),(9,ω (k:Int)),(10,.ptr 2 0 0),(11,ω (i:Int))],[(0,⟨[ω d,.str e],0,false,0,0,true⟩),(1,⟨c,0,false,0,4,true⟩),(2,⟨[.str f,ω u1,ω u2,.ref 3 0 0 bs.length],0,false,0,0,false⟩),(3,⟨(bP bs),0,false,0,6,true⟩)],.dead,[]⟩:=by cases bs with|nil=>exact absurd rfl h|cons _ _=>rfl
theorem Vf {nt:Nat} (o:137≤nt) (e:List Nd) (qs:List Sq) (f:Bool) (g:Int) (j m:List UInt8) (u1 u2:Int) (k:Nat) (l:List AV) (q:Sq) (B:List AV) (s:ε (δ (k:Int)*4) (bT (qs.map Sq.c))= [Xzq q.nm,ω q.u1,ω q.u2,.sl (bP q.l) q.l.length false]++B) (d:k<qs.length):aF prog ap [] nt (ae 2 (af f4)) (fun _=> .exit 2) (acD e qs f g j m u1 u2 k l) (agD e qs f g j m u1 u2 k l) (0,[]) ((q.l.take 10).map kV):=by
 refine aF.mapL kV (q.l.take 10) ?_ ?_
 ·intro p b r h;obtain ⟨z,c,a⟩:=r_ h;have x:ε (δ (p.length:Int)*6) (bP q.l)=xU b++bP (r++q.l.drop 10):=by
   have:=jh a;rw [this,(zD z a).1,(zD z a).2]
  have A:Xjh kV p++ [kV b] ≠ []:=by simp
  rw [Vg _ _ _ _ _ _ _ _ _ _ A];have n:(Xjh kV p).length=p.length:=Xxd ..;rw [θ,ο,n];have w:=Py b;cases hp:p with
  |nil=>subst hp;exact adw o e qs f g j m u1 u2 k 0 l q b _ _ (by omega) s x (oz 0) (dO a) (oz k) (dO d) (aC (dO c)) (aC (dO a)) w
  |cons y t=>
   rw [← hp,Vg _ _ _ _ _ _ _ _ _ _ (by rw [hp];simp),n];have v:(Xjh kV p).length=p.length:=n;generalize Xjh kV p=bs at*
   exact adt o e qs f g j m u1 u2 k p.length l bs q b _ _ (by omega) v s x (Xq4 (by first|omega|(rw [vC];omega))) (Xq4 (by first|omega|(rw [vC];omega))) (oz p.length) (dO a) (oz k) (dO d) (aC (dO c)) (aC (dO a)) w
 ·have C:(q.l.take 10).length=min 10 q.l.length:=Xqq;have u:((q.l.take 10).map kV).length=(q.l.take 10).length:=Xxd ..;generalize (q.l.take 10).map kV=bs at*
  generalize (q.l.take 10).length=i at*
  by_cases a:q.l.length≤i
  ·cases bs with
   |nil=>exact ady o e qs f g j m u1 u2 k i l q _ s (aB (dF a)) (oz k) (dO d)
   |cons y t=>subst u;exact adv o e qs f g j m u1 u2 k (y::t).length l (y::t) q _ s (aB (dF a)) (oz k) (dO d)
  ·have c:10≤i:=by omega
   have a:i<q.l.length:=by omega
   cases bs with
   |nil=>exact adx o e qs f g j m u1 u2 k i l q _ s (aB (dF c)) (aC (dO a)) (oz k) (dO d)
   |cons y t=>subst u;exact adu o e qs f g j m u1 u2 k (y::t).length l (y::t) q _ s (aB (dF c)) (aC (dO a)) (oz k) (dO d)
theorem acI (a:List Nd) (qs:List Sq) (b:Bool) (c:Int) (d e:List UInt8) (u1 u2:Int) (k:Nat) (q:Sq) (j:List AV) (m:ε (δ (k:Int)*4) (bT (qs.map Sq.c))= [Xzq q.nm,ω q.u1,ω q.u2,.sl (bP q.l) q.l.length false]++j) (g:k<qs.length) (bs:List Br) (n:(q.l.take 10).map kV=bs):aI prog ap [] 137 (.block 2 (.loop (ae 2 (af f4)))) ⟨[(0,.sl (aH a) a.length false),(1,.sl (bT (qs.map Sq.c)) qs.length b),(5,.ptr 0 0 0),(7,.bool true),(8,.nilS),(9,ω (k:Int)),(10,.ptr 1 0 0),(11,ω ((0:Nat):Int))],[(0,⟨[ω c,.str d],0,false,0,0,true⟩),(1,⟨[.str e,ω u1,ω u2,.nilS],0,false,0,0,true⟩)],.dead,[]⟩ .normal ⟨[(0,.sl (aH a) a.length false),(1,.sl (bT (qs.map Sq.c)) qs.length b),(5,.ptr 0 0 0),(7,.bool true),(8,.nilS),(9,ω (k:Int)),(10,.ptr 1 0 0)],[(0,⟨[ω c,.str d],0,false,0,0,true⟩),(1,⟨[.str e,ω u1,ω u2,bV bs],0,false,0,0,true⟩)],.dead,[]⟩:=by
 intro nt f;have hloop:=fun nt (f:137≤nt)=>Vh f a qs b c d e u1 u2 k q j m g
 rw [n] at hloop;have i:=aF.blk (id:=2) (e':= .normal) (s:=acF a qs b c d e u1 u2 k (0,[])) (s':=agF a qs b c d e u1 u2 k bs) hloop (by simp) rfl (aJ.refl _) (aJ.refl _) nt f;cases bs with
 |nil=>exact i
 | cons y t=>
  have l:aZ (.sl (μ ((y::t).length*6) (ε (0*6) (bP (y::t)))) (y::t).length true) (bV (y::t)):=by
   rw [Xzl,Xx7,Xqd (by rw [vC];omega)];exact aZ.sl _ _ _
  exact i.forget 2 ⟨bP (y::t),0,false,0,6,true⟩ (by intro v h;cases h) (Xxq _) rfl ⟨Fz.same rfl,Fz.same rfl,Fz.same rfl,Fz.same rfl,Fz.same rfl,Fz.same rfl,Fz.same rfl,trivial⟩ ⟨rfl,Ig.same rfl,by decide,rfl,⟨rfl,rfl,rfl,rfl,.inr ⟨.cons (.same rfl) (.cons (.same rfl) (.cons (.same rfl) (.cons (.fit .ref (l)) .nil))),fun _=>rfl⟩⟩,by decide,rfl⟩
theorem acE (a:List Nd) (qs:List Sq) (b:Bool) (c:Int) (d f:List UInt8) (u1 u2:Int) (k:Nat) (e:List AV) (q:Sq) (l:List AV) (n:ε (δ (k:Int)*4) (bT (qs.map Sq.c))= [Xzq q.nm,ω q.u1,ω q.u2,.sl (bP q.l) q.l.length false]++l) (i:k<qs.length) (bs:List Br) (o:(q.l.take 10).map kV=bs):aI prog ap [] 137 (.block 2 (.loop (ae 2 (af f4)))) ⟨[(0,.sl (aH a) a.length false),(1,.sl (bT (qs.map Sq.c)) qs.length b),(5,.ptr 0 0 0),(7,.bool true),(8,.ref 1 0 0 k),(9,ω (k:Int)),(10,.ptr 2 0 0),(11,ω ((0:Nat):Int))],[(0,⟨[ω c,.str d],0,false,0,0,true⟩),(1,⟨e,0,false,0,4,true⟩),(2,⟨[.str f,ω u1,ω u2,.nilS],0,false,0,0,true⟩)],.dead,[]⟩ .normal ⟨[(0,.sl (aH a) a.length false),(1,.sl (bT (qs.map Sq.c)) qs.length b),(5,.ptr 0 0 0),(7,.bool true),(8,.ref 1 0 0 k),(9,ω (k:Int)),(10,.ptr 2 0 0)],[(0,⟨[ω c,.str d],0,false,0,0,true⟩),(1,⟨e,0,false,0,4,true⟩),(2,⟨[.str f,ω u1,ω u2,bV bs],0,false,0,0,true⟩)],.dead,[]⟩:=by
 intro nt g;have hloop:=fun nt (g:137≤nt)=>Vf g a qs b c d f u1 u2 k e q l n i
 rw [o] at hloop;have j:=aF.blk (id:=2) (e':= .normal) (s:=acD a qs b c d f u1 u2 k e (0,[])) (s':=agD a qs b c d f u1 u2 k e bs) hloop (by simp) rfl (aJ.refl _) (aJ.refl _) nt g;cases bs with
 |nil=>exact j
 | cons y t=>
  have m:aZ (.sl (μ ((y::t).length*6) (ε (0*6) (bP (y::t)))) (y::t).length true) (bV (y::t)):=by
   rw [Xzl,Xx7,Xqd (by rw [vC];omega)];exact aZ.sl _ _ _
  exact j.forget 3 ⟨bP (y::t),0,false,0,6,true⟩ (by intro v h;cases h) (Xxq _) rfl ⟨Fz.same rfl,Fz.same rfl,Fz.same rfl,Fz.same rfl,Fz.same rfl,Fz.same rfl,Fz.same rfl,trivial⟩ ⟨rfl,Ig.same rfl,by decide,rfl,Ig.same rfl,by decide,rfl,⟨rfl,rfl,rfl,rfl,.inr ⟨.cons (.same rfl) (.cons (.same rfl) (.cons (.same rfl) (.cons (.fit .ref (m)) .nil))),fun _=>rfl⟩⟩,by decide,rfl⟩
def orS (es:List Nd) (qs:List Sq) (nq:Bool) (op:Int) (nm:List UInt8) (p:Nat × List Sq):St:=match p.2 with
 | []=> ⟨[(0,.sl (aH es) es.length false),(1,.sl (bT (qs.map Sq.c)) qs.length nq),(5,.ptr 0 0 0),(7,.bool true),(8,.nilS),(9,.int .i64 (p.1:Int))],[(0,⟨[.int .i64 op,.str nm],0,false,0,0,true⟩)],.dead,[]⟩
 |x::r=> ⟨[(0,.sl (aH es) es.length false),(1,.sl (bT (qs.map Sq.c)) qs.length nq),(5,.ptr 0 0 0),(7,.bool true),(8,.ref 1 0 0 (x::r).length),(9,.int .i64 (p.1:Int))],[(0,⟨[.int .i64 op,.str nm],0,false,0,0,true⟩),(1,⟨JF (x::r),0,false,0,4,true⟩)],.dead,[]⟩
def orO (es:List Nd) (qs:List Sq) (nq:Bool) (op:Int) (nm:List UInt8):List Sq→St
 | []=> ⟨[(0,.sl (aH es) es.length false),(1,.sl (bT (qs.map Sq.c)) qs.length nq),(5,.ptr 0 0 0),(7,.bool true),(8,.nilS)],[(0,⟨[.int .i64 op,.str nm],0,false,0,0,true⟩)],.dead,[]⟩
 |x::r=> ⟨[(0,.sl (aH es) es.length false),(1,.sl (bT (qs.map Sq.c)) qs.length nq),(5,.ptr 0 0 0),(7,.bool true),(8,.ref 1 0 0 (x::r).length)],[(0,⟨[.int .i64 op,.str nm],0,false,0,0,true⟩),(1,⟨JF (x::r),0,false,0,4,true⟩)],.dead,[]⟩
theorem abt (b:List Nd) (qs:List Sq) (c:Bool) (d:Int) (e:List UInt8) {k:Nat} {a:List Sq} (h:a ≠ []):orS b qs c d e (k,a)=⟨[(0,.sl (aH b) b.length false),(1,.sl (bT (qs.map Sq.c)) qs.length c),(5,.ptr 0 0 0),(7,.bool true),(8,.ref 1 0 0 a.length),(9,ω (k:Int))],[(0,⟨[ω d,.str e],0,false,0,0,true⟩),(1,⟨JF a,0,false,0,4,true⟩)],.dead,[]⟩:=by cases a with|nil=>exact absurd rfl h|cons _ _=>rfl
theorem Zx {nt:Nat} (j:137≤nt) (b:List Nd) (qs:List Sq) (c:Bool) (e:Int) (f:List UInt8):aF prog ap [] nt (ae 0 (af f4)) (fun _=> .exit 0) (orS b qs c e f) (orO b qs c e f) (0,[]) (wM qs):=by
 refine aF.mapL yw (qs.take 4) ?_ ?_
 ·intro p q r h;obtain ⟨w,d,a⟩:=r_ h;have m:ε (δ (p.length:Int)*4) (bT (qs.map Sq.c))= [Xzq q.nm,ω q.u1,ω q.u2,.sl (bP q.l) q.l.length false]++bT ((r++qs.drop 4).map Sq.c):=by
   have u:p.length<(qs.map Sq.c).length:=by rw [Xxd];exact a
   have:=yT u;rw [aA,this,List.getElem_map,← Xjx,(zD w a).1,(zD w a).2];rfl
  have x:Xjh yw p++ [yw q] ≠ []:=by simp
  rw [abt _ _ _ _ _ x];have i:(Xjh yw p).length=p.length:=Xxd ..;rw [θ,ο,i];cases hp:p with
  |nil=>
   subst hp;have o:=acI b qs c e f (μ 30 q.nm) q.u1 q.u2 0 q _ m a _ rfl;show aj _ _ _ _ _ _ _ ⟨[(0,.sl (aH b) b.length false),(1,.sl (bT (qs.map Sq.c)) qs.length c),(5,.ptr 0 0 0),(7,.bool true),(8,.ref 1 0 0 1),(9,ω ((1:Nat):Int))],[(0,⟨[ω e,.str f],0,false,0,0,true⟩),(1,⟨JF [yw q],0,false,0,4,true⟩)],.dead,[]⟩;have v:yw q=⟨μ 30 q.nm,q.u1,q.u2,(q.l.take 10).map kV⟩:=rfl;rw [v];generalize (q.l.take 10).map kV=bs at*
   cases bs with
   |nil=>exact aej j b qs c e f 0 q _ (by omega) m (oz _) (mle 30 q.nm) (oz 0) (dO a) (aC (dO d)) (aC (dO a)) (fun nt g=>(o nt g).weak (aJ.of ⟨rfl,rfl,rfl,rfl,rfl,rfl,rfl,rfl,trivial⟩) (aJ.refl _))
   |cons y t=>exact aei j b qs c e f 0 _ _ q _ (by omega) m (oz _) (mle 30 q.nm) (oz 0) (dO a) (aC (dO d)) (aC (dO a)) (fun nt g=>(o nt g).weak (aJ.of ⟨rfl,rfl,rfl,rfl,rfl,rfl,rfl,rfl,trivial⟩) (aJ.refl _))
  |cons y t=>
   rw [← hp,abt _ _ _ _ _ (by rw [hp];simp),i];have v:yw q=⟨μ 30 q.nm,q.u1,q.u2,(q.l.take 10).map kV⟩:=rfl;have l:=aav i (yw q);have o:=acE b qs c e f (μ 30 q.nm) q.u1 q.u2 p.length (JF (Xjh yw p)) q _ m a _ rfl;rw [v] at l ⊢;clear v;have s:=JG (Xjh yw p);rw [i] at s;generalize (q.l.take 10).map kV=bs at*
   generalize Xjh yw p=ss at*
   cases bs with
   |nil=>exact aed j b qs c e f p.length (JF ss) _ q _ (by omega) l m (Xq4 (by omega)) (Xq4 (by omega)) (oz _) (mle 30 q.nm) (oz p.length) (dO a) (aC (dO d)) (aC (dO a)) (fun nt g=>(o nt g).weak (aJ.of ⟨rfl,rfl,rfl,rfl,rfl,rfl,rfl,rfl,trivial⟩) (aJ.refl _))
   |cons y t=>exact aec j b qs c e f p.length (JF ss) _ _ _ q _ (by omega) l m (Xq4 (by omega)) (Xq4 (by omega)) (oz _) (mle 30 q.nm) (oz p.length) (dO a) (aC (dO d)) (aC (dO a)) (fun nt g=>(o nt g).weak (aJ.of ⟨rfl,rfl,rfl,rfl,rfl,rfl,rfl,rfl,trivial⟩) (aJ.refl _))
 ·have z:(qs.take 4).length=min 4 qs.length:=Xqq;have n:(wM qs).length=(qs.take 4).length:=Xxd ..;show aj _ _ _ _ _ (orS b qs c e f ((qs.take 4).length,wM qs)) _ (orO b qs c e f (wM qs));generalize wM qs=ss at*
  generalize (qs.take 4).length=k at*
  by_cases a:qs.length≤k
  ·cases ss with
   |nil=>exact ael j b qs c e f k (aB (dF a))
   |cons y t=>subst n;exact aef j b qs c e f (y::t).length (JF (y::t)) (aB (dF a))
  ·have d:4≤k:=by omega
   have a:k<qs.length:=by omega
   cases ss with
   |nil=>exact aek j b qs c e f k (aB (dF d)) (aC (dO a))
   |cons y t=>subst n;exact aee j b qs c e f (y::t).length (JF (y::t)) (aB (dF d)) (aC (dO a))
theorem ahA (f b:List Nd) (h g:Bool) (qs:List Sq) (c d e:Int) (a:List UInt8) (h0:lit true (d==d)=true) (m:(decide (((0:Nat):Int)≤(((min 30 a.length):Nat):Int)))=true) (l:(decide ((((min 30 a.length):Nat):Int)≤(((ζ a):Nat):Int)))=true) (o:CO 10 [] (.ret (.bool true))) (i:CO 16 [.sl (aH f) f.length h] (.ret (.sl (aH b) b.length false))) (n:aI prog ap [] 137 (.block 0 (.loop (ae 0 (af f4)))) ⟨[(0,.sl (aH b) b.length false),(1,.sl (bT (qs.map Sq.c)) qs.length g),(2,.agg [ω c,.str a]),(5,.ptr 0 0 0),(6,.bool false),(7,.bool true),(8,.nilS),(9,ω 0),(10,.dead),(11,.dead),(12,.dead),(13,.dead),(14,.dead),(33,.dead),(60,.dead),(102,.dead)],[(0,⟨[ω c,.str (μ 30 a)],0,false,0,0,true⟩)],.dead,[]⟩ (.normal) ⟨[(0,.sl (aH b) b.length false),(5,.ptr 0 0 0),(7,.bool true),(8,.nilS)],[(0,⟨[ω c,.str (μ 30 a)],0,false,0,0,true⟩)],.dead,[]⟩) (k:CO 14 [.sl (aH b) b.length false,.nilS,ω c,.str (μ 30 a)] (.ret (ω d))) (j:CO 15 [.sl (aH b) b.length false,.nilS,ω c,.str (μ 30 a)] (.ret (ω d))) (q:CO 14 [.sl [ω 6,.bool false,.str [],.str [],.str [97],ω 24,.bool false,.str [],.str [],.str [98]] 2 true,.nilS,ω 6,.str [97]] (.ret (ω e))) (p:CO 15 [.sl [ω 6,.bool false,.str [],.str [],.str [97],ω 24,.bool false,.str [],.str [],.str [98]] 2 true,.nilS,ω 6,.str [97]] (.ret (ω e))):CO 4 [.sl (aH f) f.length h,.sl (bT (qs.map Sq.c)) qs.length g,.agg [ω c,.str a]] (.ret (.bool (e==e))):=pK [0] 3 6 (.c h0 (.k 8 m (.c l (.n 2 .nil)))) (.c p (.c q (.c j (.c k (.l n (.v 24 (.eq (sQ 30 a)) (.v 23 (.eq (sV 30 a)) (.c i (.c o .nil)))))))))
theorem ahz (g b:List Nd) (j i:Bool) (qs:List Sq) (d e f:Int) (a h:List UInt8) (k:Nat) (c:List AV) (o:Xzq (AV.toStr (η c .dead))= .str h) (h0:lit true (e==e)=true) (q:(chk .str (η c .dead))=true) (p:(decide (((0:Nat):Int)<(k:Int)))=true) (r:lit true (decide (((0:Nat):Int)<(k:Int)))=true) (s:(decide (((0:Nat):Int)≤(((min 30 a.length):Nat):Int)))=true) (v:(decide ((((min 30 a.length):Nat):Int)≤(((ζ a):Nat):Int)))=true) (u:CO 10 [] (.ret (.bool true))) (l:CO 16 [.sl (aH g) g.length j] (.ret (.sl (aH b) b.length false))) (t:aI prog ap [] 137 (.block 0 (.loop (ae 0 (af f4)))) ⟨[(0,.sl (aH b) b.length false),(1,.sl (bT (qs.map Sq.c)) qs.length i),(2,.agg [ω d,.str a]),(5,.ptr 0 0 0),(6,.bool false),(7,.bool true),(8,.nilS),(9,ω 0),(10,.dead),(11,.dead),(12,.dead),(13,.dead),(14,.dead),(33,.dead),(60,.dead),(102,.dead)],[(0,⟨[ω d,.str (μ 30 a)],0,false,0,0,true⟩)],.dead,[]⟩ (.normal) ⟨[(0,.sl (aH b) b.length false),(5,.ptr 0 0 0),(7,.bool true),(8,.ref 1 0 0 k)],[(0,⟨[ω d,.str (μ 30 a)],0,false,0,0,true⟩),(1,⟨c,0,false,0,4,true⟩)],.dead,[]⟩) (n:CO 14 [.sl (aH b) b.length false,.sl (μ (k*4) c) k true,ω d,.str (μ 30 a)] (.ret (ω e))) (m:CO 15 [.sl (aH b) b.length false,.sl (μ (k*4) c) k true,ω d,.str (μ 30 a)] (.ret (ω e))) (x:CO 14 [.sl [ω 6,.bool false,.str [],.str [],.str [97],ω 24,.bool false,.str [],.str [],.str h] 2 true,.sl (μ (k*4) c) k true,ω 6,.str [97]] (.ret (ω f))) (w:CO 15 [.sl [ω 6,.bool false,.str [],.str [],.str [97],ω 24,.bool false,.str [],.str [],.str h] 2 true,.sl (μ (k*4) c) k true,ω 6,.str [97]] (.ret (ω f))):CO 4 [.sl (aH g) g.length j,.sl (bT (qs.map Sq.c)) qs.length i,.agg [ω d,.str a]] (.ret (.bool (f==f))):=pK [0] 3 7 (.c h0 (.k 8 q (.k 1 p (.c r (.k 2 s (.c v (.n 2 .nil))))))) (.c w (.c x (.c m (.c n (.v 107 (.eq o) (.l t (.v 24 (.eq (sQ 30 a)) (.v 23 (.eq (sV 30 a)) (.c l (.c u .nil))))))))))
theorem X5 (a:Int):(a==a)=true:=beq_self_eq_true a
theorem abC (f:Nat) (h:∀ (s0 s1:Bool) (n0 d0 n1 d1:List UInt8),n0.length<2^28→d0.length<2^28→n1.length<2^28→d1.length<2^28→CO f [Ω s0 n0 d0,Ω s1 n1 d1] (.ret (ω (Q7 (vQ s0 n0 d0) (vQ s1 n1 d1))))) (qs:List Sq):JX f (fun y x=>Q7 (vQ y.fn y.fa y.fd) (vQ x.fn x.fa x.fd)) (wM qs):=by
 intro q g;obtain ⟨q0,_,rfl⟩:=List.mem_map.1 g;have c:∀ x ∈ (yw q0).l,(x.fa.length<2^28∧x.fd.length<2^28)∧(x.ra.length<2^28∧x.rd.length<2^28):=by
  intro x a;obtain ⟨b,_,rfl⟩:=List.mem_map.1 a;simp only [kV,Xqq];omega
 refine ⟨?_, ?_, ?_⟩
 ·simp only [yw,Xxd,Xqq];omega
 ·intro x a;have:=c x a;exact ⟨⟨by omega,by omega⟩,by omega,by omega⟩
 ·intro i y x j a _ _;have e:=c y (Xqr j);have d:=c x (Xqr a);exact h _ _ _ _ _ _ e.1.1 e.1.2 d.1.1 d.1.2
abbrev Q4:Br→Br→Int:=fun y x=>Q7 (vQ y.fn y.fa y.fd) (vQ x.fn x.fa x.fd)
theorem akG (g:List Nd) (p n:Bool) (qs:List Sq) (c:Int) (d:List UInt8):CO 4 [.sl (aH g) g.length p,.sl (bT (qs.map Sq.c)) qs.length n,.agg [ω c,.str d]] (.ret (.bool true)):=by
 have v:=aF.blk (id:=0) (e':= .normal) (s:=orS (xq g) qs n c (μ 30 d) (0,[])) (s':=orO (xq g) qs n c (μ 30 d) (wM qs)) (fun nt (hn:137≤nt)=>Zx hn (xq g) qs n c (μ 30 d)) (by simp) rfl (aJ.refl _) (aJ.refl _);have i:=acm g;have C:=Yh g;have w:=UF g p;have k1:=abC 129 LQ qs;have k2:=abC 24 ZG qs;have B:(wM qs).length≤4:=by simp only [wM,Xxd,Xqq];omega
 generalize wM qs=ss at*
 generalize xq g=es at*
 have o:∀ (e:List Nd) (l b:Bool) (c:Int) (k:List UInt8),(∀ y ∈ e,y.sm)→e.length<2^40→CO 14 [.sl (aH e) e.length l,.sl (bT (ss.map Sq.c)) ss.length b,ω c,.str k] (.ret (ω ((jF (MR Q4) (MS Q4) e (ss.map Sq.c) c k:Nat):Int))):=fun e l b c k u t=>dh e l ss b Q4 c k u t (by omega) k1
 have q:∀ (e:List Nd) (l b:Bool) (c:Int) (k:List UInt8),(∀ y ∈ e,y.sm)→e.length<2^40→CO 15 [.sl (aH e) e.length l,.sl (bT (ss.map Sq.c)) ss.length b,ω c,.str k] (.ret (ω ((jF (MR Q4) (MS Q4) e (ss.map Sq.c) c k:Nat):Int))):=fun e l b c k u t=>LG e l ss b Q4 c k u t (by omega) k2
 have j:∀ (a b:List UInt8),∀ y ∈ ([⟨6,false,[],[],a⟩,⟨24,false,[],[],b⟩]:List Nd),y.sm:=by
  intro a b y A;simp only [Xz3,Xk4,or_false] at A;rcases A with rfl|rfl<;>exact ⟨by simp,by simp⟩
 cases ss with
 |nil=>
  have F:∀ {f:Nat} {x y z:AV} {out:kC},CO f [x,.sl [] 0 false,y,z] out→CO f [x,.nilS,y,z] out:=fun h=>ax.args (.cons (aZ.refl _) (.cons (aZ.nilS false rfl) (.cons (aZ.refl _) (.cons (aZ.refl _) .nil)))) h
  have h:=ahA g es p n qs c _ _ d (aC (X5 _)) (oz _) (mle 30 d) H8 w (fun nt m=>(v nt m).weak (aJ.of ⟨rfl,rfl,rfl,rfl,rfl,rfl,trivial⟩) (aJ.of ⟨rfl,rfl,rfl,rfl,trivial⟩)) (F (o es false false c (μ 30 d) i (by omega))) (F (q es false false c (μ 30 d) i (by omega))) (F (o [⟨6,false,[],[],[97]⟩,⟨24,false,[],[],[98]⟩] true false 6 [97] (j _ _) (by simp))) (F (q [⟨6,false,[],[],[97]⟩,⟨24,false,[],[],[98]⟩] true false 6 [97] (j _ _) (by simp)));rw [X5] at h;exact h
 |cons a r=>
  have F:∀ {f:Nat} {x y z:AV} {out:kC},CO f [x,.sl (bT ((a::r).map Sq.c)) (a::r).length false,y,z] out→CO f [x,.sl (μ ((a::r).length*4) (JF (a::r))) (a::r).length true,y,z] out:=fun h=>ax.args (.cons (aZ.refl _) (.cons (by rw [Xqd (by rw [JG];omega)];exact aau (a::r)) (.cons (aZ.refl _) (.cons (aZ.refl _) .nil)))) h
  have h:=ahz g es p n qs c _ _ d a.nm (a::r).length (JF (a::r)) rfl (aC (X5 _)) rfl (dO (show 0<(a::r).length by simp)) (aC (dO (show 0<(a::r).length by simp))) (oz _) (mle 30 d) H8 w (fun nt m=>(v nt m).weak (aJ.of ⟨rfl,rfl,rfl,rfl,rfl,rfl,trivial⟩) (aJ.of ⟨rfl,rfl,rfl,rfl,trivial⟩)) (F (o es false false c (μ 30 d) i (by omega))) (F (q es false false c (μ 30 d) i (by omega))) (F (o [⟨6,false,[],[],[97]⟩,⟨24,false,[],[],a.nm⟩] true false 6 [97] (j _ _) (by simp))) (F (q [⟨6,false,[],[],[97]⟩,⟨24,false,[],[],a.nm⟩] true false 6 [97] (j _ _) (by simp)));rw [X5] at h;exact h
end Go.Proofs.Tryz
set_option maxRecDepth 100000
open Go AM Go.ChangeShapes Go.WideShapes Go.ChangeAt Go.RowKit
namespace Go.Proofs.Tryz
noncomputable def Eh (t:TypeId) (d:DataW Unit):List Lit:=((lZ prog 6 t d 0).getD []).map (·.2)
open Go.Proofs.YtcjindbblhcopaaGreatDoor
def Vu:List (String × DataW Unit):= [("unicode/utf8.acceptRanges",Rows.laid_unicode_utf8_acceptRanges),("tithing/expr.table",Rows.laid_tithing_expr_table),("unicode/utf8.first",Rows.laid_unicode_utf8_first)]
theorem RX:Vu.filter (fun x=>x.2.handleName?.isSome)= []:=by kernel_rfl
theorem agA {W:World} (h:laidMetH prog Vu W):Uh ap W:=by
 have c (i:Nat) (n:String) (d:DataW Unit) (hm:Vu[i]? =some (n,d)) (g:Nat) (t:TypeId) (hg:prog.globalNamed n=some g) (ht:(prog.globals[g]?).map (·.type)=some t)
   (hl:lZ prog 6 t d 0=some ((Eh t d).zipIdx.map fun (l,i)=>(i,l))):=N_ h RX (Xqr hm) hg ht hl
 have f:=c 1 _ _ rfl 0 105 (by kernel_rfl) (by kernel_rfl) (by kernel_rfl);have e:=c 0 _ _ rfl 2 219 (by kernel_rfl) (by kernel_rfl) (by kernel_rfl);have key (k:Nat) (t:TypeId) (d:DataW Unit) (hx:(ap.gl[k]?).join=some ((Eh t d).map KQ)) (ho:(Eh t d).all Eg=true) (hc:∀ (j:Nat) (l:Lit),(Eh t d)[j]? =some l→W.cell? ⟨k,j,none⟩=some (pX l)):
   ∀ b,(ap.gl[k]?).join=some b→∃ ls:List Lit,b=ls.map KQ∧ls.all Eg=true∧∀ (j:Nat) (l:Lit),ls[j]? =some l→W.cell? ⟨k,j,none⟩=some (pX l):=by
  intro b a;rw [hx] at a;cases a;exact ⟨_,rfl,ho,hc⟩
 intro k
 match k with
 |0=>exact key 0 _ _ (by kernel_rfl) (by kernel_rfl) f
 |1=>intro b a;exact absurd (show (none:Option (List AV))=some b from a) (by simp)
 |2=>exact key 2 _ _ (by kernel_rfl) (by kernel_rfl) e
 |3=>intro b a;exact absurd (show (none:Option (List AV))=some b from a) (by simp)
 |k+4=>
  intro b a;have:ap.gl.length=4:=by kernel_rfl
  rw [List.getElem?_eq_none (by omega)] at a;cases a
theorem own:ownKnob prog.godebug=none:=by kernel_rfl
theorem akF:laidOutB prog=true:=by kernel_rfl
noncomputable def aeF (t:TypeId) (d:DataW Unit):Obj→Obj
 | .cells _ t' fr=> .cells ((Eh t d).map pX).toArray t' fr
 |o=>o
noncomputable def afh (os:Os):World:=
 let w:=World.holding prog os ⟨#[],#[],[]⟩
 {w with heap:=((w.heap.modify 0 (aeF 105 Rows.laid_tithing_expr_table)).modify 1 (aeF 216 Rows.laid_unicode_utf8_first)).modify 2 (aeF 219 Rows.laid_unicode_utf8_acceptRanges)}
end Go.Proofs.Tryz
set_option maxRecDepth 100000
set_option linter.unusedVariables false
open Go AM Go.ChangeShapes Go.WideShapes Go.ChangeAt Go.RowKit
namespace Go.Proofs.Tryz
open Go.Proofs.YtcjindbblhcopaaGreatDoor
section
variable {H:Type}
theorem afP (d:DataW H):1≤Rows.uptoBulk d:=by
 cases d with
 |lit x=>cases x<;>simp [Rows.uptoBulk]
 |_=>simp [Rows.uptoBulk]
theorem CZ:∀ {l:List (DataW H)} {d:DataW H},d ∈ l→Rows.uptoBulk d≤Rows.uptoBulkAll l
 |x::r,d,h=>by
  simp only [Rows.uptoBulkAll];rcases List.mem_cons.1 h with rfl|h
  ·omega
  ·have:=CZ h;omega
theorem J8:∀ l:List (DataW H),l.length≤Rows.uptoBulkAll l
 | []=>Xxq _
 |x::r=>by
  simp only [Rows.uptoBulkAll,ν];have:=J8 r;have:=afP x;omega
theorem aa7:afr (Rows.uptoBulk (H:=H)) where
 str s:=by simp only [Rows.uptoBulk];omega
 agg l d h:=by
  simp only [Rows.uptoBulk];have:=CZ h;omega
 slc l r:=by
  simp only [Rows.uptoBulk];exact ⟨fun d h=>by have:=CZ h;omega,by have:=J8 l;omega⟩
theorem BQ {α:Type} {b:Nat} {ks:List DK} (f:α→List AV) (Q:α→Prop) (d:∀ x,gW b ks x→∃ a,x=f a∧Q a):∀ L:List (List AV),(∀ x ∈ L,gW b ks x)→∃ l:List α,L.flatten=l.flatMap f∧L.length=l.length∧∀ a ∈ l,Q a
 | [],_=> ⟨[],rfl,rfl,fun a h=>by cases h⟩
 |x::L,h=>by
  obtain ⟨a,e,q⟩:=d x (h x (by simp));obtain ⟨l,g,i,j⟩:=BQ f Q d L fun y c=>h y (by simp [c])
  refine ⟨a::l,by rw [List.flatten_cons,Xjm,e,g],by simp [i],fun y c=> ?_⟩;rcases List.mem_cons.1 c with rfl|c
  ·exact q
  ·exact j y c
abbrev kN:List DK:= [.int .i64,.bool,.str,.str,.str]
abbrev kB:List DK:= [.bool,.str,.str,.bool,.str,.str]
abbrev kS:List DK:= [.str,.int .i64,.int .i64,.slc kB]
theorem ahC {b:Nat} {a:List AV} (h:gW b kN a):∃ y:Nd,a=iE y∧y.num.length≤b∧y.den.length≤b:=by
 cases h with|int h=>cases h with|bool h=>cases h with|str h1 h=>cases h with|str h2 h=>cases h with|str h3 h=>cases h with|nil=>exact ⟨⟨_,_,_,_,_⟩,rfl,h1,h2⟩
theorem afO {b:Nat} {a:List AV} (h:gW b kB a):∃ y:Br,a=xU y∧(y.fa.length≤b∧y.fd.length≤b)∧y.ra.length≤b∧y.rd.length≤b:=by
 cases h with|bool h=>cases h with|str h1 h=>cases h with|str h2 h=>cases h with|bool h=>cases h with|str h3 h=>cases h with|str h4 h=>cases h with|nil=>exact ⟨⟨_,_,_,_,_,_⟩,rfl,⟨h1,h2⟩,h3,h4⟩
theorem ajW {b:Nat} {c:List AV} (h:gW b kS c):∃ s:Sq,c=xO s.c∧s.l.length≤b∧∀ x ∈ s.l,(x.fa.length≤b∧x.fd.length≤b)∧x.ra.length≤b∧x.rd.length≤b:=by
 cases h with|str h0 h=>cases h with|int h=>cases h with|int h=>cases h with|slc a hl h=>cases h with|nil=>
  obtain ⟨l,f,d,e⟩:=BQ xU (fun y:Br=>(y.fa.length≤b∧y.fd.length≤b)∧y.ra.length≤b∧y.rd.length≤b) (fun x a=>afO a) _ a;rw [d] at hl;rw [f,d];exact ⟨⟨_,_,_,l⟩,rfl,hl,e⟩
variable {enc:TypeId × Value→H} {W:World} {base:Nat}
def agI:Option TypeDesc→Bool|some (.struct _)=>true|_=>false
theorem Zw {t:TypeId} {n:Nat} {ks:List DK} (a:agI (prog.underlying t)=true) (g:Dt prog n t=some ks) {v:Value} {d:DataW H} {p:List MemPlace} (f:Value.okWide prog W .any base t v) (h:DataW.Trod enc prog W 0 (fun _=>true) true t v d p):
  ∃ c,gW (Rows.uptoBulk d) ks c∧PR (je W) (.agg c) v:=by
 obtain ⟨e,a⟩:∃ e,prog.underlying t=some (.struct e):=by
  unfold agI at a;split at a
  ·rename_i e h;exact ⟨e,h⟩
  ·cases a
 obtain ⟨b,h⟩:=h;obtain ⟨c,j,i,_⟩:=GM aa7 (fun _=>rfl) n t ks g b _ _ h;refine ⟨c,j, ?_⟩;simp only [Value.okWide,a] at f;obtain ⟨cs,rfl,_⟩:=f;rw [PR];exact ⟨cs.toList,by simp,i⟩
theorem Qd {t e:TypeId} {n:Nat} {ks:List DK} (f:prog.underlying t=some (.slice e)) (i:Dt prog n t=some [.slc ks]) {v:Value} {d:DataW H} {p:List MemPlace} (g:Value.okWide prog W .any base t v) (h:DataW.Trod enc prog W 0 (fun _=>true) true t v d p):
  ∃ L:List (List AV),(∀ x ∈ L,gW (Rows.uptoBulk d) ks x)∧PR (je W) (.sl L.flatten L.length false) v:=by
 obtain ⟨a,h⟩:=h;obtain ⟨j,b,c,_⟩:=GM aa7 (fun _=>rfl) n t _ i a _ _ h;rw [LY f g] at c;cases b with|slc hx hl b=>cases b with|nil=>
  simp only [dD,and_true] at c;exact ⟨_,hx,c⟩
theorem ahX {v:Value} {d:DataW H} {p:List MemPlace} (c:Value.okWide prog W .any base 25 v) (h:DataW.Trod enc prog W 0 (fun _=>true) true 25 v d p):
  ∃ l:List Nd,PR (je W) (.sl (aH l) l.length false) v:=by
 obtain ⟨L,f,a⟩:=Qd (n:=5) (ks:=kN) (e:=47) (by kernel_rfl) (by kernel_rfl) c h;obtain ⟨l,b,g,j⟩:=BQ iE (fun y:Nd=>y.num.length≤Rows.uptoBulk d∧y.den.length≤Rows.uptoBulk d) (fun x i=>ahC i) _ f;rw [b,g] at a;exact ⟨l,a⟩
theorem akH {v:Value} {d:DataW H} {p:List MemPlace} (c:Value.okWide prog W .any base 27 v) (h:DataW.Trod enc prog W 0 (fun _=>true) true 27 v d p):
  ∃ l:List Sq,PR (je W) (.sl (bT (l.map Sq.c)) l.length false) v:=by
 obtain ⟨L,f,a⟩:=Qd (n:=8) (ks:=kS) (e:=40) (by kernel_rfl) (by kernel_rfl) c h;obtain ⟨l,b,g,j⟩:=BQ (fun s:Sq=>xO s.c) (fun s=>s.l.length≤Rows.uptoBulk d∧∀ x ∈ s.l,(x.fa.length≤Rows.uptoBulk d∧x.fd.length≤Rows.uptoBulk d)∧x.ra.length≤Rows.uptoBulk d∧x.rd.length≤Rows.uptoBulk d) (fun x i=>ajW i) _ f;rw [b,g] at a;refine ⟨l, ?_⟩;unfold bT;rw [List.flatMap_map];exact a
theorem ahW {v:Value} {d:DataW H} {p:List MemPlace} (b:Value.okWide prog W .any base 34 v) (h:DataW.Trod enc prog W 0 (fun _=>true) true 34 v d p):
  ∃ (op:Int) (nm:List UInt8),PR (je W) (.agg [.int .i64 op,.str nm]) v:=by
 obtain ⟨e,a,c⟩:=Zw (n:=4) (ks:= [.int .i64,.str]) (by kernel_rfl) (by kernel_rfl) b h;cases a with|int a=>cases a with|str h3 a=>cases a with|nil=>exact ⟨_,_,c⟩
end
end Go.Proofs.Tryz
