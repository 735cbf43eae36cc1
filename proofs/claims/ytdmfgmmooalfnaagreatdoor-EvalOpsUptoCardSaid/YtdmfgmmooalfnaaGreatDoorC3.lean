/- Contracts of functions that the law reaches, each by its own hypotheses; joined by a program of mine. -/
import Derived.Test.YtdmfgmmooalfnaaGreatDoorC2
import Derived.Test.YtdmfgmmooalfnaaGreatDoorM5
import Derived.Test.YtdmfgmmooalfnaaGreatDoorC1
set_option linter.unusedSimpArgs false
set_option linter.unusedVariables false
set_option maxRecDepth 100000
set_option linter.unusedVariables false
open Go AM
open AV renaming toInt→τ,tup→Yqf
open List renaming headD→ζ,drop→ε,length→η,take→ν,map_drop→Xzn,length_drop→Xxx,length_cons→μ,length_nil→Xqb,take_length→Xq1,length_append→θ,length_singleton→σ,drop_drop→Xjl,append_nil→Θ,append_assoc→Xqe,singleton_append→Xxh,takeWhile_cons_of_neg→Xz4,all→Xzu,drop_append→Xw1,drop_of_length_le→Xjf,getD_eq_getElem?_getD→π,getElem?_eq_getElem→ξ,any_cons→Xvt,flatMap_cons→Xjc,drop_left→Xvh,take_of_length_le→Xqc,flatMap_append→Xjb,getElem_mem→Xxe,mem_singleton→Xze,all_cons→Xxr,find?_append→Xkw,mem_of_getElem?→Xqh,length_map→Xx0,length_eq_zero_iff→Xvu
open Int renaming toNat→δ,tmod→Xjt,tdiv→Xxd,natAbs_neg→Xvi,natAbs_natCast→Xje,fdiv→Xqw
open IntKind renaming wrap→γ
open Nat renaming ble→Xqm,mul_one→χ,ble_eq→Xzl,eq_zero_or_pos→Γ,mod_lt→Xqu,lt_of_lt_of_le→Ψ,add_zero→Xq0,lt_or_ge→Xq5,lt_of_le_of_lt→φ,sub_le→Xwp,mul_pos→Xx3,le_refl→Δ,pow_add→Xxi,mul_lt_mul''→Xvx,pow_le_pow_right→Xqa,div_le_self→Xjp,le_trans→Xqy,gcd→Xxk,mul_div_cancel_left→Xwf,exists_eq_add_of_le→Xvs,add_sub_cancel_left→Xj2,gcd_one_right→Xvl,zero_le→Xxo,add_sub_cancel→Xwe,two_pow_pos→Xqr,div_one→Xzz,zero_add→Xqf,lt_trans→Xxa,succ_mul→Xky,add_comm→Xxp,lt_trichotomy→Xj6,not_lt_zero→Xwi,one_le_pow→Xkh,mul_le_mul_left→Xqx,ble_eq_true_of_le→Xqv,le_of_ble_eq_true→Xzb,one_mul→Xzy
open Bool renaming and_eq_true→ο,not_eq_true'→Xqo,and_true→Xjq,false_eq_true→Xjn,true_and→Xx4,false_or→Xwh,false_and→Xjg,and_false→Xzr
open Option renaming getD→Xz0,isSome→Xj3
namespace Go.Proofs.Tryz
abbrev zcc3_0 : List AV := [ω 3,.bool false,.str [],.str [1],.str []]
theorem ajb {nt:Nat} (q:83≤nt) (u v o:List Nat) (k c x y:Nat) (t:ω (τ (ζ (ε ((δ (k:Int))*1) (aj u)) .dead))= ω (x:Int)) (f:ω (γ .i64 ((c:Int)+(x:Int)))= ω (((c+x):Nat):Int)) (p:ω (τ (ζ (ε ((δ (k:Int))*1) (aj v)) .dead))= ω (y:Int)) (i:ω (γ .i64 ((((c+x):Nat):Int)+(y:Int)))= ω (((c+x+y):Nat):Int)) (h:ω (Xjt (((c+x+y):Nat):Int) ((16777216:Nat):Int))= ω ((((c+x+y) % 16777216):Nat):Int)) (g:ω (γ .i64 (Xxd (((c+x+y):Nat):Int) ((16777216:Nat):Int)))= ω ((((c+x+y) / 16777216):Nat):Int)) (e:ω (γ .i64 ((k:Int)+((1:Nat):Int)))= ω (((k+1):Nat):Int)) (r:(chk (.int .i64) (ζ (ε ((δ (k:Int))*1) (aj v)) .dead))=true) (m:(decide (((0:Nat):Int)≤(k:Int)))=true) (j:(decide ((k:Int)<(v.length:Int)))=true) (n:(chk (.int .i64) (ζ (ε ((δ (k:Int))*1) (aj u)) .dead))=true) (d:(decide ((k:Int)<(u.length:Int)))=true):ψ nt f80 ⟨[(9,.sl (aj u) u.length false),(10,.sl (aj v) v.length false),(11,.nilS),(12,ω (c:Int)),(13,ω (k:Int))],[],.dead,[]⟩ (.normal) ⟨[(9,.sl (aj u) u.length false),(10,.sl (aj v) v.length false),(11,.ref 0 0 0 1),(12,ω ((((c+x+y) / 16777216):Nat):Int)),(13,ω (((k+1):Nat):Int))],[(0,⟨[ω ((((c+x+y) % 16777216):Nat):Int)],0,false,0,1,true⟩)],.dead,[]⟩:=pN 80 [] 6 31 (.k 5 r (.c m (.c j (.c (aN j) (.c n (.c m (.c d (.c (aN d) (.k 2 (aN d) .nil))))))))) (.v 52 (.eq e) (.v 80 (.eq g) (.v 76 (.eq h) (.v 73 (.eq i) (.v 72 (.eq p) (.v 63 (.eq f) (.v 62 (.eq t) .nil))))))) q
theorem ajc {nt:Nat} (i:83≤nt) (u v o:List Nat) (k c x y:Nat) (j:ω (τ (ζ (ε ((δ (k:Int))*1) (aj u)) .dead))= ω (x:Int)) (d:ω (γ .i64 ((c:Int)+(x:Int)))= ω (((c+x):Nat):Int)) (e:ω (Xjt (((c+x):Nat):Int) ((16777216:Nat):Int))= ω ((((c+x) % 16777216):Nat):Int)) (g:ω (γ .i64 (Xxd (((c+x):Nat):Int) ((16777216:Nat):Int)))= ω ((((c+x) / 16777216):Nat):Int)) (f:ω (γ .i64 ((k:Int)+((1:Nat):Int)))= ω (((k+1):Nat):Int)) (m:(decide ((k:Int)<(v.length:Int)))=false) (p:(chk (.int .i64) (ζ (ε ((δ (k:Int))*1) (aj u)) .dead))=true) (n:(decide (((0:Nat):Int)≤(k:Int)))=true) (h:(decide ((k:Int)<(u.length:Int)))=true):ψ nt f80 ⟨[(9,.sl (aj u) u.length false),(10,.sl (aj v) v.length false),(11,.nilS),(12,ω (c:Int)),(13,ω (k:Int))],[],.dead,[]⟩ (.normal) ⟨[(9,.sl (aj u) u.length false),(10,.sl (aj v) v.length false),(11,.ref 0 0 0 1),(12,ω ((((c+x) / 16777216):Nat):Int)),(13,ω (((k+1):Nat):Int))],[(0,⟨[ω ((((c+x) % 16777216):Nat):Int)],0,false,0,1,true⟩)],.dead,[]⟩:=pN 80 [] 6 15 (.k 5 (aK m) (.c p (.c n (.c h (.c (aN h) (.k 2 (aN h) .nil)))))) (.v 52 (.eq f) (.v 80 (.eq g) (.v 76 (.eq e) (.v 63 (.eq d) (.v 62 (.eq j) .nil))))) i
theorem ajd {nt:Nat} (j:83≤nt) (u v o:List Nat) (k c x y:Nat) (n:ω (τ (ζ (ε ((δ (k:Int))*1) (aj v)) .dead))= ω (y:Int)) (f:ω (γ .i64 ((c:Int)+(y:Int)))= ω (((c+y):Nat):Int)) (d:ω (Xjt (((c+y):Nat):Int) ((16777216:Nat):Int))= ω ((((c+y) % 16777216):Nat):Int)) (h:ω (γ .i64 (Xxd (((c+y):Nat):Int) ((16777216:Nat):Int)))= ω ((((c+y) / 16777216):Nat):Int)) (g:ω (γ .i64 ((k:Int)+((1:Nat):Int)))= ω (((k+1):Nat):Int)) (m:(chk (.int .i64) (ζ (ε ((δ (k:Int))*1) (aj v)) .dead))=true) (p:(decide (((0:Nat):Int)≤(k:Int)))=true) (e:(decide ((k:Int)<(v.length:Int)))=true) (i:(decide ((k:Int)<(u.length:Int)))=false):ψ nt f80 ⟨[(9,.sl (aj u) u.length false),(10,.sl (aj v) v.length false),(11,.nilS),(12,ω (c:Int)),(13,ω (k:Int))],[],.dead,[]⟩ (.normal) ⟨[(9,.sl (aj u) u.length false),(10,.sl (aj v) v.length false),(11,.ref 0 0 0 1),(12,ω ((((c+y) / 16777216):Nat):Int)),(13,ω (((k+1):Nat):Int))],[(0,⟨[ω ((((c+y) % 16777216):Nat):Int)],0,false,0,1,true⟩)],.dead,[]⟩:=pN 80 [] 6 22 (.k 5 m (.c p (.c e (.c (aN e) (.c (aK i) (.k 1 (aN e) (.c (aK i) .nil))))))) (.v 52 (.eq g) (.v 80 (.eq h) (.v 76 (.eq d) (.v 73 (.eq f) (.v 72 (.eq n) .nil))))) j
theorem aje {nt:Nat} (i:83≤nt) (u v o:List Nat) (k c x y:Nat) (d:ω (Xjt (c:Int) ((16777216:Nat):Int))= ω (((c % 16777216):Nat):Int)) (f:ω (γ .i64 (Xxd (c:Int) ((16777216:Nat):Int)))= ω (((c / 16777216):Nat):Int)) (e:ω (γ .i64 ((k:Int)+((1:Nat):Int)))= ω (((k+1):Nat):Int)) (g:(decide ((k:Int)<(v.length:Int)))=false) (h:(decide ((k:Int)<(u.length:Int)))=false) (j:(decide (((0:Nat):Int)<(c:Int)))=true):ψ nt f80 ⟨[(9,.sl (aj u) u.length false),(10,.sl (aj v) v.length false),(11,.nilS),(12,ω (c:Int)),(13,ω (k:Int))],[],.dead,[]⟩ (.normal) ⟨[(9,.sl (aj u) u.length false),(10,.sl (aj v) v.length false),(11,.ref 0 0 0 1),(12,ω (((c / 16777216):Nat):Int)),(13,ω (((k+1):Nat):Int))],[(0,⟨[ω (((c % 16777216):Nat):Int)],0,false,0,1,true⟩)],.dead,[]⟩:=pN 80 [] 6 4 (.k 5 (aK g) (.c (aK h) (.c (aN j) (.c (aK g) (.c (aK h) .nil))))) (.v 52 (.eq e) (.v 80 (.eq f) (.v 76 (.eq d) .nil))) i
theorem ajf {nt:Nat} (d:83≤nt) (u v o:List Nat) (k c x y:Nat) (e:(decide (((0:Nat):Int)<(c:Int)))=false) (g:(decide ((k:Int)<(v.length:Int)))=false) (f:(decide ((k:Int)<(u.length:Int)))=false):ψ nt f80 ⟨[(9,.sl (aj u) u.length false),(10,.sl (aj v) v.length false),(11,.nilS),(12,ω (c:Int)),(13,ω (k:Int))],[],.dead,[]⟩ (.exit 0) ⟨[(11,.nilS)],[],.dead,[]⟩:=pN 80 [] 3 0 (.c (aK e) (.c (aK g) (.c (aK f) .nil))) (.nil) d
theorem ai7 {nt:Nat} (q:83≤nt) (u v o:List Nat) (k c x y:Nat) (z:ω (τ (ζ (ε ((δ (k:Int))*1) (aj u)) .dead))= ω (x:Int)) (e:ω (γ .i64 ((c:Int)+(x:Int)))= ω (((c+x):Nat):Int)) (p:ω (τ (ζ (ε ((δ (k:Int))*1) (aj v)) .dead))= ω (y:Int)) (i:ω (γ .i64 ((((c+x):Nat):Int)+(y:Int)))= ω (((c+x+y):Nat):Int)) (g:ω (Xjt (((c+x+y):Nat):Int) ((16777216:Nat):Int))= ω ((((c+x+y) % 16777216):Nat):Int)) (f:ω (γ .i64 (Xxd (((c+x+y):Nat):Int) ((16777216:Nat):Int)))= ω ((((c+x+y) / 16777216):Nat):Int)) (d:ω (γ .i64 ((k:Int)+((1:Nat):Int)))= ω (((k+1):Nat):Int)) (t:(Xqm (o.length+1) 1099511627776)=true) (r:(Xqm (o.length*1) (η (aj o)))=true) (w:(chk (.int .i64) (ζ (ε ((δ (k:Int))*1) (aj v)) .dead))=true) (j:(decide (((0:Nat):Int)≤(k:Int)))=true) (m:(decide ((k:Int)<(v.length:Int)))=true) (n:(chk (.int .i64) (ζ (ε ((δ (k:Int))*1) (aj u)) .dead))=true) (h:(decide ((k:Int)<(u.length:Int)))=true):ψ nt f80 ⟨[(9,.sl (aj u) u.length false),(10,.sl (aj v) v.length false),(11,.ref 0 0 0 o.length),(12,ω (c:Int)),(13,ω (k:Int))],[(0,⟨(aj o),0,false,0,1,true⟩)],.dead,[]⟩ (.normal) ⟨[(9,.sl (aj u) u.length false),(10,.sl (aj v) v.length false),(11,.ref 0 0 0 (o.length+1)),(12,ω ((((c+x+y) / 16777216):Nat):Int)),(13,ω (((k+1):Nat):Int))],[(0,⟨((ν (o.length*1) (aj o))++ [ω ((((c+x+y) % 16777216):Nat):Int)]),0,false,0,1,true⟩)],.dead,[]⟩:=pN 80 [] 5 31 (.k 2 t (.c r (.k 2 w (.c j (.c m (.c (aN m) (.c n (.c j (.c h (.c (aN h) (.k 2 (aN h) .nil))))))))))) (.v 52 (.eq d) (.v 80 (.eq f) (.v 76 (.eq g) (.v 73 (.eq i) (.v 72 (.eq p) (.v 63 (.eq e) (.v 62 (.eq z) .nil))))))) q
theorem ai8 {nt:Nat} (m:83≤nt) (u v o:List Nat) (k c x y:Nat) (r:ω (τ (ζ (ε ((δ (k:Int))*1) (aj u)) .dead))= ω (x:Int)) (f:ω (γ .i64 ((c:Int)+(x:Int)))= ω (((c+x):Nat):Int)) (h:ω (Xjt (((c+x):Nat):Int) ((16777216:Nat):Int))= ω ((((c+x) % 16777216):Nat):Int)) (g:ω (γ .i64 (Xxd (((c+x):Nat):Int) ((16777216:Nat):Int)))= ω ((((c+x) / 16777216):Nat):Int)) (e:ω (γ .i64 ((k:Int)+((1:Nat):Int)))= ω (((k+1):Nat):Int)) (p:(Xqm (o.length+1) 1099511627776)=true) (n:(Xqm (o.length*1) (η (aj o)))=true) (q:(decide ((k:Int)<(v.length:Int)))=false) (j:(chk (.int .i64) (ζ (ε ((δ (k:Int))*1) (aj u)) .dead))=true) (i:(decide (((0:Nat):Int)≤(k:Int)))=true) (d:(decide ((k:Int)<(u.length:Int)))=true):ψ nt f80 ⟨[(9,.sl (aj u) u.length false),(10,.sl (aj v) v.length false),(11,.ref 0 0 0 o.length),(12,ω (c:Int)),(13,ω (k:Int))],[(0,⟨(aj o),0,false,0,1,true⟩)],.dead,[]⟩ (.normal) ⟨[(9,.sl (aj u) u.length false),(10,.sl (aj v) v.length false),(11,.ref 0 0 0 (o.length+1)),(12,ω ((((c+x) / 16777216):Nat):Int)),(13,ω (((k+1):Nat):Int))],[(0,⟨((ν (o.length*1) (aj o))++ [ω ((((c+x) % 16777216):Nat):Int)]),0,false,0,1,true⟩)],.dead,[]⟩:=pN 80 [] 5 15 (.k 2 p (.c n (.k 2 (aK q) (.c j (.c i (.c d (.c (aN d) (.k 2 (aN d) .nil)))))))) (.v 52 (.eq e) (.v 80 (.eq g) (.v 76 (.eq h) (.v 63 (.eq f) (.v 62 (.eq r) .nil))))) m
theorem ai9 {nt:Nat} (n:83≤nt) (u v o:List Nat) (k c x y:Nat) (j:ω (τ (ζ (ε ((δ (k:Int))*1) (aj v)) .dead))= ω (y:Int)) (g:ω (γ .i64 ((c:Int)+(y:Int)))= ω (((c+y):Nat):Int)) (f:ω (Xjt (((c+y):Nat):Int) ((16777216:Nat):Int))= ω ((((c+y) % 16777216):Nat):Int)) (e:ω (γ .i64 (Xxd (((c+y):Nat):Int) ((16777216:Nat):Int)))= ω ((((c+y) / 16777216):Nat):Int)) (d:ω (γ .i64 ((k:Int)+((1:Nat):Int)))= ω (((k+1):Nat):Int)) (q:(Xqm (o.length+1) 1099511627776)=true) (p:(Xqm (o.length*1) (η (aj o)))=true) (r:(chk (.int .i64) (ζ (ε ((δ (k:Int))*1) (aj v)) .dead))=true) (m:(decide (((0:Nat):Int)≤(k:Int)))=true) (h:(decide ((k:Int)<(v.length:Int)))=true) (i:(decide ((k:Int)<(u.length:Int)))=false):ψ nt f80 ⟨[(9,.sl (aj u) u.length false),(10,.sl (aj v) v.length false),(11,.ref 0 0 0 o.length),(12,ω (c:Int)),(13,ω (k:Int))],[(0,⟨(aj o),0,false,0,1,true⟩)],.dead,[]⟩ (.normal) ⟨[(9,.sl (aj u) u.length false),(10,.sl (aj v) v.length false),(11,.ref 0 0 0 (o.length+1)),(12,ω ((((c+y) / 16777216):Nat):Int)),(13,ω (((k+1):Nat):Int))],[(0,⟨((ν (o.length*1) (aj o))++ [ω ((((c+y) % 16777216):Nat):Int)]),0,false,0,1,true⟩)],.dead,[]⟩:=pN 80 [] 5 22 (.k 2 q (.c p (.k 2 r (.c m (.c h (.c (aN h) (.c (aK i) (.k 1 (aN h) (.c (aK i) .nil))))))))) (.v 52 (.eq d) (.v 80 (.eq e) (.v 76 (.eq f) (.v 73 (.eq g) (.v 72 (.eq j) .nil))))) n
theorem ai_ {nt:Nat} (i:83≤nt) (u v o:List Nat) (k c x y:Nat) (d:ω (Xjt (c:Int) ((16777216:Nat):Int))= ω (((c % 16777216):Nat):Int)) (f:ω (γ .i64 (Xxd (c:Int) ((16777216:Nat):Int)))= ω (((c / 16777216):Nat):Int)) (e:ω (γ .i64 ((k:Int)+((1:Nat):Int)))= ω (((k+1):Nat):Int)) (j:(Xqm (o.length+1) 1099511627776)=true) (n:(Xqm (o.length*1) (η (aj o)))=true) (h:(decide ((k:Int)<(v.length:Int)))=false) (g:(decide ((k:Int)<(u.length:Int)))=false) (m:(decide (((0:Nat):Int)<(c:Int)))=true):ψ nt f80 ⟨[(9,.sl (aj u) u.length false),(10,.sl (aj v) v.length false),(11,.ref 0 0 0 o.length),(12,ω (c:Int)),(13,ω (k:Int))],[(0,⟨(aj o),0,false,0,1,true⟩)],.dead,[]⟩ (.normal) ⟨[(9,.sl (aj u) u.length false),(10,.sl (aj v) v.length false),(11,.ref 0 0 0 (o.length+1)),(12,ω (((c / 16777216):Nat):Int)),(13,ω (((k+1):Nat):Int))],[(0,⟨((ν (o.length*1) (aj o))++ [ω (((c % 16777216):Nat):Int)]),0,false,0,1,true⟩)],.dead,[]⟩:=pN 80 [] 5 4 (.k 2 j (.c n (.k 2 (aK h) (.c (aK g) (.c (aN m) (.c (aK h) (.c (aK g) .nil))))))) (.v 52 (.eq e) (.v 80 (.eq f) (.v 76 (.eq d) .nil))) i
theorem aja {nt:Nat} (d:83≤nt) (u v o:List Nat) (k c x y:Nat) (e:(decide (((0:Nat):Int)<(c:Int)))=false) (g:(decide ((k:Int)<(v.length:Int)))=false) (f:(decide ((k:Int)<(u.length:Int)))=false):ψ nt f80 ⟨[(9,.sl (aj u) u.length false),(10,.sl (aj v) v.length false),(11,.ref 0 0 0 o.length),(12,ω (c:Int)),(13,ω (k:Int))],[(0,⟨(aj o),0,false,0,1,true⟩)],.dead,[]⟩ (.exit 0) ⟨[(11,.ref 0 0 0 o.length)],[(0,⟨(aj o),0,false,0,1,true⟩)],.dead,[]⟩:=pN 80 [] 3 0 (.c (aK e) (.c (aK g) (.c (aK f) .nil))) (.nil) d
theorem aek (s t:List UInt8) (x y z:Nat) (w:List Nat) (c:CO 134 [.str s,ω 7] (.ret (.tup [ω (x:Int),.bool true]))) (e:CO 134 [.str t,ω 7] (.ret (.tup [ω (y:Int),.bool true]))) (d:CO 79 [ω (γ .i64 ((x:Int)+(y:Int)))] (.ret (.str (ae z)))):CO 80 [.str s,.str t] (.ret (.str (ae z))):=pK [] 2 3 (.n 2 .nil) (.c d (.c e (.c c .nil)))
theorem ael (s t:List UInt8) (x y z:Nat) (w:List Nat) (e:CO 134 [.str s,ω 7] (.ret (.tup [ω (x:Int),.bool true]))) (h:CO 134 [.str t,ω 7] (.ret (.tup [ω (y:Int),.bool false]))) (f:CO 135 [.str s] (.ret (.sl (aj (ax (ag s))) (ax (ag s)).length false))) (c:CO 135 [.str t] (.ret (.sl (aj (ax (ag t))) (ax (ag t)).length false))) (g:CO 136 [.sl (ν (w.length*1) (aj w)) w.length true] (.ret (.str (ae z)))) (d:aG prog ap [] 83 (.block 0 (.loop (af 0 (ah f80)))) ⟨[(0,.str s),(1,.str t),(4,.str []),(5,ω (x:Int)),(6,.bool true),(7,ω (y:Int)),(8,.bool false),(9,.sl (aj (ax (ag s))) (ax (ag s)).length false),(10,.sl (aj (ax (ag t))) (ax (ag t)).length false),(11,.nilS),(12,ω 0),(13,ω 0),(14,.dead),(28,.bool false),(50,.dead),(57,.dead),(67,.dead)],[],.dead,[]⟩ (.normal) ⟨[(11,.ref 0 0 0 w.length)],[(0,⟨(aj w),0,false,0,1,true⟩)],.dead,[]⟩):CO 80 [.str s,.str t] (.ret (.str (ae z))):=pK [0] 2 1 (.n 2 .nil) (.c g (.l d (.c c (.c f (.c h (.c e .nil))))))
theorem aem (s t:List UInt8) (x y z:Nat) (w:List Nat) (e:CO 134 [.str s,ω 7] (.ret (.tup [ω (x:Int),.bool false]))) (h:CO 134 [.str t,ω 7] (.ret (.tup [ω (y:Int),.bool true]))) (f:CO 135 [.str s] (.ret (.sl (aj (ax (ag s))) (ax (ag s)).length false))) (c:CO 135 [.str t] (.ret (.sl (aj (ax (ag t))) (ax (ag t)).length false))) (g:CO 136 [.sl (ν (w.length*1) (aj w)) w.length true] (.ret (.str (ae z)))) (d:aG prog ap [] 83 (.block 0 (.loop (af 0 (ah f80)))) ⟨[(0,.str s),(1,.str t),(4,.str []),(5,ω (x:Int)),(6,.bool false),(7,ω (y:Int)),(8,.bool true),(9,.sl (aj (ax (ag s))) (ax (ag s)).length false),(10,.sl (aj (ax (ag t))) (ax (ag t)).length false),(11,.nilS),(12,ω 0),(13,ω 0),(14,.dead),(28,.bool false),(50,.dead),(57,.dead),(67,.dead)],[],.dead,[]⟩ (.normal) ⟨[(11,.ref 0 0 0 w.length)],[(0,⟨(aj w),0,false,0,1,true⟩)],.dead,[]⟩):CO 80 [.str s,.str t] (.ret (.str (ae z))):=pK [0] 2 0 (.n 2 .nil) (.c g (.l d (.c c (.c f (.c h (.c e .nil))))))
theorem aen (s t:List UInt8) (x y z:Nat) (w:List Nat) (e:CO 134 [.str s,ω 7] (.ret (.tup [ω (x:Int),.bool false]))) (h:CO 134 [.str t,ω 7] (.ret (.tup [ω (y:Int),.bool false]))) (f:CO 135 [.str s] (.ret (.sl (aj (ax (ag s))) (ax (ag s)).length false))) (c:CO 135 [.str t] (.ret (.sl (aj (ax (ag t))) (ax (ag t)).length false))) (g:CO 136 [.sl (ν (w.length*1) (aj w)) w.length true] (.ret (.str (ae z)))) (d:aG prog ap [] 83 (.block 0 (.loop (af 0 (ah f80)))) ⟨[(0,.str s),(1,.str t),(4,.str []),(5,ω (x:Int)),(6,.bool false),(7,ω (y:Int)),(8,.bool false),(9,.sl (aj (ax (ag s))) (ax (ag s)).length false),(10,.sl (aj (ax (ag t))) (ax (ag t)).length false),(11,.nilS),(12,ω 0),(13,ω 0),(14,.dead),(28,.bool false),(50,.dead),(57,.dead),(67,.dead)],[],.dead,[]⟩ (.normal) ⟨[(11,.ref 0 0 0 w.length)],[(0,⟨(aj w),0,false,0,1,true⟩)],.dead,[]⟩):CO 80 [.str s,.str t] (.ret (.str (ae z))):=pK [0] 2 0 (.n 2 .nil) (.c g (.l d (.c c (.c f (.c h (.c e .nil))))))
theorem ajY (s t:List UInt8) (x y z:Nat) (w:List Nat) (d:(decide ((lU (ag s) (ag t))<((0:Nat):Int)))=false) (e:CO 101 [.str s,.str t] (.ret (ω (lU (ag s) (ag t))))) (h:CO 135 [.str s] (.ret (.sl (aj (ax (ag s))) (ax (ag s)).length false))) (f:CO 135 [.str t] (.ret (.sl (aj (ax (ag t))) (ax (ag t)).length false))) (c:CO 151 [.sl (aj (ax (ag s))) (ax (ag s)).length false,.sl (aj (ax (ag t))) (ax (ag t)).length false] (.ret (.sl (aj (ax z)) (ax z).length false))) (g:CO 136 [.sl (aj (ax z)) (ax z).length false] (.ret (.str (ae z)))):CO 102 [.str s,.str t] (.ret (.tup [.str (ae z),.bool true])):=pK [] 1 0 (.c (aK d) .nil) (.c g (.c c (.c f (.c h (.c e .nil)))))
def apQ (o:List Nat):AV:=match o with| []=> .nilS|_::_=> .ref 0 0 0 o.length
def hpQ (o:List Nat):Hp:=match o with| []=> []|a::r=> [(0,⟨aj (a::r),0,false,0,1,true⟩)]
def Ac (u v:List Nat) (p:List Nat × Nat):St:=⟨[(9,.sl (aj u) u.length false),(10,.sl (aj v) v.length false),(11,apQ p.1),(12,ω (p.2:Int)),(13,ω (p.1.length:Int))],hpQ p.1,.dead,[]⟩
def Qi (o:List Nat):St:=⟨[(11,apQ o)],hpQ o,.dead,[]⟩
theorem Jd {u r:List Nat} {x k:Nat} (h:ε k u=x::r):(ζ (ε ((δ (k:Int))*1) (aj u)) .dead)= ω (x:Int)∧k<u.length:=by
 refine ⟨?_, ?_⟩
 ·rw [aC,χ];have:ε k (aj u)=aj (ε k u):=by unfold aj;rw [Xzn]
  rw [this,h];rfl
 ·have:=congrArg η h;rw [Xxx,μ] at this;omega
theorem Aa {u:List Nat} {k:Nat} (h:ε k u= []):u.length≤k:=by
 have:=congrArg η h;rw [Xxx,Xqb] at this;omega
theorem Qh (o:List Nat) (d:Nat):ν (o.length*1) (aj o)++ [ω (d:Int)]=aj (o++ [d]):=by
 rw [χ,dF,Xq1,kK]
theorem Ld (S:Nat):ω (Xjt (S:Int) ((16777216:Nat):Int))= ω (((S % 16777216):Nat):Int):=by rw [wO]
theorem Lc {S:Nat} (h:S<2^62):ω (γ .i64 (Xxd (S:Int) ((16777216:Nat):Int)))= ω (((S / 16777216):Nat):Int):=by rw [pY,aS (by omega)]
theorem ai6 {nt:Nat} (e:83≤nt) {u v o ru rv:List Nat} {c x y:Nat} (i:ε o.length u=x::ru) (g:ε o.length v=y::rv) (m:x<16777216) (k:y<16777216) (n:c<16777216) (j:o.length<2^39):
  ψ nt f80 (Ac u v (o,c)) .normal (Ac u v (o++ [(c+x+y) % 16777216],(c+x+y) / 16777216)):=by
 obtain ⟨d,k1⟩:=Jd i;obtain ⟨f,k2⟩:=Jd g;cases o with
 |nil=>
  have hs:=ajb e u v [] ([]:List Nat).length c x y;rw [d,f] at hs;apply hs<;>first|exact rfl|exact QL (by omega)|exact Ld _|exact Lc (by omega)|exact TP _|exact qH k1|exact qH k2
 |cons a r=>
  have hs:=ai7 e u v (a::r) (a::r).length c x y;rw [d,f,Qh,show (a::r).length+1=((a::r)++ [(c+x+y) % 16777216]).length by simp] at hs;apply hs<;>first|exact rfl|exact QL (by omega)|exact Ld _|exact Lc (by omega)|exact TP _|exact qH k1|exact qH k2|(rw [Xzl];simp only [θ,σ,bW,χ];omega)|(have h:=QL (a:=(a::r).length) (b:=1) (by omega);rw [show (a::r).length+1=((a::r)++ [(c+x+y) % 16777216]).length by simp] at h;exact h)
theorem ai5 {nt:Nat} (e:83≤nt) {u v o ru rv:List Nat} {c x y:Nat} (g:ε o.length u=x::ru) (f:ε o.length v= []) (j:x<16777216) (k:c<16777216) (i:o.length<2^39):
  ψ nt f80 (Ac u v (o,c)) .normal (Ac u v (o++ [(c+x) % 16777216],(c+x) / 16777216)):=by
 obtain ⟨d,k1⟩:=Jd g;have k2:=Aa f;cases o with
 |nil=>
  have hs:=ajc e u v [] ([]:List Nat).length c x y;rw [d] at hs;apply hs<;>first|exact rfl|exact QL (by omega)|exact Ld _|exact Lc (by omega)|exact TP _|exact qH k1|exact BN k2
 |cons a r=>
  have hs:=ai8 e u v (a::r) (a::r).length c x y;rw [d,Qh,show (a::r).length+1=((a::r)++ [(c+x) % 16777216]).length by simp] at hs;apply hs<;>first|exact rfl|exact QL (by omega)|exact Ld _|exact Lc (by omega)|exact TP _|exact qH k1|exact BN k2|(rw [Xzl];simp only [θ,σ,bW,χ];omega)|(have h:=QL (a:=(a::r).length) (b:=1) (by omega);rw [show (a::r).length+1=((a::r)++ [(c+x) % 16777216]).length by simp] at h;exact h)
theorem ai4 {nt:Nat} (d:83≤nt) {u v o ru rv:List Nat} {c x y:Nat} (g:ε o.length u= []) (f:ε o.length v=y::rv) (j:y<16777216) (k:c<16777216) (i:o.length<2^39):
  ψ nt f80 (Ac u v (o,c)) .normal (Ac u v (o++ [(c+y) % 16777216],(c+y) / 16777216)):=by
 have k1:=Aa g;obtain ⟨e,k2⟩:=Jd f;cases o with
 |nil=>
  have hs:=ajd d u v [] ([]:List Nat).length c x y;rw [e] at hs;apply hs<;>first|exact rfl|exact QL (by omega)|exact Ld _|exact Lc (by omega)|exact TP _|exact BN k1|exact qH k2
 |cons a r=>
  have hs:=ai9 d u v (a::r) (a::r).length c x y;rw [e,Qh,show (a::r).length+1=((a::r)++ [(c+y) % 16777216]).length by simp] at hs;apply hs<;>first|exact rfl|exact QL (by omega)|exact Ld _|exact Lc (by omega)|exact TP _|exact BN k1|exact qH k2|(rw [Xzl];simp only [θ,σ,bW,χ];omega)|(have h:=QL (a:=(a::r).length) (b:=1) (by omega);rw [show (a::r).length+1=((a::r)++ [(c+y) % 16777216]).length by simp] at h;exact h)
theorem ai3 {nt:Nat} (e:83≤nt) {u v o ru rv:List Nat} {c x y:Nat} (g:ε o.length u= []) (f:ε o.length v= []) (d:0<c) (j:c<16777216) (i:o.length<2^39):
  ψ nt f80 (Ac u v (o,c)) .normal (Ac u v (o++ [(c) % 16777216],(c) / 16777216)):=by
 have k1:=Aa g;have k2:=Aa f;cases o with
 |nil=>
  have hs:=aje e u v [] ([]:List Nat).length c x y;apply hs<;>first|exact rfl|exact QL (by omega)|exact Ld _|exact Lc (by omega)|exact TP _|exact BN k1|exact BN k2|exact qH d
 |cons a r=>
  have hs:=ai_ e u v (a::r) (a::r).length c x y;rw [Qh,show (a::r).length+1=((a::r)++ [(c) % 16777216]).length by simp] at hs;apply hs<;>first|exact rfl|exact QL (by omega)|exact Ld _|exact Lc (by omega)|exact TP _|exact BN k1|exact BN k2|exact qH d|(rw [Xzl];simp only [θ,σ,bW,χ];omega)|(have h:=QL (a:=(a::r).length) (b:=1) (by omega);rw [show (a::r).length+1=((a::r)++ [(c) % 16777216]).length by simp] at h;exact h)
theorem WA {nt:Nat} (c:83≤nt) {u v o:List Nat} (e:ε o.length u= []) (d:ε o.length v= []):ψ nt f80 (Ac u v (o,0)) (.exit 0) (Qi o):=by
 have k1:=Aa e;have k2:=Aa d;cases o with
 |nil=>exact ajf c u v [] ([]:List Nat).length 0 0 0 rfl (BN k2) (BN k1)
 |cons a r=>exact aja c u v (a::r) (a::r).length 0 0 0 rfl (BN k2) (BN k1)
def JH:List Nat→List Nat→Nat→List Nat
 | [],[],c=>if 0<c then [c % 16777216] else []
 | [],y::v,c=>(c+y) % 16777216::JH [] v ((c+y) / 16777216)
 |x::u,[],c=>(c+x) % 16777216::JH u [] ((c+x) / 16777216)
 |x::u,y::v,c=>(c+x+y) % 16777216::JH u v ((c+x+y) / 16777216)
theorem BZ:∀ (u v:List Nat) (c:Nat),aZ u→aZ v→c≤1→bY (JH u v c)=bY u+bY v+c∧aZ (JH u v c)∧(JH u v c).length≤u.length+v.length+1∧u.length≤(JH u v c).length∧v.length≤(JH u v c).length
 | [],[],c,_,_,hc=>by
  simp only [JH];rcases Γ c with h|h
  ·subst h;exact ⟨rfl,aZ.nil,by simp,by simp,by simp⟩
  ·rw [if_pos h];exact ⟨by simp only [bY];omega,aZ.cons (Xqu _ (by omega)) aZ.nil,by simp,by simp,by simp⟩
 | [],y::v,c,hu,hv,hc=>by
  have k:=hv.head;obtain ⟨e,d,g,i,f⟩:=BZ [] v ((c+y) / 16777216) hu hv.tail (by omega);simp only [JH];refine ⟨?_,aZ.cons (Xqu _ (by omega)) d,by simp only [μ,Xqb] at*;omega,by simp,by simp only [μ];omega⟩;simp only [bY] at*
  rw [e];omega
 |x::u,[],c,hu,hv,hc=>by
  have j:=hu.head;obtain ⟨e,d,g,i,f⟩:=BZ u [] ((c+x) / 16777216) hu.tail hv (by omega);simp only [JH];refine ⟨?_,aZ.cons (Xqu _ (by omega)) d,by simp only [μ,Xqb] at*;omega,by simp only [μ];omega,by simp⟩;simp only [bY] at*
  rw [e];omega
 |x::u,y::v,c,hu,hv,hc=>by
  have j:=hu.head;have k:=hv.head;obtain ⟨e,d,g,i,f⟩:=BZ u v ((c+x+y) / 16777216) hu.tail hv.tail (by omega);simp only [JH];refine ⟨?_,aZ.cons (Xqu _ (by omega)) d,by simp only [μ] at*;omega,by simp only [μ];omega,by simp only [μ];omega⟩;simp only [bY] at*
  rw [e];omega
theorem O9 {u r:List Nat} {x d:Nat} {o:List Nat} (h:ε o.length u=x::r):ε (o++ [d]).length u=r:=by
 rw [θ,σ,← Xjl,h];rfl
theorem O8 {u:List Nat} {d:Nat} {o:List Nat} (h:ε o.length u= []):ε (o++ [d]).length u= []:=by
 rw [θ,σ,← Xjl,h];rfl
theorem CB {nt:Nat} (d:83≤nt) {u v:List Nat}:∀ (a b o:List Nat) (c:Nat),ε o.length u=a→ε o.length v=b→aZ a→aZ b→c≤1→o.length+a.length+b.length<2^38→
  aA prog ap [] nt (af 0 (ah f80)) (fun _=> .exit 0) (Ac u v) Qi (o,c) (o++JH a b c)
 | [],[],o,c,hu,hv,_,_,hc,hl=>by
  simp only [Xqb] at hl;simp only [JH];rcases Γ c with h|h
  ·subst h;rw [if_neg (by omega),Θ];exact .done (WA d hu hv)
  ·rw [if_pos h];have j:c / 16777216=0:=by omega
   have i:=ai3 d (x:=0) (y:=0) (ru:= []) (rv:= []) hu hv h (by omega) (by omega);rw [j] at i;exact .next i (.done (WA d (O8 hu) (O8 hv)))
 | [],y::b,o,c,hu,hv,ha,hb,hc,hl=>by
  have g:=hb.head;simp only [Xqb,μ] at hl;have e:=CB d [] b (o++ [(c+y) % 16777216]) ((c+y) / 16777216) (O8 hu) (O9 hv) ha hb.tail (by omega) (by simp only [θ,σ,Xqb];omega);rw [Xqe,Xxh] at e;simp only [JH];exact .next (ai4 d (x:=0) (ru:= []) hu hv g (by omega) (by omega)) e
 |x::a,[],o,c,hu,hv,ha,hb,hc,hl=>by
  have f:=ha.head;simp only [Xqb,μ] at hl;have e:=CB d a [] (o++ [(c+x) % 16777216]) ((c+x) / 16777216) (O9 hu) (O8 hv) ha.tail hb (by omega) (by simp only [θ,σ,Xqb];omega);rw [Xqe,Xxh] at e;simp only [JH];exact .next (ai5 d (y:=0) (rv:= []) hu hv f (by omega) (by omega)) e
 |x::a,y::b,o,c,hu,hv,ha,hb,hc,hl=>by
  have f:=ha.head;have g:=hb.head;simp only [μ] at hl;have e:=CB d a b (o++ [(c+x+y) % 16777216]) ((c+x+y) / 16777216) (O9 hu) (O9 hv) ha.tail hb.tail (by omega) (by simp only [θ,σ];omega);rw [Xqe,Xxh] at e;simp only [JH];exact .next (ai6 d hu hv f g (by omega) (by omega)) e
theorem O5 (s:List UInt8):(ax (ag s)).length≤s.length:=rG (Ψ (jK s) (by rw [Nat.pow_mul];exact Nat.pow_le_pow_left (by decide) _))
theorem Wy (s t:List UInt8) (hs:s.length<2^35) (m:t.length<2^35) (h:2^(8*7)≤ag s∨2^(8*7)≤ag t):∃ w:List Nat,w.length≤s.length+t.length+1∧aZ w∧bY w=ag s+ag t∧w ≠ []∧∀ nt,83≤nt→aA prog ap [] nt (af 0 (ah f80)) (fun _=> .exit 0) (Ac (ax (ag s)) (ax (ag t))) Qi ([],0) w:=by
 have k:=O5 s;have g:=O5 t;obtain ⟨c,d,j,n,i⟩:=BZ (ax (ag s)) (ax (ag t)) 0 (aZ.dig _) (aZ.dig _) (by omega);rw [eP,eP,Xq0] at c;refine ⟨_,by omega,d,c, ?_,fun nt e=>CB e (ax (ag s)) (ax (ag t)) [] 0 rfl rfl (aZ.dig _) (aZ.dig _) (by omega) (by simp only [Xqb];omega)⟩;intro f;rw [f] at c;simp only [bY] at c;omega
theorem SA (s t:List UInt8) (hs:s.length<2^34) (A:t.length<2^34):CO 80 [.str s,.str t] (.ret (.str (ae (ag s+ag t)))):=by
 have i:=BB s (by omega);have k:=BB t (by omega);have z:=wR (s:=s) (by omega);have v:=wR (s:=t) (by omega);have f:2^(8*7)≤ag s∨2^(8*7)≤ag t→∃ w:List Nat,CO 136 [.sl (ν (w.length*1) (aj w)) w.length true] (.ret (.str (ae (ag s+ag t))))∧aG prog ap [] 83 (.block 0 (.loop (af 0 (ah f80)))) (Ac (ax (ag s)) (ax (ag t)) ([],0)) .normal ⟨[(11,.ref 0 0 0 w.length)],[(0,⟨aj w,0,false,0,1,true⟩)],.dead,[]⟩:=by
  intro h;obtain ⟨w,y,p,q,u,o⟩:=Wy s t (by omega) (by omega) h;have j:w.length<2^36:=by omega
  have c:=uA w true j p;rw [q] at c;have m:ν (w.length*1) (aj w)=aj w:=by rw [χ,dF,Xq1]
  refine ⟨w,by rw [m];exact c, ?_⟩;have d:=aA.blk (s:=Ac (ax (ag s)) (ax (ag t)) ([],0)) (s':=Qi w) (id:=0) o (by simp) rfl (aH.refl _) (aH.refl _);cases w with
  |nil=>exact absurd rfl u
  |cons a r=>exact d
 rcases Xq5 (ag s) (2^(8*7)) with c1|c1
 ·have e:=gQ s 7 (by omega) (by omega) c1;rcases Xq5 (ag t) (2^(8*7)) with c2|c2
  ·have n:=kW (ag s+ag t) (by omega);have j:γ .i64 (((ag s:Nat):Int)+((ag t:Nat):Int))=((ag s+ag t:Nat):Int):=by rw [bJ,aS (by omega)]
   rw [← j] at n;exact aek s t _ _ _ [] e (gQ t 7 (by omega) (by omega) c2) n
  ·obtain ⟨w,c,d⟩:=f (.inr c2);exact ael s t _ 0 _ w e (kY t 7 (by omega) c2) i k c fun nt g=>(d nt g).weak (aH.of ⟨rfl,rfl,rfl,rfl,rfl,trivial⟩) (aH.refl _)
 ·have e:=kY s 7 (by omega) c1;obtain ⟨w,c,d⟩:=f (.inl c1);rcases Xq5 (ag t) (2^(8*7)) with c2|c2
  ·exact aem s t 0 _ _ w e (gQ t 7 (by omega) (by omega) c2) i k c fun nt g=>(d nt g).weak (aH.of ⟨rfl,rfl,rfl,rfl,rfl,trivial⟩) (aH.refl _)
  ·exact aen s t 0 0 _ w e (kY t 7 (by omega) c2) i k c fun nt g=>(d nt g).weak (aH.of ⟨rfl,rfl,rfl,rfl,rfl,trivial⟩) (aH.refl _)
theorem Xa (x y:Nat):decide (lU x y<((0:Nat):Int))=decide (x<y):=by
 unfold lU;by_cases h:x<y
 ·rw [if_pos h,Yq0 h];rfl
 ·rw [if_neg h,Yq1 h];split<;>rfl
theorem Ym {x y:Nat} (h:y≤x) (d:(ax x).length<2^36):(ax y).length<2^36:=by
 have c:=yU (aZ.dig x);rw [eP] at c;exact φ (rG (φ h c)) d
theorem SV (s t:List UInt8) (hs:s.length<2^35) (f:t.length<2^35) (h:ag t≤ag s):CO 102 [.str s,.str t] (.ret (.tup [.str (ae (ag s - ag t)),.bool true])):=by
 have e:=wR (s:=s) hs;have d:=Ym (Xwp (ag s) (ag t)) (by omega);have c:=uA (ax (ag s - ag t)) false d (aZ.dig _);rw [eP] at c;exact ajY s t 0 0 _ [] (by rw [Xa];exact Yq1 (by omega)) (Je s t (by omega) (by omega)) (BB s (by omega)) (BB t (by omega)) (KN _ _ false false h (by omega)) c
theorem akf (e i:Bool) (d c j k:List UInt8) (a b r:RQ) (f:(iE e d c)=false) (g:CO 115 [Ω e d c] (.ret (.bool (iE e d c)))) (h:CO 42 [ω 0] (.ret (Ω false (ae 0) (ae 1)))):CO 170 [Ω e d c] (.ret (Ω false (ae 0) (ae 1))):=pK [] 1 1 (.k 4 (dL f) (.n 3 .nil)) (.c h (.c g .nil))
theorem akg (e h:Bool) (d c i j:List UInt8) (a b r:RQ) (f:(iE e d c)=true) (g:CO 115 [Ω e d c] (.ret (.bool (iE e d c)))):CO 170 [Ω e d c] (.ret (Ω e d c)):=pK [] 1 0 (.k 7 (aU f) (.n 3 .nil)) (.c g .nil)
theorem ajH (e h:Bool) (d c i j:List UInt8) (a b r:RQ) (f:a.neg=false) (g:CO 170 [Ω e d c] (.ret (.agg [.bool a.neg,.str (ae a.n),.str (ae a.d)]))):CO 200 [Ω e d c] (.ret (.agg [.bool (!((ae a.n)== [])),.str (ae a.n),.str (ae a.d)])):=pK [] 1 1 (.k 9 (dL f) (.n 5 .nil)) (.c g .nil)
theorem ajI (e h:Bool) (d c i j:List UInt8) (a b r:RQ) (f:a.neg=true) (g:CO 170 [Ω e d c] (.ret (.agg [.bool a.neg,.str (ae a.n),.str (ae a.d)]))):CO 200 [Ω e d c] (.ret (Ω false (ae a.n) (ae a.d))):=pK [] 1 0 (.k 8 (aU f) (.n 5 .nil)) (.c g .nil)
theorem Z_ (f c:Bool) (e d g h:List UInt8) (a b r:RQ) (j:(a.neg==b.neg)=true) (k:CO 170 [Ω f e d] (.ret (.agg [.bool a.neg,.str (ae a.n),.str (ae a.d)]))) (o:CO 170 [Ω c g h] (.ret (.agg [.bool b.neg,.str (ae b.n),.str (ae b.d)]))) (m:CO 171 [.str (ae a.n),.str (ae b.d)] (.ret (.str (ae (a.n*b.d))))) (i:CO 171 [.str (ae b.n),.str (ae a.d)] (.ret (.str (ae (b.n*a.d))))) (n:CO 171 [.str (ae a.d),.str (ae b.d)] (.ret (.str (ae (a.d*b.d))))) (p:CO 71 [.str (ae (a.n*b.d)),.str (ae (b.n*a.d))] (.ret (.str (ae ((a.n*b.d)+(b.n*a.d)))))) (q:CO 160 [.bool a.neg,.str (ae ((a.n*b.d)+(b.n*a.d))),.str (ae (a.d*b.d))] (.ret (.agg [.bool r.neg,.str (ae r.n),.str (ae r.d)]))):CO 167 [Ω f e d,Ω c g h] (.ret (.agg [.bool r.neg,.str (ae r.n),.str (ae r.d)])):=pK [] 1 1 (.k 5 (aN j) (.n 16 .nil)) (.c q (.c p (.c n (.c i (.c m (.c o (.c k .nil)))))))
theorem aab (f c:Bool) (e d g h:List UInt8) (a b r:RQ) (j:(a.neg==b.neg)=false) (k:CO 170 [Ω f e d] (.ret (.agg [.bool a.neg,.str (ae a.n),.str (ae a.d)]))) (o:CO 170 [Ω c g h] (.ret (.agg [.bool b.neg,.str (ae b.n),.str (ae b.d)]))) (m:CO 171 [.str (ae a.n),.str (ae b.d)] (.ret (.str (ae (a.n*b.d))))) (i:CO 171 [.str (ae b.n),.str (ae a.d)] (.ret (.str (ae (b.n*a.d))))) (n:CO 171 [.str (ae a.d),.str (ae b.d)] (.ret (.str (ae (a.d*b.d))))) (p:CO 199 [.str (ae (a.n*b.d)),.str (ae (b.n*a.d))] (.ret (.tup [.str (ae ((a.n*b.d) - (b.n*a.d))),.bool true]))) (q:CO 160 [.bool a.neg,.str (ae ((a.n*b.d) - (b.n*a.d))),.str (ae (a.d*b.d))] (.ret (.agg [.bool r.neg,.str (ae r.n),.str (ae r.d)]))):CO 167 [Ω f e d,Ω c g h] (.ret (.agg [.bool r.neg,.str (ae r.n),.str (ae r.d)])):=pK [] 2 2 (.k 6 (aK j) (.n 16 .nil)) (.c q (.c p (.c n (.c i (.c m (.c o (.c k .nil)))))))
theorem Z9 (f c:Bool) (e d g h:List UInt8) (a b r:RQ) (j:(a.neg==b.neg)=false) (k:CO 170 [Ω f e d] (.ret (.agg [.bool a.neg,.str (ae a.n),.str (ae a.d)]))) (o:CO 170 [Ω c g h] (.ret (.agg [.bool b.neg,.str (ae b.n),.str (ae b.d)]))) (m:CO 171 [.str (ae a.n),.str (ae b.d)] (.ret (.str (ae (a.n*b.d))))) (i:CO 171 [.str (ae b.n),.str (ae a.d)] (.ret (.str (ae (b.n*a.d))))) (n:CO 171 [.str (ae a.d),.str (ae b.d)] (.ret (.str (ae (a.d*b.d))))) (p:CO 199 [.str (ae (a.n*b.d)),.str (ae (b.n*a.d))] (.ret (.tup [.str [],.bool false]))) (q:CO 199 [.str (ae (b.n*a.d)),.str (ae (a.n*b.d))] (.ret (.tup [.str (ae ((b.n*a.d) - (a.n*b.d))),.bool true]))) (t:CO 160 [.bool b.neg,.str (ae ((b.n*a.d) - (a.n*b.d))),.str (ae (a.d*b.d))] (.ret (.agg [.bool r.neg,.str (ae r.n),.str (ae r.d)]))):CO 167 [Ω f e d,Ω c g h] (.ret (.agg [.bool r.neg,.str (ae r.n),.str (ae r.d)])):=pK [] 2 0 (.k 6 (aK j) (.n 16 .nil)) (.c t (.c q (.c p (.c n (.c i (.c m (.c o (.c k .nil))))))))
theorem ajZ (f c:Bool) (e d g h:List UInt8) (a b r:RQ) (i:CO 200 [Ω c g h] (.ret (.agg [.bool b.neg,.str (ae b.n),.str (ae b.d)]))) (j:CO 167 [Ω f e d,.agg [.bool b.neg,.str (ae b.n),.str (ae b.d)]] (.ret (.agg [.bool r.neg,.str (ae r.n),.str (ae r.d)]))):CO 168 [Ω f e d,Ω c g h] (.ret (.agg [.bool r.neg,.str (ae r.n),.str (ae r.d)])):=pK [] 0 0 (.n 10 .nil) (.c j (.c i .nil))
theorem ajA (f c:Bool) (e d g h:List UInt8) (a b r:RQ) (i:CO 168 [Ω f e d,Ω c g h] (.ret (.agg [.bool r.neg,.str (ae r.n),.str (ae r.d)]))) (j:CO 121 [.agg [.bool r.neg,.str (ae r.n),.str (ae r.d)]] (.ret (ω (iQ r)))):CO 127 [Ω f e d,Ω c g h] (.ret (ω (iQ r))):=pK [] 0 0 (.n 6 .nil) (.c j (.c i .nil))
theorem ajG (f c:Bool) (e d g h:List UInt8) (a b r:RQ) (j:CO 170 [Ω f e d] (.ret (.agg [.bool a.neg,.str (ae a.n),.str (ae a.d)]))) (n:CO 170 [Ω c g h] (.ret (.agg [.bool b.neg,.str (ae b.n),.str (ae b.d)]))) (k:CO 171 [.str (ae a.n),.str (ae b.n)] (.ret (.str (ae (a.n*b.n))))) (i:CO 171 [.str (ae a.d),.str (ae b.d)] (.ret (.str (ae (a.d*b.d))))) (m:CO 160 [.bool (!(a.neg==b.neg)),.str (ae (a.n*b.n)),.str (ae (a.d*b.d))] (.ret (.agg [.bool r.neg,.str (ae r.n),.str (ae r.d)]))):CO 169 [Ω f e d,Ω c g h] (.ret (.agg [.bool r.neg,.str (ae r.n),.str (ae r.d)])):=pK [] 0 0 (.n 18 .nil) (.c m (.c i (.c k (.c n (.c j .nil)))))
theorem ajU (f c:Bool) (e d g h:List UInt8) (a b r:RQ) (i:((ae b.n)== [])=true) (j:CO 170 [Ω f e d] (.ret (.agg [.bool a.neg,.str (ae a.n),.str (ae a.d)]))) (k:CO 170 [Ω c g h] (.ret (.agg [.bool b.neg,.str (ae b.n),.str (ae b.d)]))):CO 125 [Ω f e d,Ω c g h] (.ret (.tup [Ω false [] [],.bool false])):=pK [] 1 1 (.k 4 (aN i) (.n 9 .nil)) (.c k (.c j .nil))
theorem ajV (f c:Bool) (e d g h:List UInt8) (a b r:RQ) (j:((ae b.n)== [])=false) (k:CO 170 [Ω f e d] (.ret (.agg [.bool a.neg,.str (ae a.n),.str (ae a.d)]))) (o:CO 170 [Ω c g h] (.ret (.agg [.bool b.neg,.str (ae b.n),.str (ae b.d)]))) (m:CO 171 [.str (ae a.n),.str (ae b.d)] (.ret (.str (ae (a.n*b.d))))) (i:CO 171 [.str (ae a.d),.str (ae b.n)] (.ret (.str (ae (a.d*b.n))))) (n:CO 160 [.bool (!(a.neg==b.neg)),.str (ae (a.n*b.d)),.str (ae (a.d*b.n))] (.ret (.agg [.bool r.neg,.str (ae r.n),.str (ae r.d)]))):CO 125 [Ω f e d,Ω c g h] (.ret (.tup [.agg [.bool r.neg,.str (ae r.n),.str (ae r.d)],.bool true])):=pK [] 1 0 (.k 10 (aK j) (.n 9 .nil)) (.c n (.c i (.c m (.c o (.c k .nil)))))
theorem aiV (e h:Bool) (d c i j:List UInt8) (a b r:RQ) (f:((ae a.n)== [])=false) (g:CO 98 [Ω e d c] (.ret (.agg [.bool a.neg,.str (ae a.n),.str (ae a.d)]))):CO 142 [Ω e d c] (.ret (Ω (!a.neg) (ae a.n) (ae a.d))):=pK [] 1 1 (.k 9 (dL f) (.n 5 .nil)) (.c g .nil)
theorem aiW (e h:Bool) (d c i j:List UInt8) (a b r:RQ) (f:((ae a.n)== [])=true) (g:CO 98 [Ω e d c] (.ret (.agg [.bool a.neg,.str (ae a.n),.str (ae a.d)]))):CO 142 [Ω e d c] (.ret (.agg [.bool a.neg,.str (ae a.n),.str (ae a.d)])):=pK [] 1 0 (.k 7 (aU f) (.n 5 .nil)) (.c g .nil)
theorem ZR (f c:Bool) (e d g h:List UInt8) (a b r:RQ) (j:(a.neg==b.neg)=true) (k:CO 98 [Ω f e d] (.ret (.agg [.bool a.neg,.str (ae a.n),.str (ae a.d)]))) (o:CO 98 [Ω c g h] (.ret (.agg [.bool b.neg,.str (ae b.n),.str (ae b.d)]))) (m:CO 100 [.str (ae a.n),.str (ae b.d)] (.ret (.str (ae (a.n*b.d))))) (i:CO 100 [.str (ae b.n),.str (ae a.d)] (.ret (.str (ae (b.n*a.d))))) (n:CO 100 [.str (ae a.d),.str (ae b.d)] (.ret (.str (ae (a.d*b.d))))) (p:CO 80 [.str (ae (a.n*b.d)),.str (ae (b.n*a.d))] (.ret (.str (ae ((a.n*b.d)+(b.n*a.d)))))) (q:CO 99 [.bool a.neg,.str (ae ((a.n*b.d)+(b.n*a.d))),.str (ae (a.d*b.d))] (.ret (.agg [.bool r.neg,.str (ae r.n),.str (ae r.d)]))):CO 62 [Ω f e d,Ω c g h] (.ret (.agg [.bool r.neg,.str (ae r.n),.str (ae r.d)])):=pK [] 1 1 (.k 5 (aN j) (.n 16 .nil)) (.c q (.c p (.c n (.c i (.c m (.c o (.c k .nil)))))))
theorem ZT (g c:Bool) (d h e f:List UInt8) (a b r:RQ) (p:(decide (((0:Nat):Int)≤(lU (a.n*b.d) (b.n*a.d))))=true) (o:(a.neg==b.neg)=false) (i:CO 98 [Ω g d h] (.ret (.agg [.bool a.neg,.str (ae a.n),.str (ae a.d)]))) (q:CO 98 [Ω c e f] (.ret (.agg [.bool b.neg,.str (ae b.n),.str (ae b.d)]))) (n:CO 100 [.str (ae a.n),.str (ae b.d)] (.ret (.str (ae (a.n*b.d))))) (m:CO 100 [.str (ae b.n),.str (ae a.d)] (.ret (.str (ae (b.n*a.d))))) (t:CO 100 [.str (ae a.d),.str (ae b.d)] (.ret (.str (ae (a.d*b.d))))) (j:CO 101 [.str (ae (a.n*b.d)),.str (ae (b.n*a.d))] (.ret (ω (lU (a.n*b.d) (b.n*a.d))))) (k:CO 102 [.str (ae (a.n*b.d)),.str (ae (b.n*a.d))] (.ret (.tup [.str (ae ((a.n*b.d) - (b.n*a.d))),.bool true]))) (u:CO 99 [.bool a.neg,.str (ae ((a.n*b.d) - (b.n*a.d))),.str (ae (a.d*b.d))] (.ret (.agg [.bool r.neg,.str (ae r.n),.str (ae r.d)]))):CO 62 [Ω g d h,Ω c e f] (.ret (.agg [.bool r.neg,.str (ae r.n),.str (ae r.d)])):=pK [] 2 2 (.k 5 (aN p) (.c (aK o) (.n 16 .nil))) (.c u (.c k (.c j (.c t (.c m (.c n (.c q (.c i .nil))))))))
theorem ZU (g c:Bool) (d h e f:List UInt8) (a b r:RQ) (p:(decide (((0:Nat):Int)≤(lU (a.n*b.d) (b.n*a.d))))=false) (o:(a.neg==b.neg)=false) (i:CO 98 [Ω g d h] (.ret (.agg [.bool a.neg,.str (ae a.n),.str (ae a.d)]))) (q:CO 98 [Ω c e f] (.ret (.agg [.bool b.neg,.str (ae b.n),.str (ae b.d)]))) (n:CO 100 [.str (ae a.n),.str (ae b.d)] (.ret (.str (ae (a.n*b.d))))) (m:CO 100 [.str (ae b.n),.str (ae a.d)] (.ret (.str (ae (b.n*a.d))))) (t:CO 100 [.str (ae a.d),.str (ae b.d)] (.ret (.str (ae (a.d*b.d))))) (j:CO 101 [.str (ae (a.n*b.d)),.str (ae (b.n*a.d))] (.ret (ω (lU (a.n*b.d) (b.n*a.d))))) (k:CO 102 [.str (ae (b.n*a.d)),.str (ae (a.n*b.d))] (.ret (.tup [.str (ae ((b.n*a.d) - (a.n*b.d))),.bool true]))) (u:CO 99 [.bool b.neg,.str (ae ((b.n*a.d) - (a.n*b.d))),.str (ae (a.d*b.d))] (.ret (.agg [.bool r.neg,.str (ae r.n),.str (ae r.d)]))):CO 62 [Ω g d h,Ω c e f] (.ret (.agg [.bool r.neg,.str (ae r.n),.str (ae r.d)])):=pK [] 2 0 (.k 5 (aK p) (.c (aK o) (.n 16 .nil))) (.c u (.c k (.c j (.c t (.c m (.c n (.c q (.c i .nil))))))))
theorem ai0 (f c:Bool) (e d g h:List UInt8) (a b r:RQ) (i:CO 142 [Ω c g h] (.ret (.agg [.bool b.neg,.str (ae b.n),.str (ae b.d)]))) (j:CO 62 [Ω f e d,.agg [.bool b.neg,.str (ae b.n),.str (ae b.d)]] (.ret (.agg [.bool r.neg,.str (ae r.n),.str (ae r.d)]))):CO 88 [Ω f e d,Ω c g h] (.ret (.agg [.bool r.neg,.str (ae r.n),.str (ae r.d)])):=pK [] 0 0 (.n 10 .nil) (.c j (.c i .nil))
theorem aiS (f c:Bool) (e d g h:List UInt8) (a b r:RQ) (i:CO 88 [Ω f e d,Ω c g h] (.ret (.agg [.bool r.neg,.str (ae r.n),.str (ae r.d)]))) (j:CO 141 [.agg [.bool r.neg,.str (ae r.n),.str (ae r.d)]] (.ret (ω (iQ r)))):CO 87 [Ω f e d,Ω c g h] (.ret (ω (iQ r))):=pK [] 0 0 (.n 6 .nil) (.c j (.c i .nil))
theorem aiX (f c:Bool) (e d g h:List UInt8) (a b r:RQ) (i:((ae b.n)== [])=true) (j:CO 98 [Ω f e d] (.ret (.agg [.bool a.neg,.str (ae a.n),.str (ae a.d)]))) (k:CO 98 [Ω c g h] (.ret (.agg [.bool b.neg,.str (ae b.n),.str (ae b.d)]))):CO 60 [Ω f e d,Ω c g h] (.ret (.tup [Ω false [] [],.bool false])):=pK [] 1 1 (.k 4 (aN i) (.n 9 .nil)) (.c k (.c j .nil))
theorem aiY (f c:Bool) (e d g h:List UInt8) (a b r:RQ) (j:((ae b.n)== [])=false) (k:CO 98 [Ω f e d] (.ret (.agg [.bool a.neg,.str (ae a.n),.str (ae a.d)]))) (o:CO 98 [Ω c g h] (.ret (.agg [.bool b.neg,.str (ae b.n),.str (ae b.d)]))) (m:CO 100 [.str (ae a.n),.str (ae b.d)] (.ret (.str (ae (a.n*b.d))))) (i:CO 100 [.str (ae a.d),.str (ae b.n)] (.ret (.str (ae (a.d*b.n))))) (n:CO 99 [.bool (!(a.neg==b.neg)),.str (ae (a.n*b.d)),.str (ae (a.d*b.n))] (.ret (.agg [.bool r.neg,.str (ae r.n),.str (ae r.d)]))):CO 60 [Ω f e d,Ω c g h] (.ret (.tup [.agg [.bool r.neg,.str (ae r.n),.str (ae r.d)],.bool true])):=pK [] 1 0 (.k 10 (aK j) (.n 9 .nil)) (.c n (.c i (.c m (.c o (.c k .nil)))))
def kT (q:RQ):RQ:=⟨!q.neg && decide (0<q.n),q.n,q.d⟩
def gG (a b:RQ):RQ:=if a.neg=b.neg then jR a.neg (a.n*b.d+b.n*a.d) (a.d*b.d) else if b.n*a.d≤a.n*b.d then jR a.neg (a.n*b.d - b.n*a.d) (a.d*b.d) else jR b.neg (b.n*a.d - a.n*b.d) (a.d*b.d)
def dU (a b:RQ):RQ:=gG a (kT b)
def iy (a b:RQ):Int:=iQ (dU a b)
def iH (a b:RQ):RQ:=jR (!(a.neg==b.neg)) (a.n*b.n) (a.d*b.d)
def eX (a b:RQ):RQ:=jR (!(a.neg==b.neg)) (a.n*b.d) (a.d*b.n)
theorem gq {q:RQ} (h:q.ok):vQ q.neg (ae q.n) (ae q.d)=q:=by
 unfold vQ;rw [if_pos (wY q h),aB,aB]
theorem qg {q:RQ} (h:q.ok):(kT q).ok:=by
 refine ⟨h.1,h.2.1,fun c=> ?_⟩;simp only [kT,ο,decide_eq_true_eq] at c;exact c.2
theorem eu {a b:RQ} (d:a.ok) (c:b.ok):(gG a b).ok:=by
 have hd:0<a.d*b.d:=Xx3 d.1 c.1;unfold gG;split
 ·exact vg hd
 ·split
  ·exact vg hd
  ·exact vg hd
theorem iI {a b:RQ} (d:a.ok) (c:b.ok):(iH a b).ok:=vg (Xx3 d.1 c.1)
theorem pM {a b:RQ} (d:a.ok) (c:0<b.n):(eX a b).ok:=vg (Xx3 d.1 c)
theorem Ee (x:Nat):x<2^(8*(ae x).length):=rQ.1 (Δ _)
theorem dG (x y:Nat):(ae (x*y)).length≤(ae x).length+(ae y).length:=by
 refine bU ?_;rw [Nat.mul_add,Xxi];exact Xvx (Ee x) (Ee y)
theorem kQ {x y:Nat} (h:x≤y):(ae x).length≤(ae y).length:=bU (φ h (Ee y))
theorem u_ (x y:Nat):(ae (x+y)).length≤(ae x).length+(ae y).length+1:=by
 refine bU ?_;have d:=Ψ (Ee x) (Xqa (n:=2) (by omega) (show 8*(ae x).length≤8*((ae x).length+(ae y).length) by omega));have c:=Ψ (Ee y) (Xqa (n:=2) (by omega) (show 8*(ae y).length≤8*((ae x).length+(ae y).length) by omega));rw [show 8*((ae x).length+(ae y).length+1)=8*((ae x).length+(ae y).length)+8 by omega,Xxi];generalize 2^(8*((ae x).length+(ae y).length))=P at*
 omega
theorem abT (s:List UInt8):(ae (ag s)).length≤s.length:=bU (jK s)
theorem jr (s:Bool) (n d:List UInt8):(ae (vQ s n d).n).length≤n.length∧(ae (vQ s n d).d).length≤d.length+1:=by
 unfold vQ;split
 ·exact ⟨abT n,Nat.le_succ_of_le (abT d)⟩
 ·refine ⟨by show (ae 0).length≤_;rw [di];simp, ?_⟩;show (ae 1).length≤_;have:(ae 1).length≤1:=bU (by decide);omega
theorem rM (c:Bool) (n d:Nat):(ae (jR c n d).n).length≤(ae n).length∧(ae (jR c n d).d).length≤(ae d).length:=
 ⟨kQ (Xjp _ _),kQ (Xjp _ _)⟩
theorem uw (a b:RQ) (L:Nat) (e:(ae a.n).length≤L) (i:(ae a.d).length≤L) (f:(ae b.n).length≤L) (h:(ae b.d).length≤L):(ae (gG a b).n).length≤4*L+1∧(ae (gG a b).d).length≤2*L:=by
 have j:=dG a.n b.d;have d:=dG b.n a.d;have g:=dG a.d b.d;have c:=u_ (a.n*b.d) (b.n*a.d);unfold gG;split
 ·have:=rM a.neg (a.n*b.d+b.n*a.d) (a.d*b.d);omega
 ·split
  ·have:=rM a.neg (a.n*b.d - b.n*a.d) (a.d*b.d);have:=kQ (Xwp (a.n*b.d) (b.n*a.d));omega
  ·have:=rM b.neg (b.n*a.d - a.n*b.d) (a.d*b.d);have:=kQ (Xwp (b.n*a.d) (a.n*b.d));omega
theorem EG (x y:Nat) (c:(ae x).length<2^34) (d:(ae y).length<2^34):CO 171 [.str (ae x),.str (ae y)] (.ret (.str (ae (x*y)))):=by
 have h:=Zx (ae x) (ae y) (by omega) (by omega);rw [aB,aB] at h;exact h
theorem abW (x y:Nat) (c:(ae x).length<2^34) (d:(ae y).length<2^34):CO 71 [.str (ae x),.str (ae y)] (.ret (.str (ae (x+y)))):=by
 have h:=Zl (ae x) (ae y) (by omega) (by omega);rw [aB,aB] at h;exact h
theorem abX (x y:Nat) (d:(ae x).length<2^34) (e:(ae y).length<2^34) (c:y≤x):CO 199 [.str (ae x),.str (ae y)] (.ret (.tup [.str (ae (x - y)),.bool true])):=by
 have h:=Zz (ae x) (ae y) (by omega) (by omega) (by rw [aB,aB];exact c);rw [aB,aB] at h;exact h
theorem ah0 (x y:Nat) (d:(ae x).length<2^34) (e:(ae y).length<2^34) (c:x<y):CO 199 [.str (ae x),.str (ae y)] (.ret (.tup [.str [],.bool false])):=
 Zy (ae x) (ae y) (by omega) (by omega) (by rw [aB,aB];exact c)
theorem ES (x y:Nat) (c:(ae x).length<2^33) (d:(ae y).length<2^33):CO 100 [.str (ae x),.str (ae y)] (.ret (.str (ae (x*y)))):=by
 have h:=VL (ae x) (ae y) (by omega) (by omega);rw [aB,aB] at h;exact h
theorem aiQ (x y:Nat) (c:(ae x).length<2^33) (d:(ae y).length<2^33):CO 80 [.str (ae x),.str (ae y)] (.ret (.str (ae (x+y)))):=by
 have h:=SA (ae x) (ae y) (by omega) (by omega);rw [aB,aB] at h;exact h
theorem ab5 (x y:Nat) (d:(ae x).length<2^33) (e:(ae y).length<2^33) (c:y≤x):CO 102 [.str (ae x),.str (ae y)] (.ret (.tup [.str (ae (x - y)),.bool true])):=by
 have h:=SV (ae x) (ae y) (by omega) (by omega) (by rw [aB,aB];exact c);rw [aB,aB] at h;exact h
theorem aiR (x y:Nat) (c:(ae x).length<2^33) (d:(ae y).length<2^33):CO 101 [.str (ae x),.str (ae y)] (.ret (ω (lU x y))):=by
 have h:=Je (ae x) (ae y) (by omega) (by omega);rw [aB,aB] at h;exact h
theorem Ho (c:Bool) (n d:Nat) (f:(ae n).length<2^33) (hd:(ae d).length<2^33) (e:0<d):CO 160 [.bool c,.str (ae n),.str (ae d)] (.ret (qA (jR c n d))):=by
 have h:=VF c (ae n) (ae d) (by omega) (by omega) (by rw [aB];exact e);rw [aB,aB] at h;exact h
theorem WW (q:RQ) (c:q.ok) (d:(ae q.n).length<2^33) (hd:(ae q.d).length<2^33):CO 121 [.agg [.bool q.neg,.str (ae q.n),.str (ae q.d)]] (.ret (ω (iQ q))):=by
 have h:=oD q.neg (ae q.n) (ae q.d) (by omega) (by omega);rw [Fg,gq c] at h;exact h
theorem ab4 (q:RQ) (c:q.ok) (d:(ae q.n).length<2^33) (hd:(ae q.d).length<2^33):CO 141 [.agg [.bool q.neg,.str (ae q.n),.str (ae q.d)]] (.ret (ω (iQ q))):=by
 have h:=zZ q.neg (ae q.n) (ae q.d) (by omega) (by omega);rw [Fg,gq c] at h;exact h
theorem nD (c:Bool) (n d:List UInt8) (g:n.length<2^33) (hd:d.length<2^33):CO 170 [Ω c n d] (.ret (qA (vQ c n d))):=by
 have f:=mF c n d (by omega) (by omega);unfold vQ;cases e:iE c n d with
 |false=>
  rw [e] at f;have h:=akf c false n d [] [] q0 q0 q0 e (by rw [e];exact f) jw;rw [if_neg (by simp)];exact h
 |true=>
  rw [e] at f;have h:=akg c false n d [] [] q0 q0 q0 e (by rw [e];exact f);rw [if_pos rfl,← PH e];exact h
theorem WT (c:Bool) (n d:List UInt8) (i:n.length<2^33) (hd:d.length<2^33):CO 200 [Ω c n d] (.ret (qA (kT (vQ c n d)))):=by
 have f:=nD c n d i hd;generalize vQ c n d=a at*
 have e:(!((ae a.n)== []))=decide (0<a.n):=by
  rcases Γ a.n with h|h
  ·rw [h,di];rfl
  ·rw [Yq0 h,Xqo,Yq2];intro j;rw [dY] at j;omega
 unfold kT qA;cases g:a.neg with
 |false=>
  have h:=ajH c false n d [] [] a q0 q0 g f;rw [e] at h;exact h
 |true=>exact ajI c false n d [] [] a q0 q0 g f
theorem Qe (c:Bool) (n d:List UInt8) (j:n.length<2^33) (hd:d.length<2^33):CO 142 [Ω c n d] (.ret (qA (kT (vQ c n d)))):=by
 have f:=iM c n d j hd;have k:=jl c n d;generalize vQ c n d=a at*
 unfold kT qA;rcases Γ a.n with h|h
 ·have g:a.neg=false:=by
   cases i:a.neg with
   |false=>rfl
   |true=>have:=k.2.2 i;omega
  have e:=aiW c false n d [] [] a q0 q0 (by rw [h,di];rfl) f;rw [g,Yq1 (by omega)];rw [g] at e;exact e
 ·have e:=aiV c false n d [] [] a q0 q0 (by rw [Yq2];intro m;rw [dY] at m;omega) f;rw [Yq0 h,Xjq];exact e
theorem E9 (h g:Bool) (c f d e:List UInt8) (t:c.length<2^29) (w:f.length<2^29) (C:d.length<2^29) (E:e.length<2^29):CO 167 [Ω h c f,Ω g d e] (.ret (qA (gG (vQ h c f) (vQ g d e)))):=by
 have n:=nD h c f (by omega) (by omega);have m:=nD g d e (by omega) (by omega);obtain ⟨G,z⟩:=jr h c f;obtain ⟨v,r⟩:=jr g d e;have q:=jl h c f;have p:=jl g d e;generalize vQ h c f=a at*
 generalize vQ g d e=b at*
 have hd:0<a.d*b.d:=Xx3 q.1 p.1;have y:=dG a.n b.d;have A:=dG b.n a.d;have D:=dG a.d b.d;have j:=EG a.n b.d (by omega) (by omega);have k:=EG b.n a.d (by omega) (by omega);have o:=EG a.d b.d (by omega) (by omega);have F:=u_ (a.n*b.d) (b.n*a.d);have B:=kQ (Xwp (a.n*b.d) (b.n*a.d));have u:=kQ (Xwp (b.n*a.d) (a.n*b.d));unfold gG;by_cases hs:a.neg=b.neg
 ·rw [if_pos hs];exact Z_ h g c f d e a b _ (by rw [hs];exact beq_self_eq_true _) n m j k o (abW _ _ (by omega) (by omega)) (Ho a.neg _ _ (by omega) (by omega) hd)
 ·rw [if_neg hs];have i:(a.neg==b.neg)=false:=beq_eq_false_iff_ne.2 hs;by_cases hl:b.n*a.d≤a.n*b.d
  ·rw [if_pos hl];exact aab h g c f d e a b _ i n m j k o (abX _ _ (by omega) (by omega) hl) (Ho a.neg _ _ (by omega) (by omega) hd)
  ·rw [if_neg hl];exact Z9 h g c f d e a b _ i n m j k o (ah0 _ _ (by omega) (by omega) (by omega)) (abX _ _ (by omega) (by omega) (by omega)) (Ho b.neg _ _ (by omega) (by omega) hd)
theorem Fa (i e:Bool) (g f c d:List UInt8) (m:g.length<2^29) (p:f.length<2^29) (q:c.length<2^28) (r:d.length<2^28):CO 168 [Ω i g f,Ω e c d] (.ret (qA (dU (vQ i g f) (vQ e c d)))):=by
 have o:=WT e c d (by omega) (by omega);obtain ⟨n,k⟩:=jr e c d;have j:=qg (jl e c d);unfold dU;have h:=E9 i (kT (vQ e c d)).neg g f (ae (kT (vQ e c d)).n) (ae (kT (vQ e c d)).d) m p (φ n (by omega)) (φ k (by omega));rw [gq j] at h;exact ajZ i e g f c d q0 _ _ o h
theorem E_ (i g:Bool) (d c e f:List UInt8) (r:d.length<2^28) (t:c.length<2^28) (m:e.length<2^28) (n:f.length<2^28):CO 127 [Ω i d c,Ω g e f] (.ret (ω (iy (vQ i d c) (vQ g e f)))):=by
 have h:=Fa i g d c e f (by omega) (by omega) m n;obtain ⟨u,p⟩:=jr i d c;obtain ⟨k,j⟩:=jr g e f;have o:(dU (vQ i d c) (vQ g e f)).ok:=eu (jl _ _ _) (qg (jl _ _ _));have q:=uw (vQ i d c) (kT (vQ g e f)) (2^29) (by omega) (by omega) (Xqy k (by omega)) (Xqy j (by omega));exact ajA i g d c e f q0 q0 _ h (WW _ o (by unfold dU;omega) (by unfold dU;omega))
theorem Lt (i g:Bool) (c f d e:List UInt8) (p:c.length<2^29) (r:f.length<2^29) (w:d.length<2^29) (y:e.length<2^29) (j:0<(vQ g d e).n):CO 125 [Ω i c f,Ω g d e] (.ret (.tup [qA (eX (vQ i c f) (vQ g d e)),.bool true])):=by
 have m:=nD i c f (by omega) (by omega);have k:=nD g d e (by omega) (by omega);obtain ⟨z,u⟩:=jr i c f;obtain ⟨q,o⟩:=jr g d e;have n:=jl i c f;generalize vQ i c f=a at*
 generalize vQ g d e=b at*
 have t:=dG a.n b.d;have v:=dG a.d b.n;exact ajV i g c f d e a b (eX a b) (by rw [Yq2];intro h;rw [dY] at h;omega) m k (EG a.n b.d (by omega) (by omega)) (EG a.d b.n (by omega) (by omega)) (Ho _ _ _ (by omega) (by omega) (Xx3 n.1 j))
theorem WU (h e:Bool) (g f c d:List UInt8) (m:g.length<2^29) (p:f.length<2^29) (n:c.length<2^29) (o:d.length<2^29) (i:(vQ e c d).n=0):CO 125 [Ω h g f,Ω e c d] (.ret (.tup [Ω false [] [],.bool false])):=by
 have k:=nD h g f (by omega) (by omega);have j:=nD e c d (by omega) (by omega);exact ajU h e g f c d _ _ q0 (by rw [i,di];rfl) k j
theorem Qb (h g:Bool) (c f d e:List UInt8) (v:c.length<2^29) (z:f.length<2^29) (E:d.length<2^29) (G:e.length<2^29):CO 62 [Ω h c f,Ω g d e] (.ret (qA (gG (vQ h c f) (vQ g d e)))):=by
 have n:=iM h c f (by omega) (by omega);have m:=iM g d e (by omega) (by omega);obtain ⟨I,B⟩:=jr h c f;obtain ⟨y,u⟩:=jr g d e;have t:=jl h c f;have r:=jl g d e;generalize vQ h c f=a at*
 generalize vQ g d e=b at*
 have hd:0<a.d*b.d:=Xx3 t.1 r.1;have A:=dG a.n b.d;have C:=dG b.n a.d;have F:=dG a.d b.d;have j:=ES a.n b.d (by omega) (by omega);have k:=ES b.n a.d (by omega) (by omega);have o:=ES a.d b.d (by omega) (by omega);have H:=u_ (a.n*b.d) (b.n*a.d);have D:=kQ (Xwp (a.n*b.d) (b.n*a.d));have w:=kQ (Xwp (b.n*a.d) (a.n*b.d));unfold gG;by_cases hs:a.neg=b.neg
 ·rw [if_pos hs];exact ZR h g c f d e a b _ (by rw [hs];exact beq_self_eq_true _) n m j k o (aiQ _ _ (by omega) (by omega)) (oz a.neg _ _ (by omega) (by omega) hd)
 ·rw [if_neg hs];have i:(a.neg==b.neg)=false:=beq_eq_false_iff_ne.2 hs;have q:=aiR (a.n*b.d) (b.n*a.d) (by omega) (by omega);by_cases hl:b.n*a.d≤a.n*b.d
  ·rw [if_pos hl];have p:decide (((0:Nat):Int)≤lU (a.n*b.d) (b.n*a.d))=true:=by unfold lU;rw [if_neg (by omega)];split<;>rfl
   exact ZT h g c f d e a b _ p i n m j k o q (ab5 _ _ (by omega) (by omega) hl) (oz a.neg _ _ (by omega) (by omega) hd)
  ·rw [if_neg hl];have p:decide (((0:Nat):Int)≤lU (a.n*b.d) (b.n*a.d))=false:=by unfold lU;rw [if_pos (by omega)];rfl
   exact ZU h g c f d e a b _ p i n m j k o q (ab5 _ _ (by omega) (by omega) (by omega)) (oz b.neg _ _ (by omega) (by omega) hd)
theorem Qg (i e:Bool) (g f c d:List UInt8) (m:g.length<2^29) (p:f.length<2^29) (q:c.length<2^28) (r:d.length<2^28):CO 88 [Ω i g f,Ω e c d] (.ret (qA (dU (vQ i g f) (vQ e c d)))):=by
 have o:=Qe e c d (by omega) (by omega);obtain ⟨n,k⟩:=jr e c d;have j:=qg (jl e c d);unfold dU;have h:=Qb i (kT (vQ e c d)).neg g f (ae (kT (vQ e c d)).n) (ae (kT (vQ e c d)).d) m p (φ n (by omega)) (φ k (by omega));rw [gq j] at h;exact ai0 i e g f c d q0 _ _ o h
theorem Qc (i g:Bool) (d c e f:List UInt8) (r:d.length<2^28) (t:c.length<2^28) (m:e.length<2^28) (n:f.length<2^28):CO 87 [Ω i d c,Ω g e f] (.ret (ω (iy (vQ i d c) (vQ g e f)))):=by
 have h:=Qg i g d c e f (by omega) (by omega) m n;obtain ⟨u,p⟩:=jr i d c;obtain ⟨k,j⟩:=jr g e f;have o:(dU (vQ i d c) (vQ g e f)).ok:=eu (jl _ _ _) (qg (jl _ _ _));have q:=uw (vQ i d c) (kT (vQ g e f)) (2^29) (by omega) (by omega) (Xqy k (by omega)) (Xqy j (by omega));exact aiS i g d c e f q0 q0 _ h (ab4 _ o (by unfold dU;omega) (by unfold dU;omega))
theorem ZZ (i g:Bool) (c f d e:List UInt8) (p:c.length<2^29) (r:f.length<2^29) (w:d.length<2^29) (y:e.length<2^29) (j:0<(vQ g d e).n):CO 60 [Ω i c f,Ω g d e] (.ret (.tup [qA (eX (vQ i c f) (vQ g d e)),.bool true])):=by
 have m:=iM i c f (by omega) (by omega);have k:=iM g d e (by omega) (by omega);obtain ⟨z,u⟩:=jr i c f;obtain ⟨q,o⟩:=jr g d e;have n:=jl i c f;generalize vQ i c f=a at*
 generalize vQ g d e=b at*
 have t:=dG a.n b.d;have v:=dG a.d b.n;exact aiY i g c f d e a b (eX a b) (by rw [Yq2];intro h;rw [dY] at h;omega) m k (ES a.n b.d (by omega) (by omega)) (ES a.d b.n (by omega) (by omega)) (oz _ _ _ (by omega) (by omega) (Xx3 n.1 j))
theorem ZY (h e:Bool) (g f c d:List UInt8) (m:g.length<2^29) (p:f.length<2^29) (n:c.length<2^29) (o:d.length<2^29) (i:(vQ e c d).n=0):CO 60 [Ω h g f,Ω e c d] (.ret (.tup [Ω false [] [],.bool false])):=by
 have k:=iM h g f (by omega) (by omega);have j:=iM e c d (by omega) (by omega);exact aiX h e g f c d _ _ q0 (by rw [i,di];rfl) k j
theorem Qn (h g:Bool) (c f d e:List UInt8) (o:c.length<2^29) (q:f.length<2^29) (v:d.length<2^29) (w:e.length<2^29):CO 169 [Ω h c f,Ω g d e] (.ret (qA (iH (vQ h c f) (vQ g d e)))):=by
 have k:=nD h c f (by omega) (by omega);have j:=nD g d e (by omega) (by omega);obtain ⟨y,t⟩:=jr h c f;obtain ⟨p,n⟩:=jr g d e;have m:=jl h c f;have i:=jl g d e;generalize vQ h c f=a at*
 generalize vQ g d e=b at*
 have r:=dG a.n b.n;have u:=dG a.d b.d;exact ajG h g c f d e a b (iH a b) k j (EG a.n b.n (by omega) (by omega)) (EG a.d b.d (by omega) (by omega)) (Ho _ _ _ (by omega) (by omega) (Xx3 m.1 i.1))
def RQ.rt (q:RQ):Rat:=(if q.neg then -1 else 1)*(q.n:Rat) / (q.d:Rat)
theorem lN {x:Nat} (h:0<x):(x:Rat) ≠ 0:=by
 intro e;have:x=0:=by exact_mod_cast e
 omega
theorem Af (c:Bool) (n d:Nat) (h:0<d):(jR c n d).rt=(if c then -1 else 1)*(n:Rat) / (d:Rat):=by
 obtain ⟨a,j⟩:=Nat.gcd_dvd_left n d;obtain ⟨b,i⟩:=Nat.gcd_dvd_right n d;have e:0<Xxk n d:=Nat.gcd_pos_of_pos_right n h;unfold jR RQ.rt;simp only;generalize Xxk n d=g at*
 subst j i;rw [Xwf _ e,Xwf _ e];have f:0<b:=Nat.pos_of_mul_pos_left h;have m:=lN e;have o:=lN f;have k:((if (c && decide (0<g*a))=true then -1 else 1:Rat))*(a:Rat)=(if c=true then -1 else 1)*(a:Rat):=by
  rcases Γ a with h0|h0
  ·subst h0;simp
  ·rw [Yq0 (Xx3 e h0),Xjq]
 rw [k,Rat.natCast_mul,Rat.natCast_mul];grind
theorem Jl (q:RQ):(kT q).rt= - q.rt:=by
 unfold kT RQ.rt;rcases Γ q.n with h0|h0
 ·simp [h0];grind
 ·cases q.neg<;>simp [h0]<;>grind
theorem Ae {a b:RQ} (j:a.ok) (i:b.ok):(gG a b).rt=a.rt+b.rt:=by
 have k:=lN j.1;have m:=lN i.1;have hd:0<a.d*b.d:=Xx3 j.1 i.1;unfold gG;split
 ·rename_i hs;rw [Af _ _ _ hd,Rat.natCast_add,Rat.natCast_mul,Rat.natCast_mul,Rat.natCast_mul];unfold RQ.rt;rw [hs];cases b.neg<;>simp<;>grind
 ·rename_i hs;split
  ·rename_i e;obtain ⟨c,d⟩:=Xvs e;have f:(a.n:Rat)*b.d=b.n*a.d+c:=by
    have:=congrArg (fun x:Nat=>(x:Rat)) d;simpa only [Rat.natCast_add,Rat.natCast_mul] using this
   rw [d,Xj2,Af _ _ _ hd,Rat.natCast_mul];unfold RQ.rt;cases g:a.neg<;>cases h:b.neg<;>simp [g,h] at hs ⊢ <;>grind
  ·rename_i e;obtain ⟨c,d⟩:=Xvs (Nat.le_of_not_le e);have f:(b.n:Rat)*a.d=a.n*b.d+c:=by
    have:=congrArg (fun x:Nat=>(x:Rat)) d;simpa only [Rat.natCast_add,Rat.natCast_mul] using this
   rw [d,Xj2,Af _ _ _ hd,Rat.natCast_mul];unfold RQ.rt;cases g:a.neg<;>cases h:b.neg<;>simp [g,h] at hs ⊢ <;>grind
theorem Jk {a b:RQ} (d:a.ok) (c:b.ok):(iH a b).rt=a.rt*b.rt:=by
 have f:=lN d.1;have e:=lN c.1;unfold iH;rw [Af _ _ _ (Xx3 d.1 c.1),Rat.natCast_mul,Rat.natCast_mul];unfold RQ.rt;cases a.neg<;>cases b.neg<;>simp<;>grind
theorem WR {a b:RQ} (c:a.ok) (e:b.ok) (d:0<b.n):(eX a b).rt=a.rt / b.rt:=by
 have g:=lN c.1;have h:=lN e.1;have f:=lN d;unfold eX;rw [Af _ _ _ (Xx3 c.1 d),Rat.natCast_mul,Rat.natCast_mul];unfold RQ.rt;cases a.neg<;>cases b.neg<;>simp<;>grind
theorem qj {a b:RQ} (f:a.ok) (d:b.ok) (h:a.rt=b.rt):a=b:=by
 have key:∀ q:RQ,q.ok→∃ h1 h2,q.rt=(⟨if q.neg then -(q.n:Int) else q.n,q.d,h1,h2⟩:Rat):=by
  intro q e;refine ⟨Nat.pos_iff_ne_zero.1 e.1, ?_, ?_⟩
  ·show Xxk _ _=1;rw [← e.2.1];split<;>simp
  ·rw [Rat.mk_eq_mkRat];unfold RQ.rt;rw [Rat.mkRat_eq_div];cases q.neg<;>simp [Rat.intCast_natCast]<;>grind
 obtain ⟨_,_,j⟩:=key a f;obtain ⟨_,_,n⟩:=key b d;rw [j,n] at h;have c:=congrArg Rat.num h;have hd:=congrArg Rat.den h;simp only at c hd;obtain ⟨m,t,p⟩:=a;obtain ⟨k,o,r⟩:=b;simp only at c hd;have g:=f.2.2;have i:=d.2.2;simp only at g i;cases m<;>cases k<;>simp at c g i ⊢ <;>omega
theorem ae9 {a b:RQ} (d:a.ok) (c:(kT b).ok):(dU a b).rt=a.rt - b.rt:=by
 unfold dU;rw [Ae d c,Jl];grind
theorem Qv {q:RQ} (h:q.ok):(iQ q<0↔q.rt<0)∧(iQ q=0↔q.rt=0)∧(0<iQ q↔0<q.rt):=by
 have d:=lN h.1;have hd:(0:Rat)<q.d:=by
  have:0<q.d:=h.1
  exact_mod_cast this
 unfold iQ RQ.rt;rcases Γ q.n with h0|h0
 ·have:(0:Rat) / q.d=0:=by grind
  simp [h0,this]
 ·have c:(0:Rat)<q.n:=by exact_mod_cast h0
  have hp:(0:Rat)<(q.n:Rat) / q.d:=(by rw [Rat.div_def];exact Rat.mul_pos c (Rat.inv_pos.2 hd))
  rw [if_neg (by omega)];cases q.neg<;>simp<;>grind
theorem rP {a b c:Rat} (h:0<c):a*c<b*c↔a<b:=Rat.mul_lt_mul_right h
theorem Ez {a b c:Rat} (h:0<c):a*c≤b*c↔a≤b:=⟨fun q=>Rat.le_of_mul_le_mul_right q h,fun q=>by
 by_cases e:a=b
 ·rw [e];exact Rat.le_refl
 ·have d:a<b:=by grind
  have f:=(rP h).2 d;grind⟩
def ny (q:RQ):Int:=if q.neg then -((q.n / q.d+(if q.n % q.d=0 then 0 else 1):Nat):Int) else ((q.n / q.d:Nat):Int)
def jG (k:Int):RQ:=⟨decide (k<0),k.natAbs,1⟩
theorem pG (k:Int):(jG k).ok:=⟨Nat.one_pos,Xvl _,fun h=>by
 have:k<0:=of_decide_eq_true h;show 0<k.natAbs;omega⟩
theorem Jj (k:Int):(jG k).rt=(k:Rat):=by
 unfold jG RQ.rt;by_cases h:k<0
 ·have e:(k:Int)= -(k.natAbs:Int):=by omega
  have c:(k:Rat)= -((k.natAbs:Nat):Rat):=by
   rw [← Rat.intCast_natCast,← Rat.intCast_neg,← e]
  simp only [Yq0 h,if_true];rw [c];rw [show ((1:Nat):Rat)=1 from rfl];grind
 ·have e:(k:Int)=(k.natAbs:Int):=by omega
  have c:(k:Rat)=((k.natAbs:Nat):Rat):=by
   rw [← Rat.intCast_natCast,← e]
  simp only [Yq1 h];rw [c];rw [show ((1:Nat):Rat)=1 from rfl];grind
theorem Vf {q:RQ} (h:q.ok):((ny q:Int):Rat)≤q.rt∧q.rt<((ny q:Int):Rat)+1:=by
 have hd:(0:Rat)<q.d:=by
  have:0<q.d:=h.1
  exact_mod_cast this
 have e:(q.n:Rat)=q.d*((q.n / q.d:Nat):Rat)+((q.n % q.d:Nat):Rat):=by
  rw [← Rat.natCast_mul,← Rat.natCast_add,Nat.div_add_mod]
 have f:(0:Rat)≤((q.n % q.d:Nat):Rat):=by
  have:0≤q.n % q.d:=Xxo _
  exact_mod_cast this
 have g:((q.n % q.d:Nat):Rat)<q.d:=by
  have:=Xqu q.n h.1
  exact_mod_cast this
 unfold ny RQ.rt;have d:∀ y:Rat,y / q.d*q.d=y:=fun y=>by grind
 cases hs:q.neg with
 |false=>
  simp only [Xjn,if_false,Rat.intCast_natCast];rw [← Ez hd,← rP hd,d];constructor<;>grind
 | true=>
  simp only [if_true,Rat.intCast_neg,Rat.intCast_natCast];rw [← Ez hd,← rP hd,d];split
  ·rename_i c;rw [c] at e f g;simp only [Xq0];constructor<;>grind
  ·rename_i c;have:(0:Rat)<((q.n % q.d:Nat):Rat):=by
    have:0<q.n % q.d:=by omega
    exact_mod_cast this
   rw [Rat.natCast_add];rw [show ((1:Nat):Rat)=1 from rfl];constructor<;>grind
theorem Cf {k m:Int} {x:Rat} (c:(k:Rat)≤x) (f:x<(k:Rat)+1) (d:(m:Rat)≤x) (e:x<(m:Rat)+1):k=m:=by
 have a:((k:Int):Rat)<((m+1:Int):Rat):=by rw [Rat.intCast_add,Rat.intCast_one];grind
 have b:((m:Int):Rat)<((k+1:Int):Rat):=by rw [Rat.intCast_add,Rat.intCast_one];grind
 rw [Rat.intCast_lt_intCast] at a b;omega
def vV (a s:RQ):RQ:=iH (jG (ny (eX a s))) s
def eqR (a b:RQ):Bool:=(a.neg==b.neg) && ((ae a.n==ae b.n) && (ae a.d==ae b.d))
theorem Ir {a b:RQ}:eqR a b=true↔a=b:=by
 obtain ⟨s,n,d⟩:=a;obtain ⟨s',c,e⟩:=b;simp only [eqR,ο,beq_iff_eq,RQ.mk.injEq];exact ⟨fun h=> ⟨h.1,EC h.2.1,EC h.2.2⟩,fun h=> ⟨h.1,by rw [h.2.1],by rw [h.2.2]⟩⟩
def XJ (a s:RQ):RQ:=if eqR (vV a s) a=true then a else gG (vV a s) s
def XI (a s:RQ):RQ:=if 0≤iy (gG (dU a (vV a s)) (dU a (vV a s))) s then gG (vV a s) s else vV a s
theorem gU {a b:RQ} (d:a.ok) (c:b.ok):(dU a b).ok:=eu d (qg c)
theorem Jm {a b:RQ} (d:a.ok) (c:b.ok):(dU a b).rt=a.rt - b.rt:=ae9 d (qg c)
theorem jm {a b:RQ} (d:a.ok) (c:b.ok):(iy a b<0↔a.rt<b.rt)∧(iy a b=0↔a=b)∧(0<iy a b↔b.rt<a.rt):=by
 have h:=Qv (gU d c);rw [Jm d c] at h;unfold iy;refine ⟨h.1.trans ?_,h.2.1.trans ?_,h.2.2.trans ?_⟩
 ·constructor<;>intro _<;>grind
 ·constructor
  ·intro e;exact qj d c (by grind)
  ·intro e;rw [e];grind
 ·constructor<;>intro _<;>grind
theorem E5 {s:RQ} (hs:s.ok) (h:0<iQ s):0<s.rt∧0<s.n:=by
 refine ⟨(Qv hs).2.2.1 h, ?_⟩;unfold iQ at h;split at h<;>omega
theorem jd {a s:RQ} (hs:s.ok):(vV a s).ok:=iI (pG _) hs
theorem Qp {a s:RQ} (c:a.ok) (hs:s.ok) (d:0<s.n):(vV a s).rt=((ny (eX a s):Int):Rat)*s.rt∧((ny (eX a s):Int):Rat)≤a.rt / s.rt∧a.rt / s.rt<((ny (eX a s):Int):Rat)+1:=by
 have h:=Vf (pM c d);rw [WR c hs d] at h;exact ⟨by unfold vV;rw [Jk (pG _) hs,Jj],h⟩
theorem akR {a s:RQ} (c:a.ok) (hs:s.ok) (hp:0<iQ s):kT (vV (kT a) s)=XJ a s:=by
 obtain ⟨p,k⟩:=E5 hs hp;obtain ⟨j,d,f⟩:=Qp (qg c) hs k;obtain ⟨i,o,q⟩:=Qp c hs k;rw [Jl] at d f;have g:a.rt=a.rt / s.rt*s.rt:=by grind
 have m: -a.rt / s.rt= -(a.rt / s.rt):=by grind
 rw [m] at d f;generalize a.rt / s.rt=x at*
 unfold XJ;split
 ·rename_i e;have e:=Ir.1 e;refine qj (qg (jd hs)) c ?_;rw [e,g] at i;have h:x=((ny (eX a s):Int):Rat):=by grind
  rw [Jl,j,g];have:ny (eX (kT a) s)= -ny (eX a s):=Cf (x:= -x) d f (by rw [Rat.intCast_neg];grind) (by rw [Rat.intCast_neg];grind);rw [this,Rat.intCast_neg,← h];grind
 ·rename_i e;refine qj (qg (jd hs)) (eu (jd hs) hs) ?_;have n:((ny (eX a s):Int):Rat) ≠ x:=by
   intro h;exact e (Ir.2 (qj (jd hs) c (by rw [i,h,← g])))
  have:ny (eX (kT a) s)= -(ny (eX a s)+1):=Cf (x:= -x) d f (by rw [Rat.intCast_neg,Rat.intCast_add,Rat.intCast_one];grind) (by rw [Rat.intCast_neg,Rat.intCast_add,Rat.intCast_one];grind);rw [Jl,j,Ae (jd hs) hs,i,this,Rat.intCast_neg,Rat.intCast_add,Rat.intCast_one];grind
theorem ahZ {a s:RQ} (c:a.ok) (hs:s.ok) (hp:0<iQ s):vV (gG a (eX s (jG 2))) s=XI a s:=by
 obtain ⟨p,n⟩:=E5 hs hp;have o:(eX s (jG 2)).ok:=pM hs (by decide);have t:(eX s (jG 2)).rt=s.rt / 2:=by rw [WR hs (pG 2) (by decide),Jj];rfl
 obtain ⟨m,d,f⟩:=Qp (eu c o) hs n;obtain ⟨k,u,v⟩:=Qp c hs n;rw [Ae c o,t] at d f;have hd:=jd (a:=a) hs;have e:(dU a (vV a s)).ok:=gU c hd;have g:=(jm (eu e e) hs).1;rw [Ae e e,Jm c hd,k] at g;have r:a.rt=a.rt / s.rt*s.rt:=by grind
 have q:(a.rt+s.rt / 2) / s.rt=a.rt / s.rt+1 / 2:=by grind
 rw [q] at d f;generalize a.rt / s.rt=x at*
 have i:(x*s.rt - ↑(ny (eX a s))*s.rt+(x*s.rt - ↑(ny (eX a s))*s.rt))<s.rt↔(x - ↑(ny (eX a s))+(x - ↑(ny (eX a s))))<1:=by
  rw [← rP (a:=x - ↑(ny (eX a s))+(x - ↑(ny (eX a s)))) p];constructor<;>intro _<;>grind
 rw [r,i] at g;unfold XI;split
 ·rename_i j;refine qj (jd hs) (eu hd hs) ?_;have:¬ (x - ↑(ny (eX a s))+(x - ↑(ny (eX a s))))<1:=fun h=>by have:=g.2 h;omega
  have:ny (eX (gG a (eX s (jG 2))) s)=ny (eX a s)+1:=Cf (x:=x+1 / 2) d f (by rw [Rat.intCast_add,Rat.intCast_one];grind) (by rw [Rat.intCast_add,Rat.intCast_one];grind);rw [m,Ae hd hs,k,this,Rat.intCast_add,Rat.intCast_one];grind
 ·rename_i j;refine qj (jd hs) hd ?_;have:(x - ↑(ny (eX a s))+(x - ↑(ny (eX a s))))<1:=g.1 (by omega);have:ny (eX (gG a (eX s (jG 2))) s)=ny (eX a s):=Cf (x:=x+1 / 2) d f (by grind) (by grind);rw [m,k,this]
def mg (f:RQ) (nx:Option RQ) (x:RQ):RQ:=
 let p:=dU (match nx with|some y=>if iy y x<0 then y else x|none=>x) f
 if iQ p<0 then q0 else p
def v_:RQ→List (RQ × RQ)→RQ→RQ
 |acc,[],_=>acc
 |acc,b::l,x=>v_ (gG acc (iH b.2 (mg b.1 (l.head?.map (·.1)) x))) l x
def jb:RQ→List (RQ × RQ)→List RQ
 |acc,b::b'::l=>acc::jb (gG acc (iH (dU b'.1 b.1) b.2)) (b'::l)
 |acc,_=> [acc]
def gz (l:List (RQ × RQ)) (x:RQ):Nat:=(l.takeWhile fun b=> !(decide (0<iy b.1 x))).length
def atR (l:List (RQ × RQ)) (x:RQ):RQ:=gG ((jb q0 l).getD (gz l x - 1) q0) (iH (l.getD (gz l x - 1) (q0,q0)).2 (dU x (l.getD (gz l x - 1) (q0,q0)).1))
def wlR:RQ→RQ × RQ→List (RQ × RQ)→RQ→RQ
 |acc,b,[],x=>gG acc (iH b.2 (dU x b.1))
 |acc,b,b'::l,x=>if 0<iy b'.1 x then gG acc (iH b.2 (dU x b.1)) else wlR (gG acc (iH (dU b'.1 b.1) b.2)) b' l x
def sQ:List (RQ × RQ)→Prop
 |b::b'::l=>b.1.rt<b'.1.rt∧sQ (b'::l)
 |_=>True
theorem sQ.all:∀ {b:RQ × RQ} {l:List (RQ × RQ)},sQ (b::l)→∀ y ∈ l,b.1.rt<y.1.rt
 |b,[],_,y,hy=>by cases hy
 | b,b'::l,h,y,hy=>by
  rcases List.mem_cons.1 hy with rfl|hy
  ·exact h.1
  ·have:=sQ.all h.2 y hy;have:=h.1;grind
theorem sQ.tail {b:RQ × RQ} {l:List (RQ × RQ)} (h:sQ (b::l)):sQ l:=by
 cases l with
 |nil=>exact True.intro
 |cons _ _=>exact h.2
def OkL (l:List (RQ × RQ)):Prop:=∀ b ∈ l,b.1.ok∧b.2.ok
theorem aj7:q0.rt=0:=by unfold q0 RQ.rt;grind
theorem FI {x:RQ} (f:x.ok):∀ {l:List (RQ × RQ)} {acc:RQ},acc.ok→OkL l→(∀ b ∈ l,x.rt<b.1.rt)→v_ acc l x=acc
 | [],_,_,_,_=>rfl
 | b ::l,acc,ha,ho,hl=>by
  have c:=ho b (by simp);have hp:mg b.1 (l.head?.map (·.1)) x=q0:=by
   unfold mg;have e:(match l.head?.map (·.1) with|some y=>if iy y x<0 then y else x|none=>x)=x:=by
    cases l with
    |nil=>rfl
    |cons b' l=>
     have d:=(jm (ho b' (by simp)).1 f).1;have j:=hl b' (by simp);simp only [List.head?_cons,Option.map_some];rw [if_neg];intro h;have:=d.1 h;grind
   simp only [e];have d:iQ (dU x b.1)<0:=(jm f c.1).1.2 (hl b (by simp));rw [if_pos d]
  have i:(gG acc (iH b.2 q0))=acc:=by
   refine qj (eu ha (iI c.2 wG)) ha ?_;rw [Ae ha (iI c.2 wG),Jk c.2 wG,aj7];grind
  unfold v_;rw [hp,i];exact FI f ha (fun y g=>ho y (by simp [g])) (fun y g=>hl y (by simp [g]))
theorem XB {x:RQ} (i:x.ok):∀ {l:List (RQ × RQ)} {b:RQ × RQ} {acc:RQ},acc.ok→OkL (b::l)→sQ (b::l)→b.1.rt≤x.rt→v_ acc (b::l) x=wlR acc b l x
 | [],b,acc,ha,ho,hs,hb=>by
  have c:=ho b (by simp);have hp:mg b.1 none x=dU x b.1:=by
   unfold mg;simp only;rw [if_neg];intro h;have:=(jm i c.1).1.1 h;grind
  show v_ (gG acc (iH b.2 (mg b.1 none x))) [] x=_;rw [hp];rfl
 | b' ::l,b,acc,ha,ho,hs,hb=>by
  have c:=ho b (by simp);have d:=ho b' (by simp);have n:=jm d.1 i;show v_ (gG acc (iH b.2 (mg b.1 (some b'.1) x))) (b'::l) x=_;have j:OkL (b'::l):=fun y f=>ho y (by simp at f ⊢;exact .inr f)
  unfold wlR;split
  ·rename_i h;have k:=n.2.2.1 h;have hp:mg b.1 (some b'.1) x=dU x b.1:=by
    unfold mg;simp only;rw [if_neg (show ¬ iy b'.1 x<0 by omega),if_neg];intro h;have:=(jm i c.1).1.1 h;grind
   rw [hp];refine FI i (eu ha (iI c.2 (gU i c.1))) j fun y f=> ?_
   rcases List.mem_cons.1 f with rfl|f
   ·exact k
   ·have:=hs.2.all y f;grind
  ·rename_i h;have m:b'.1.rt≤x.rt:=by
    have:=n.2.2;have u:¬ x.rt<b'.1.rt:=fun q=>h (this.2 q)
    grind
   have hp:mg b.1 (some b'.1) x=dU b'.1 b.1:=by
    have r:=hs.1;have g:∀ y:RQ,y.ok→b'.1.rt≤y.rt→¬ iQ (dU y b.1)<0:=fun y f t q=>by
     have:=(jm f c.1).1.1 q;grind
    unfold mg;simp only;split
    ·rw [if_neg (g _ d.1 (by grind))]
    ·rename_i p;have:b'.1=x:=qj d.1 i (by
      have v:¬ b'.1.rt<x.rt:=fun q=>p (n.1.2 q)
      grind)
     rw [this,if_neg (g _ i (by rw [this];grind))]
   have o:iH b.2 (dU b'.1 b.1)=iH (dU b'.1 b.1) b.2:=by
    have e:=gU d.1 c.1;refine qj (iI c.2 e) (iI e c.2) ?_;rw [Jk c.2 e,Jk e c.2];grind
   rw [hp,o];exact XB i (eu ha (iI (gU d.1 c.1) c.2)) j hs.2 m
theorem xQ {b:RQ × RQ} {l:List (RQ × RQ)} {x:RQ} (h:¬ 0<iy b.1 x):gz (b::l) x=gz l x+1:=by
 unfold gz;rw [List.takeWhile_cons_of_pos (by simp at h ⊢;omega)];simp
theorem abA {x:RQ}:∀ {l:List (RQ × RQ)} {b:RQ × RQ} {acc:RQ},¬ 0<iy b.1 x→gG ((jb acc (b::l)).getD (gz (b::l) x - 1) q0) (iH ((b::l).getD (gz (b::l) x - 1) (q0,q0)).2 (dU x ((b::l).getD (gz (b::l) x - 1) (q0,q0)).1))=wlR acc b l x
 | [],b,acc,h=>by
  rw [xQ h];rfl
 | b'::l,b,acc,h=>by
  rw [xQ h,Xwe];unfold wlR;split
  ·rename_i c;have:gz (b'::l) x=0:=by
    unfold gz;rw [Xz4 (by simp;omega)];rfl
   rw [this];rfl
  ·rename_i c;rw [← abA c,xQ c,Xwe];rfl
theorem acJ {x:RQ} (c:x.ok) {l:List (RQ × RQ)} (d:OkL l) (hs:sQ l):v_ q0 l x=if gz l x=0 then q0 else atR l x:=by
 cases l with
 |nil=>rfl
 | cons b l=>
  have g:=d b (by simp);have f:=(jm g.1 c).2.2;by_cases h:0<iy b.1 x
  ·have:gz (b::l) x=0:=by
    unfold gz;rw [Xz4 (by simp;omega)];rfl
   rw [this,if_pos rfl];refine FI c wG d fun y e=> ?_
   rcases List.mem_cons.1 e with rfl|e
   ·exact f.1 h
   ·have:=hs.all y e;have:=f.1 h;grind
  ·rw [if_neg (by rw [xQ h];omega)];unfold atR;rw [abA h];exact XB c wG d hs (by
    have:¬ x.rt<b.1.rt:=fun q=>h (f.2 q)
    grind)
inductive Oq where
 |err (e:Int)
 |val (q:RQ)
def Oq.n:Oq→Bool| .err _=>false| .val q=>q.neg
def Oq.a:Oq→List UInt8| .err _=> []| .val q=>ae q.n
def Oq.d:Oq→List UInt8| .err _=> []| .val q=>ae q.d
def Oq.e:Oq→Int| .err e=>e| .val _=>0
def Oq.q:Oq→RQ| .err _=>q0| .val q=>q
def zU (o:Oq):List AV:= [.bool o.n,.str o.a,.str o.d,ω o.e]
abbrev dZ (o:Oq):AV:= .agg [.bool o.n,.str o.a,.str o.d,ω o.e]
noncomputable def PK (t:Nat):AV→Bool:=match ap.tyAt t with|some ti=>kP ti|none=>fun _=>false
theorem iZ (e:Int):CO 41 [ω e] (.ret (.agg [.bool false,.str [],.str [],ω e])):=pK [] 0 0 (.n 5 .nil) (.nil)
theorem adt (n:Bool) (a d:List UInt8) (e:Int) (f:lit true (!(e==((0:Nat):Int)))=true) (c:CO 41 [ω e] (.ret (.agg [.bool false,.str [],.str [],ω e]))):CO 43 [.agg [.bool n,.str a,.str d,ω e]] (.ret (.agg [.bool false,.str [],.str [],ω e])):=pK [] 1 1 (.k 6 f (.n 1 .nil)) (.c c .nil)
theorem adu (n:Bool) (a d:List UInt8) (e:Int) (g:lit true (!(eQ n a d))=true) (c:lit false (!(e==((0:Nat):Int)))=true) (f:CO 70 [Ω n a d] (.ret (.bool (eQ n a d)))) (h:CO 41 [ω 3] (.ret (.agg [.bool false,.str [],.str [],ω 3]))):CO 43 [.agg [.bool n,.str a,.str d,ω e]] (.ret (.agg [.bool false,.str [],.str [],ω 3])):=pK [] 2 2 (.k 5 g (.k 3 c (.n 1 .nil))) (.c h (.c f .nil))
theorem adv (n:Bool) (a d:List UInt8) (e:Int) (g:lit false (!(eQ n a d))=true) (c:lit false (!(e==((0:Nat):Int)))=true) (f:CO 70 [Ω n a d] (.ret (.bool (eQ n a d)))):CO 43 [.agg [.bool n,.str a,.str d,ω e]] (.ret (.agg [.bool n,.str a,.str d,ω e])):=pK [] 2 0 (.k 9 g (.k 3 c (.n 1 .nil))) (.c f .nil)
theorem adF (n:Bool) (a d:List UInt8) (o:Oq) (c:CO 43 [.agg [.bool n,.str a,.str d,ω 0]] (.ret (dZ o))):CO 124 [Ω n a d] (.ret (dZ o)):=pK [] 0 0 (.n 8 .nil) (.c c .nil)
theorem adC (b:Bool) (o:Oq) (d:lit true b=true) (c:CO 42 [ω 1] (.ret (Ω false (ae 1) (ae 1)))) (e:CO 124 [Ω false (ae 1) (ae 1)] (.ret (dZ o))):CO 126 [.bool b] (.ret (dZ o)):=pK [] 1 1 (.k 5 d .nil) (.c e (.c c .nil))
theorem adD (b:Bool) (o:Oq) (d:lit false b=true) (c:CO 42 [ω 0] (.ret (Ω false (ae 0) (ae 1)))) (e:CO 124 [Ω false (ae 0) (ae 1)] (.ret (dZ o))):CO 126 [.bool b] (.ret (dZ o)):=pK [] 1 0 (.k 5 d .nil) (.c e (.c c .nil))
theorem ac9 (n:Bool) (a d:List UInt8) (e:lit true ((n==false) && ((a==(ae 1)) && ((d==(ae 1)) && true)))=true) (c:CO 42 [ω 1] (.ret (Ω false (ae 1) (ae 1)))):CO 128 [Ω n a d] (.ret (.tup [.bool ((n==false) && ((a==(ae 1)) && ((d==(ae 1)) && true))),.bool true])):=pK [] 1 1 (.c e (.n 3 .nil)) (.c c .nil)
theorem ac_ (n:Bool) (a d:List UInt8) (e:lit false ((n==false) && ((a==(ae 1)) && ((d==(ae 1)) && true)))=true) (c:CO 42 [ω 1] (.ret (Ω false (ae 1) (ae 1)))) (f:CO 42 [ω 0] (.ret (Ω false (ae 0) (ae 1)))):CO 128 [Ω n a d] (.ret (.tup [.bool ((n==false) && ((a==(ae 1)) && ((d==(ae 1)) && true))),.bool ((n==false) && ((a==(ae 0)) && ((d==(ae 1)) && true)))])):=pK [] 1 0 (.k 3 e (.n 3 .nil)) (.c f (.c c .nil))
theorem ada (f j:Bool) (e d c:List UInt8) (g:Int) (o:Oq) (ks vs h m n:List AV) (k:Nat) (i:CO 124 [Ω f e d] (.ret (dZ o))):CO 75 [.agg [.mp ks vs,.mp h m],.agg [ω g,.bool f,.str e,.str d,.str c],.sl n k j] (.ret (dZ o)):=pK [] 0 0 (.n 8 .nil) (.c i .nil)
theorem adb (t o e:Bool) (r i c:List UInt8) (d:Int) (f:Oq) (ks vs g p q:List AV) (k:Nat) (h:Yqf [(Xz0 (dK ks vs (.agg [ω d,.str c])) (.agg [.bool false,.str [],.str [],ω 0])),.bool (Xj3 (dK ks vs (.agg [ω d,.str c])))]= .tup [dZ f,.bool e]) (n:lit true (!e)=true) (j:(Xzu ks (PK 134))=true) (m:CO 41 [ω 12] (.ret (.agg [.bool false,.str [],.str [],ω 12]))):CO 76 [.agg [.mp ks vs,.mp g p],.agg [ω d,.bool t,.str r,.str i,.str c],.sl q k o] (.ret (.agg [.bool false,.str [],.str [],ω 12])):=pK [] 1 1 (.k 5 n (.k 2 j (.n 3 .nil))) (.c m (.v 17 (.eq h) .nil))
theorem adc (r n e:Bool) (q i c:List UInt8) (d:Int) (f:Oq) (ks vs g o p:List AV) (k:Nat) (h:Yqf [(Xz0 (dK ks vs (.agg [ω d,.str c])) (.agg [.bool false,.str [],.str [],ω 0])),.bool (Xj3 (dK ks vs (.agg [ω d,.str c])))]= .tup [dZ f,.bool e]) (m:lit false (!e)=true) (j:(Xzu ks (PK 134))=true):CO 76 [.agg [.mp ks vs,.mp g o],.agg [ω d,.bool r,.str q,.str i,.str c],.sl p k n] (.ret (dZ f)):=pK [] 1 0 (.k 9 m (.k 2 j (.n 3 .nil))) (.v 17 (.eq h) .nil)
theorem ac5 (r n o h:Bool) (q j d:List UInt8) (g:Int) (c f e:Oq) (ks vs i p:List AV) (m:lit true (!(c.e==((0:Nat):Int)))=true) (k:CO 128 [.agg [.bool c.n,.str c.a,.str c.d]] (.ret (.tup [.bool o,.bool h]))):CO 77 [.agg [.mp ks vs,.mp i p],.agg [ω g,.bool r,.str q,.str j,.str d],.sl [.bool c.n,.str c.a,.str c.d,ω c.e,.bool f.n,.str f.a,.str f.d,ω f.e,.bool e.n,.str e.a,.str e.d,ω e.e] 3 n] (.ret (dZ c)):=pK [] 1 1 (.k 11 m (.n 8 .nil)) (.c k .nil)
theorem ac6 (t u k g:Bool) (m n d:List UInt8) (h:Int) (c f e:Oq) (ks vs i q:List AV) (p:lit true (!g)=true) (o:lit false (!(c.e==((0:Nat):Int)))=true) (j:CO 128 [.agg [.bool c.n,.str c.a,.str c.d]] (.ret (.tup [.bool k,.bool g]))) (r:CO 41 [ω 13] (.ret (.agg [.bool false,.str [],.str [],ω 13]))):CO 77 [.agg [.mp ks vs,.mp i q],.agg [ω h,.bool t,.str m,.str n,.str d],.sl [.bool c.n,.str c.a,.str c.d,ω c.e,.bool f.n,.str f.a,.str f.d,ω f.e,.bool e.n,.str e.a,.str e.d,ω e.e] 3 u] (.ret (.agg [.bool false,.str [],.str [],ω 13])):=pK [] 2 2 (.k 5 p (.c o (.n 8 .nil))) (.c r (.c j .nil))
theorem ac7 (t u g h:Bool) (n o e:List UInt8) (i:Int) (c d f:Oq) (ks vs j r:List AV) (q:lit true g=true) (p:lit false (!h)=true) (m:lit false (!(c.e==((0:Nat):Int)))=true) (k:CO 128 [.agg [.bool c.n,.str c.a,.str c.d]] (.ret (.tup [.bool g,.bool h]))):CO 77 [.agg [.mp ks vs,.mp j r],.agg [ω i,.bool t,.str n,.str o,.str e],.sl [.bool c.n,.str c.a,.str c.d,ω c.e,.bool d.n,.str d.a,.str d.d,ω d.e,.bool f.n,.str f.a,.str f.d,ω f.e] 3 u] (.ret (dZ d)):=pK [] 3 4 (.k 11 q (.c p (.c m (.n 8 .nil)))) (.c k .nil)
theorem ac8 (t u g h:Bool) (n o e:List UInt8) (i:Int) (c f d:Oq) (ks vs j r:List AV) (q:lit false g=true) (p:lit false (!h)=true) (m:lit false (!(c.e==((0:Nat):Int)))=true) (k:CO 128 [.agg [.bool c.n,.str c.a,.str c.d]] (.ret (.tup [.bool g,.bool h]))):CO 77 [.agg [.mp ks vs,.mp j r],.agg [ω i,.bool t,.str n,.str o,.str e],.sl [.bool c.n,.str c.a,.str c.d,ω c.e,.bool f.n,.str f.a,.str f.d,ω f.e,.bool d.n,.str d.a,.str d.d,ω d.e] 3 u] (.ret (dZ d)):=pK [] 3 0 (.k 11 q (.c p (.c m (.n 8 .nil)))) (.c k .nil)
theorem YE (p j:Bool) (n g e:List UInt8) (o d c:Oq) (r:RQ) (ks vs f k:List AV) (h:CO 123 [ω 9] (.ret (.fn 167 [] []))) (m:CO 167 [.agg [.bool d.n,.str d.a,.str d.d],.agg [.bool c.n,.str c.a,.str c.d]] (.ret (.agg [.bool r.neg,.str (ae r.n),.str (ae r.d)]))) (i:CO 124 [.agg [.bool r.neg,.str (ae r.n),.str (ae r.d)]] (.ret (dZ o))):CO 74 [.agg [.mp ks vs,.mp f k],.agg [ω 9,.bool p,.str n,.str g,.str e],.sl [.bool d.n,.str d.a,.str d.d,ω d.e,.bool c.n,.str c.a,.str c.d,ω c.e] 2 j] (.ret (dZ o)):=pK [] 1 1 (.n 25 .nil) (.c i (.c m (.c h .nil)))
theorem Yy:CO 123 [ω 9] (.ret (.fn 167 [] [])):=pK [] 1 1 (.n 1 .nil) (.nil)
theorem UU (p j:Bool) (n g e:List UInt8) (o d c:Oq) (r:RQ) (ks vs f k:List AV) (h:CO 123 [ω 10] (.ret (.fn 168 [] []))) (m:CO 168 [.agg [.bool d.n,.str d.a,.str d.d],.agg [.bool c.n,.str c.a,.str c.d]] (.ret (.agg [.bool r.neg,.str (ae r.n),.str (ae r.d)]))) (i:CO 124 [.agg [.bool r.neg,.str (ae r.n),.str (ae r.d)]] (.ret (dZ o))):CO 74 [.agg [.mp ks vs,.mp f k],.agg [ω 10,.bool p,.str n,.str g,.str e],.sl [.bool d.n,.str d.a,.str d.d,ω d.e,.bool c.n,.str c.a,.str c.d,ω c.e] 2 j] (.ret (dZ o)):=pK [] 1 1 (.n 25 .nil) (.c i (.c m (.c h .nil)))
theorem UK:CO 123 [ω 10] (.ret (.fn 168 [] [])):=pK [] 2 2 (.n 2 .nil) (.nil)
theorem UV (p j:Bool) (n g e:List UInt8) (o d c:Oq) (r:RQ) (ks vs f k:List AV) (h:CO 123 [ω 11] (.ret (.fn 169 [] []))) (m:CO 169 [.agg [.bool d.n,.str d.a,.str d.d],.agg [.bool c.n,.str c.a,.str c.d]] (.ret (.agg [.bool r.neg,.str (ae r.n),.str (ae r.d)]))) (i:CO 124 [.agg [.bool r.neg,.str (ae r.n),.str (ae r.d)]] (.ret (dZ o))):CO 74 [.agg [.mp ks vs,.mp f k],.agg [ω 11,.bool p,.str n,.str g,.str e],.sl [.bool d.n,.str d.a,.str d.d,ω d.e,.bool c.n,.str c.a,.str c.d,ω c.e] 2 j] (.ret (dZ o)):=pK [] 1 1 (.n 25 .nil) (.c i (.c m (.c h .nil)))
theorem UL:CO 123 [ω 11] (.ret (.fn 169 [] [])):=pK [] 3 4 (.n 3 .nil) (.nil)
theorem UW (p j:Bool) (n g e:List UInt8) (o d c:Oq) (r:RQ) (ks vs f k:List AV) (h:CO 123 [ω 12] (.ret (.nilF))) (m:CO 125 [.agg [.bool d.n,.str d.a,.str d.d],.agg [.bool c.n,.str c.a,.str c.d]] (.ret (.tup [.agg [.bool r.neg,.str (ae r.n),.str (ae r.d)],.bool true]))) (i:CO 124 [.agg [.bool r.neg,.str (ae r.n),.str (ae r.d)]] (.ret (dZ o))):CO 74 [.agg [.mp ks vs,.mp f k],.agg [ω 12,.bool p,.str n,.str g,.str e],.sl [.bool d.n,.str d.a,.str d.d,ω d.e,.bool c.n,.str c.a,.str c.d,ω c.e] 2 j] (.ret (dZ o)):=pK [] 3 2 (.n 32 .nil) (.c i (.c m (.c h .nil)))
theorem Rq (o j:Bool) (n g e:List UInt8) (d c:Oq) (ks vs f k:List AV) (h:CO 123 [ω 12] (.ret (.nilF))) (m:CO 125 [.agg [.bool d.n,.str d.a,.str d.d],.agg [.bool c.n,.str c.a,.str c.d]] (.ret (.tup [Ω false [] [],.bool false]))) (i:CO 41 [ω 16] (.ret (.agg [.bool false,.str [],.str [],ω 16]))):CO 74 [.agg [.mp ks vs,.mp f k],.agg [ω 12,.bool o,.str n,.str g,.str e],.sl [.bool d.n,.str d.a,.str d.d,ω d.e,.bool c.n,.str c.a,.str c.d,ω c.e] 2 j] (.ret (.agg [.bool false,.str [],.str [],ω 16])):=pK [] 3 6 (.n 29 .nil) (.c i (.c m (.c h .nil)))
theorem J4:CO 123 [ω 12] (.ret (.nilF)):=pK [] 5 0 (.n 5 .nil) (.nil)
theorem J_ (n r k:Bool) (a d q h f:List UInt8) (o c e:Oq) (ks vs g m:List AV) (i:CO 123 [ω 13] (.ret (.fn 166 [] [.pp [ω 1] 0]))) (p:CO 166 [.agg [.bool c.n,.str c.a,.str c.d],.agg [.bool e.n,.str e.a,.str e.d],.pp [ω 1] 0] (.ret (Ω n a d))) (j:CO 124 [Ω n a d] (.ret (dZ o))):CO 74 [.agg [.mp ks vs,.mp g m],.agg [ω 13,.bool r,.str q,.str h,.str f],.sl [.bool c.n,.str c.a,.str c.d,ω c.e,.bool e.n,.str e.a,.str e.d,ω e.e] 2 k] (.ret (dZ o)):=pK [] 1 1 (.n 25 .nil) (.c j (.c p (.c i .nil)))
theorem J5 (c:CO 165 [ω 1] (.ret (.fn 166 [] [.pp [ω 1] 0]))):CO 123 [ω 13] (.ret (.fn 166 [] [.pp [ω 1] 0])):=pK [] 4 8 (.n 4 .nil) (.c c .nil)
theorem Ko (n r k:Bool) (a d q h f:List UInt8) (o c e:Oq) (ks vs g m:List AV) (i:CO 123 [ω 14] (.ret (.fn 166 [] [.pp [ω (-1)] 0]))) (p:CO 166 [.agg [.bool c.n,.str c.a,.str c.d],.agg [.bool e.n,.str e.a,.str e.d],.pp [ω (-1)] 0] (.ret (Ω n a d))) (j:CO 124 [Ω n a d] (.ret (dZ o))):CO 74 [.agg [.mp ks vs,.mp g m],.agg [ω 14,.bool r,.str q,.str h,.str f],.sl [.bool c.n,.str c.a,.str c.d,ω c.e,.bool e.n,.str e.a,.str e.d,ω e.e] 2 k] (.ret (dZ o)):=pK [] 1 1 (.n 25 .nil) (.c j (.c p (.c i .nil)))
theorem J6 (c:CO 165 [ω (-1)] (.ret (.fn 166 [] [.pp [ω (-1)] 0]))):CO 123 [ω 14] (.ret (.fn 166 [] [.pp [ω (-1)] 0])):=pK [] 5 16 (.n 5 .nil) (.c c .nil)
theorem UX (q k:Bool) (p h e:List UInt8) (g:Int) (o d c:Oq) (ks vs f m:List AV) (i:CO 123 [ω 16] (.ret (.nilF))) (n:CO 127 [.agg [.bool d.n,.str d.a,.str d.d],.agg [.bool c.n,.str c.a,.str c.d]] (.ret (ω g))) (j:CO 126 [.bool (decide (g<((0:Nat):Int)))] (.ret (dZ o))):CO 74 [.agg [.mp ks vs,.mp f m],.agg [ω 16,.bool q,.str p,.str h,.str e],.sl [.bool d.n,.str d.a,.str d.d,ω d.e,.bool c.n,.str c.a,.str c.d,ω c.e] 2 k] (.ret (dZ o)):=pK [] 3 4 (.n 28 .nil) (.c j (.c n (.c i .nil)))
theorem UM:CO 123 [ω 16] (.ret (.nilF)):=pK [] 5 0 (.n 5 .nil) (.nil)
theorem UY (n i:Bool) (m g e:List UInt8) (o d c:Oq) (ks vs f j:List AV) (h:CO 123 [ω 17] (.ret (.nilF))) (k:CO 126 [.bool ((d.n==c.n) && ((d.a==c.a) && ((d.d==c.d) && true)))] (.ret (dZ o))):CO 74 [.agg [.mp ks vs,.mp f j],.agg [ω 17,.bool n,.str m,.str g,.str e],.sl [.bool d.n,.str d.a,.str d.d,ω d.e,.bool c.n,.str c.a,.str c.d,ω c.e] 2 i] (.ret (dZ o)):=pK [] 4 8 (.n 29 .nil) (.c k (.c h .nil))
theorem UN:CO 123 [ω 17] (.ret (.nilF)):=pK [] 5 0 (.n 5 .nil) (.nil)
theorem UZ (u v i f j p:Bool) (k n e:List UInt8) (d c:Oq) (ks vs g r:List AV) (q:lit true (!f)=true) (h:CO 123 [ω 18] (.ret (.nilF))) (t:CO 128 [.agg [.bool d.n,.str d.a,.str d.d]] (.ret (.tup [.bool i,.bool f]))) (o:CO 128 [.agg [.bool c.n,.str c.a,.str c.d]] (.ret (.tup [.bool j,.bool p]))) (m:CO 41 [ω 13] (.ret (.agg [.bool false,.str [],.str [],ω 13]))):CO 74 [.agg [.mp ks vs,.mp g r],.agg [ω 18,.bool u,.str k,.str n,.str e],.sl [.bool d.n,.str d.a,.str d.d,ω d.e,.bool c.n,.str c.a,.str c.d,ω c.e] 2 v] (.ret (.agg [.bool false,.str [],.str [],ω 13])):=pK [] 6 48 (.k 6 q (.n 24 .nil)) (.c m (.c o (.c t (.c h .nil))))
theorem U3 (v w j g k f:Bool) (m o e:List UInt8) (d c:Oq) (ks vs h t:List AV) (r:lit true (!f)=true) (q:lit false (!g)=true) (i:CO 123 [ω 18] (.ret (.nilF))) (u:CO 128 [.agg [.bool d.n,.str d.a,.str d.d]] (.ret (.tup [.bool j,.bool g]))) (p:CO 128 [.agg [.bool c.n,.str c.a,.str c.d]] (.ret (.tup [.bool k,.bool f]))) (n:CO 41 [ω 13] (.ret (.agg [.bool false,.str [],.str [],ω 13]))):CO 74 [.agg [.mp ks vs,.mp h t],.agg [ω 18,.bool v,.str m,.str o,.str e],.sl [.bool d.n,.str d.a,.str d.d,ω d.e,.bool c.n,.str c.a,.str c.d,ω c.e] 2 w] (.ret (.agg [.bool false,.str [],.str [],ω 13])):=pK [] 6 32 (.k 5 r (.c q (.n 24 .nil))) (.c n (.c p (.c u (.c i .nil))))
theorem U4 (y z f i g h:Bool) (n q e:List UInt8) (o d c:Oq) (ks vs j v:List AV) (u:lit true f=true) (t:lit false (!h)=true) (m:lit false (!i)=true) (k:CO 123 [ω 18] (.ret (.nilF))) (w:CO 128 [.agg [.bool d.n,.str d.a,.str d.d]] (.ret (.tup [.bool f,.bool i]))) (r:CO 128 [.agg [.bool c.n,.str c.a,.str c.d]] (.ret (.tup [.bool g,.bool h]))) (p:CO 126 [.bool g] (.ret (dZ o))):CO 74 [.agg [.mp ks vs,.mp j v],.agg [ω 18,.bool y,.str n,.str q,.str e],.sl [.bool d.n,.str d.a,.str d.d,ω d.e,.bool c.n,.str c.a,.str c.d,ω c.e] 2 z] (.ret (dZ o)):=pK [] 8 192 (.k 5 u (.k 2 t (.c m (.n 24 .nil)))) (.c p (.c r (.c w (.c k .nil))))
theorem U5 (y z f h m g:Bool) (n q e:List UInt8) (o d c:Oq) (ks vs i v:List AV) (u:lit false f=true) (t:lit false (!g)=true) (k:lit false (!h)=true) (j:CO 123 [ω 18] (.ret (.nilF))) (w:CO 128 [.agg [.bool d.n,.str d.a,.str d.d]] (.ret (.tup [.bool f,.bool h]))) (r:CO 128 [.agg [.bool c.n,.str c.a,.str c.d]] (.ret (.tup [.bool m,.bool g]))) (p:CO 126 [.bool false] (.ret (dZ o))):CO 74 [.agg [.mp ks vs,.mp i v],.agg [ω 18,.bool y,.str n,.str q,.str e],.sl [.bool d.n,.str d.a,.str d.d,ω d.e,.bool c.n,.str c.a,.str c.d,ω c.e] 2 z] (.ret (dZ o)):=pK [] 8 64 (.k 5 u (.k 2 t (.c k (.n 24 .nil)))) (.c p (.c r (.c w (.c j .nil))))
theorem xZ:CO 123 [ω 18] (.ret (.nilF)):=pK [] 5 0 (.n 5 .nil) (.nil)
theorem U6 (u v i f j p:Bool) (k n e:List UInt8) (d c:Oq) (ks vs g r:List AV) (q:lit true (!f)=true) (h:CO 123 [ω 19] (.ret (.nilF))) (t:CO 128 [.agg [.bool d.n,.str d.a,.str d.d]] (.ret (.tup [.bool i,.bool f]))) (o:CO 128 [.agg [.bool c.n,.str c.a,.str c.d]] (.ret (.tup [.bool j,.bool p]))) (m:CO 41 [ω 13] (.ret (.agg [.bool false,.str [],.str [],ω 13]))):CO 74 [.agg [.mp ks vs,.mp g r],.agg [ω 19,.bool u,.str k,.str n,.str e],.sl [.bool d.n,.str d.a,.str d.d,ω d.e,.bool c.n,.str c.a,.str c.d,ω c.e] 2 v] (.ret (.agg [.bool false,.str [],.str [],ω 13])):=pK [] 6 48 (.k 6 q (.n 24 .nil)) (.c m (.c o (.c t (.c h .nil))))
theorem U7 (v w j g k f:Bool) (m o e:List UInt8) (d c:Oq) (ks vs h t:List AV) (r:lit true (!f)=true) (q:lit false (!g)=true) (i:CO 123 [ω 19] (.ret (.nilF))) (u:CO 128 [.agg [.bool d.n,.str d.a,.str d.d]] (.ret (.tup [.bool j,.bool g]))) (p:CO 128 [.agg [.bool c.n,.str c.a,.str c.d]] (.ret (.tup [.bool k,.bool f]))) (n:CO 41 [ω 13] (.ret (.agg [.bool false,.str [],.str [],ω 13]))):CO 74 [.agg [.mp ks vs,.mp h t],.agg [ω 19,.bool v,.str m,.str o,.str e],.sl [.bool d.n,.str d.a,.str d.d,ω d.e,.bool c.n,.str c.a,.str c.d,ω c.e] 2 w] (.ret (.agg [.bool false,.str [],.str [],ω 13])):=pK [] 6 32 (.k 5 r (.c q (.n 24 .nil))) (.c n (.c p (.c u (.c i .nil))))
theorem U8 (y z f h m g:Bool) (n q e:List UInt8) (o d c:Oq) (ks vs i v:List AV) (u:lit true f=true) (t:lit false (!g)=true) (k:lit false (!h)=true) (j:CO 123 [ω 19] (.ret (.nilF))) (w:CO 128 [.agg [.bool d.n,.str d.a,.str d.d]] (.ret (.tup [.bool f,.bool h]))) (r:CO 128 [.agg [.bool c.n,.str c.a,.str c.d]] (.ret (.tup [.bool m,.bool g]))) (p:CO 126 [.bool true] (.ret (dZ o))):CO 74 [.agg [.mp ks vs,.mp i v],.agg [ω 19,.bool y,.str n,.str q,.str e],.sl [.bool d.n,.str d.a,.str d.d,ω d.e,.bool c.n,.str c.a,.str c.d,ω c.e] 2 z] (.ret (dZ o)):=pK [] 8 128 (.k 5 u (.k 2 t (.c k (.n 24 .nil)))) (.c p (.c r (.c w (.c j .nil))))
theorem U9 (y z f i g h:Bool) (n q e:List UInt8) (o d c:Oq) (ks vs j v:List AV) (u:lit false f=true) (t:lit false (!h)=true) (m:lit false (!i)=true) (k:CO 123 [ω 19] (.ret (.nilF))) (w:CO 128 [.agg [.bool d.n,.str d.a,.str d.d]] (.ret (.tup [.bool f,.bool i]))) (r:CO 128 [.agg [.bool c.n,.str c.a,.str c.d]] (.ret (.tup [.bool g,.bool h]))) (p:CO 126 [.bool g] (.ret (dZ o))):CO 74 [.agg [.mp ks vs,.mp j v],.agg [ω 19,.bool y,.str n,.str q,.str e],.sl [.bool d.n,.str d.a,.str d.d,ω d.e,.bool c.n,.str c.a,.str c.d,ω c.e] 2 z] (.ret (dZ o)):=pK [] 8 0 (.k 5 u (.k 2 t (.c m (.n 24 .nil)))) (.c p (.c r (.c w (.c k .nil))))
theorem x_:CO 123 [ω 19] (.ret (.nilF)):=pK [] 5 0 (.n 5 .nil) (.nil)
theorem Pm:CO 165 [ω 1] (.ret (.fn 166 [] [.pp [ω 1] 0])):=pK [] 0 0 .nil (.nil)
theorem YH (i c:Bool) (h f d e:List UInt8) (g:Int) (k:lit true (decide (((0:Nat):Int)<(γ .i64 (g*((1:Nat):Int)))))=true) (j:CO 127 [Ω i h f,Ω c d e] (.ret (ω g))):CO 166 [Ω i h f,Ω c d e,.pp [ω 1] 0] (.ret (Ω c d e)):=pK [] 1 1 (.k 7 k (.n 7 .nil)) (.c j .nil)
theorem YI (e f:Bool) (d c h i:List UInt8) (g:Int) (k:lit false (decide (((0:Nat):Int)<(γ .i64 (g*((1:Nat):Int)))))=true) (j:CO 127 [Ω e d c,Ω f h i] (.ret (ω g))):CO 166 [Ω e d c,Ω f h i,.pp [ω 1] 0] (.ret (Ω e d c)):=pK [] 1 0 (.k 7 k (.n 7 .nil)) (.c j .nil)
theorem Pj:CO 165 [ω (-1)] (.ret (.fn 166 [] [.pp [ω (-1)] 0])):=pK [] 0 0 .nil (.nil)
theorem YF (i c:Bool) (h f d e:List UInt8) (g:Int) (k:lit true (decide (((0:Nat):Int)<(γ .i64 (g*(-1:Int)))))=true) (j:CO 127 [Ω i h f,Ω c d e] (.ret (ω g))):CO 166 [Ω i h f,Ω c d e,.pp [ω (-1)] 0] (.ret (Ω c d e)):=pK [] 1 1 (.k 7 k (.n 7 .nil)) (.c j .nil)
theorem YG (e f:Bool) (d c h i:List UInt8) (g:Int) (k:lit false (decide (((0:Nat):Int)<(γ .i64 (g*(-1:Int)))))=true) (j:CO 127 [Ω e d c,Ω f h i] (.ret (ω g))):CO 166 [Ω e d c,Ω f h i,.pp [ω (-1)] 0] (.ret (Ω e d c)):=pK [] 1 0 (.k 7 k (.n 7 .nil)) (.c j .nil)
def iG (q:RQ):Bool:=decide (dQ q.n≤400) && decide (dQ q.d≤400)
def Oq.ok:Oq→Prop| .err e=>e ≠ 0| .val q=>q.ok∧iG q=true
def Ai (n:Bool) (a d:List UInt8) (e:Int):Oq:=if e=0 then (if eQ n a d=true then .val ⟨n,ag a,ag d⟩ else .err 3) else .err e
def mW (q:RQ):Oq:=if iG q=true then .val q else .err 3
def bR (b:Bool):RQ:=if b then ⟨false,1,1⟩ else ⟨false,0,1⟩
def FC (b:Bool):Oq:= .val (bR b)
def Oq.one (o:Oq):Bool:=(o.n==false) && ((o.a==(ae 1)) && ((o.d==(ae 1)) && true))
def Oq.bit (o:Oq):Bool:=o.one||((o.n==false) && ((o.a==(ae 0)) && ((o.d==(ae 1)) && true)))
def eqO (a b:Oq):Bool:=(a.n==b.n) && ((a.a==b.a) && ((a.d==b.d) && true))
def QX (a b c:Oq):Oq:=if a.e=0 then (if a.bit then (if a.one then b else c) else .err 13) else a
def KY (op:Int) (a b:Oq):Oq:=
 if op=9 then mW (gG a.q b.q) else if op=10 then mW (dU a.q b.q) else if op=11 then mW (iH a.q b.q)
 else if op=12 then (if b.q.n=0 then .err 16 else mW (eX a.q b.q))
 else if op=13 then (if 0<iy a.q b.q then b else a) else if op=14 then (if iy a.q b.q<0 then b else a)
 else if op=16 then FC (decide (iy a.q b.q<0)) else if op=17 then FC (eqO a b)
 else if a.bit && b.bit then FC (if op=18 then a.one && b.one else a.one||b.one) else .err 13
theorem nY {n:Bool} {a d:List UInt8} (h:eQ n a d=true):iE n a d=true∧iG ⟨n,ag a,ag d⟩=true:=by
 unfold eQ at h;simp only [ο] at h;exact ⟨h.1.1,by unfold iG;simp only [ο];exact ⟨h.1.2,h.2⟩⟩
theorem iR {n:Bool} {a d:List UInt8} (h:iE n a d=true):ae (ag a)=a∧ae (ag d)=d:=by
 rw [kM] at h;exact ⟨(mO a).1 h.1,(mO d).1 h.2.1⟩
theorem vK (n:Bool) (a d:List UInt8) (e:Int):(Ai n a d e).ok:=by
 unfold Ai;split
 ·split
  ·rename_i h;obtain ⟨f,c⟩:=nY h;have:=jl n a d;unfold vQ at this;rw [if_pos f] at this;exact ⟨this,c⟩
  ·exact (by decide:(3:Int) ≠ 0)
 ·assumption
theorem yh {q:RQ} (h:q.ok):eQ q.neg (ae q.n) (ae q.d)=iG q:=by
 unfold eQ iG;rw [wY q h,aB,aB,Xx4]
theorem Ff {q:RQ} (h:q.ok):Ai q.neg (ae q.n) (ae q.d) 0=mW q:=by
 unfold Ai mW;rw [if_pos rfl,yh h,aB,aB]
theorem pW {q:RQ} (h:q.ok):(mW q).ok:=by
 rw [← Ff h];exact vK _ _ _ _
theorem af8 (b:Bool):(bR b).ok:=by cases b<;>exact ⟨by decide,by decide,by decide⟩
theorem KC:dQ 1≤400∧dQ 0≤400:=⟨lK (k:=400) (Nat.one_lt_two_pow (n:=400) (by decide)),lK (k:=400) (Xqr 400)⟩
theorem PL {x:Nat} (h:dQ x≤400):(ae x).length≤51:=by
 refine bU (k:=51) ?_;rcases Γ x with h0|h0
 ·rw [h0];apply Xqr
 ·obtain ⟨m,d,_,c⟩:=uZ h0;refine Ψ c ?_;apply Xqa (by decide);omega
theorem nG (b:Bool):(FC b).ok:=by
 refine ⟨af8 b, ?_⟩;unfold iG bR;have:=KC;cases b<;>simp [this.1,this.2]
theorem aW {q:RQ} (h:iG q=true):(ae q.n).length≤51∧(ae q.d).length≤51:=by
 unfold iG at h;simp only [ο,decide_eq_true_eq] at h;exact ⟨PL h.1,PL h.2⟩
theorem vM (n:Bool) (a d:List UInt8) (e:Int) (j:a.length<2^36) (hd:d.length<2^36):CO 43 [.agg [.bool n,.str a,.str d,ω e]] (.ret (dZ (Ai n a d e))):=by
 have f:=fZ n a d j hd;unfold Ai;by_cases h:e=0
 ·rw [if_pos h];have g:lit false (!(e==((0:Nat):Int)))=true:=by rw [h];rfl
  cases c:eQ n a d with
  |true=>
   rw [c] at f;rw [if_pos rfl];have:=adv n a d e (by rw [c];rfl) g (by rw [c];exact f);obtain ⟨i,k⟩:=iR (nY c).1;show CO 43 _ (.ret (.agg [.bool n,.str (ae (ag a)),.str (ae (ag d)),ω 0]));rw [i,k,← h];exact this
  |false=>
   rw [c] at f;rw [if_neg (by simp)];exact adu n a d e (by rw [c];rfl) g (by rw [c];exact f) (iZ 3)
 ·rw [if_neg h];exact adt n a d e (by rw [show (e==((0:Nat):Int))=false from beq_eq_false_iff_ne.2 h];rfl) (iZ e)
theorem Kq (n:Bool) (a d:List UInt8) (c:a.length<2^36) (hd:d.length<2^36):CO 124 [Ω n a d] (.ret (dZ (Ai n a d 0))):=adF n a d _ (vM n a d 0 c hd)
theorem qM {q:RQ} (h:q.ok) (c:(ae q.n).length<2^36) (d:(ae q.d).length<2^36):CO 124 [qA q] (.ret (dZ (mW q))):=by
 rw [← Ff h];exact Kq _ _ _ c d
theorem qL {o:Oq} (h:o.ok) (d:o.e=0):CO 124 [.agg [.bool o.n,.str o.a,.str o.d]] (.ret (dZ o)):=by
 cases o with
 |err e=>exact absurd d h
 |val q=>
  have c:=qM h.1 (φ (aW h.2).1 (by decide)) (φ (aW h.2).2 (by decide));unfold mW at c;rw [if_pos h.2] at c;exact c
theorem lF (b:Bool):CO 126 [.bool b] (.ret (dZ (FC b))):=by
 cases b with
 |true=>exact adC true _ rfl uG (qL (nG true) rfl)
 |false=>exact adD false _ rfl jw (qL (nG false) rfl)
theorem nI (o:Oq):CO 128 [.agg [.bool o.n,.str o.a,.str o.d]] (.ret (.tup [.bool o.one,.bool o.bit])):=by
 unfold Oq.bit;cases h:o.one with
 |true=>
  have:=ac9 o.n o.a o.d h uG;rw [show ((o.n==false) && ((o.a==(ae 1)) && ((o.d==(ae 1)) && true)))=true from h] at this;exact this
 |false=>
  have:=ac_ o.n o.a o.d (by rw [show ((o.n==false) && ((o.a==(ae 1)) && ((o.d==(ae 1)) && true)))=false from h];rfl) uG jw;rw [show ((o.n==false) && ((o.a==(ae 1)) && ((o.d==(ae 1)) && true)))=false from h] at this;rw [Xwh];exact this
section
variable (op:Int) (ng nn:Bool) (nu de name:List UInt8) (ks vs kt vt:List AV) (o0 o1 o2:Oq)
theorem Np:CO 77 [.agg [.mp ks vs,.mp kt vt],.agg [ω op,.bool ng,.str nu,.str de,.str name],.sl (zU o0++(zU o1++zU o2)) 3 nn] (.ret (dZ (QX o0 o1 o2))):=by
 have c:=nI o0;unfold QX;by_cases h:o0.e=0
 ·rw [if_pos h];have d:lit false (!(o0.e==((0:Nat):Int)))=true:=by rw [h];rfl
  cases e:o0.bit with
  |false=>
   rw [e] at c;exact ac6 _ _ _ _ _ _ _ _ o0 o1 o2 ks vs kt vt rfl d c (iZ 13)
  |true=>
   rw [e] at c;cases f:o0.one with
   |true=>rw [f] at c;exact ac7 _ _ _ _ _ _ _ _ o0 o1 o2 ks vs kt vt rfl rfl d c
   |false=>rw [f] at c;exact ac8 _ _ _ _ _ _ _ _ o0 o1 o2 ks vs kt vt rfl rfl d c
 ·rw [if_neg h];exact ac5 _ _ _ _ _ _ _ _ o0 o1 o2 ks vs kt vt (by rw [show (o0.e==((0:Nat):Int))=false from beq_eq_false_iff_ne.2 h];rfl) c
theorem akX {g:Int} (h:g=0∨g=1∨g= -1):decide (((0:Nat):Int)<(γ .i64 (g*((1:Nat):Int))))=decide (0<g)∧decide (((0:Nat):Int)<(γ .i64 (g*(-1:Int))))=decide (g<0):=by
 rcases h with rfl|rfl|rfl<;>decide+kernel
theorem alv (a b:RQ):iy a b=0∨iy a b=1∨iy a b= -1:=by
 unfold iy iQ;split
 ·exact .inl rfl
 ·split
  ·exact .inr (.inr rfl)
  ·exact .inr (.inl rfl)
theorem yV {o:Oq} (h:o.ok) (c:o.e=0):∃ q:RQ,o= .val q∧q.ok∧iG q=true:=by
 cases o with
 |err e=>exact absurd c h
 |val q=>exact ⟨q,rfl,h.1,h.2⟩
theorem UT (F:(9≤op∧op≤14)∨(16≤op∧op≤19)) (k0:o0.ok) (y:o0.e=0) (k1:o1.ok) (z:o1.e=0):CO 74 [.agg [.mp ks vs,.mp kt vt],.agg [ω op,.bool ng,.str nu,.str de,.str name],.sl (zU o0++zU o1) 2 nn] (.ret (dZ (KY op o0 o1))):=by
 obtain ⟨a,rfl,u,C⟩:=yV k0 y;obtain ⟨b,rfl,v,D⟩:=yV k1 z;obtain ⟨m,j⟩:=aW C;obtain ⟨i,g⟩:=aW D;have r:=gq u;have p:=gq v;have d:∀ k:Nat,k≤51→k<2^28:=fun k h=>φ h (by decide)
 have c:∀ k:Nat,k≤51→k<2^29:=fun k h=>φ h (by decide)
 have t:CO 127 [qA a,qA b] (.ret (ω (iy a b))):=by
  have:=E_ a.neg b.neg (ae a.n) (ae a.d) (ae b.n) (ae b.d) (d _ m) (d _ j) (d _ i) (d _ g);rw [r,p] at this;exact this
 have G:=alv a b;obtain ⟨A,B⟩:=akX G;have E:op=9∨op=10∨op=11∨op=12∨op=13∨op=14∨op=16∨op=17∨op=18∨op=19:=by omega
 have w:∀ {q:RQ},(ae q.n).length≤4*51+1∧(ae q.d).length≤2*51→(ae q.n).length<2^36∧(ae q.d).length<2^36:=fun h=> ⟨φ h.1 (by decide),φ h.2 (by decide)⟩
 rcases E with rfl|rfl|rfl|rfl|rfl|rfl|rfl|rfl|rfl|rfl
 ·have:=E9 a.neg b.neg (ae a.n) (ae a.d) (ae b.n) (ae b.d) (c _ m) (c _ j) (c _ i) (c _ g);rw [r,p] at this;obtain ⟨n,o⟩:=w (uw a b 51 m j i g);exact YE _ _ _ _ _ _ (.val a) (.val b) _ ks vs kt vt Yy this (qM (eu u v) n o)
 ·have:=Fa a.neg b.neg (ae a.n) (ae a.d) (ae b.n) (ae b.d) (c _ m) (c _ j) (d _ i) (d _ g);rw [r,p] at this;obtain ⟨n,o⟩:=w (uw a (kT b) 51 m j i g);exact UU _ _ _ _ _ _ (.val a) (.val b) _ ks vs kt vt UK this (qM (gU u v) n o)
 ·have:=Qn a.neg b.neg (ae a.n) (ae a.d) (ae b.n) (ae b.d) (c _ m) (c _ j) (c _ i) (c _ g);rw [r,p] at this;have:=dG a.n b.n;have:=dG a.d b.d;have:=rM (!(a.neg==b.neg)) (a.n*b.n) (a.d*b.d);obtain ⟨n,o⟩:=w (q:=iH a b) ⟨by unfold iH;omega,by unfold iH;omega⟩;exact UV _ _ _ _ _ _ (.val a) (.val b) _ ks vs kt vt UL (by assumption) (qM (iI u v) n o)
 ·rcases Γ b.n with h0|h0
  ·have:=WU a.neg b.neg (ae a.n) (ae a.d) (ae b.n) (ae b.d) (c _ m) (c _ j) (c _ i) (c _ g) (by rw [p];exact h0);show CO 74 _ (.ret (dZ (if b.n=0 then .err 16 else _)));rw [if_pos h0];exact Rq _ _ _ _ _ (.val a) (.val b) ks vs kt vt J4 this (iZ 16)
  ·have:=Lt a.neg b.neg (ae a.n) (ae a.d) (ae b.n) (ae b.d) (c _ m) (c _ j) (c _ i) (c _ g) (by rw [p];exact h0);rw [r,p] at this;have:=dG a.n b.d;have:=dG a.d b.n;have:=rM (!(a.neg==b.neg)) (a.n*b.d) (a.d*b.n);obtain ⟨n,o⟩:=w (q:=eX a b) ⟨by unfold eX;omega,by unfold eX;omega⟩;show CO 74 _ (.ret (dZ (if b.n=0 then .err 16 else mW (eX a b))));rw [if_neg (by omega)];exact UW _ _ _ _ _ _ (.val a) (.val b) _ ks vs kt vt J4 (by assumption) (qM (pM u h0) n o)
 ·show CO 74 _ (.ret (dZ (if 0<iy a b then .val b else .val a)));by_cases h:0<iy a b
  ·rw [if_pos h];exact J_ _ _ _ _ _ _ _ _ _ (.val a) (.val b) ks vs kt vt (J5 Pm) (YH _ _ _ _ _ _ _ (by rw [A,Yq0 h];rfl) t) (qL k1 z)
  ·rw [if_neg h];exact J_ _ _ _ _ _ _ _ _ _ (.val a) (.val b) ks vs kt vt (J5 Pm) (YI _ _ _ _ _ _ _ (by rw [A,Yq1 h];rfl) t) (qL k0 y)
 ·show CO 74 _ (.ret (dZ (if iy a b<0 then .val b else .val a)));by_cases h:iy a b<0
  ·rw [if_pos h];exact Ko _ _ _ _ _ _ _ _ _ (.val a) (.val b) ks vs kt vt (J6 Pj) (YF _ _ _ _ _ _ _ (by rw [B,Yq0 h];rfl) t) (qL k1 z)
  ·rw [if_neg h];exact Ko _ _ _ _ _ _ _ _ _ (.val a) (.val b) ks vs kt vt (J6 Pj) (YG _ _ _ _ _ _ _ (by rw [B,Yq1 h];rfl) t) (qL k0 y)
 ·exact UX _ _ _ _ _ _ _ (.val a) (.val b) ks vs kt vt UM t (lF _)
 ·exact UY _ _ _ _ _ _ (.val a) (.val b) ks vs kt vt UN (lF _)
 ·have f:=nI (.val a);have e:=nI (.val b);show CO 74 _ (.ret (dZ (if Oq.bit (.val a) && Oq.bit (.val b) then FC (Oq.one (.val a) && Oq.one (.val b)) else .err 13)));generalize Oq.bit (.val a)=x2 at*
  generalize Oq.bit (.val b)=x4 at*
  generalize Oq.one (.val a)=x1 at*
  generalize Oq.one (.val b)=x3 at*
  cases x2 with
  |false=>exact UZ _ _ x1 false x3 x4 _ _ _ (.val a) (.val b) ks vs kt vt rfl xZ f e (iZ 13)
  | true=>
   cases x4 with
   |false=>exact U3 _ _ x1 true x3 false _ _ _ (.val a) (.val b) ks vs kt vt rfl rfl xZ f e (iZ 13)
   |true=>
    cases x1 with
    |true=>exact U4 _ _ true true x3 true _ _ _ _ (.val a) (.val b) ks vs kt vt rfl rfl rfl xZ f e (lF _)
    |false=>exact U5 _ _ false true x3 true _ _ _ _ (.val a) (.val b) ks vs kt vt rfl rfl rfl xZ f e (lF _)
 ·have f:=nI (.val a);have e:=nI (.val b);show CO 74 _ (.ret (dZ (if Oq.bit (.val a) && Oq.bit (.val b) then FC (Oq.one (.val a)||Oq.one (.val b)) else .err 13)));generalize Oq.bit (.val a)=x2 at*
  generalize Oq.bit (.val b)=x4 at*
  generalize Oq.one (.val a)=x1 at*
  generalize Oq.one (.val b)=x3 at*
  cases x2 with
  |false=>exact U6 _ _ x1 false x3 x4 _ _ _ (.val a) (.val b) ks vs kt vt rfl x_ f e (iZ 13)
  | true=>
   cases x4 with
   |false=>exact U7 _ _ x1 true x3 false _ _ _ (.val a) (.val b) ks vs kt vt rfl rfl x_ f e (iZ 13)
   |true=>
    cases x1 with
    |true=>exact U8 _ _ true true x3 true _ _ _ _ (.val a) (.val b) ks vs kt vt rfl rfl rfl x_ f e (lF _)
    |false=>exact U9 _ _ false true x3 true _ _ _ _ (.val a) (.val b) ks vs kt vt rfl rfl rfl x_ f e (lF _)
end
theorem agS (r:RQ) (c:Bool) (n:Nat) (d:CO 158 [.agg [.str []],.str (ae 1)] (.ret (.bool true))) (f:CO 159 [.str (ae n)] (.ret (.bool true))) (e:CO 160 [.bool c,.str (ae n),.str (ae 1)] (.ret (qA r))):CO 205 [.bool c,.str (ae n),.str (ae 1)] (.ret (.tup [qA r,.bool true])):=pK [] 2 0 (.n 6 .nil) (.c e (.c f (.c d .nil)))
theorem adK (r:RQ) (n m y z:Nat) (c:CO 191 [.str (ae n),.str (ae m)] (.ret (.tup [.str (ae y),.str (ae z),.bool true]))) (e:CO 72 [ω 1] (.ret (.str (ae 1)))) (d:CO 205 [.bool false,.str (ae y),.str (ae 1)] (.ret (.tup [qA r,.bool true]))):CO 177 [Ω false (ae n) (ae m)] (.ret (qA r)):=pK [] 2 0 (.n 14 .nil) (.c d (.c e (.c c .nil)))
theorem adI (r:RQ) (n m y z:Nat) (e:lit true (!((ae z)== []))=true) (d:CO 191 [.str (ae n),.str (ae m)] (.ret (.tup [.str (ae y),.str (ae z),.bool true]))) (h:CO 72 [ω 1] (.ret (.str (ae 1)))) (f:CO 71 [.str (ae y),.str (ae 1)] (.ret (.str (ae (y+1))))) (c:CO 72 [ω 1] (.ret (.str (ae 1)))) (g:CO 205 [.bool true,.str (ae (y+1)),.str (ae 1)] (.ret (.tup [qA r,.bool true]))):CO 177 [Ω true (ae n) (ae m)] (.ret (qA r)):=pK [] 2 3 (.k 9 e (.n 4 .nil)) (.c g (.c c (.c f (.c h (.c d .nil)))))
theorem adJ (r:RQ) (n m y z:Nat) (d:lit false (!((ae z)== []))=true) (c:CO 191 [.str (ae n),.str (ae m)] (.ret (.tup [.str (ae y),.str (ae z),.bool true]))) (f:CO 72 [ω 1] (.ret (.str (ae 1)))) (e:CO 205 [.bool true,.str (ae y),.str (ae 1)] (.ret (.tup [qA r,.bool true]))):CO 177 [Ω true (ae n) (ae m)] (.ret (qA r)):=pK [] 2 1 (.k 9 d (.n 4 .nil)) (.c e (.c f (.c c .nil)))
theorem adw (a s:RQ) (g:Int) (c:CO 115 [qA a] (.ret (.bool true))) (e:CO 115 [qA s] (.ret (.bool true))) (d:CO 121 [qA s] (.ret (ω g))):CO 176 [qA a,qA s] (.ret (.bool (decide (((0:Nat):Int)<g)))):=pK [] 2 3 (.n 11 .nil) (.c d (.c e (.c c .nil)))
theorem agN (a s q r w:RQ) (d:CO 176 [qA a,qA s] (.ret (.bool true))) (f:CO 125 [qA a,qA s] (.ret (.tup [qA q,.bool true]))) (e:CO 177 [qA q] (.ret (qA w))) (c:CO 169 [qA w,qA s] (.ret (qA r))):CO 131 [qA a,qA s] (.ret (.tup [qA r,.bool true])):=pK [] 1 0 (.n 24 .nil) (.c c (.c e (.c f (.c d .nil))))
theorem ahj (a s r v:RQ) (d:lit true (!((r.neg==a.neg) && (((ae r.n)==(ae a.n)) && (((ae r.d)==(ae a.d)) && true))))=true) (c:CO 131 [qA a,qA s] (.ret (.tup [qA r,.bool true]))) (e:CO 167 [qA r,qA s] (.ret (qA v))):CO 132 [qA a,qA s] (.ret (.tup [qA v,.bool true])):=pK [] 2 3 (.k 14 d (.n 14 .nil)) (.c e (.c c .nil))
theorem ahk (a s r:RQ) (d:lit false (!((r.neg==a.neg) && (((ae r.n)==(ae a.n)) && (((ae r.d)==(ae a.d)) && true))))=true) (c:CO 131 [qA a,qA s] (.ret (.tup [qA r,.bool true]))):CO 132 [qA a,qA s] (.ret (.tup [qA r,.bool true])):=pK [] 2 1 (.k 7 d (.n 14 .nil)) (.c c .nil)
theorem agT (a s q r v w:RQ) (g:Int) (f:lit true (decide (((0:Nat):Int)≤g))=true) (d:CO 131 [qA a,qA s] (.ret (.tup [qA r,.bool true]))) (i:CO 168 [qA a,qA r] (.ret (qA q))) (e:CO 167 [qA q,qA q] (.ret (qA w))) (c:CO 127 [qA w,qA s] (.ret (ω g))) (h:CO 167 [qA r,qA s] (.ret (qA v))):CO 129 [qA a,qA s] (.ret (.tup [qA v,.bool true])):=pK [] 2 2 (.k 14 f (.n 24 .nil)) (.c h (.c c (.c e (.c i (.c d .nil)))))
theorem agU (a s q r w:RQ) (g:Int) (f:lit false (decide (((0:Nat):Int)≤g))=true) (d:CO 131 [qA a,qA s] (.ret (.tup [qA r,.bool true]))) (h:CO 168 [qA a,qA r] (.ret (qA q))) (e:CO 167 [qA q,qA q] (.ret (qA w))) (c:CO 127 [qA w,qA s] (.ret (ω g))):CO 129 [qA a,qA s] (.ret (.tup [qA r,.bool true])):=pK [] 2 0 (.k 7 f (.n 24 .nil)) (.c c (.c e (.c h (.c d .nil))))
theorem ahV:nR (ae 1)=true:=vk 1
theorem al4:zY (ae 1)=true:=by unfold zY;rw [ahV,aB];rfl
theorem DN (c:Bool) (n:Nat) (f:(ae n).length<2^33):CO 205 [.bool c,.str (ae n),.str (ae 1)] (.ret (.tup [qA (jR c n 1),.bool true])):=by
 have e:(ae 1).length<2^33:=φ (bU (x:=1) (k:=1) (by decide)) (by decide);have hp:=Wj (ae 1) (Ψ e (by decide));rw [al4] at hp;have d:=zQ (ae n);rw [vk] at d;exact agS _ c n hp d (Ho c n 1 f e (by decide))
theorem IP (c:Bool) (x:Nat):jR c x 1=jG (if c then -(x:Int) else (x:Int)):=by
 unfold jR jG;rw [Xvl,Xzz,Xzz];cases c with
 |true=>
  simp only [Xx4,if_true,Xvi,Xje,RQ.mk.injEq,and_true];rcases Γ x with h|h
  ·subst h;rfl
  ·rw [Yq0 h,Yq0 (by omega)]
 |false=>
  simp only [Xjg,Xjn,if_false,Xje,RQ.mk.injEq,and_true];rw [Yq1 (by omega)]
theorem Rx {q:RQ} (h:q.ok) (g:(ae q.n).length<2^32) (i:(ae q.d).length<2^32):CO 177 [qA q] (.ret (qA (jG (ny q)))):=by
 have d:=Oc (ae q.n) (ae q.d) (Ψ g (by decide)) (Ψ i (by decide)) (by rw [aB];exact h.1);rw [aB,aB] at d;have o:=kQ (Xjp q.n q.d);have p:(ae 1).length≤1:=bU (x:=1) (k:=1) (by decide);have j:=u_ (q.n / q.d) 1;have e:=EE 1 (by decide);obtain ⟨f,n,m⟩:=q;unfold ny;simp only at*
 cases f with
 |false=>
  rw [if_neg (by simp)];have c:=DN false (n / m) (by omega);rw [IP,if_neg (by simp)] at c;exact adK _ n m _ _ d e c
 | true=>
  rw [if_pos rfl];by_cases hr:n % m=0
  ·have c:=DN true (n / m) (by omega);rw [IP,if_pos rfl] at c;rw [if_pos hr,Xq0];exact adJ _ n m _ _ (by rw [hr,di];rfl) d e c
  ·have c:=DN true (n / m+1) (by omega);rw [IP,if_pos rfl] at c;rw [if_neg hr];exact adI _ n m _ _ (by
    rw [show ((ae (n % m))== [])=false from by rw [Yq2];intro h;rw [dY] at h;exact hr h];rfl) d e (abW _ _ (by omega) (by omega)) e c
def h_ (L:Nat) (q:RQ):Prop:=(ae q.n).length≤L∧(ae q.d).length≤L
theorem h_.mono {L M:Nat} {q:RQ} (h:h_ L q) (k:L≤M):h_ M q:=⟨Xqy h.1 k,Xqy h.2 k⟩
theorem xu {L:Nat} {a b:RQ} (d:h_ L a) (c:h_ L b):h_ (4*L+1) (gG a b):=by
 have:=uw a b L d.1 d.2 c.1 c.2;exact ⟨this.1,by omega⟩
theorem Xg {L:Nat} {a:RQ} (c:h_ L a):h_ L (kT a):=c
theorem xw {L:Nat} {a b:RQ} (d:h_ L a) (c:h_ L b):h_ (4*L+1) (dU a b):=xu d (Xg c)
theorem Ap {L:Nat} {a b:RQ} (d:h_ L a) (c:h_ L b):h_ (2*L) (iH a b):=by
 have k:=dG a.n b.n;have e:=dG a.d b.d;have h:=rM (!(a.neg==b.neg)) (a.n*b.n) (a.d*b.d);obtain ⟨f,j⟩:=d;obtain ⟨g,i⟩:=c;exact ⟨by unfold iH;omega,by unfold iH;omega⟩
theorem Aq {L:Nat} {a b:RQ} (d:h_ L a) (c:h_ L b):h_ (2*L) (eX a b):=by
 have k:=dG a.n b.d;have e:=dG a.d b.n;have h:=rM (!(a.neg==b.neg)) (a.n*b.d) (a.d*b.n);obtain ⟨f,j⟩:=d;obtain ⟨g,i⟩:=c;exact ⟨by unfold eX;omega,by unfold eX;omega⟩
theorem jc {L:Nat} {a:RQ} (c:h_ L a) (e:L<2^28):(ae a.n).length<2^28∧(ae a.d).length<2^28∧(ae a.n).length<2^29∧(ae a.d).length<2^29:=by
 obtain ⟨f,d⟩:=c;omega
section
variable {a b:RQ} {L:Nat} (ha:a.ok) (hb:b.ok) (sa:h_ L a) (sb:h_ L b) (hL:L<2^28)
include ha hb sa sb hL
theorem E8:CO 167 [qA a,qA b] (.ret (qA (gG a b))):=by
 obtain ⟨_,_,e,f⟩:=jc sa hL;obtain ⟨_,_,d,c⟩:=jc sb hL;have h:=E9 a.neg b.neg (ae a.n) (ae a.d) (ae b.n) (ae b.d) e f d c;rw [gq ha,gq hb] at h;exact h
theorem Ou:CO 168 [qA a,qA b] (.ret (qA (dU a b))):=by
 obtain ⟨_,_,e,f⟩:=jc sa hL;obtain ⟨d,c,_,_⟩:=jc sb hL;have h:=Fa a.neg b.neg (ae a.n) (ae a.d) (ae b.n) (ae b.d) e f d c;rw [gq ha,gq hb] at h;exact h
theorem Ot:CO 169 [qA a,qA b] (.ret (qA (iH a b))):=by
 obtain ⟨_,_,e,f⟩:=jc sa hL;obtain ⟨_,_,d,c⟩:=jc sb hL;have h:=Qn a.neg b.neg (ae a.n) (ae a.d) (ae b.n) (ae b.d) e f d c;rw [gq ha,gq hb] at h;exact h
theorem WS:CO 127 [qA a,qA b] (.ret (ω (iy a b))):=by
 obtain ⟨e,f,_,_⟩:=jc sa hL;obtain ⟨d,c,_,_⟩:=jc sb hL;have h:=E_ a.neg b.neg (ae a.n) (ae a.d) (ae b.n) (ae b.d) e f d c;rw [gq ha,gq hb] at h;exact h
theorem afd (d:0<b.n):CO 125 [qA a,qA b] (.ret (.tup [qA (eX a b),.bool true])):=by
 obtain ⟨_,_,f,g⟩:=jc sa hL;obtain ⟨_,_,e,c⟩:=jc sb hL;have h:=Lt a.neg b.neg (ae a.n) (ae a.d) (ae b.n) (ae b.d) f g e c (by rw [gq hb];exact d);rw [gq ha,gq hb] at h;exact h
end
section
variable {a s:RQ} (ha:a.ok) (fa:iG a=true) (hs:s.ok) (fs:iG s=true) (hp:0<iQ s)
include ha fa hs fs hp
theorem Ru:CO 176 [qA a,qA s] (.ret (.bool true)):=by
 obtain ⟨i,j⟩:=aW fa;obtain ⟨f,e⟩:=aW fs;have d:=mF a.neg (ae a.n) (ae a.d) (by omega) (by omega);have c:=mF s.neg (ae s.n) (ae s.d) (by omega) (by omega);rw [wY a ha] at d;rw [wY s hs] at c;have g:=WW s hs (by omega) (by omega);have h:=adw a s _ d c g;rw [Yq0 (show ((0:Nat):Int)<iQ s from hp)] at h;exact h
omit ha hs hp in
theorem Vg:h_ 104 (jG (ny (eX a s))):=by
 obtain ⟨d,e⟩:=aW fa;obtain ⟨g,c⟩:=aW fs;have i:=(Aq (L:=51) ⟨d,e⟩ ⟨g,c⟩).1;generalize eX a s=q at*
 have m:(ae 1).length≤1:=bU (x:=1) (k:=1) (by decide);have n:=kQ (Xjp q.n q.d);have h:=u_ (q.n / q.d) 1;have f:(ny q).natAbs≤q.n / q.d+1:=by
  unfold ny;split
  ·rw [Xvi,Xje];split<;>omega
  ·rw [Xje];omega
 have j:=kQ f;exact ⟨by show (ae (ny q).natAbs).length≤104;omega,by show (ae 1).length≤104;omega⟩
omit ha hs hp in
theorem Nk:h_ 208 (vV a s):=Ap (L:=104) (Vg fa fs) ⟨by have:=(aW fs).1;omega,by have:=(aW fs).2;omega⟩
theorem DL:CO 131 [qA a,qA s] (.ret (.tup [qA (vV a s),.bool true])):=by
 have d:=(E5 hs hp).2;have e:h_ 51 a:=aW fa;have c:h_ 51 s:=aW fs;have f:=Aq e c;refine agN a s _ _ _ (Ru ha fa hs fs hp) (afd ha hs e c (by decide) d) (Rx (pM ha d) (φ f.1 (by decide)) (φ f.2 (by decide))) ?_;exact Ot (pG _) hs (Vg fa fs) (c.mono (by decide)) (by decide)
theorem adE:CO 132 [qA a,qA s] (.ret (.tup [qA (XJ a s),.bool true])):=by
 have hd:=DL ha fa hs fs hp;have c:=Nk fa fs;have d:h_ 51 s:=aW fs;have e:((vV a s).neg==a.neg && ((ae (vV a s).n==ae a.n) && ((ae (vV a s).d==ae a.d) && true)))=eqR (vV a s) a:=by unfold eqR;rw [Xjq]
 unfold XJ;cases h:eqR (vV a s) a with
 |true=>
  rw [if_pos rfl];rw [h] at e;have:=ahk a s (vV a s) (by rw [e];rfl) hd;rw [Ir.1 h] at this;exact this
 |false=>
  rw [if_neg (by simp)];rw [h] at e;exact ahj a s (vV a s) _ (by rw [e];rfl) hd (E8 (jd hs) hs c (d.mono (by decide)) (by decide))
theorem UO:CO 129 [qA a,qA s] (.ret (.tup [qA (XI a s),.bool true])):=by
 have hd:=DL ha fa hs fs hp;have f:=Nk fa fs;have i:h_ 51 a:=aW fa;have j:h_ 51 s:=aW fs;have e:=jd (a:=a) hs;have d:=gU ha e;have c:=xw (i.mono (show 51≤208 by decide)) f;have m:=Ou ha e (i.mono (show 51≤208 by decide)) f (by decide);have k:=E8 d d c c (by decide);have g:=WS (eu d d) hs (xu c c) (j.mono (by decide)) (by decide);unfold XI;by_cases h:0≤iy (gG (dU a (vV a s)) (dU a (vV a s))) s
 ·rw [if_pos h];exact agT a s _ (vV a s) _ _ _ (Yq0 h) hd m k g (E8 e hs f (j.mono (by decide)) (by decide))
 ·rw [if_neg h];exact agU a s _ (vV a s) _ _ (by
   rw [show decide (((0:Nat):Int)≤iy (gG (dU a (vV a s)) (dU a (vV a s))) s)=false from Yq1 h];rfl) hd m k g
end
structure Sc where
 name:List UInt8
 u1:Int
 u2:Int
 bx:List AV
 bn:Nat
def MF (x:Sc):List AV:= [.str x.name,ω x.u1,ω x.u2,.sl x.bx x.bn false]
def dV (l:List Sc):List AV:=l.flatMap MF
theorem LG {l:List Sc} {k:Nat} (h:k<l.length):ε (k*4) (dV l)=MF l[k]++dV (l.drop (k+1)):=by
 induction l generalizing k with
 |nil=>simp at h
 | cons x r ih=>
  cases k with
  |zero=>simp [dV]
  |succ k=>
   have c:k<r.length:=by simpa using h
   show ε ((k+1)*4) (MF x++dV r)=_;rw [show (k+1)*4=(MF x).length+k*4 by simp [MF];omega,Xw1,Xj2,ih c,Xjf (by omega)];rfl
theorem MQ {A:List (List Nat)} {k:Nat} (h:k<A.length):ε (δ (k:Int)*1) (dh A)= [QS (A.getD k [])]++dh (A.drop (k+1)):=by
 unfold dh;rw [aC,χ,← Xzn,List.drop_eq_getElem_cons h,π,ξ h];rfl
theorem yY (k:Nat):decide (((0:Nat):Int)≤(k:Int))=true:=Yq0 (by omega)
theorem dlt {k n:Nat} (h:k<n):decide ((k:Int)<(n:Int))=true:=Yq0 (by omega)
theorem Gq:∀ (r:List Nd) (k:Nat) (c:List Nat),(∀ j ∈ c,j<k)→(∃ e,jD r c.length= .inl e)→(zg r k c).length=r.length∧∀ i x,r[i]? =some x→((zg r k c).getD i []).length=dP x.op∧∀ j ∈ (zg r k c).getD i [],j<k+i
 | [],k,c,_,_=> ⟨rfl,fun i x h=>by simp at h⟩
 | x ::r,k,c,hst,⟨e,he⟩=>by
  simp only [jD] at he;split at he
  ·split at he
   ·cases he
   ·rename_i q p;have m:(c.take (c.length - dP x.op)++ [k]).length=c.length - dP x.op+1:=by rw [θ,List.length_take,σ];omega
    have g:=Gq r (k+1) (c.take (c.length - dP x.op)++ [k]) (by
     intro j d;rcases List.mem_append.1 d with d|d
     ·have:=hst j (List.mem_of_mem_take d);omega
     ·rw [List.mem_singleton.1 d];omega) ⟨e,by rw [m];exact he⟩
    refine ⟨by simp only [zg,μ,g.1], ?_⟩;intro i y f;cases i with
    |zero=>
     simp only [List.getElem?_cons_zero,Option.some.injEq] at f;subst f;simp only [zg,List.getD_cons_zero];refine ⟨by rw [Xxx];omega,fun j d=> ?_⟩;have:=hst j (List.mem_of_mem_drop d);omega
    |succ i=>
     simp only [List.getElem?_cons_succ] at f;obtain ⟨o,n⟩:=g.2 i y f;simp only [zg,List.getD_cons_succ];exact ⟨o,fun j d=>by have:=n j d;omega⟩
  ·cases he
theorem Ic:∀ (r:List Nd) (d:Nat) (w:Int),jD r d= .inr w→w ≠ 0
 | [],d,w,h=>by simp [jD] at h
 | x::r,d,w,h=>by
  simp only [jD] at h;split at h
  ·split at h
   ·cases h;decide
   ·exact Ic r _ w h
  ·rename_i c;cases h;exact c
theorem Dk {e:List Nd} (c:dD e=0):(fC e).length=e.length∧∀ i x,e[i]? =some x→((fC e).getD i []).length=dP x.op∧∀ j ∈ (fC e).getD i [],j<i:=by
 have h:∃ d,jD e ([]:List Nat).length= .inl d:=by
  unfold dD at c;split at c
  ·cases c
  ·split at c
   ·rename_i d hd;exact ⟨d,hd⟩
   ·rename_i w m;exact absurd c (Ic _ _ _ m)
 obtain ⟨g,f⟩:=Gq e 0 [] (by simp) h;exact ⟨g,fun i x k=>by have:=f i x k;rw [Xqf] at this;exact this⟩
theorem wkn {n c:Nat} (h:n=c+1) (d:n<2^40):ω (γ .i64 ((n:Int) - ((1:Nat):Int)))= ω (c:Int):=by rw [dn]<;>first|(congr 1;omega)|omega
theorem dle {n:Nat} (h:n<2^40):decide ((n:Int)≤((1099511627776:Nat):Int))=true:=Yq0 (by omega)
theorem Uc (l:List Nd) (d:Bool) (c:∀ x ∈ l,x.sm) (e:dD l=0):CO 24 [.sl (bG l) l.length d] (.ret (.tup [.sl (dh (fC l)) (fC l).length true,.bool true])):=by
 rw [(Dk e).1];exact XW l d c e
structure Br where
 fn:Bool
 fa:List UInt8
 fd:List UInt8
 rn:Bool
 ra:List UInt8
 rd:List UInt8
def H9 (x:Br):List AV:= [.bool x.fn,.str x.fa,.str x.fd,.bool x.rn,.str x.ra,.str x.rd]
def gm (l:List Br):List AV:=l.flatMap H9
def Br.sm (x:Br):Prop:=(x.fa.length<2^33∧x.fd.length<2^33)∧(x.ra.length<2^33∧x.rd.length<2^33)
abbrev Ug (x:Br):AV:= .agg [.bool x.fn,.str x.fa,.str x.fd]
abbrev brR (x:Br):AV:= .agg [.bool x.rn,.str x.ra,.str x.rd]
theorem nS {l:List Br} {k:Nat} (h:k<l.length):ε (δ (k:Int)*6) (gm l)=H9 l[k]++gm (l.drop (k+1)):=by
 rw [aC]
 induction l generalizing k with
 |nil=>simp at h
 | cons x r ih=>
  cases k with
  |zero=>simp [gm]
  |succ k=>
   have c:k<r.length:=by simpa using h
   show ε ((k+1)*6) (H9 x++gm r)=_;rw [show (k+1)*6=(H9 x).length+k*6 by simp [H9];omega,Xw1,Xj2,ih c,Xjf (by omega)];rfl
def Gs (cmp:Br→Br→Int):Option Br→List Br→Bool
 |_,[]=>true
 |none,x::r=>cond (iE x.fn x.fa x.fd) (cond (iE x.rn x.ra x.rd) (cond (jy x.fn x.fa x.fd==((0:Nat):Int)) (Gs cmp (some x) r) false) false) false
 |some y,x::r=>cond (iE x.fn x.fa x.fd) (cond (iE x.rn x.ra x.rd) (cond (decide (((0:Nat):Int)≤cmp y x)) false (Gs cmp (some x) r)) false) false
def aga (nm:List UInt8) (u1 u2:Int) (l:List Br) (k:Nat):St:=⟨[(1,.ptr 0 0 0),(3,.sl (gm l) l.length false),(16,.sl (gm l) l.length false),(17,ω (l.length:Int)),(18,ω (k:Int))],[(0,⟨[.str nm,ω u1,ω u2,.sl (gm l) l.length false],0,false,0,0,true⟩)],.dead,[]⟩
def abB (l:List Br):Bool→St
 |true=> ⟨[(3,.sl (gm l) l.length false)],[],.dead,[]⟩
 |false=> ⟨[(2,.int .i64 11)],[],.dead,[]⟩
def bkE:Bool→bD
 |true=> .exit 1
 |false=> .ret
def xB (f:Nat) (cmp:Br→Br→Int) (l:List Br):Prop:=∀ i y x,l[i]? =some y→l[i+1]? =some x→iE x.fn x.fa x.fd=true→iE x.rn x.ra x.rd=true→CO f [Ug y,Ug x] (.ret (ω (cmp y x)))
theorem X9 {nt:Nat} (i:60≤nt) (J:List UInt8) (u1 u2:Int) (l:List Br) (cmp:Br→Br→Int) (I:l.length<2^40) (E:∀ x ∈ l,x.sm) (M:xB 127 cmp l):∀ (r p:List Br),p++r=l→
  aA prog ap [] nt (af 1 (ah f202)) bkE (aga J u1 u2 l) (abB l) p.length (Gs cmp p.getLast? r):=by
 intro r
 induction r with
 |nil=>
  intro p hp;rw [Θ] at hp;subst hp;have c:(decide ((p.length:Int)<(p.length:Int)))=false:=Yq1 (by omega);rw [show Gs cmp p.getLast? []=true by cases p.getLast? <;>rfl];exact .done (pN 202 [] 1 0 (.c (aK c) .nil) (.nil) i)
 | cons x r ih=>
  intro p hp;have F:p.length<l.length:=by rw [← hp];simp
  have o:l[p.length]=x:=by subst hp;simp
  have g:=nS F;rw [o] at g;have j:=ih (p++ [x]) (by rw [← hp];simp);rw [List.getLast?_append,List.getLast?_singleton,θ,σ] at j;simp only [Option.some_or] at j;have hs:=E x (by rw [← hp];simp);have d:CO 115 [Ug x] (.ret (.bool (iE x.fn x.fa x.fd))):=mF x.fn x.fa x.fd (Xxa hs.1.1 (by decide)) (Xxa hs.1.2 (by decide));have f:CO 115 [brR x] (.ret (.bool (iE x.rn x.ra x.rd))):=mF x.rn x.ra x.rd (Xxa hs.2.1 (by decide)) (Xxa hs.2.2 (by decide));have H:CO 121 [Ug x] (.ret (ω (jy x.fn x.fa x.fd))):=oD x.fn x.fa x.fd (Xxa hs.1.1 (by decide)) (Xxa hs.1.2 (by decide));cases v:p.getLast? with
  | none=>
   have C:p= []:=List.getLast?_eq_none_iff.1 v;subst C;generalize K:([]:List Br).length=k at*
   have D:k=0:=by rw [← K];rfl
   generalize gm (l.drop (k+1))=rB at g;have c:(decide ((k:Int)<(l.length:Int)))=true:=Yq0 (by omega);have n:((k:Int)==((0:Nat):Int))=true:=by rw [D];rfl
   have w:(decide (((0:Nat):Int)<(k:Int)))=false:=Yq1 (by omega);have A:k<2^62:=by omega
   rcases tf (iE x.fn x.fa x.fd) with d0|d0
   ·rcases tf (iE x.rn x.ra x.rd) with d1|d1
    ·rcases tf ((jy x.fn x.fa x.fd)==((0:Nat):Int)) with d2|d2
     ·simp only [Gs,d0,d1,d2,cond_true,cond_false];exact .next (pN 202 [] 7 9 (.k 1 (aK w) (.c (aU d2) (.k 3 (aN n) (.c (aU d1) (.k 3 (aU d0) (.k 10 (yY k) (.c c (.c (aN c) .nil)))))))) (.v 57 (.eq (BR A)) (.c H (.c f (.c d (.v 21 (.ppt g) .nil))))) i) j
     ·simp only [Gs,d0,d1,d2,cond_true,cond_false];exact .done (pN 202 [] 6 57 (.k 1 (dL d2) (.k 3 (aN n) (.c (aU d1) (.k 3 (aU d0) (.k 10 (yY k) (.c c (.c (aN c) .nil))))))) (.c H (.c f (.c d (.v 21 (.ppt g) .nil)))) i)
    ·simp only [Gs,d0,d1,cond_true,cond_false];exact .done (pN 202 [] 3 5 (.c (dL d1) (.k 3 (aU d0) (.k 10 (yY k) (.c c (.c (aN c) .nil))))) (.c f (.c d (.v 21 (.ppt g) .nil))) i)
   ·simp only [Gs,d0,cond_true,cond_false];exact .done (pN 202 [] 3 7 (.k 1 (dL d0) (.k 10 (yY k) (.c c (.c (aN c) .nil)))) (.c d (.v 21 (.ppt g) .nil)) i)
  | some y=>
   obtain ⟨q,B⟩:∃ q,p=q++ [y]:=by
    obtain ⟨q,h⟩:=List.getLast?_eq_some_iff.1 v;exact ⟨q,h⟩
   have m:p.length=q.length+1:=by rw [B];simp
   have e:q.length<l.length:=by omega
   have z:=nS e;have u:l[q.length]=y:=by subst hp B;simp
   rw [u] at z;have G:=M q.length y x (by rw [ξ e,u]) (by rw [← m,ξ F,o]);clear B;generalize p.length=k at*
   generalize q.length=k1 at*
   generalize gm (l.drop (k+1))=rB at g;generalize gm (l.drop (k1+1))=rC at z;have c:(decide ((k:Int)<(l.length:Int)))=true:=Yq0 (by omega);have n:((k:Int)==((0:Nat):Int))=false:=beq_eq_false_iff_ne.2 (by omega);have w:(decide (((0:Nat):Int)<(k:Int)))=true:=Yq0 (by omega);have A:k<2^62:=by omega
   have t:k<2^40:=by omega
   rcases tf (iE x.fn x.fa x.fd) with d0|d0
   ·rcases tf (iE x.rn x.ra x.rd) with d1|d1
    ·rcases tf (decide (((0:Nat):Int)≤(cmp y x))) with d2|d2
     ·simp only [Gs,d0,d1,d2,cond_true,cond_false];exact .done (pN 202 [] 7 97 (.c (aN d2) (.k 6 (yY k1) (.c (dlt e) (.c (aN w) (.k 1 (aK n) (.c (aU d1) (.k 3 (aU d0) (.k 10 (yY k) (.c c (.c (aN c) .nil)))))))))) (.c (G d0 d1) (.v 48 (.ppt z) (.v 47 (.eq (wkn m t)) (.c f (.c d (.v 21 (.ppt g) .nil)))))) i)
     ·simp only [Gs,d0,d1,d2,cond_true,cond_false];exact .next (pN 202 [] 7 33 (.c (aK d2) (.k 6 (yY k1) (.c (dlt e) (.c (aN w) (.k 1 (aK n) (.c (aU d1) (.k 3 (aU d0) (.k 10 (yY k) (.c c (.c (aN c) .nil)))))))))) (.v 57 (.eq (BR A)) (.c (G d0 d1) (.v 48 (.ppt z) (.v 47 (.eq (wkn m t)) (.c f (.c d (.v 21 (.ppt g) .nil))))))) i) j
    ·simp only [Gs,d0,d1,cond_true,cond_false];exact .done (pN 202 [] 3 5 (.c (dL d1) (.k 3 (aU d0) (.k 10 (yY k) (.c c (.c (aN c) .nil))))) (.c f (.c d (.v 21 (.ppt g) .nil))) i)
   ·simp only [Gs,d0,cond_true,cond_false];exact .done (pN 202 [] 3 7 (.k 1 (dL d0) (.k 10 (yY k) (.c c (.c (aN c) .nil)))) (.c d (.v 21 (.ppt g) .nil)) i)
def IE (P:Br→Bool):List Br→Nat→Option Nat
 | [],_=>none
 |x::r,i=>if P x then some i else IE P r (i+1)
theorem Ky (P:Br→Bool):∀ (r:List Br) (i:Nat),(IE P r i).isSome=r.any P
 | [],_=>rfl
 |x::r,i=>by
  unfold IE;rw [Xvt];rcases tf (P x) with h|h
  ·rw [if_pos h,h];rfl
  ·rw [if_neg (by rw [h];decide),h,Xwh];exact Ky P r (i+1)
def abR (l:List Br) (k:Nat):St:=⟨[(0,.sl (gm l) l.length false),(1,.fn 218 [] []),(7,ω (l.length:Int)),(8,ω (k:Int))],[],.dead,[]⟩
def Vu (l:List Br):Option Nat→St
 |none=> ⟨[(0,.sl (gm l) l.length false)],[],.dead,[]⟩
 |some i=> ⟨[(4,.int .i64 (i:Int))],[],.dead,[]⟩
theorem Vw {nt:Nat} (f:19≤nt) (l:List Br) (P:Br→Bool) (i:l.length<2^40) (m:∀ x ∈ l,CO 218 [.agg (H9 x)] (.ret (.bool (P x)))):∀ (r p:List Br),p++r=l→
  aA prog ap [] nt (af 0 (ah f230)) ixE (abR l) (Vu l) p.length (IE P r p.length):=by
 intro r
 induction r with
 |nil=>
  intro p hp;rw [Θ] at hp;subst hp;have c:(decide ((p.length:Int)<(p.length:Int)))=false:=Yq1 (by omega);exact .done (pN 230 [] 1 0 (.c (aK c) .nil) (.nil) f)
 | cons x r ih=>
  intro p hp;have j:p.length<l.length:=by rw [← hp];simp
  have g:l[p.length]=x:=by subst hp;simp
  have e:=nS j;rw [g] at e;have d:=ih (p++ [x]) (by rw [← hp];simp);rw [θ,σ] at d;have h:=m x (by rw [← hp];simp);unfold IE;generalize p.length=k at*
  generalize gm (l.drop (k+1))=rB at e;have c:(decide ((k:Int)<(l.length:Int)))=true:=Yq0 (by omega);have n:k<2^62:=by omega
  rcases tf (P x) with d0|d0
  ·rw [if_pos d0];exact .done (pN 230 [] 2 3 (.c (aN d0) (.k 6 (yY k) (.c c (.c (aN c) .nil)))) (.c h (.v 14 (.ppt e) .nil)) f)
  ·rw [if_neg (by rw [d0];decide)];exact .next (pN 230 [] 2 1 (.c (aK d0) (.k 6 (yY k) (.c c (.c (aN c) .nil)))) (.v 18 (.eq (BR n)) (.c h (.v 14 (.ppt e) .nil))) f) d
theorem adV (l:List Br) (i:Nat) (c:aG prog ap [] 19 (.block 0 (.loop (af 0 (ah f230)))) ⟨[(0,.sl (gm l) l.length false),(1,.fn 218 [] []),(4,ω 0),(5,.dead),(7,ω (l.length:Int)),(8,ω 0),(9,.dead),(16,.dead)],[],.dead,[]⟩ (.ret) ⟨[(4,ω (i:Int))],[],.dead,[]⟩):CO 230 [.sl (gm l) l.length false,.fn 218 [] []] (.ret (ω (i:Int))):=pK [0] 0 0 .nil (.l c .nil)
theorem adU (l:List Br) (c:aG prog ap [] 19 (.block 0 (.loop (af 0 (ah f230)))) ⟨[(0,.sl (gm l) l.length false),(1,.fn 218 [] []),(4,ω 0),(5,.dead),(7,ω (l.length:Int)),(8,ω 0),(9,.dead),(16,.dead)],[],.dead,[]⟩ (.normal) ⟨[(0,.sl (gm l) l.length false)],[],.dead,[]⟩):CO 230 [.sl (gm l) l.length false,.fn 218 [] []] (.ret (ω (-1))):=pK [0] 0 0 .nil (.l c .nil)
theorem adT (l:List Br) (P:Br→Bool) (c:l.length<2^40) (e:∀ x ∈ l,CO 218 [.agg (H9 x)] (.ret (.bool (P x)))):CO 230 [.sl (gm l) l.length false,.fn 218 [] []] (.ret (ω (ixI (IE P l 0)))):=by
 have h:∀ nt,19≤nt→aA prog ap [] nt (af 0 (ah f230)) ixE (abR l) (Vu l) 0 (IE P l 0):=fun nt f=>Vw f l P c e l [] rfl
 cases d:IE P l 0 with
 |none=>
  rw [d] at h;exact adU l (aA.blk h (by simp [ixE]) rfl (aH.of ⟨rfl,rfl,rfl,rfl,trivial⟩) (aH.of ⟨rfl,trivial⟩))
 |some i=>
  rw [d] at h;exact adV l i (aA.blk h (by simp [ixE]) rfl (aH.of ⟨rfl,rfl,rfl,rfl,trivial⟩) (aH.of ⟨rfl,trivial⟩))
theorem Yg (l:List Br) (c:Int) (d:CO 230 [.sl (gm l) l.length false,.fn 218 [] []] (.ret (ω c))):CO 217 [.sl (gm l) l.length false,.fn 218 [] []] (.ret (.bool (decide (((0:Nat):Int)≤c)))):=pK [] 0 0 .nil (.c d .nil)
theorem Uz (l:List Br) (P:Br→Bool) (c:l.length<2^40) (e:∀ x ∈ l,CO 218 [.agg (H9 x)] (.ret (.bool (P x)))):CO 217 [.sl (gm l) l.length false,.fn 218 [] []] (.ret (.bool (l.any P))):=by
 have h:=Yg l _ (adT l P c e);rw [← Ky P l 0];cases d:IE P l 0 with
 |none=>rw [d] at h;exact h
 |some i=>
  rw [d] at h;rw [show (some i).isSome=decide (((0:Nat):Int)≤ixI (some i)) from (Yq0 (show ((0:Nat):Int)≤(i:Int) by omega)).symm];exact h
def FY (x:Br):Bool:= !(eQ x.fn x.fa x.fd)|| !(eQ x.rn x.ra x.rd)
theorem acK (x:Br) (hs:x.sm):CO 218 [.agg (H9 x)] (.ret (.bool (FY x))):=by
 rcases tf (eQ x.fn x.fa x.fd) with b0|b0
 ·rw [show FY x= !(eQ x.rn x.ra x.rd) by unfold FY;rw [b0];rfl];exact pK [] 1 0 (.k 3 (aU b0) (.n 3 .nil)) (.c (fZ x.rn x.ra x.rd (Xxa hs.2.1 (by decide)) (Xxa hs.2.2 (by decide))) (.c (fZ x.fn x.fa x.fd (Xxa hs.1.1 (by decide)) (Xxa hs.1.2 (by decide))) .nil))
 ·rw [show FY x=true by unfold FY;rw [b0];rfl];exact pK [] 1 1 (.c (dL b0) (.n 3 .nil)) (.c (fZ x.fn x.fa x.fd (Xxa hs.1.1 (by decide)) (Xxa hs.1.2 (by decide))) .nil)
def O3 (cmp:Br→Br→Int) (l:List Br):Int:=cond (decide (((8:Nat):Int)<(l.length:Int))) 2 (cond ((l.length:Int)==((0:Nat):Int)) 11 (cond (Gs cmp none l) (cond (l.any FY) 3 0) 11))
theorem alu (d:List UInt8) (u1 u2:Int) (l:List Br) (c:Bool) (e:(decide (((8:Nat):Int)<(l.length:Int)))=false) (g:((l.length:Int)==((0:Nat):Int))=false) (f:CO 217 [.sl (gm l) l.length false,.fn 218 [] []] (.ret (.bool c)))
  (l0:aG prog ap [] 60 (.block 1 (.loop (af 1 (ah f202)))) ⟨[(0,.agg [.str d,ω u1,ω u2,.sl (gm l) l.length false]),(1,.ptr 0 0 0),(2,ω 0),(3,.sl (gm l) l.length false),(4,.dead),(5,.dead),(8,.bool (decide (((8:Nat):Int)<(l.length:Int)))),(12,.bool ((l.length:Int)==((0:Nat):Int))),(16,.sl (gm l) l.length false),(17,ω (l.length:Int)),(18,ω 0),(19,.dead),(32,.dead),(56,.dead),(59,.dead)],[(0,⟨[.str d,ω u1,ω u2,.sl (gm l) l.length false],0,false,0,0,true⟩)],.dead,[]⟩ (.normal) ⟨[(3,.sl (gm l) l.length false)],[],.dead,[]⟩):CO 202 [.agg [.str d,ω u1,ω u2,.sl (gm l) l.length false]] (.ret (ω (cond c 3 0))):=by
 rcases tf c with b2|b2
 ·rw [show (cond c 3 0:Int)=3 by rw [b2];rfl];exact pK [1] 3 4 (.c (aN b2) (.c (aK g) (.c (aK e) (.n 1 .nil)))) (.c f (.l l0 .nil))
 ·rw [show (cond c 3 0:Int)=0 by rw [b2];rfl];exact pK [1] 3 0 (.c (aK b2) (.c (aK g) (.c (aK e) (.n 1 .nil)))) (.c f (.l l0 .nil))
theorem als (c:List UInt8) (u1 u2:Int) (l:List Br) (d:(decide (((8:Nat):Int)<(l.length:Int)))=false) (e:((l.length:Int)==((0:Nat):Int))=false)
  (l0:aG prog ap [] 60 (.block 1 (.loop (af 1 (ah f202)))) ⟨[(0,.agg [.str c,ω u1,ω u2,.sl (gm l) l.length false]),(1,.ptr 0 0 0),(2,ω 0),(3,.sl (gm l) l.length false),(4,.dead),(5,.dead),(8,.bool (decide (((8:Nat):Int)<(l.length:Int)))),(12,.bool ((l.length:Int)==((0:Nat):Int))),(16,.sl (gm l) l.length false),(17,ω (l.length:Int)),(18,ω 0),(19,.dead),(32,.dead),(56,.dead),(59,.dead)],[(0,⟨[.str c,ω u1,ω u2,.sl (gm l) l.length false],0,false,0,0,true⟩)],.dead,[]⟩ (.ret) ⟨[(2,ω 11)],[],.dead,[]⟩):CO 202 [.agg [.str c,ω u1,ω u2,.sl (gm l) l.length false]] (.ret (ω 11)):=pK [1] 2 0 (.c (aK e) (.c (aK d) (.n 1 .nil))) (.l l0 .nil)
theorem Oo (d:List UInt8) (u1 u2:Int) (l:List Br) (cmp:Br→Br→Int) (c:l.length<2^40) (e:∀ x ∈ l,x.sm) (j:xB 127 cmp l):CO 202 [.agg [.str d,ω u1,ω u2,.sl (gm l) l.length false]] (.ret (ω (O3 cmp l))):=by
 unfold O3;rcases tf (decide (((8:Nat):Int)<(l.length:Int))) with d0|d0
 ·rw [d0];exact pK [] 1 1 (.c (aN d0) (.n 1 .nil)) (.nil)
 ·rw [d0];rcases tf ((l.length:Int)==((0:Nat):Int)) with d1|d1
  ·rw [d1];exact pK [] 2 2 (.c (aN d1) (.c (aK d0) (.n 1 .nil))) (.nil)
  ·rw [d1];have h:∀ nt,60≤nt→aA prog ap [] nt (af 1 (ah f202)) bkE (aga d u1 u2 l) (abB l) 0 (Gs cmp none l):=fun nt g=>X9 g d u1 u2 l cmp c e j l [] rfl
   cases f:Gs cmp none l with
   |true=>
    rw [f] at h;exact alu d u1 u2 l _ d0 d1 (Uz l FY c fun x i=>acK x (e x i)) (aA.blk h (by simp [bkE]) rfl (aH.of ⟨rfl,rfl,rfl,rfl,rfl,trivial⟩) (aH.of ⟨rfl,trivial⟩))
   |false=>
    rw [f] at h;exact als d u1 u2 l d0 d1 (aA.blk h (by simp [bkE]) rfl (aH.of ⟨rfl,rfl,rfl,rfl,rfl,trivial⟩) (aH.of ⟨rfl,trivial⟩))
def Dl (b:RQ × RQ):List AV:= [.bool b.1.neg,.str (ae b.1.n),.str (ae b.1.d),.bool b.2.neg,.str (ae b.2.n),.str (ae b.2.d)]
def oN (l:List (RQ × RQ)):List AV:=l.flatMap Dl
def rvC (q:RQ):List AV:= [.bool q.neg,.str (ae q.n),.str (ae q.d)]
def Gg (l:List RQ):List AV:=l.flatMap rvC
abbrev Jy (nm:List UInt8) (u1 u2:Int) (l:List (RQ × RQ)):AV:= .agg [.str nm,ω u1,ω u2,.sl (oN l) l.length false]
abbrev Qs (nm:List UInt8) (u1 u2:Int) (l:List (RQ × RQ)):AV:= .pp [.str nm,ω u1,ω u2,.sl (oN l) l.length false] 0
abbrev Qo (x:RQ):AV:= .pp [.bool x.neg,.str (ae x.n),.str (ae x.d)] 0
theorem agK (x:RQ) (c:Int) (d:List UInt8) (u1 u2:Int) (l:List (RQ × RQ)) (g:lit false (!(c==((0:Nat):Int)))=true) (e:CO 202 [Jy d u1 u2 l] (.ret (ω c))) (h:CO 115 [qA x] (.ret (.bool true))) (f:CO 70 [qA x] (.ret (.bool true))):CO 172 [Jy d u1 u2 l,qA x] (.ret (ω 0)):=pK [] 3 0 (.k 8 g (.n 4 .nil)) (.c f (.c h (.c e .nil)))
theorem agM (x:RQ) (c:Nat) (d:List UInt8) (u1 u2:Int) (l:List (RQ × RQ)) (e:CO 203 [ω (l.length:Int),.fn 204 [] [Qs d u1 u2 l,Qo x]] (.ret (ω (c:Int)))):CO 173 [Jy d u1 u2 l,qA x] (.ret (ω (c:Int))):=pK [] 0 0 (.n 1 .nil) (.c e .nil)
theorem agL (x:RQ) (k:Nat) (g:Int) (d:List UInt8) (u1 u2:Int) (l:List (RQ × RQ)) (b:RQ × RQ) (rb:List AV) (c:(ε ((δ (k:Int))*6) (oN l))=Dl b++rb) (h:(decide (((0:Nat):Int)≤(k:Int)))=true) (e:(decide ((k:Int)<(l.length:Int)))=true) (f:CO 127 [qA b.1,qA x] (.ret (ω g))):CO 204 [ω (k:Int),Qs d u1 u2 l,Qo x] (.ret (.bool (decide (((0:Nat):Int)<g)))):=pK [] 0 0 (.k 6 h (.c e (.n 1 .nil))) (.c f (.v 8 (.ppt c) .nil))
theorem agQ (x:RQ) (d:lit true (!(iG x))=true) (c:CO 70 [qA x] (.ret (.bool (iG x)))):CO 174 [qA x] (.ret (.tup [Ω false [] [],ω 3])):=pK [] 1 1 (.k 4 d (.n 3 .nil)) (.c c .nil)
theorem agR (x:RQ) (d:lit false (!(iG x))=true) (c:CO 70 [qA x] (.ret (.bool (iG x)))):CO 174 [qA x] (.ret (.tup [qA x,ω 0])):=pK [] 1 0 (.k 7 d (.n 3 .nil)) (.c c .nil)
theorem ahb (x:RQ) (p:Bool) (i j c:Nat) (d:List UInt8) (u1 u2:Int) (l:List (RQ × RQ)) {nt:Nat} (g:26≤nt) (e:ω (γ .i64 (Xqw (γ .u64 (γ .i64 ((i:Int)+(j:Int)))) (2^(min 1 64))))=ω (c:Int)) (m:ω (γ .i64 ((c:Int)+((1:Nat):Int)))=ω ((c+1:Nat):Int)) (k:lit true (!p)=true) (f:lit true (decide ((i:Int)<(j:Int)))=true) (h:CO 204 [ω (c:Int),Qs d u1 u2 l,Qo x] (.ret (.bool p))):ψ nt f203 ⟨[(1,.fn 204 [] [Qs d u1 u2 l,Qo x]),(5,ω (i:Int)),(6,ω (j:Int))],[],.dead,[]⟩ (.normal) ⟨[(1,.fn 204 [] [Qs d u1 u2 l,Qo x]),(5,ω ((c+1:Nat):Int)),(6,ω (j:Int))],[],.dead,[]⟩:=pN 203 [] 2 3 (.c k (.k 1 f .nil)) (.v 23 (.eq m) (.c h (.v 17 (.eq e) .nil))) g
theorem ahc (x:RQ) (p:Bool) (i j d:Nat) (c:List UInt8) (u1 u2:Int) (l:List (RQ × RQ)) {nt:Nat} (g:26≤nt) (e:ω (γ .i64 (Xqw (γ .u64 (γ .i64 ((i:Int)+(j:Int)))) (2^(min 1 64))))=ω (d:Int)) (k:lit false (!p)=true) (f:lit true (decide ((i:Int)<(j:Int)))=true) (h:CO 204 [ω (d:Int),Qs c u1 u2 l,Qo x] (.ret (.bool p))):ψ nt f203 ⟨[(1,.fn 204 [] [Qs c u1 u2 l,Qo x]),(5,ω (i:Int)),(6,ω (j:Int))],[],.dead,[]⟩ (.normal) ⟨[(1,.fn 204 [] [Qs c u1 u2 l,Qo x]),(5,ω (i:Int)),(6,ω (d:Int))],[],.dead,[]⟩:=pN 203 [] 2 1 (.c k (.k 1 f .nil)) (.c h (.v 17 (.eq e) .nil)) g
theorem abJ (x:RQ) (i j:Nat) (c:List UInt8) (u1 u2:Int) (l:List (RQ × RQ)) {nt:Nat} (d:26≤nt) (e:lit false (decide ((i:Int)<(j:Int)))=true):ψ nt f203 ⟨[(1,.fn 204 [] [Qs c u1 u2 l,Qo x]),(5,ω (i:Int)),(6,ω (j:Int))],[],.dead,[]⟩ (.exit 0) ⟨[(5,ω (i:Int))],[],.dead,[]⟩:=pN 203 [] 1 0 (.c e .nil) (.nil) d
theorem ag9 (x:RQ) (c n:Nat) (d:List UInt8) (u1 u2:Int) (l:List (RQ × RQ)) (e:aG prog ap [] 26 (.block 0 (.loop (af 0 (ah f203)))) ⟨[(0,ω (n:Int)),(1,.fn 204 [] [Qs d u1 u2 l,Qo x]),(4,ω 0),(5,ω 0),(6,ω (n:Int)),(7,.dead),(11,.dead),(21,.dead)],[],.dead,[]⟩ (.normal) ⟨[(5,ω (c:Int))],[],.dead,[]⟩):CO 203 [ω (n:Int),.fn 204 [] [Qs d u1 u2 l,Qo x]] (.ret (ω (c:Int))):=pK [0] 0 0 .nil (.l e .nil)
theorem ahf (d:List UInt8) (u1 u2:Int) (l:List (RQ × RQ)) (c:List RQ) (i:AV.sl (ε 6 (ν ((δ (l.length:Int))*6) (oN l))) ((δ (l.length:Int)) - 1) false=AV.sl (oN l.tail) l.tail.length false) (h:(decide (((1:Nat):Int)≤(l.length:Int)))=true) (f:(decide ((l.length:Int)≤(l.length:Int)))=true) (g:CO 42 [ω 0] (.ret (qA q0))) (e:aG prog ap [] 47 (.block 0 (.loop (af 0 (ah f175)))) ⟨[(0,Jy d u1 u2 l),(1,.ptr 0 0 0),(2,.nilS),(3,.ref 1 0 0 1),(4,.dead),(5,.dead),(11,ω (l.tail.length:Int)),(12,ω 0),(13,.dead)],[(0,⟨[.str d,ω u1,ω u2,.sl (oN l) l.length false],0,false,0,0,true⟩),(1,⟨[.bool q0.neg,.str (ae q0.n),.str (ae q0.d)],0,false,0,3,true⟩)],.dead,[]⟩ (.normal) ⟨[(3,.ref 0 0 0 c.length)],[(0,⟨(Gg c),0,false,0,3,true⟩)],.dead,[]⟩):CO 175 [Jy d u1 u2 l] (.ret (.own (ν (c.length*3) (Gg c)) c.length 3)):=pK [0] 0 0 (.k 1 h (.c f (.n 1 .nil))) (.l e (.v 10 (.eq i) (.c g .nil)))
theorem ag_ (o r v w:RQ) (k:Nat) (n:List UInt8) (u1 u2:Int) (l:List (RQ × RQ)) (c:List RQ) (b p:RQ × RQ) (rb g A:List AV) {nt:Nat} (u:47≤nt) (h:(ε ((δ (k:Int))*6) (oN l))=Dl b++rb) (e:(ε ((δ ((k+1:Nat):Int))*6) (oN l))=Dl p++g) (m:(ε ((0+(δ (k:Int)))*3) (Gg c))=rvC o++A) (i:ω (γ .i64 ((k:Int)+((1:Nat):Int)))=ω ((k+1:Nat):Int)) (d:((ν (c.length*3) (Gg c))++ [.bool r.neg,.str (ae r.n),.str (ae r.d)])=(Gg (c++ [r]))) (C:(Xqm (c.length+1) 1099511627776)=true) (B:(Xqm (c.length*3) (η (Gg c)))=true) (f:(decide (((0:Nat):Int)≤(k:Int)))=true) (j:(decide ((k:Int)<(l.length:Int)))=true) (z:(decide ((k:Int)<(c.length:Int)))=true) (q:(decide (((0:Nat):Int)≤((k+1:Nat):Int)))=true) (F:(decide (((k+1:Nat):Int)<(l.length:Int)))=true) (D:lit true (decide ((k:Int)<(l.tail.length:Int)))=true) (t:CO 168 [qA p.1,qA b.1] (.ret (qA v))) (E:CO 169 [qA v,qA b.2] (.ret (qA w))) (y:CO 167 [qA o,qA w] (.ret (qA r))):ψ nt f175 ⟨[(1,.ptr 0 0 0),(3,.ref 1 0 0 c.length),(11,ω (l.tail.length:Int)),(12,ω (k:Int))],[(0,⟨[.str n,ω u1,ω u2,.sl (oN l) l.length false],0,false,0,0,true⟩),(1,⟨(Gg c),0,false,0,3,true⟩)],.dead,[]⟩ (.normal) ⟨[(1,.ptr 0 0 0),(3,.ref 1 0 0 (c.length+1)),(11,ω (l.tail.length:Int)),(12,ω ((k+1:Nat):Int))],[(0,⟨[.str n,ω u1,ω u2,.sl (oN l) l.length false],0,false,0,0,true⟩),(1,⟨(Gg (c++ [r])),0,false,0,3,true⟩)],.dead,[]⟩:=pN 175 [] 1 1 (.k 1 C (.c B (.k 4 f (.c j (.n 4 (.a (rE [.bool,.str,.str] m rfl) (.c f (.c z (.k 4 f (.c j (.k 4 q (.c F (.k 1 D .nil))))))))))))) (.v 45 (.eq i) (.b 44 d (.c y (.c E (.v 38 (.ppt h) (.v 33 (.rd [.bool,.str,.str] m rfl) (.c t (.v 25 (.ppt h) (.v 19 (.ppt e) (.v 18 (.eq i) .nil)))))))))) u
theorem aha (k:Nat) (d:List UInt8) (u1 u2:Int) (l:List (RQ × RQ)) (c:List RQ) {nt:Nat} (e:47≤nt) (f:lit false (decide ((k:Int)<(l.tail.length:Int)))=true):ψ nt f175 ⟨[(1,.ptr 0 0 0),(3,.ref 1 0 0 c.length),(11,ω (l.tail.length:Int)),(12,ω (k:Int))],[(0,⟨[.str d,ω u1,ω u2,.sl (oN l) l.length false],0,false,0,0,true⟩),(1,⟨(Gg c),0,false,0,3,true⟩)],.dead,[]⟩ (.exit 0) ⟨[(3,.ref 0 0 0 c.length)],[(0,⟨(Gg c),0,false,0,3,true⟩)],.dead,[]⟩:=pN 175 [] 1 0 (.c f .nil) (.nil) e
theorem ac2 (x:RQ) (e:Nat) (c:Int) (d:List UInt8) (u1 u2:Int) (l:List (RQ × RQ)) (j:ω (γ .i64 ((e:Int) - ((1:Nat):Int)))=ω (-1)) (h:lit false (!(c==((0:Nat):Int)))=true) (f:CO 172 [Jy d u1 u2 l,qA x] (.ret (ω c))) (i:CO 173 [Jy d u1 u2 l,qA x] (.ret (ω (e:Int)))) (g:CO 42 [ω 0] (.ret (qA q0))):CO 130 [Jy d u1 u2 l,qA x] (.ret (.tup [qA q0,ω 0])):=pK [] 2 2 (.k 12 h (.n 7 .nil)) (.c g (.v 19 (.eq j) (.c i (.c f .nil))))
theorem ac3 (x o r v w:RQ) (y:Oq) (c i:Nat) (d:Int) (f:List UInt8) (u1 u2:Int) (l:List (RQ × RQ)) (e:List RQ) (b:RQ × RQ) (rb B:List AV) (j:(ε ((δ (c:Int))*6) (oN l))=Dl b++rb) (g:(ε ((0+(δ (c:Int)))*3) (Gg e))=rvC o++B) (q:ω (γ .i64 ((i:Int) - ((1:Nat):Int)))=ω (c:Int)) (h:(decide (((0:Nat):Int)≤(c:Int)))=true) (C:(decide ((c:Int)<(e.length:Int)))=true) (m:(decide ((c:Int)<(l.length:Int)))=true) (u:lit false (decide ((c:Int)<((0:Nat):Int)))=true) (A:lit false (!(d==((0:Nat):Int)))=true) (k:CO 172 [Jy f u1 u2 l,qA x] (.ret (ω d))) (D:CO 173 [Jy f u1 u2 l,qA x] (.ret (ω (i:Int)))) (z:CO 175 [Jy f u1 u2 l] (.ret (.own (Gg e) e.length 3))) (t:CO 168 [qA x,qA b.1] (.ret (qA v))) (E:CO 169 [qA b.2,qA v] (.ret (qA w))) (n:CO 167 [qA o,qA w] (.ret (qA r))) (p:CO 174 [qA r] (.ret (.tup [.agg [.bool y.n,.str y.a,.str y.d],ω y.e]))):CO 130 [Jy f u1 u2 l,qA x] (.ret (.tup [.agg [.bool y.n,.str y.a,.str y.d],ω y.e])):=pK [] 2 0 (.n 13 (.a (rE [.bool,.str,.str] g rfl) (.c h (.c C (.k 11 h (.c m (.k 1 u (.k 7 A (.n 7 .nil))))))))) (.c p (.c n (.c E (.c t (.v 32 (.rd [.bool,.str,.str] g rfl) (.c z (.v 26 (.ppt j) (.v 19 (.eq q) (.c D (.c k .nil))))))))))
theorem ac0 (x:RQ) (f:Nat) (c:Int) (e:List UInt8) (u1 u2:Int) (d:List AV) (h:lit true (!(c==((0:Nat):Int)))=true) (g:CO 202 [.agg [.str e,ω u1,ω u2,.sl d f false]] (.ret (ω c))):CO 172 [.agg [.str e,ω u1,ω u2,.sl d f false],qA x] (.ret (ω c)):=pK [] 1 1 (.c h (.n 4 .nil)) (.c g .nil)
theorem ac4 (x:RQ) (f:Nat) (c:Int) (e:List UInt8) (u1 u2:Int) (d:List AV) (h:lit true (!(c==((0:Nat):Int)))=true) (g:CO 172 [.agg [.str e,ω u1,ω u2,.sl d f false],qA x] (.ret (ω c))):CO 130 [.agg [.str e,ω u1,ω u2,.sl d f false],qA x] (.ret (.tup [Ω false [] [],ω c])):=pK [] 1 1 (.k 4 h (.n 7 .nil)) (.c g .nil)
theorem yj {α:Type} (f:α→List AV) (m:Nat) (c:∀ a,(f a).length=m):∀ {l:List α} {k:Nat} (h:k<l.length),ε (k*m) (l.flatMap f)=f l[k]++(l.drop (k+1)).flatMap f
 | [],_,h=>by simp at h
 |x::r,0,_=>by simp
 |x::r,k+1,h=>by
  have d:k<r.length:=by simpa using h
  have:=yj f m c d;rw [Xjc,Xky,Xxp,← Xjl];have e:ε m (f x++r.flatMap f)=r.flatMap f:=by rw [← c x];exact Xvh
  rw [e,this];simp
theorem ul {α:Type} (f:α→List AV) (m:Nat) (c:∀ a,(f a).length=m):∀ l:List α,(l.flatMap f).length=l.length*m
 | []=>by simp
 |x::r=>by rw [Xjc,θ,c,ul f m c r,μ,Xky,Xxp]
theorem fM {l:List (RQ × RQ)} {k:Nat} (h:k<l.length):ε (δ (k:Int)*6) (oN l)=Dl l[k]++oN (l.drop (k+1)):=by
 rw [aC];exact yj Dl 6 (fun _=>rfl) h
theorem LC {l:List RQ} {k:Nat} (h:k<l.length):ε ((0+δ (k:Int))*3) (Gg l)=rvC l[k]++Gg (l.drop (k+1)):=by
 rw [aC,Xqf];exact yj rvC 3 (fun _=>rfl) h
theorem Jn (l:List RQ):(Gg l).length=l.length*3:=ul rvC 3 (fun _=>rfl) l
theorem WX (l:List RQ) (r:RQ):ν (l.length*3) (Gg l)++ [.bool r.neg,.str (ae r.n),.str (ae r.d)]=Gg (l++ [r]):=by
 rw [Xqc (by rw [Jn];exact Δ _)];unfold Gg;rw [Xjb];rfl
abbrev srS (nm:List UInt8) (u1 u2:Int) (l:List (RQ × RQ)) (x:RQ) (p:Nat × Nat):St:=⟨[(1,.fn 204 [] [Qs nm u1 u2 l,Qo x]),(5,ω (p.1:Int)),(6,ω (p.2:Int))],[],.dead,[]⟩
abbrev srO (c:Nat):St:=⟨[(5,ω (c:Int))],[],.dead,[]⟩
theorem ahQ {i j:Nat} (h:i+j<2^62):ω (γ .i64 (Xqw (γ .u64 (γ .i64 ((i:Int)+(j:Int)))) (2^(min 1 64))))=ω (((i+j) / 2:Nat):Int):=by
 congr 1;rw [show (i:Int)+(j:Int)=((i+j:Nat):Int) from rfl,aS (by omega),oK,Nat.mod_eq_of_lt (show i+j<18446744073709551616 by omega),show (2:Int)^(min 1 64)=((2:Nat):Int) from rfl];rw [show Xqw ((i+j:Nat):Int) ((2:Nat):Int)=(((i+j) / 2:Nat):Int) from by rw [Int.fdiv_eq_ediv_of_nonneg _ (by omega)];rfl,aS (by omega)]
theorem aa3 {nt:Nat} (r:26≤nt) (f:List UInt8) (u1 u2:Int) (l:List (RQ × RQ)) (x:RQ) (P:Nat→Bool) (C:l.length<2^60)
  (hP:∀ k,k<l.length→CO 204 [ω (k:Int),Qs f u1 u2 l,Qo x] (.ret (.bool (P k)))) (hM:∀ i j,i≤j→j<l.length→P i=true→P j=true):
  ∀ (d i j:Nat),j - i≤d→i≤j→j≤l.length→(∀ k,k<i→P k=false)→(∀ k,j≤k→k<l.length→P k=true)→∀ c,c≤l.length→(∀ k,k<c→P k=false)→(∀ k,c≤k→k<l.length→P k=true)→
   aA prog ap [] nt (af 0 (ah f203)) (fun _=> .exit 0) (srS f u1 u2 l x) srO (i,j) c:=by
 intro d
 induction d with
 | zero=>
  intro i j hd w z t o c v m n;have:i=j:=by omega
  subst this;have:i=c:=by
   rcases Xj6 i c with h|h|h
   ·have a:=m i h;rw [o i (Δ _) (by omega)] at a;cases a
   ·exact h
   ·have a:=t c h;rw [n c (Δ _) (by omega)] at a;cases a
  subst this;exact .done (abJ x i i f u1 u2 l r (aK (Yq1 (by omega))))
 | succ d ih=>
  intro i j hd w z t o c v m n;by_cases hlt:i<j
  ·have y:=ahQ (i:=i) (j:=j) (by omega);have B:(i+j) / 2<j:=by omega
   have u:i≤(i+j) / 2:=by omega
   generalize (i+j) / 2=q at*
   have p:=hP q (by omega);have g:lit true (decide ((i:Int)<(j:Int)))=true:=Yq0 (by omega);cases hp:P q with
   |false=>
    rw [hp] at p;refine .next (ahb x false i j q f u1 u2 l r y (BR (by omega)) rfl g p) (ih (q+1) j (by omega) (by omega) z (fun k A=> ?_) o c v m n)
    cases e:P k with
    |false=>rfl
    |true=>rw [hM k q (by omega) (by omega) e] at hp;cases hp
   |true=>
    rw [hp] at p;exact .next (ahc x true i j q f u1 u2 l r y rfl g p) (ih i q (by omega) u (by omega) t (fun k A e=>hM q k A e hp) c v m n)
  ·have:i=j:=by omega
   subst this;have:i=c:=by
    rcases Xj6 i c with h|h|h
    ·have a:=m i h;rw [o i (Δ _) (by omega)] at a;cases a
    ·exact h
    ·have a:=t c h;rw [n c (Δ _) (by omega)] at a;cases a
   subst this;exact .done (abJ x i i f u1 u2 l r (aK (Yq1 (by omega))))
structure TW (l:List (RQ × RQ)):Prop where
 len:l.length≤8
 pos:0<l.length
 ok:∀ b ∈ l,b.1.ok∧b.2.ok
 fit:∀ b ∈ l,iG b.1=true∧iG b.2=true
 srt:sQ l
theorem Qy:∀ {l:List (RQ × RQ)},sQ l→∀ i j (hi:i<j) (hj:j<l.length),(l[i]'(by omega)).1.rt<l[j].1.rt
 | [],_,_,_,_,hj=>by simp at hj
 |b::l,h,0,j+1,_,hj=>h.all _ (Xxe (by simpa using hj))
 |b::l,h,i+1,j+1,hi,hj=>Qy h.tail i j (by omega) (by simpa using hj)
def pS (l:List (RQ × RQ)) (x:RQ) (k:Nat):Bool:=match l[k]? with|some b=>decide (0<iy b.1 x)|none=>true
theorem xR (x:RQ):∀ l:List (RQ × RQ),gz l x≤l.length∧(∀ k,k<gz l x→pS l x k=false)∧(gz l x<l.length→pS l x (gz l x)=true)
 | []=> ⟨Δ _,fun k h=>absurd h (Xwi _),fun h=>absurd h (Xwi _)⟩
 | b::l=>by
  obtain ⟨g,d,f⟩:=xR x l;by_cases h:0<iy b.1 x
  ·have e:gz (b::l) x=0:=by
    unfold gz;rw [Xz4 (by simp;omega)];rfl
   rw [e];exact ⟨Xxo _,fun k c=>absurd c (Xwi _),fun _=>Yq0 h⟩
  ·rw [xQ h];refine ⟨by simp only [μ];omega,fun k c=> ?_,fun c=>f (by simpa using c)⟩;cases k with
   |zero=>exact Yq1 h
   |succ k=>exact d k (by omega)
section
variable (nm:List UInt8) (u1 u2:Int) {l:List (RQ × RQ)} (hR:TW l) {x:RQ} (hx:x.ok) (fx:iG x=true)
include hR hx fx
omit fx in
theorem ZM:∀ i j,i≤j→j<l.length→pS l x i=true→pS l x j=true:=by
 intro i j f c h;rcases Xq5 i j with h1|h1
 ·have hs:=Qy hR.srt i j h1 c;unfold pS at h ⊢;rw [ξ (by omega)] at h ⊢;simp only [decide_eq_true_eq] at h ⊢;have e:=(jm (hR.ok _ (Xxe (show i<l.length by omega))).1 hx).2.2;have d:=(jm (hR.ok _ (Xxe c)).1 hx).2.2;have:=e.1 h;exact d.2 (by grind)
 ·rw [show i=j by omega] at h;exact h
theorem YA (k:Nat) (c:k<l.length):CO 204 [ω (k:Int),Qs nm u1 u2 l,Qo x] (.ret (.bool (pS l x k))):=by
 unfold pS;rw [ξ c];exact agL x k _ nm u1 u2 l l[k] _ (fM c) (Yq0 (by omega)) (Yq0 (by omega))
  (WS (hR.ok _ (Xxe c)).1 hx (aW (hR.fit _ (Xxe c)).1) (aW fx) (by decide))
theorem J7:CO 173 [Jy nm u1 u2 l,qA x] (.ret (ω ((gz l x:Nat):Int))):=by
 obtain ⟨g,j,i⟩:=xR x l;have f:=hR.len;have e:=ZM hR hx;refine agM x _ nm u1 u2 l (ag9 x _ _ nm u1 u2 l (aA.blk (id:=0) (e':= .normal) (s:=⟨_,_,_,_⟩) (s':=srO (gz l x)) (fun nt h=>aa3 h nm u1 u2 l x (pS l x) (by omega) (YA nm u1 u2 hR hx fx) e l.length 0 l.length (by omega) (Xxo _) (Δ _) (fun k d=>absurd d (Xwi _)) (fun k d c=>by omega) (gz l x) g j (fun k d c=>e _ k d c (i (by omega)))) (by simp) rfl (aH.of ⟨rfl,rfl,rfl,trivial⟩) (aH.refl _)))
end
abbrev smS (nm:List UInt8) (u1 u2:Int) (l:List (RQ × RQ)) (p:Nat × List RQ):St:=⟨[(1,.ptr 0 0 0),(3,.ref 1 0 0 p.2.length),(11,ω (l.tail.length:Int)),(12,ω (p.1:Int))],[(0,⟨[.str nm,ω u1,ω u2,.sl (oN l) l.length false],0,false,0,0,true⟩),(1,⟨(Gg p.2),0,false,0,3,true⟩)],.dead,[]⟩
abbrev smO (os:List RQ):St:=⟨[(3,.ref 0 0 0 os.length)],[(0,⟨(Gg os),0,false,0,3,true⟩)],.dead,[]⟩
theorem Xh {k:Nat} {a w:RQ} (c:h_ (410*5^k) a) (d:h_ 410 w):h_ (410*5^(k+1)) (gG a w):=by
 have hp:1≤5^k:=Xkh _ _ (by decide);refine (xu c (d.mono (by omega))).mono ?_;rw [Nat.pow_succ];generalize 5^k=M at*
 omega
theorem abN {k:Nat} (h:k≤8):410*5^k<2^28:=φ (Xqx 410 (Xqa (by decide) h)) (by decide)
theorem akt {l:List (RQ × RQ)} (e:TW l) {b c:RQ × RQ} (f:b ∈ l) (d:c ∈ l):h_ 205 (dU c.1 b.1)∧h_ 410 (iH (dU c.1 b.1) b.2):=by
 have g:h_ 205 (dU c.1 b.1):=xw (L:=51) (aW (e.fit _ d).1) (aW (e.fit _ f).1);exact ⟨g,Ap g (h_.mono (L:=51) (aW (e.fit _ f).2) (by decide))⟩
theorem Xf {nt:Nat} (w:47≤nt) (m:List UInt8) (u1 u2:Int) {l:List (RQ × RQ)} (f:TW l):∀ (r p:List (RQ × RQ)) (b:RQ × RQ) (d:List RQ) (c:RQ),l=p++b::r→d.length=p.length→c.ok→h_ (410*5^p.length) c→
  aA prog ap [] nt (af 0 (ah f175)) (fun _=> .exit 0) (smS m u1 u2 l) smO (p.length,d++ [c]) (d++jb c (b::r)):=by
 intro r
 induction r with
 |nil=>
  intro p b d c h y n hs;exact .done (aha p.length m u1 u2 l (d++ [c]) w (aK (Yq1 (by rw [h];simp))))
 |cons b2 r ih=>
  intro p b d c h y n hs;have z:=f.len;have j:p.length+1<l.length:=by rw [h];simp
  have i:b ∈ l:=by rw [h];simp
  have g:b2 ∈ l:=by rw [h];simp
  have I:l[p.length]'(by omega)=b:=by subst h;simp
  have H:l[p.length+1]'j=b2:=by subst h;simp
  have u:=fM (l:=l) (k:=p.length) (by omega);have q:=fM (l:=l) (k:=p.length+1) j;rw [I] at u;rw [H] at q;have B:=LC (l:=d++ [c]) (k:=p.length) (by simp;omega);rw [show (d++ [c])[p.length]'(by simp;omega)=c by simp [← y]] at B;have o:=gU (f.ok _ g).1 (f.ok _ i).1;have v:=iI o (f.ok _ i).2;obtain ⟨C,t⟩:=akt f i g;have D:=abN (k:=p.length) (by omega);have M:1≤5^p.length:=Xkh _ _ (by decide);have F:=Ou (f.ok _ g).1 (f.ok _ i).1 (aW (f.fit _ g).1) (aW (f.fit _ i).1) (by decide);have J:=Ot o (f.ok _ i).2 C (h_.mono (L:=51) (aW (f.fit _ i).2) (by decide)) (by decide);have G:=E8 n v hs (t.mono (by omega)) D;have E:(d++ [c]).length=p.length+1:=by simp;omega
  have K:=ag_ c (gG c (iH (dU b2.1 b.1) b.2)) _ _ p.length m u1 u2 l (d++ [c]) b b2 _ _ _ w u q B (BR (by omega)) (WX _ _) (Xqv (by omega)) (Xqv (by rw [Jn];exact Δ _)) (Yq0 (by omega)) (Yq0 (by omega)) (Yq0 (by omega)) (Yq0 (by omega)) (Yq0 (by omega)) (aN (Yq0 (by rw [List.length_tail];omega))) F J G;have A:=ih (p++ [b]) b2 (d++ [c]) (gG c (iH (dU b2.1 b.1) b.2)) (by rw [h];simp) (by simp;omega) (eu n v) (by rw [θ];exact Xh hs t);rw [θ,σ] at A;rw [show d++jb c (b::b2::r)=(d++ [c])++jb (gG c (iH (dU b2.1 b.1) b.2)) (b2::r) by simp [jb]];refine .next ?_ A
  have e:(d++ [c]++ [gG c (iH (dU b2.1 b.1) b.2)]).length=(d++ [c]).length+1:=by simp
  show ak _ _ _ _ _ _ _ (smS m u1 u2 l (p.length+1,d++ [c]++ [gG c (iH (dU b2.1 b.1) b.2)]));unfold smS;rw [e];exact K
theorem Fj:∀ (l:List (RQ × RQ)) (c:RQ),0<l.length→(jb c l).length=l.length
 | [_],_,_=>rfl
 |b::b2::l,c,_=>by show (jb _ (b2::l)).length+1=_;rw [Fj (b2::l) _ (by simp)];rfl
theorem Wn:h_ 410 q0:=⟨Xqy (bU (x:=0) (k:=1) (by decide)) (by decide),Xqy (bU (x:=1) (k:=1) (by decide)) (by decide)⟩
theorem Ve (d:List UInt8) (u1 u2:Int) {l:List (RQ × RQ)} (e:TW l):CO 175 [Jy d u1 u2 l] (.ret (.own (Gg (jb q0 l)) (jb q0 l).length 3)):=by
 have f:=e.len;have c:=e.pos;have i:∀ nt,47≤nt→aA prog ap [] nt (af 0 (ah f175)) (fun _=> .exit 0) (smS d u1 u2 l) smO (0,[q0]) (jb q0 l):=fun nt g=>by
  cases l with
  |nil=>simp at c
  |cons b r=>exact Xf g d u1 u2 e r [] b [] q0 rfl rfl wG (Wn.mono (by decide))
 have h:=ahf d u1 u2 l (jb q0 l) (by
  cases l with
  |nil=>simp at c
  |cons b r=>
   rw [aC,Xqc (by show ((b::r).flatMap Dl).length≤_;rw [ul Dl 6 (fun _=>rfl)];exact Δ _)];rfl) (Yq0 (by omega)) (Yq0 (by omega)) jw (aA.blk (id:=0) (e':= .normal) (s:=⟨_,_,_,_⟩) (s':=smO (jb q0 l)) i (by simp) rfl (aH.of ⟨rfl,rfl,rfl,rfl,trivial⟩) (aH.refl _))
 rw [Xqc (by rw [Jn];exact Δ _)] at h;exact h
theorem aa4 {l:List (RQ × RQ)} (f:TW l):∀ (r p:List (RQ × RQ)) (b:RQ × RQ) (c:RQ),l=p++b::r→c.ok→h_ (410*5^p.length) c→∀ q ∈ jb c (b::r),q.ok∧h_ (410*5^8) q:=by
 intro r
 induction r with
 |nil=>
  intro p b c e h hs q d;have d:q ∈ [c]:=d;rw [Xze] at d;subst d;have:=f.len;exact ⟨h,hs.mono (Xqx 410 (Xqa (by decide) (by rw [e] at this;simp at this;omega)))⟩
 | cons b2 r ih=>
  intro p b c e h hs q d;have i:b ∈ l:=by rw [e];simp
  have g:b2 ∈ l:=by rw [e];simp
  have d:q ∈ c::jb (gG c (iH (dU b2.1 b.1) b.2)) (b2::r):=d;rcases List.mem_cons.1 d with rfl|d
  ·have:=f.len;exact ⟨h,hs.mono (Xqx 410 (Xqa (by decide) (by rw [e] at this;simp at this;omega)))⟩
  ·have j:=iI (gU (f.ok _ g).1 (f.ok _ i).1) (f.ok _ i).2;exact ih (p++ [b]) b2 _ (by rw [e];simp) (eu h j) (by rw [θ];exact Xh hs (akt f i g).2) q d
theorem LV {l:List (RQ × RQ)} (c:TW l):∀ q ∈ jb q0 l,q.ok∧h_ (410*5^8) q:=by
 cases l with
 |nil=>have:=c.pos;simp at this
 |cons b r=>exact aa4 c r [] b q0 rfl wG (Wn.mono (by decide))
def XF (l:List (RQ × RQ)) (x:RQ):Oq:=if gz l x=0 then .val q0 else mW (atR l x)
theorem YB {q:RQ} (h:q.ok) (f:(ae q.n).length<2^36) (e:(ae q.d).length<2^36):CO 174 [qA q] (.ret (.tup [.agg [.bool (mW q).n,.str (mW q).a,.str (mW q).d],ω (mW q).e])):=by
 have c:=fZ q.neg (ae q.n) (ae q.d) f e;rw [yh h] at c;unfold mW;cases d:iG q with
 |true=>
  rw [if_pos rfl];exact agR q (by rw [d];rfl) c
 |false=>
  rw [if_neg (by simp)];exact agQ q (by rw [d];rfl) c
theorem ac1 (f:List UInt8) (u1 u2:Int) {l:List (RQ × RQ)} (c:TW l) {x:RQ} (j:x.ok) (m:iG x=true) (k:CO 202 [Jy f u1 u2 l] (.ret (ω 0))):
  CO 130 [Jy f u1 u2 l,qA x] (.ret (.tup [.agg [.bool (XF l x).n,.str (XF l x).a,.str (XF l x).d],ω (XF l x).e])):=by
 obtain ⟨o,w⟩:=aW m;have v:=mF x.neg (ae x.n) (ae x.d) (by omega) (by omega);rw [wY x j] at v;have z:=fZ x.neg (ae x.n) (ae x.d) (by omega) (by omega);rw [yh j,m] at z;have i:CO 172 [Jy f u1 u2 l,qA x] (.ret (ω 0)):=agK x 0 f u1 u2 l rfl k v z;have g:=J7 f u1 u2 c j m;have A:=(xR x l).1;have u:=c.len;unfold XF;by_cases hc:gz l x=0
 ·rw [if_pos hc];rw [hc] at g;exact ac2 x 0 0 f u1 u2 l rfl rfl i g jw
 ·rw [if_neg hc];have n:gz l x - 1<l.length:=by omega
  have d:=Xxe n;have E:(jb q0 l).length=l.length:=Fj l q0 c.pos;have h:gz l x - 1<(jb q0 l).length:=by omega
  obtain ⟨r,q⟩:(jb q0 l)[gz l x - 1].ok∧h_ (410*5^8) (jb q0 l)[gz l x - 1]:=by
   exact LV c _ (Xxe h)
  have y:h_ 205 (dU x l[gz l x - 1].1):=xw (L:=51) ⟨o,w⟩ (aW (c.fit _ d).1);have t:h_ 410 (iH l[gz l x - 1].2 (dU x l[gz l x - 1].1)):=Ap (L:=205) (h_.mono (L:=51) (aW (c.fit _ d).2) (by decide)) y;have k3:=gU j (c.ok _ d).1;have k4:=iI (c.ok _ d).2 k3;have D:=Ou j (c.ok _ d).1 ⟨o,w⟩ (aW (c.fit _ d).1) (by decide);have F:=Ot (c.ok _ d).2 k3 (h_.mono (L:=51) (aW (c.fit _ d).2) (by decide)) y (by decide);have B:=E8 r k4 q (t.mono (by decide)) (by decide);have p:=xu q (t.mono (by decide));have e:atR l x=gG (jb q0 l)[gz l x - 1] (iH l[gz l x - 1].2 (dU x l[gz l x - 1].1)):=by
   unfold atR;rw [π,π,ξ n,ξ h];rfl
  rw [e];have C:=YB (eu r k4) (φ p.1 (by decide)) (φ p.2 (by decide));refine ac3 x _ _ _ _ _ (gz l x - 1) (gz l x) 0 f u1 u2 l _ l[gz l x - 1] _ _ (fM n) (LC h) ?_ (Yq0 (by omega)) (Yq0 (by omega)) (Yq0 (by omega)) (aK (Yq1 (by omega))) rfl i g (Ve f u1 u2 c) D F B C;congr 1;rw [show ((gz l x:Nat):Int) - ((1:Nat):Int)=((gz l x - 1:Nat):Int) by omega];exact aS (by omega)
def iK (x:Br):Bool:=iE x.fn x.fa x.fd && iE x.rn x.ra x.rd
def Str (nm:List UInt8) (u1 u2:Int) (l:List Br) (k:Nat):St:=⟨[(1,.ptr 0 0 0),(3,.sl (gm l) l.length false),(4,ω (k:Int))],[(0,⟨[.str nm,ω u1,ω u2,.sl (gm l) l.length false],0,false,0,0,true⟩)],.dead,[]⟩
def afS (l:List Br):Bool→St
 |true=> ⟨[(3,.sl (gm l) l.length false)],[],.dead,[]⟩
 |false=> ⟨[(2,.int .i64 11)],[],.dead,[]⟩
def Er:Bool→bD
 |true=> .exit 0
 |false=> .ret
theorem ahK {nt:Nat} (f:96≤nt) (q:List UInt8) (u1 u2:Int) (l:List Br) (m:l.length<2^40) (g:∀ x ∈ l,x.sm):∀ (r p:List Br),p++r=l→
  aA prog ap [] nt (af 0 (ah f206)) Er (Str q u1 u2 l) (afS l) p.length (r.all iK):=by
 intro r
 induction r with
 |nil=>
  intro p hp;rw [Θ] at hp;subst hp;have c:(decide ((p.length:Int)<(p.length:Int)))=false:=Yq1 (by omega);exact .done (pN 206 [] 1 0 (.c (aK c) .nil) (.nil) f)
 | cons x r ih=>
  intro p hp;have n:p.length<l.length:=by rw [← hp];simp
  have j:l[p.length]=x:=by subst hp;simp
  have d:=nS n;rw [j] at d;have e:=ih (p++ [x]) (by rw [← hp];simp);rw [θ,σ] at e;have hs:=g x (by rw [← hp];simp);have i:CO 137 [Ug x] (.ret (.bool (iE x.fn x.fa x.fd))):=oC x.fn x.fa x.fd hs.1.1 hs.1.2;have h:CO 137 [brR x] (.ret (.bool (iE x.rn x.ra x.rd))):=oC x.rn x.ra x.rd hs.2.1 hs.2.2;generalize p.length=k at*
  generalize gm (l.drop (k+1))=rB at d;have c:(decide ((k:Int)<(l.length:Int)))=true:=Yq0 (by omega);have o:k<2^62:=by omega
  rcases tf (iE x.fn x.fa x.fd) with d0|d0
  ·rcases tf (iE x.rn x.ra x.rd) with d1|d1
   ·simp only [Xxr,iK,d0,d1,Xx4,Xjg,Xjq,Xzr];exact .next (pN 206 [] 3 1 (.c (aU d1) (.c (aU d0) (.k 3 (yY k) (.c c (.k 3 (yY k) (.c c (.c (aN c) .nil))))))) (.v 26 (.eq (BR o)) (.c h (.v 35 (.ppt d) (.c i (.v 29 (.ppt d) .nil))))) f) e
   ·simp only [Xxr,iK,d0,d1,Xx4,Xjg,Xjq,Xzr];exact .done (pN 206 [] 3 5 (.c (dL d1) (.c (aU d0) (.k 3 (yY k) (.c c (.k 3 (yY k) (.c c (.c (aN c) .nil))))))) (.c h (.v 35 (.ppt d) (.c i (.v 29 (.ppt d) .nil)))) f)
  ·simp only [Xxr,iK,d0,Xx4,Xjg,Xjq,Xzr];exact .done (pN 206 [] 3 7 (.k 1 (dL d0) (.k 3 (yY k) (.c c (.k 3 (yY k) (.c c (.c (aN c) .nil)))))) (.c h (.v 35 (.ppt d) (.c i (.v 29 (.ppt d) .nil)))) f)
def wC (x:Br):Bool:=eQ x.fn x.fa x.fd && eQ x.rn x.ra x.rd
def Stf (l:List Br) (k:Nat):St:=⟨[(3,.sl (gm l) l.length false),(10,ω (k:Int))],[],.dead,[]⟩
def afR (l:List Br):Bool→St
 |true=> ⟨[(3,.sl (gm l) l.length false)],[],.dead,[]⟩
 |false=> ⟨[(2,.int .i64 3)],[],.dead,[]⟩
def Ef:Bool→bD
 |true=> .exit 4
 |false=> .ret
theorem ahJ {nt:Nat} (f:96≤nt) (l:List Br) (m:l.length<2^40) (g:∀ x ∈ l,x.sm):∀ (r p:List Br),p++r=l→
  aA prog ap [] nt (af 4 (ah f206)) Ef (Stf l) (afR l) p.length (r.all wC):=by
 intro r
 induction r with
 |nil=>
  intro p hp;rw [Θ] at hp;subst hp;have c:(decide ((p.length:Int)<(p.length:Int)))=false:=Yq1 (by omega);exact .done (pN 206 [] 1 0 (.c (aK c) .nil) (.nil) f)
 | cons x r ih=>
  intro p hp;have n:p.length<l.length:=by rw [← hp];simp
  have j:l[p.length]=x:=by subst hp;simp
  have d:=nS n;rw [j] at d;have e:=ih (p++ [x]) (by rw [← hp];simp);rw [θ,σ] at e;have hs:=g x (by rw [← hp];simp);have i:CO 81 [Ug x] (.ret (.bool (eQ x.fn x.fa x.fd))):=lH x.fn x.fa x.fd hs.1.1 hs.1.2;have h:CO 81 [brR x] (.ret (.bool (eQ x.rn x.ra x.rd))):=lH x.rn x.ra x.rd hs.2.1 hs.2.2;generalize p.length=k at*
  generalize gm (l.drop (k+1))=rB at d;have c:(decide ((k:Int)<(l.length:Int)))=true:=Yq0 (by omega);have o:k<2^62:=by omega
  rcases tf (eQ x.fn x.fa x.fd) with d0|d0
  ·rcases tf (eQ x.rn x.ra x.rd) with d1|d1
   ·simp only [Xxr,wC,d0,d1,Xx4,Xjg,Xjq,Xzr];exact .next (pN 206 [] 3 1 (.c (aU d1) (.c (aU d0) (.k 3 (yY k) (.c c (.k 3 (yY k) (.c c (.c (aN c) .nil))))))) (.v 77 (.eq (BR o)) (.c h (.v 86 (.ppt d) (.c i (.v 80 (.ppt d) .nil))))) f) e
   ·simp only [Xxr,wC,d0,d1,Xx4,Xjg,Xjq,Xzr];exact .done (pN 206 [] 3 5 (.c (dL d1) (.c (aU d0) (.k 3 (yY k) (.c c (.k 3 (yY k) (.c c (.c (aN c) .nil))))))) (.c h (.v 86 (.ppt d) (.c i (.v 80 (.ppt d) .nil)))) f)
  ·simp only [Xxr,wC,d0,Xx4,Xjg,Xjq,Xzr];exact .done (pN 206 [] 3 7 (.k 1 (dL d0) (.k 3 (yY k) (.c c (.k 3 (yY k) (.c c (.c (aN c) .nil)))))) (.c h (.v 86 (.ppt d) (.c i (.v 80 (.ppt d) .nil)))) f)
def BL (cmp:Br→Br→Int):Br→List Br→Bool
 |_,[]=>true
 |y,x::r=>cond (decide (((0:Nat):Int)≤cmp y x)) false (BL cmp x r)
def Sta (l:List Br) (k:Nat):St:=⟨[(3,.sl (gm l) l.length false),(8,ω (k:Int))],[],.dead,[]⟩
def afQ (l:List Br):Bool→St
 |true=> ⟨[(3,.sl (gm l) l.length false)],[],.dead,[]⟩
 |false=> ⟨[(2,.int .i64 11)],[],.dead,[]⟩
def Ea:Bool→bD
 |true=> .exit 2
 |false=> .ret
theorem ahI {nt:Nat} (o:96≤nt) (l:List Br) (cmp:Br→Br→Int) (u:l.length<2^40) (w:∀ x ∈ l,iK x=true) (B:xB 87 cmp l):∀ (r p:List Br) (y:Br),(p++ [y])++r=l→
  aA prog ap [] nt (af 2 (ah f206)) Ea (Sta l) (afQ l) (p.length+1) (BL cmp y r):=by
 intro r
 induction r with
 |nil=>
  intro p y hp;rw [Θ] at hp;generalize q:p.length+1=k;have A:l.length=k:=by rw [← hp,← q];simp
  have f:(decide ((k:Int)<(l.length:Int)))=false:=Yq1 (by omega);exact .done (pN 206 [] 1 0 (.c (aK f) .nil) (.nil) o)
 | cons x r ih=>
  intro p y hp;have t:p.length+1<l.length:=by rw [← hp];simp
  have c:p.length<l.length:=by omega
  have i:l[p.length+1]=x:=by subst hp;simp
  have g:l[p.length]=y:=by subst hp;simp
  have n:=nS t;have m:=nS c;rw [i] at n;rw [g] at m;have h:=ih (p++ [y]) x (by rw [← hp];simp);rw [θ,σ] at h;have d:=w x (by rw [← hp];simp);unfold iK at d;rw [ο] at d;have v:=B p.length y x (by rw [ξ c,g]) (by rw [ξ t,i]) d.1 d.2;unfold BL;have e:p.length+1=p.length+1:=rfl;generalize q:p.length+1=k at*
  generalize C:p.length=k1 at*
  have e:k=k1+1:=q.symm;generalize gm (l.drop (k+1))=rB at n;generalize gm (l.drop k)=rC at m;have f:(decide ((k:Int)<(l.length:Int)))=true:=Yq0 (by omega);have z:k<2^62:=by omega
  have j:k<2^40:=by omega
  rcases tf (decide (((0:Nat):Int)≤(cmp y x))) with d0|d0
  ·rw [d0];exact .done (pN 206 [] 2 3 (.c (aN d0) (.k 3 (yY k) (.c f (.k 3 (yY k1) (.c (dlt c) (.c (aN f) .nil)))))) (.c v (.v 66 (.ppt n) (.v 61 (.ppt m) (.v 60 (.eq (wkn e j)) .nil)))) o)
  ·rw [d0];exact .next (pN 206 [] 2 1 (.c (aK d0) (.k 3 (yY k) (.c f (.k 3 (yY k1) (.c (dlt c) (.c (aN f) .nil)))))) (.v 57 (.eq (BR z)) (.c v (.v 66 (.ppt n) (.v 61 (.ppt m) (.v 60 (.eq (wkn e j)) .nil))))) o) h
theorem amd (c:List UInt8) (u1 u2:Int) (l:List Br) (e:(decide (((8:Nat):Int)<(l.length:Int)))=false) (f:((l.length:Int)==((0:Nat):Int))=false) (d:aG prog ap [] 96 (.block 0 (.loop (af 0 (ah f206)))) ⟨[(0,.agg [.str c,ω u1,ω u2,.sl (gm l) l.length false]),(1,.ptr 0 0 0),(2,ω 0),(3,.sl (gm l) l.length false),(4,ω 0),(5,.dead),(6,.dead),(7,.dead),(8,.dead),(9,.dead),(10,.dead),(11,.dead),(12,.dead),(17,.bool (decide (((8:Nat):Int)<(l.length:Int)))),(20,.bool ((l.length:Int)==((0:Nat):Int))),(24,.dead),(44,.dead),(51,.dead),(55,.dead),(71,.dead),(75,.dead),(95,.dead)],[(0,⟨[.str c,ω u1,ω u2,.sl (gm l) l.length false],0,false,0,0,true⟩)],.dead,[]⟩ (.ret) ⟨[(2,ω 11)],[],.dead,[]⟩):CO 206 [.agg [.str c,ω u1,ω u2,.sl (gm l) l.length false]] (.ret (ω 11)):=pK [0,2,4] 2 0 (.c (aK f) (.c (aK e) (.n 1 .nil))) (.l d .nil)
theorem amg (e:List UInt8) (u1 u2:Int) (l:List Br) (i:(decide (((8:Nat):Int)<(l.length:Int)))=false) (j:((l.length:Int)==((0:Nat):Int))=false) (c:Br) (g:List AV) (f:ε 0 (gm l)=H9 c++g) (d:(decide (((0:Nat):Int)<(l.length:Int)))=true) (k:CO 141 [Ug c] (.ret (ω (jy c.fn c.fa c.fd)))) (z:((jy c.fn c.fa c.fd)==((0:Nat):Int))=false) (h:aG prog ap [] 96 (.block 0 (.loop (af 0 (ah f206)))) ⟨[(0,.agg [.str e,ω u1,ω u2,.sl (gm l) l.length false]),(1,.ptr 0 0 0),(2,ω 0),(3,.sl (gm l) l.length false),(4,ω 0),(5,.dead),(6,.dead),(7,.dead),(8,.dead),(9,.dead),(10,.dead),(11,.dead),(12,.dead),(17,.bool (decide (((8:Nat):Int)<(l.length:Int)))),(20,.bool ((l.length:Int)==((0:Nat):Int))),(24,.dead),(44,.dead),(51,.dead),(55,.dead),(71,.dead),(75,.dead),(95,.dead)],[(0,⟨[.str e,ω u1,ω u2,.sl (gm l) l.length false],0,false,0,0,true⟩)],.dead,[]⟩ (.normal) ⟨[(3,.sl (gm l) l.length false)],[],.dead,[]⟩):CO 206 [.agg [.str e,ω u1,ω u2,.sl (gm l) l.length false]] (.ret (ω 11)):=pK [0,2,4] 3 4 (.c (dL z) (.k 4 d (.c (aK j) (.c (aK i) (.n 1 .nil))))) (.c k (.v 46 (.ppt f) (.l h .nil)))
theorem ame (e:List UInt8) (u1 u2:Int) (l:List Br) (i:(decide (((8:Nat):Int)<(l.length:Int)))=false) (k:((l.length:Int)==((0:Nat):Int))=false) (c:Br) (g:List AV) (f:ε 0 (gm l)=H9 c++g) (d:(decide (((0:Nat):Int)<(l.length:Int)))=true) (m:CO 141 [Ug c] (.ret (ω (jy c.fn c.fa c.fd)))) (z:((jy c.fn c.fa c.fd)==((0:Nat):Int))=true) (h:aG prog ap [] 96 (.block 0 (.loop (af 0 (ah f206)))) ⟨[(0,.agg [.str e,ω u1,ω u2,.sl (gm l) l.length false]),(1,.ptr 0 0 0),(2,ω 0),(3,.sl (gm l) l.length false),(4,ω 0),(5,.dead),(6,.dead),(7,.dead),(8,.dead),(9,.dead),(10,.dead),(11,.dead),(12,.dead),(17,.bool (decide (((8:Nat):Int)<(l.length:Int)))),(20,.bool ((l.length:Int)==((0:Nat):Int))),(24,.dead),(44,.dead),(51,.dead),(55,.dead),(71,.dead),(75,.dead),(95,.dead)],[(0,⟨[.str e,ω u1,ω u2,.sl (gm l) l.length false],0,false,0,0,true⟩)],.dead,[]⟩ (.normal) ⟨[(3,.sl (gm l) l.length false)],[],.dead,[]⟩) (j:aG prog ap [] 96 (.block 2 (.loop (af 2 (ah f206)))) ⟨[(0,.dead),(1,.dead),(2,.dead),(3,.sl (gm l) l.length false),(4,.dead),(5,.dead),(6,.dead),(7,ω (jy c.fn c.fa c.fd)),(8,ω 1),(9,.dead),(10,.dead),(11,.dead),(12,.dead),(17,.dead),(20,.dead),(24,.dead),(44,.dead),(51,.bool (!((jy c.fn c.fa c.fd)==((0:Nat):Int)))),(55,.dead),(71,.dead),(75,.dead),(95,.dead)],[],.dead,[]⟩ (.ret) ⟨[(2,ω 11)],[],.dead,[]⟩):CO 206 [.agg [.str e,ω u1,ω u2,.sl (gm l) l.length false]] (.ret (ω 11)):=pK [0,2,4] 3 0 (.c (aU z) (.k 4 d (.c (aK k) (.c (aK i) (.n 1 .nil))))) (.l j (.c m (.v 46 (.ppt f) (.l h .nil))))
theorem amf (e:List UInt8) (u1 u2:Int) (l:List Br) (j:(decide (((8:Nat):Int)<(l.length:Int)))=false) (m:((l.length:Int)==((0:Nat):Int))=false) (c:Br) (g:List AV) (f:ε 0 (gm l)=H9 c++g) (d:(decide (((0:Nat):Int)<(l.length:Int)))=true) (n:CO 141 [Ug c] (.ret (ω (jy c.fn c.fa c.fd)))) (z:((jy c.fn c.fa c.fd)==((0:Nat):Int))=true) (i:aG prog ap [] 96 (.block 0 (.loop (af 0 (ah f206)))) ⟨[(0,.agg [.str e,ω u1,ω u2,.sl (gm l) l.length false]),(1,.ptr 0 0 0),(2,ω 0),(3,.sl (gm l) l.length false),(4,ω 0),(5,.dead),(6,.dead),(7,.dead),(8,.dead),(9,.dead),(10,.dead),(11,.dead),(12,.dead),(17,.bool (decide (((8:Nat):Int)<(l.length:Int)))),(20,.bool ((l.length:Int)==((0:Nat):Int))),(24,.dead),(44,.dead),(51,.dead),(55,.dead),(71,.dead),(75,.dead),(95,.dead)],[(0,⟨[.str e,ω u1,ω u2,.sl (gm l) l.length false],0,false,0,0,true⟩)],.dead,[]⟩ (.normal) ⟨[(3,.sl (gm l) l.length false)],[],.dead,[]⟩) (k:aG prog ap [] 96 (.block 2 (.loop (af 2 (ah f206)))) ⟨[(0,.dead),(1,.dead),(2,.dead),(3,.sl (gm l) l.length false),(4,.dead),(5,.dead),(6,.dead),(7,ω (jy c.fn c.fa c.fd)),(8,ω 1),(9,.dead),(10,.dead),(11,.dead),(12,.dead),(17,.dead),(20,.dead),(24,.dead),(44,.dead),(51,.bool (!((jy c.fn c.fa c.fd)==((0:Nat):Int)))),(55,.dead),(71,.dead),(75,.dead),(95,.dead)],[],.dead,[]⟩ (.normal) ⟨[(3,.sl (gm l) l.length false)],[],.dead,[]⟩) (h:aG prog ap [] 96 (.block 4 (.loop (af 4 (ah f206)))) ⟨[(0,.dead),(1,.dead),(2,.dead),(3,.sl (gm l) l.length false),(4,.dead),(5,.dead),(6,.dead),(7,.dead),(8,.dead),(9,.dead),(10,ω 0),(11,.dead),(12,.dead),(17,.dead),(20,.dead),(24,.dead),(44,.dead),(51,.dead),(55,.dead),(71,.dead),(75,.dead),(95,.dead)],[],.dead,[]⟩ (.ret) ⟨[(2,ω 3)],[],.dead,[]⟩):CO 206 [.agg [.str e,ω u1,ω u2,.sl (gm l) l.length false]] (.ret (ω 3)):=pK [0,2,4] 3 0 (.c (aU z) (.k 4 d (.c (aK m) (.c (aK j) (.n 1 .nil))))) (.l h (.l k (.c n (.v 46 (.ppt f) (.l i .nil)))))
theorem amh (e:List UInt8) (u1 u2:Int) (l:List Br) (j:(decide (((8:Nat):Int)<(l.length:Int)))=false) (m:((l.length:Int)==((0:Nat):Int))=false) (c:Br) (g:List AV) (f:ε 0 (gm l)=H9 c++g) (d:(decide (((0:Nat):Int)<(l.length:Int)))=true) (n:CO 141 [Ug c] (.ret (ω (jy c.fn c.fa c.fd)))) (z:((jy c.fn c.fa c.fd)==((0:Nat):Int))=true) (i:aG prog ap [] 96 (.block 0 (.loop (af 0 (ah f206)))) ⟨[(0,.agg [.str e,ω u1,ω u2,.sl (gm l) l.length false]),(1,.ptr 0 0 0),(2,ω 0),(3,.sl (gm l) l.length false),(4,ω 0),(5,.dead),(6,.dead),(7,.dead),(8,.dead),(9,.dead),(10,.dead),(11,.dead),(12,.dead),(17,.bool (decide (((8:Nat):Int)<(l.length:Int)))),(20,.bool ((l.length:Int)==((0:Nat):Int))),(24,.dead),(44,.dead),(51,.dead),(55,.dead),(71,.dead),(75,.dead),(95,.dead)],[(0,⟨[.str e,ω u1,ω u2,.sl (gm l) l.length false],0,false,0,0,true⟩)],.dead,[]⟩ (.normal) ⟨[(3,.sl (gm l) l.length false)],[],.dead,[]⟩) (k:aG prog ap [] 96 (.block 2 (.loop (af 2 (ah f206)))) ⟨[(0,.dead),(1,.dead),(2,.dead),(3,.sl (gm l) l.length false),(4,.dead),(5,.dead),(6,.dead),(7,ω (jy c.fn c.fa c.fd)),(8,ω 1),(9,.dead),(10,.dead),(11,.dead),(12,.dead),(17,.dead),(20,.dead),(24,.dead),(44,.dead),(51,.bool (!((jy c.fn c.fa c.fd)==((0:Nat):Int)))),(55,.dead),(71,.dead),(75,.dead),(95,.dead)],[],.dead,[]⟩ (.normal) ⟨[(3,.sl (gm l) l.length false)],[],.dead,[]⟩) (h:aG prog ap [] 96 (.block 4 (.loop (af 4 (ah f206)))) ⟨[(0,.dead),(1,.dead),(2,.dead),(3,.sl (gm l) l.length false),(4,.dead),(5,.dead),(6,.dead),(7,.dead),(8,.dead),(9,.dead),(10,ω 0),(11,.dead),(12,.dead),(17,.dead),(20,.dead),(24,.dead),(44,.dead),(51,.dead),(55,.dead),(71,.dead),(75,.dead),(95,.dead)],[],.dead,[]⟩ (.normal) ⟨[(3,.sl (gm l) l.length false)],[],.dead,[]⟩):CO 206 [.agg [.str e,ω u1,ω u2,.sl (gm l) l.length false]] (.ret (ω 0)):=pK [0,2,4] 3 0 (.c (aU z) (.k 4 d (.c (aK m) (.c (aK j) (.n 1 .nil))))) (.l h (.l k (.c n (.v 46 (.ppt f) (.l i .nil)))))
theorem JM (cmp:Br→Br→Int):∀ (r:List Br) (y:Br),Gs cmp (some y) r=(r.all iK && BL cmp y r)
 | [],_=>rfl
 |x::r,y=>by
  simp only [Gs,Xxr,BL,iK,JM cmp r x];cases iE x.fn x.fa x.fd<;>cases iE x.rn x.ra x.rd<;>cases decide (((0:Nat):Int)≤cmp y x)<;>cases r.all iK<;>simp
theorem JL (cmp:Br→Br→Int) (x:Br) (r:List Br):Gs cmp none (x::r)=((x::r).all iK && ((jy x.fn x.fa x.fd==((0:Nat):Int)) && BL cmp x r)):=by
 simp only [Gs,Xxr,iK,JM cmp r x];cases iE x.fn x.fa x.fd<;>cases iE x.rn x.ra x.rd<;>cases (jy x.fn x.fa x.fd==((0:Nat):Int))<;>cases r.all iK<;>simp
theorem H5:∀ l:List Br,l.any FY= !(l.all wC)
 | []=>rfl
 |x::r=>by
  rw [Xvt,Xxr,H5 r];simp only [FY,wC];cases eQ x.fn x.fa x.fd<;>cases eQ x.rn x.ra x.rd<;>simp
theorem Oe (g:List UInt8) (u1 u2:Int) (l:List Br) (cmp:Br→Br→Int) (e:l.length<2^40) (i:∀ x ∈ l,x.sm) (y:xB 87 cmp l):CO 206 [.agg [.str g,ω u1,ω u2,.sl (gm l) l.length false]] (.ret (ω (O3 cmp l))):=by
 unfold O3;rcases tf (decide (((8:Nat):Int)<(l.length:Int))) with d0|d0
 ·rw [d0];exact pK [] 1 1 (.c (aN d0) (.n 1 .nil)) (.nil)
 ·rw [d0];rcases tf ((l.length:Int)==((0:Nat):Int)) with d1|d1
  ·rw [d1];exact pK [] 2 2 (.c (aN d1) (.c (aK d0) (.n 1 .nil))) (.nil)
  ·rw [d1];have q:l ≠ []:=by intro h;subst h;exact absurd d1 (by decide)
   obtain ⟨c,r,k⟩:=List.exists_cons_of_ne_nil q;have d:(decide (((0:Nat):Int)<(l.length:Int)))=true:=Yq0 (by rw [k];simp only [μ];omega);have f:ε 0 (gm l)=H9 c++gm r:=by rw [k];rfl
   have hs:=i c (by rw [k];simp);have o:CO 141 [Ug c] (.ret (ω (jy c.fn c.fa c.fd))):=zZ c.fn c.fa c.fd hs.1.1 hs.1.2;have w:Gs cmp none l=(l.all iK && ((jy c.fn c.fa c.fd==((0:Nat):Int)) && BL cmp c r)):=by rw [k];exact JL cmp c r
   have j:∀ nt,96≤nt→aA prog ap [] nt (af 0 (ah f206)) Er (Str g u1 u2 l) (afS l) 0 (l.all iK):=fun nt m=>ahK m g u1 u2 l e i l [] rfl
   have p:∀ nt,96≤nt→aA prog ap [] nt (af 4 (ah f206)) Ef (Stf l) (afR l) 0 (l.all wC):=fun nt m=>ahJ m l e i l [] rfl
   rw [w,H5];cases t:l.all iK with
   |false=>
    rw [t] at j;rw [Xjg];exact amd g u1 u2 l d0 d1 (aA.blk j (by simp [Er]) rfl (aH.of ⟨rfl,rfl,rfl,trivial⟩) (aH.of ⟨rfl,trivial⟩))
   | true=>
    have n:∀ nt,96≤nt→aA prog ap [] nt (af 2 (ah f206)) Ea (Sta l) (afQ l) 1 (BL cmp c r):=fun nt m=>ahI m l cmp e (List.all_eq_true.1 t) y r [] c (by rw [k];rfl)
    rw [t] at j;rw [Xx4];rcases tf ((jy c.fn c.fa c.fd)==((0:Nat):Int)) with z|z
    ·rw [z,Xx4];cases u:BL cmp c r with
     |false=>
      rw [u] at n;exact ame g u1 u2 l d0 d1 c _ f d o z (aA.blk j (by simp [Er]) rfl (aH.of ⟨rfl,rfl,rfl,trivial⟩) (aH.of ⟨rfl,trivial⟩)) (aA.blk n (by simp [Ea]) rfl (aH.of ⟨rfl,rfl,trivial⟩) (aH.of ⟨rfl,trivial⟩))
     | true=>
      rw [u] at n;cases v:l.all wC with
      |false=>
       rw [v] at p;exact amf g u1 u2 l d0 d1 c _ f d o z (aA.blk j (by simp [Er]) rfl (aH.of ⟨rfl,rfl,rfl,trivial⟩) (aH.of ⟨rfl,trivial⟩)) (aA.blk n (by simp [Ea]) rfl (aH.of ⟨rfl,rfl,trivial⟩) (aH.of ⟨rfl,trivial⟩)) (aA.blk p (by simp [Ef]) rfl (aH.of ⟨rfl,rfl,trivial⟩) (aH.of ⟨rfl,trivial⟩))
      |true=>
       rw [v] at p;exact amh g u1 u2 l d0 d1 c _ f d o z (aA.blk j (by simp [Er]) rfl (aH.of ⟨rfl,rfl,rfl,trivial⟩) (aH.of ⟨rfl,trivial⟩)) (aA.blk n (by simp [Ea]) rfl (aH.of ⟨rfl,rfl,trivial⟩) (aH.of ⟨rfl,trivial⟩)) (aA.blk p (by simp [Ef]) rfl (aH.of ⟨rfl,rfl,trivial⟩) (aH.of ⟨rfl,trivial⟩))
    ·rw [z,Xjg];exact amg g u1 u2 l d0 d1 c _ f d o z (aA.blk j (by simp [Er]) rfl (aH.of ⟨rfl,rfl,rfl,trivial⟩) (aH.of ⟨rfl,trivial⟩))
structure Lk where
 op:Int
 nm:List UInt8
 n:Bool
 a:List UInt8
 d:List UInt8
 e:Int
def VE (x:Lk):List AV:= [ω x.op,.str x.nm,.bool x.n,.str x.a,.str x.d,ω x.e]
def d_ (l:List Lk):List AV:=l.flatMap VE
abbrev I7 (ls:List Lk) (cs:List Sc) (nl ns:Bool) (a b c d:List AV):Hp:= [(0,⟨[.sl (d_ ls) ls.length nl,.sl (dV cs) cs.length ns],0,false,0,0,true⟩),(1,⟨[.mp [] [],.mp [] []],0,false,0,0,true⟩),(2,⟨[.mr 3 0,.mr 4 0],0,false,0,0,false⟩),(3,⟨[.agg a,.agg b],0,false,0,4611686018427387904,true⟩),(4,⟨[.agg c,.agg d],0,false,0,4611686018427387904,true⟩)]
theorem YL (c:Oq) (p k j e:Bool) (o g d:List UInt8) (ks vs f m:List AV) (i:lit true (!e)=true) (h:CO 128 [.agg [.bool c.n,.str c.a,.str c.d]] (.ret (.tup [.bool j,.bool e]))) (n:CO 41 [ω 13] (.ret (.agg [.bool false,.str [],.str [],ω 13]))):CO 78 [.agg [.mp ks vs,.mp f m],.agg [ω 20,.bool p,.str o,.str g,.str d],.sl [.bool c.n,.str c.a,.str c.d,ω c.e] 1 k] (.ret (.agg [.bool false,.str [],.str [],ω 13])):=pK [] 2 3 (.k 5 i (.n 11 .nil)) (.c n (.c h .nil))
theorem YM (c o:Oq) (q k f e:Bool) (p h d:List UInt8) (ks vs g m:List AV) (j:lit false (!e)=true) (i:CO 128 [.agg [.bool c.n,.str c.a,.str c.d]] (.ret (.tup [.bool f,.bool e]))) (n:CO 126 [.bool (!f)] (.ret (dZ o))):CO 78 [.agg [.mp ks vs,.mp g m],.agg [ω 20,.bool q,.str p,.str h,.str d],.sl [.bool c.n,.str c.a,.str c.d,ω c.e] 1 k] (.ret (dZ o)):=pK [] 2 1 (.k 5 j (.n 11 .nil)) (.c n (.c i .nil))
theorem YN (c o:Oq) (q e:RQ) (h:Bool) (d:List UInt8) (ks vs f i:List AV) (g:CO 131 [.agg [.bool c.n,.str c.a,.str c.d],qA e] (.ret (.tup [qA q,.bool true]))) (j:CO 124 [qA q] (.ret (dZ o))):CO 78 [.agg [.mp ks vs,.mp f i],.agg [ω 21,.bool e.neg,.str (ae e.n),.str (ae e.d),.str d],.sl [.bool c.n,.str c.a,.str c.d,ω c.e] 1 h] (.ret (dZ o)):=pK [] 3 4 (.n 25 .nil) (.c j (.c g .nil))
theorem YO (c o:Oq) (q e:RQ) (h:Bool) (d:List UInt8) (ks vs f i:List AV) (g:CO 132 [.agg [.bool c.n,.str c.a,.str c.d],qA e] (.ret (.tup [qA q,.bool true]))) (j:CO 124 [qA q] (.ret (dZ o))):CO 78 [.agg [.mp ks vs,.mp f i],.agg [ω 22,.bool e.neg,.str (ae e.n),.str (ae e.d),.str d],.sl [.bool c.n,.str c.a,.str c.d,ω c.e] 1 h] (.ret (dZ o)):=pK [] 4 8 (.n 26 .nil) (.c j (.c g .nil))
theorem YP (c o:Oq) (q e:RQ) (h:Bool) (d:List UInt8) (ks vs f i:List AV) (g:CO 129 [.agg [.bool c.n,.str c.a,.str c.d],qA e] (.ret (.tup [qA q,.bool true]))) (j:CO 124 [qA q] (.ret (dZ o))):CO 78 [.agg [.mp ks vs,.mp f i],.agg [ω 23,.bool e.neg,.str (ae e.n),.str (ae e.d),.str d],.sl [.bool c.n,.str c.a,.str c.d,ω c.e] 1 h] (.ret (dZ o)):=pK [] 4 0 (.n 26 .nil) (.c j (.c g .nil))
theorem YQ (e:Oq) (p t g:Bool) (j k c r:List UInt8) (u1 u2:Int) (ks vs d f q:List AV) (n:Nat) (h:aT (.tup [(Xz0 (dK d f (.str c)) (.agg [.str [],ω 0,ω 0,.nilS])),.bool (Xj3 (dK d f (.str c)))]) (.tup [.agg [.str r,ω u1,ω u2,.sl q n false],.bool g])) (o:lit true (!g)=true) (m:(Xzu d (PK 9))=true) (i:CO 41 [ω 12] (.ret (.agg [.bool false,.str [],.str [],ω 12]))):CO 78 [.agg [.mp ks vs,.mp d f],.agg [ω 24,.bool p,.str j,.str k,.str c],.sl [.bool e.n,.str e.a,.str e.d,ω e.e] 1 t] (.ret (.agg [.bool false,.str [],.str [],ω 12])):=pK [] 3 6 (.k 5 o (.k 2 m (.n 11 .nil))) (.c i (.v 43 h .nil))
theorem YR (d o:Oq) (t u i:Bool) (n p c j:List UInt8) (u1 u2:Int) (ks vs e f h:List AV) (g:Nat) (k:aT (.tup [(Xz0 (dK e f (.str c)) (.agg [.str [],ω 0,ω 0,.nilS])),.bool (Xj3 (dK e f (.str c)))]) (.tup [.agg [.str j,ω u1,ω u2,.sl h g false],.bool i])) (r:lit false (!i)=true) (q:(Xzu e (PK 9))=true) (m:CO 130 [.agg [.str j,ω u1,ω u2,.sl h g false],.agg [.bool d.n,.str d.a,.str d.d]] (.ret (.tup [.agg [.bool o.n,.str o.a,.str o.d],ω o.e]))):CO 78 [.agg [.mp ks vs,.mp e f],.agg [ω 24,.bool t,.str n,.str p,.str c],.sl [.bool d.n,.str d.a,.str d.d,ω d.e] 1 u] (.ret (dZ o)):=pK [] 3 2 (.k 16 r (.k 2 q (.n 11 .nil))) (.c m (.v 43 k .nil))
theorem agX (ks vs:List AV) (k:Nat) (ls:List Lk) (cs:List Sc) (x:Lk) (c e d:Bool) (n:List AV) (g t:Oq) {nt:Nat} (o:68≤nt) (u:(ε ((δ (k:Int))*6) (d_ ls))=VE x++n) (h:Yqf [(Xz0 (dK ks vs (.agg [ω x.op,.str x.nm])) (.agg [.bool false,.str [],.str [],ω 0])),.bool (Xj3 (dK ks vs (.agg [ω x.op,.str x.nm])))]=Yqf [dZ t,.bool d]) (m:ω (γ .i64 ((k:Int)+((1:Nat):Int)))=ω ((k+1:Nat):Int)) (f:(Xzu ks (PK 134))=true) (r:lit true (!d)=true) (j:(decide (((0:Nat):Int)≤(k:Int)))=true) (p:(decide ((k:Int)<(ls.length:Int)))=true) (q:lit true (decide ((k:Int)<(ls.length:Int)))=true) (i:CO 43 [.agg [.bool x.n,.str x.a,.str x.d,ω x.e]] (.ret (dZ g))):ψ nt f45 ⟨[(1,.ptr 0 0 0),(2,.ptr 1 0 0),(3,.ptr 2 0 0),(17,.sl (d_ ls) ls.length c),(18,ω (ls.length:Int)),(19,ω (k:Int))],(I7 ls cs c e ks vs [] []),.dead,[]⟩ (.normal) ⟨[(1,.ptr 0 0 0),(2,.ptr 1 0 0),(3,.ptr 2 0 0),(17,.sl (d_ ls) ls.length c),(18,ω (ls.length:Int)),(19,ω ((k+1:Nat):Int))],(I7 ls cs c e (xg ks (.agg [ω x.op,.str x.nm])) (oP ks vs (.agg [ω x.op,.str x.nm]) (dZ g)) [] []),.dead,[]⟩:=pN 45 [] 2 3 (.k 1 f (.k 7 r (.k 2 f (.k 13 j (.c p (.c q .nil)))))) (.v 43 (.eq m) (.c i (.v 32 (.eq h) (.v 21 (.ppt u) .nil)))) o
theorem agY (ks vs:List AV) (k:Nat) (ls:List Lk) (cs:List Sc) (x:Lk) (c e d:Bool) (i:List AV) (q:Oq) {nt:Nat} (j:68≤nt) (r:(ε ((δ (k:Int))*6) (d_ ls))=VE x++i) (f:Yqf [(Xz0 (dK ks vs (.agg [ω x.op,.str x.nm])) (.agg [.bool false,.str [],.str [],ω 0])),.bool (Xj3 (dK ks vs (.agg [ω x.op,.str x.nm])))]=Yqf [dZ q,.bool d]) (h:ω (γ .i64 ((k:Int)+((1:Nat):Int)))=ω ((k+1:Nat):Int)) (p:lit false (!d)=true) (o:(Xzu ks (PK 134))=true) (g:(decide (((0:Nat):Int)≤(k:Int)))=true) (m:(decide ((k:Int)<(ls.length:Int)))=true) (n:lit true (decide ((k:Int)<(ls.length:Int)))=true):ψ nt f45 ⟨[(1,.ptr 0 0 0),(2,.ptr 1 0 0),(3,.ptr 2 0 0),(17,.sl (d_ ls) ls.length c),(18,ω (ls.length:Int)),(19,ω (k:Int))],(I7 ls cs c e ks vs [] []),.dead,[]⟩ (.normal) ⟨[(1,.ptr 0 0 0),(2,.ptr 1 0 0),(3,.ptr 2 0 0),(17,.sl (d_ ls) ls.length c),(18,ω (ls.length:Int)),(19,ω ((k+1:Nat):Int))],(I7 ls cs c e ks vs [] []),.dead,[]⟩:=pN 45 [] 2 1 (.c p (.k 2 o (.k 13 g (.c m (.c n .nil))))) (.v 43 (.eq h) (.v 32 (.eq f) (.v 21 (.ppt r) .nil))) j
theorem agZ (ks vs:List AV) (k:Nat) (ls:List Lk) (cs:List Sc) (c d:Bool) {nt:Nat} (e:68≤nt) (f:lit false (decide ((k:Int)<(ls.length:Int)))=true):ψ nt f45 ⟨[(1,.ptr 0 0 0),(2,.ptr 1 0 0),(3,.ptr 2 0 0),(17,.sl (d_ ls) ls.length c),(18,ω (ls.length:Int)),(19,ω (k:Int))],(I7 ls cs c d ks vs [] []),.dead,[]⟩ (.exit 0) ⟨[(1,.ptr 0 0 0),(2,.ptr 1 0 0),(3,.ptr 2 0 0)],(I7 ls cs c d ks vs [] []),.dead,[]⟩:=pN 45 [] 1 0 (.c f .nil) (.nil) e
theorem ag0 (w:List UInt8) (u1 u2:Int) (ks vs d f v:List AV) (u k:Nat) (ls:List Lk) (cs:List Sc) (c:Sc) (h e g:Bool) (o:List AV) {nt:Nat} (p:68≤nt) (y:(ε ((δ (k:Int))*4) (dV cs))=MF c++o) (j:aT (.tup [(Xz0 (dK d f (.str c.name)) (.agg [.str [],ω 0,ω 0,.nilS])),.bool (Xj3 (dK d f (.str c.name)))]) (.tup [.agg [.str w,ω u1,ω u2,.sl v u false],.bool g])) (n:ω (γ .i64 ((k:Int)+((1:Nat):Int)))=ω ((k+1:Nat):Int)) (i:(Xzu d (PK 9))=true) (t:lit true (!g)=true) (m:(decide (((0:Nat):Int)≤(k:Int)))=true) (q:(decide ((k:Int)<(cs.length:Int)))=true) (r:lit true (decide ((k:Int)<(cs.length:Int)))=true):ak prog ap [] nt (af 2 (ah f45)) ⟨[(1,.ptr 0 0 0),(2,.ptr 1 0 0),(3,.ptr 2 0 0),(45,.sl (dV cs) cs.length e),(46,ω (cs.length:Int)),(47,ω (k:Int))],(I7 ls cs h e ks vs d f),.dead,[]⟩ (.normal) ⟨[(1,.ptr 0 0 0),(2,.ptr 1 0 0),(3,.ptr 2 0 0),(45,.sl (dV cs) cs.length e),(46,ω (cs.length:Int)),(47,ω ((k+1:Nat):Int))],(I7 ls cs h e ks vs (xg d (.str c.name)) (oP d f (.str c.name) (.agg [.str c.name,ω c.u1,ω c.u2,.sl c.bx c.bn false]))),.dead,[]⟩:=pN 45 [] 2 3 (.k 1 i (.k 6 t (.k 2 i (.k 7 m (.c q (.c r .nil)))))) (.v 66 (.eq n) (.v 56 j (.v 49 (.ppt y) .nil))) p
theorem ag1 (w:List UInt8) (u1 u2:Int) (ks vs d f v:List AV) (t k:Nat) (ls:List Lk) (cs:List Sc) (c:Sc) (h e g:Bool) (n:List AV) {nt:Nat} (o:68≤nt) (y:(ε ((δ (k:Int))*4) (dV cs))=MF c++n) (i:aT (.tup [(Xz0 (dK d f (.str c.name)) (.agg [.str [],ω 0,ω 0,.nilS])),.bool (Xj3 (dK d f (.str c.name)))]) (.tup [.agg [.str w,ω u1,ω u2,.sl v t false],.bool g])) (m:ω (γ .i64 ((k:Int)+((1:Nat):Int)))=ω ((k+1:Nat):Int)) (u:lit false (!g)=true) (r:(Xzu d (PK 9))=true) (j:(decide (((0:Nat):Int)≤(k:Int)))=true) (p:(decide ((k:Int)<(cs.length:Int)))=true) (q:lit true (decide ((k:Int)<(cs.length:Int)))=true):ak prog ap [] nt (af 2 (ah f45)) ⟨[(1,.ptr 0 0 0),(2,.ptr 1 0 0),(3,.ptr 2 0 0),(45,.sl (dV cs) cs.length e),(46,ω (cs.length:Int)),(47,ω (k:Int))],(I7 ls cs h e ks vs d f),.dead,[]⟩ (.normal) ⟨[(1,.ptr 0 0 0),(2,.ptr 1 0 0),(3,.ptr 2 0 0),(45,.sl (dV cs) cs.length e),(46,ω (cs.length:Int)),(47,ω ((k+1:Nat):Int))],(I7 ls cs h e ks vs d f),.dead,[]⟩:=pN 45 [] 2 1 (.c u (.k 2 r (.k 7 j (.c p (.c q .nil))))) (.v 66 (.eq m) (.v 56 i (.v 49 (.ppt y) .nil))) o
theorem ag2 (ks vs d e:List AV) (k:Nat) (ls:List Lk) (cs:List Sc) (f c:Bool) {nt:Nat} (g:68≤nt) (h:lit false (decide ((k:Int)<(cs.length:Int)))=true):ak prog ap [] nt (af 2 (ah f45)) ⟨[(1,.ptr 0 0 0),(2,.ptr 1 0 0),(3,.ptr 2 0 0),(45,.sl (dV cs) cs.length c),(46,ω (cs.length:Int)),(47,ω (k:Int))],(I7 ls cs f c ks vs d e),.dead,[]⟩ (.exit 2) ⟨[(1,.ptr 0 0 0),(2,.ptr 1 0 0),(3,.ptr 2 0 0)],(I7 ls cs f c ks vs d e),.dead,[]⟩:=pN 45 [] 1 0 (.c h .nil) (.nil) g
theorem ado (ks vs e f:List AV) (ls:List Lk) (cs:List Sc) (c d:Bool) (g:aG prog ap [] 68 (.block 0 (.loop (af 0 (ah f45)))) ⟨[(0,.agg [.sl (d_ ls) ls.length c,.sl (dV cs) cs.length d]),(1,.ptr 0 0 0),(2,.ptr 1 0 0),(3,.ptr 2 0 0),(5,.dead),(6,.dead),(8,.dead),(10,.dead),(12,.dead),(17,.sl (d_ ls) ls.length c),(18,ω (ls.length:Int)),(19,ω 0),(20,.dead),(36,.dead),(45,.dead),(46,.dead),(47,.dead),(48,.dead),(60,.dead)],(I7 ls cs c d [] [] [] []),.dead,[]⟩ (.normal) ⟨[(1,.ptr 0 0 0),(2,.ptr 1 0 0),(3,.ptr 2 0 0)],(I7 ls cs c d ks vs [] []),.dead,[]⟩) (h:aG prog ap [] 68 (.block 2 (.loop (af 2 (ah f45)))) ⟨[(0,.dead),(1,.ptr 0 0 0),(2,.ptr 1 0 0),(3,.ptr 2 0 0),(5,.dead),(6,.dead),(8,.dead),(10,.dead),(12,.dead),(17,.dead),(18,.dead),(19,.dead),(20,.dead),(36,.dead),(45,.sl (dV cs) cs.length d),(46,ω (cs.length:Int)),(47,ω 0),(48,.dead),(60,.dead)],(I7 ls cs c d ks vs [] []),.dead,[]⟩ (.normal) ⟨[(1,.ptr 0 0 0),(2,.ptr 1 0 0),(3,.ptr 2 0 0)],(I7 ls cs c d ks vs e f),.dead,[]⟩):CO 45 [.agg [.sl (d_ ls) ls.length c,.sl (dV cs) cs.length d]] (.ret (.agg [.mp ks vs,.mp e f])):=pK [0,2] 0 0 (.n 8 .nil) (.l h (.l g .nil))
theorem ade (o:Oq) (j g:Bool) (i f c:List UInt8) (d:Int) (ks vs e h:List AV) (m:lit true (decide (d≤((4:Nat):Int)))=true) (k:CO 75 [.agg [.mp ks vs,.mp e h],.agg [ω d,.bool j,.str i,.str f,.str c],.sl [] 0 g] (.ret (dZ o))):CO 46 [.agg [.mp ks vs,.mp e h],.agg [ω d,.bool j,.str i,.str f,.str c],.sl [] 0 g] (.ret (dZ o)):=pK [] 2 1 (.k 13 m (.n 3 .nil)) (.c k .nil)
theorem adf (o:Oq) (j g:Bool) (i f c:List UInt8) (d:Int) (ks vs e h:List AV) (n:lit true (decide (d≤((8:Nat):Int)))=true) (k:lit false (decide (d≤((4:Nat):Int)))=true) (m:CO 76 [.agg [.mp ks vs,.mp e h],.agg [ω d,.bool j,.str i,.str f,.str c],.sl [] 0 g] (.ret (dZ o))):CO 46 [.agg [.mp ks vs,.mp e h],.agg [ω d,.bool j,.str i,.str f,.str c],.sl [] 0 g] (.ret (dZ o)):=pK [] 3 2 (.k 13 n (.k 1 k (.n 3 .nil))) (.c m .nil)
theorem adg (c:Oq) (p k:Bool) (o g d:List UInt8) (e:Int) (ks vs f m:List AV) (j:lit true (!(c.e==((0:Nat):Int)))=true) (h:lit false (e==((15:Nat):Int))=true) (n:lit false (decide (e≤((8:Nat):Int)))=true) (i:lit false (decide (e≤((4:Nat):Int)))=true):CO 46 [.agg [.mp ks vs,.mp f m],.agg [ω e,.bool p,.str o,.str g,.str d],.sl [.bool c.n,.str c.a,.str c.d,ω c.e] 1 k] (.ret (dZ c)):=pK [] 6 56 (.k 9 j (.k 12 h (.k 1 n (.k 1 i (.n 3 .nil))))) (.nil)
theorem adh (c o:Oq) (k h:Bool) (j g d:List UInt8) (e:Int) (ks vs f i:List AV) (q:lit false (!(c.e==((0:Nat):Int)))=true) (m:lit false (e==((15:Nat):Int))=true) (r:lit false (decide (e≤((8:Nat):Int)))=true) (n:lit false (decide (e≤((4:Nat):Int)))=true) (p:CO 78 [.agg [.mp ks vs,.mp f i],.agg [ω e,.bool k,.str j,.str g,.str d],.sl [.bool c.n,.str c.a,.str c.d,ω c.e] 1 h] (.ret (dZ o))):CO 46 [.agg [.mp ks vs,.mp f i],.agg [ω e,.bool k,.str j,.str g,.str d],.sl [.bool c.n,.str c.a,.str c.d,ω c.e] 1 h] (.ret (dZ o)):=pK [] 7 24 (.k 11 q (.k 12 m (.k 1 r (.k 1 n (.n 3 .nil))))) (.c p .nil)
theorem adi (c f:Oq) (q m:Bool) (p h d:List UInt8) (e:Int) (ks vs g n:List AV) (k:lit true (!(c.e==((0:Nat):Int)))=true) (i:lit false (e==((15:Nat):Int))=true) (o:lit false (decide (e≤((8:Nat):Int)))=true) (j:lit false (decide (e≤((4:Nat):Int)))=true):CO 46 [.agg [.mp ks vs,.mp g n],.agg [ω e,.bool q,.str p,.str h,.str d],.sl [.bool c.n,.str c.a,.str c.d,ω c.e,.bool f.n,.str f.a,.str f.d,ω f.e] 2 m] (.ret (dZ c)):=pK [] 6 48 (.k 9 k (.k 10 i (.k 1 o (.k 1 j (.n 3 .nil))))) (.nil)
theorem adk (d c:Oq) (r m:Bool) (q h e:List UInt8) (f:Int) (ks vs g n:List AV) (k:lit true (!(c.e==((0:Nat):Int)))=true) (i:lit false (!(d.e==((0:Nat):Int)))=true) (p:lit false (f==((15:Nat):Int))=true) (j:lit false (decide (f≤((8:Nat):Int)))=true) (o:lit false (decide (f≤((4:Nat):Int)))=true):CO 46 [.agg [.mp ks vs,.mp g n],.agg [ω f,.bool r,.str q,.str h,.str e],.sl [.bool d.n,.str d.a,.str d.d,ω d.e,.bool c.n,.str c.a,.str c.d,ω c.e] 2 m] (.ret (dZ c)):=pK [] 8 208 (.k 9 k (.k 9 i (.k 10 p (.k 1 j (.k 1 o (.n 3 .nil)))))) (.nil)
theorem adl (d c o:Oq) (k m:Bool) (h i e:List UInt8) (f:Int) (ks vs g j:List AV) (u:lit false (!(c.e==((0:Nat):Int)))=true) (t:lit false (!(d.e==((0:Nat):Int)))=true) (p:lit false (f==((15:Nat):Int))=true) (q:lit false (decide (f≤((8:Nat):Int)))=true) (r:lit false (decide (f≤((4:Nat):Int)))=true) (n:CO 74 [.agg [.mp ks vs,.mp g j],.agg [ω f,.bool k,.str h,.str i,.str e],.sl [.bool d.n,.str d.a,.str d.d,ω d.e,.bool c.n,.str c.a,.str c.d,ω c.e] 2 m] (.ret (dZ o))):CO 46 [.agg [.mp ks vs,.mp g j],.agg [ω f,.bool k,.str h,.str i,.str e],.sl [.bool d.n,.str d.a,.str d.d,ω d.e,.bool c.n,.str c.a,.str c.d,ω c.e] 2 m] (.ret (dZ o)):=pK [] 9 80 (.k 11 u (.k 9 t (.k 10 p (.k 1 q (.k 1 r (.n 3 .nil)))))) (.c n .nil)
theorem adm (e d c o:Oq) (n j:Bool) (m i f:List UInt8) (g:Int) (ks vs h k:List AV) (r:lit true (g==((15:Nat):Int))=true) (p:lit false (decide (g≤((8:Nat):Int)))=true) (t:lit false (decide (g≤((4:Nat):Int)))=true) (q:CO 77 [.agg [.mp ks vs,.mp h k],.agg [ω g,.bool n,.str m,.str i,.str f],.sl [.bool e.n,.str e.a,.str e.d,ω e.e,.bool d.n,.str d.a,.str d.d,ω d.e,.bool c.n,.str c.a,.str c.d,ω c.e] 3 j] (.ret (dZ o))):CO 46 [.agg [.mp ks vs,.mp h k],.agg [ω g,.bool n,.str m,.str i,.str f],.sl [.bool e.n,.str e.a,.str e.d,ω e.e,.bool d.n,.str d.a,.str d.d,ω d.e,.bool c.n,.str c.a,.str c.d,ω c.e] 3 j] (.ret (dZ o)):=pK [] 3 4 (.k 12 r (.k 1 p (.k 1 t (.n 3 .nil)))) (.c q .nil)
def FW (m:List AV × List AV) (k v:AV):List AV × List AV:=if (dK m.1 m.2 k).isSome then m else (xg m.1 k,oP m.1 m.2 k v)
theorem DV (k v q:AV):∀ (ks vs:List AV),ks.length=vs.length→dK (ks++ [k]) (vs++ [v]) q=(dK ks vs q).or (if wU q k then some v else none)
 | [],[],_=>by simp [dK];cases wU q k<;>rfl
 |a::ks,b::vs,h=>by
  simp only [List.cons_append,dK];cases wU q a with
  |true=>rfl
  |false=>exact DV k v q ks vs (by simpa using h)
 | [],_::_,h=>by simp at h
 |_::_,[],h=>by simp at h
theorem GL (q v:AV):∀ (ks vs:List AV),ks.length=vs.length→dK ks vs q=none→ks.any (wU q)=false∧oP ks vs q v=vs++ [v]
 | [],[],_,_=> ⟨rfl,rfl⟩
 | a::ks,b::vs,h,hf=>by
  simp only [dK] at hf;cases c:wU q a with
  |true=>rw [c] at hf;cases hf
  |false=>
   rw [c] at hf;obtain ⟨e,d⟩:=GL q v ks vs (by simpa using h) hf;exact ⟨by simp [c,e],by simp [oP,c,d]⟩
 | [],_::_,h,_=>by simp at h
 |_::_,[],h,_=>by simp at h
structure QO {α:Type} (kf vf:α→AV) (p:List α) (m:List AV × List AV):Prop where
 len:m.1.length=m.2.length
 find:∀ y,dK m.1 m.2 (kf y)=(p.find? fun x=>wU (kf y) (kf x)).map vf
 keys:∀ k ∈ m.1,∃ x,k=kf x
theorem QO.step {α:Type} {c vf:α→AV} (n:∀ x y,wU (c x) (c y)=true→c x=c y) {p:List α} {m:List AV × List AV} (h:QO c vf p m) (x:α):QO c vf (p++ [x]) (FW m (c x) (vf x)):=by
 unfold FW;cases hs:dK m.1 m.2 (c x) with
 | some v=>
  rw [if_pos (by rfl)];refine ⟨h.len,fun y=> ?_,h.keys⟩;rw [h.find y,Xkw];cases hp:p.find? (fun x=>wU (c y) (c x)) with
  |some z=>rfl
  | none=>
   have g:=h.find x;rw [hs] at g;cases f:wU (c y) (c x) with
   |false=>simp [f]
   |true=>
    rw [← n y x f,hp] at g;cases g
 | none=>
  obtain ⟨i,j⟩:=GL (c x) (vf x) m.1 m.2 h.len hs;have e:xg m.1 (c x)=m.1++ [c x]:=by unfold xg;rw [i]
  rw [if_neg (by simp),e,j];refine ⟨by simp [h.len],fun y=> ?_,fun k d=> ?_⟩
  ·rw [DV _ _ _ _ _ h.len,h.find y,Xkw];cases hp:p.find? (fun x=>wU (c y) (c x)) with
   |some z=>rfl
   |none=>cases f:wU (c y) (c x)<;>simp [f]
  ·rcases List.mem_append.1 d with d|d
   ·exact h.keys k d
   ·rw [Xze] at d;exact ⟨x,d⟩
def F7 {α:Type} (kf vf:α→AV) (p:List α):List AV × List AV:=p.foldl (fun m x=>FW m (kf x) (vf x)) ([],[])
theorem zM {α:Type} (c vf:α→AV) (p:List α) (x:α):F7 c vf (p++ [x])=FW (F7 c vf p) (c x) (vf x):=by unfold F7;rw [List.foldl_append];rfl
theorem Es {α:Type} {c vf:α→AV} (d:∀ x y,wU (c x) (c y)=true→c x=c y) (l:List α):QO c vf l (F7 c vf l):=by
 have key:∀ (r p:List α),QO c vf p (F7 c vf p)→QO c vf (p++r) (F7 c vf (p++r)):=by
  intro r
  induction r with
  |nil=>intro p h;simpa using h
  |cons x r ih=>
   intro p h;have e:=h.step d x;rw [← zM] at e;have:=ih (p++ [x]) e;simpa using this
 exact key l [] ⟨rfl,fun y=>rfl,fun k d=>by simp [F7] at d⟩
def TM (x:Lk):AV:= .agg [ω x.op,.str x.nm]
def lkV (x:Lk):Oq:=Ai x.n x.a x.d x.e
def zH (ls:List Lk):List AV × List AV:=F7 TM (fun x=>dZ (lkV x)) ls
theorem PN (x y:Lk) (h:wU (TM x) (TM y)=true):TM x=TM y:=by
 simp only [TM,wU,Iq,DT,Xjq,ο,beq_iff_eq] at h;unfold TM;rw [h.1,h.2]
def WY (c:Sc):AV:= .str c.name
def CG (cs:List Sc):List AV × List AV:=F7 WY (fun c=> .agg (MF c)) cs
theorem Qr (x y:Sc) (h:wU (WY x) (WY y)=true):WY x=WY y:=by
 simp only [WY,wU,beq_iff_eq] at h;unfold WY;rw [h]
def PP (ls:List Lk) (op:Int) (nm:List UInt8):Option Oq:=(ls.find? fun y=>(op==y.op) && (nm==y.nm)).map lkV
def scO (cs:List Sc) (nm:List UInt8):Option Sc:=cs.find? fun c=>nm==c.name
theorem KG (ls:List Lk) (c:Int) (d:List UInt8):dK (zH ls).1 (zH ls).2 (.agg [ω c,.str d])=(PP ls c d).map (fun o=>dZ o):=by
 have h:=(Es (vf:=fun x=>dZ (lkV x)) PN ls).find ⟨c,d,false,[],[],0⟩;unfold zH PP;rw [Option.map_map];refine h.trans ?_;congr 1;congr 1;funext y;simp [TM,wU,Iq,DT]
theorem LD (cs:List Sc) (d:List UInt8):dK (CG cs).1 (CG cs).2 (.str d)=(scO cs d).map (fun c=> .agg (MF c)):=by
 have h:=(Es (vf:=fun c=>AV.agg (MF c)) Qr cs).find ⟨d,0,0,[],0⟩;exact h
theorem abz {α:Type} {c vf:α→AV} (e:∀ x y,wU (c x) (c y)=true→c x=c y) (t:Nat) (f:∀ x,PK t (c x)=true) (l:List α):Xzu (F7 c vf l).1 (PK t)=true:=by
 rw [List.all_eq_true];intro k d;obtain ⟨x,rfl⟩:=(Es (vf:=vf) e l).keys k d;exact f x
theorem adY (x:Lk):PK 134 (TM x)=true:=by kernel_rfl
theorem adZ (c:Sc):PK 9 (WY c)=true:=by kernel_rfl
theorem Cj (ls:List Lk):Xzu (zH ls).1 (PK 134)=true:=abz PN 134 adY ls
theorem CJ (cs:List Sc):Xzu (CG cs).1 (PK 9)=true:=abz Qr 9 adZ cs
def zO:Oq:= .val ⟨false,0,0⟩
theorem amC:dZ zO= .agg [.bool false,.str [],.str [],ω 0]:=by
 show AV.agg [.bool false,.str (ae 0),.str (ae 0),ω 0]=_;rw [di]
theorem abU (ls:List Lk) (c:Int) (d:List UInt8):Yqf [(Xz0 (dK (zH ls).1 (zH ls).2 (.agg [ω c,.str d])) (.agg [.bool false,.str [],.str [],ω 0])),.bool (Xj3 (dK (zH ls).1 (zH ls).2 (.agg [ω c,.str d])))]=Yqf [dZ ((PP ls c d).getD zO),.bool (PP ls c d).isSome]:=by
 rw [KG];cases PP ls c d with
 |none=>simp only [Option.map_none,Option.getD_none,Option.isSome_none];rw [amC]
 |some x=>rfl
theorem KH {l:List Lk} {k:Nat} (h:k<l.length):ε (δ (k:Int)*6) (d_ l)=VE l[k]++d_ (l.drop (k+1)):=by
 rw [aC];exact yj VE 6 (fun _=>rfl) h
theorem aT.tupL {l r:List AV} (h:gZ l r):aT (.tup l) (.tup r):=by
 intro g m S v c;simp only [VR] at c ⊢;obtain ⟨vs,e,c⟩:=c;exact ⟨vs,e,h g m S vs c⟩
theorem aT.zsc:aT (.tup [.agg [.str [],ω 0,ω 0,.nilS],.bool false]) (.tup [.agg [.str [],ω 0,ω 0,.sl [] 0 false],.bool false]):=
 aT.tupL (gZ.cons (aT.agg (gZ.cons (aT.refl _) (gZ.cons (aT.refl _) (gZ.cons (aT.refl _) (gZ.cons (aT.nilS false rfl) (gZ.refl _)))))) (gZ.refl _))
abbrev alX (ls:List Lk) (cs:List Sc) (nl ns:Bool) (p:Nat × (List AV × List AV)):St:=⟨[(1,.ptr 0 0 0),(2,.ptr 1 0 0),(3,.ptr 2 0 0),(17,.sl (d_ ls) ls.length nl),(18,ω (ls.length:Int)),(19,ω (p.1:Int))],I7 ls cs nl ns p.2.1 p.2.2 [] [],.dead,[]⟩
abbrev opO (ls:List Lk) (cs:List Sc) (nl ns:Bool) (a b:List AV × List AV):St:=⟨[(1,.ptr 0 0 0),(2,.ptr 1 0 0),(3,.ptr 2 0 0)],I7 ls cs nl ns a.1 a.2 b.1 b.2,.dead,[]⟩
abbrev alY (ls:List Lk) (cs:List Sc) (nl ns:Bool) (a:List AV × List AV) (p:Nat × (List AV × List AV)):St:=⟨[(1,.ptr 0 0 0),(2,.ptr 1 0 0),(3,.ptr 2 0 0),(45,.sl (dV cs) cs.length ns),(46,ω (cs.length:Int)),(47,ω (p.1:Int))],I7 ls cs nl ns a.1 a.2 p.2.1 p.2.2,.dead,[]⟩
theorem Ua {m:List AV × List AV} {k v:AV} (h:(dK m.1 m.2 k).isSome=true):FW m k v=m:=by unfold FW;rw [if_pos h]
theorem T_ {m:List AV × List AV} {k v:AV} (h:(dK m.1 m.2 k).isSome=false):FW m k v=(xg m.1 k,oP m.1 m.2 k v):=by unfold FW;rw [if_neg (by rw [h];simp)]
theorem ZJ {nt:Nat} (n:68≤nt) (ls:List Lk) (cs:List Sc) (f d:Bool) (v:ls.length<2^60) (hs:∀ x ∈ ls,x.a.length<2^36∧x.d.length<2^36):∀ (r p:List Lk),ls=p++r→
  aA prog ap [] nt (af 0 (ah f45)) (fun _=> .exit 0) (alX ls cs f d) (fun q:List AV × List AV=>opO ls cs f d q ([],[])) (p.length,zH p) (zH ls):=by
 intro r
 induction r with
 |nil=>
  intro p hp;rw [Θ] at hp;subst hp;exact .done (agZ _ _ _ ls cs f d n (aK (Yq1 (by omega))))
 | cons x r ih=>
  intro p hp;have m:p.length<ls.length:=by rw [hp];simp
  have o:=KH m;rw [show ls[p.length]=x by subst hp;simp] at o;have c:=ih (p++ [x]) (by rw [hp];simp);rw [θ,σ] at c;have e:zH (p++ [x])=FW (zH p) (TM x) (dZ (lkV x)):=zM _ _ p x;rw [e] at c;have j:=abU p x.op x.nm;have h:=congrArg Xj3 (KG p x.op x.nm);rw [Option.isSome_map] at h;have u:decide (((0:Nat):Int)≤(p.length:Int))=true:=Yq0 (by omega);have i:decide ((p.length:Int)<(ls.length:Int))=true:=Yq0 (by omega);have g:=hs x (by rw [hp];simp);cases t:(PP p x.op x.nm).isSome with
  |true=>
   rw [t] at j h;rw [Ua (k:=TM x) h] at c;exact .next (agY _ _ p.length ls cs x f d true _ _ n o j (BR (by omega)) rfl (Cj p) u i (aN i)) c
  |false=>
   rw [t] at j h;rw [T_ (k:=TM x) h] at c;exact .next (agX _ _ p.length ls cs x f d false _ (lkV x) _ n o j (BR (by omega)) (Cj p) rfl u i (aN i) (vM x.n x.a x.d x.e g.1 g.2)) c
theorem ZL {nt:Nat} (m:68≤nt) (ls:List Lk) (cs:List Sc) (h g:Bool) (a:List AV × List AV) (u:cs.length<2^60):∀ (r p:List Sc),cs=p++r→
  aA prog ap [] nt (af 2 (ah f45)) (fun _=> .exit 2) (alY ls cs h g a) (fun q:List AV × List AV=>opO ls cs h g a q) (p.length,CG p) (CG cs):=by
 intro r
 induction r with
 |nil=>
  intro p hp;rw [Θ] at hp;subst hp;exact .done (ag2 _ _ _ _ _ ls cs h g m (aK (Yq1 (by omega))))
 | cons x r ih=>
  intro p hp;have j:p.length<cs.length:=by rw [hp];simp
  have n:=LG j;rw [show cs[p.length]=x by subst hp;simp] at n;have d:=ih (p++ [x]) (by rw [hp];simp);rw [θ,σ] at d;have e:CG (p++ [x])=FW (CG p) (WY x) (.agg (MF x)):=zM _ _ p x;rw [e] at d;have f:=LD p x.name;have t:decide (((0:Nat):Int)≤(p.length:Int))=true:=Yq0 (by omega);have i:decide ((p.length:Int)<(cs.length:Int))=true:=Yq0 (by omega);cases o:scO p x.name with
  |some c=>
   rw [o] at f;rw [Ua (k:=WY x) (show (dK (CG p).1 (CG p).2 (.str x.name)).isSome=true by rw [f];rfl)] at d;exact .next (ag1 _ _ _ a.1 a.2 _ _ _ _ p.length ls cs x h g true _ m n (by rw [f];exact aT.refl _) (BR (by omega)) rfl (CJ p) t i (aN i)) d
  |none=>
   rw [o] at f;rw [T_ (k:=WY x) (show (dK (CG p).1 (CG p).2 (.str x.name)).isSome=false by rw [f];rfl)] at d;exact .next (ag0 [] 0 0 a.1 a.2 _ _ [] 0 p.length ls cs x h g false _ m n (by rw [f];exact aT.zsc) (BR (by omega)) (CJ p) rfl t i (aN i)) d
theorem J9 (ls:List Lk) (cs:List Sc) (c d:Bool) (f:ls.length<2^60) (g:cs.length<2^60) (hs:∀ x ∈ ls,x.a.length<2^36∧x.d.length<2^36):CO 45 [.agg [.sl (d_ ls) ls.length c,.sl (dV cs) cs.length d]] (.ret (.agg [.mp (zH ls).1 (zH ls).2,.mp (CG cs).1 (CG cs).2])):=
 ado _ _ _ _ ls cs c d
  (aA.blk (id:=0) (e':= .normal) (s:=⟨_,_,_,_⟩) (s':=opO ls cs c d (zH ls) ([],[])) (fun nt e=>ZJ e ls cs c d f hs ls [] rfl) (by simp) rfl (aH.of ⟨rfl,rfl,rfl,rfl,rfl,rfl,trivial⟩) (aH.refl _))
  (aA.blk (id:=2) (e':= .normal) (s:=⟨_,_,_,_⟩) (s':=opO ls cs c d (zH ls) (CG cs)) (fun nt e=>ZL e ls cs c d (zH ls) g cs [] rfl) (by simp) rfl (aH.of ⟨rfl,rfl,rfl,rfl,rfl,rfl,trivial⟩) (aH.refl _))
structure Sq where
 nm:List UInt8
 u1:Int
 u2:Int
 l:List Br
def Sq.c (q:Sq):Sc:=⟨q.nm,q.u1,q.u2,gm q.l,q.l.length⟩
theorem kX {c:List Nd} (h:c.all (fun x=>Xqm (x.num.length+1) 8589934592 && Xqm (x.den.length+1) 8589934592)=true):∀ x ∈ c,x.sm:=by
 intro x d;have:=List.all_eq_true.1 h x d;rw [ο] at this;exact ⟨Xzb this.1,Xzb this.2⟩
def Br.s28 (x:Br):Prop:=(x.fa.length<2^28∧x.fd.length<2^28)∧(x.ra.length<2^28∧x.rd.length<2^28)
theorem Br.s28.sm {x:Br} (h:x.s28):x.sm:=⟨⟨Xxa h.1.1 (by decide),Xxa h.1.2 (by decide)⟩,Xxa h.2.1 (by decide),Xxa h.2.2 (by decide)⟩
def t_ (y x:Br):Int:=iy (vQ y.fn y.fa y.fd) (vQ x.fn x.fa x.fd)
def Ud (x:Br):RQ × RQ:=(vQ x.fn x.fa x.fd,vQ x.rn x.ra x.rd)
def MC (l:List Br) (x:RQ):Oq:=if O3 t_ l=0 then XF (l.map Ud) x else .err (O3 t_ l)
theorem Yd {l:List Br} (h:∀ x ∈ l,x.s28):xB 127 t_ l:=fun i y x d c _ _=>
 E_ y.fn x.fn y.fa y.fd x.fa x.fd (h y (Xqh d)).1.1 (h y (Xqh d)).1.2 (h x (Xqh c)).1.1 (h x (Xqh c)).1.2
theorem sW {n:Bool} {a d:List UInt8} (h:iE n a d=true):vQ n a d=⟨n,ag a,ag d⟩:=by unfold vQ;rw [if_pos h]
theorem acO {x:Br} (h:iK x=true):Dl (Ud x)=H9 x:=by
 simp only [iK,ο] at h;unfold Dl Ud H9;simp only [sW h.1,sW h.2];rw [(iR h.1).1,(iR h.1).2,(iR h.2).1,(iR h.2).2]
theorem Uf:∀ {l:List Br},l.all iK=true→oN (l.map Ud)=gm l
 | [],_=>rfl
 |x::l,h=>by
  simp only [Xxr,ο] at h;show Dl (Ud x)++oN (l.map Ud)=H9 x++gm l;rw [acO h.1,Uf h.2]
theorem JI:∀ (l:List Br) (y:Br),BL t_ y l=true→sQ ((y::l).map Ud)
 | [],_,_=>True.intro
 | x::l,y,h=>by
  unfold BL at h;cases hd:decide (((0:Nat):Int)≤t_ y x) with
  |true=>rw [hd] at h;cases h
  |false=>
   rw [hd] at h;have c:t_ y x<0:=by have:=of_decide_eq_false hd;omega
   exact ⟨(jm (jl _ _ _) (jl _ _ _)).1.1 c,JI l x h⟩
theorem Ur {l:List Br} (h:O3 t_ l=0):TW (l.map Ud)∧oN (l.map Ud)=gm l:=by
 unfold O3 at h;cases e:decide (((8:Nat):Int)<(l.length:Int)) with
 |true=>rw [e] at h;cases h
 | false=>
  rw [e] at h;have k:l.length≤8:=by have:=of_decide_eq_false e;omega
  cases l with
  |nil=>cases h
  | cons x r=>
   rw [show ((((x::r).length:Nat):Int)==((0:Nat):Int))=false from beq_eq_false_iff_ne.2 (by simp only [μ];omega),JL] at h;cases f:(x::r).all iK with
   |false=>rw [f] at h;cases h
   | true=>
    rw [f] at h;cases hs:(jy x.fn x.fa x.fd==((0:Nat):Int)) && BL t_ x r with
    |false=>rw [hs] at h;cases h
    | true=>
     rw [hs] at h;simp only [ο] at hs;cases d:(x::r).any FY with
     |true=>rw [d] at h;cases h
     | false=>
      rw [H5] at d;have n:(x::r).all wC=true:=by simpa using d
      refine ⟨⟨by simpa using k,by simp,fun b c=> ?_,fun b c=> ?_,JI r x hs.2⟩,Uf f⟩
      ·obtain ⟨y,_,rfl⟩:=List.mem_map.1 c;exact ⟨jl _ _ _,jl _ _ _⟩
      ·obtain ⟨y,m,rfl⟩:=List.mem_map.1 c;have:=List.all_eq_true.1 n y m;simp only [wC,ο] at this;obtain ⟨o,g⟩:=nY this.1;obtain ⟨i,j⟩:=nY this.2;exact ⟨by show iG (vQ _ _ _)=true;rw [sW o];exact g,by show iG (vQ _ _ _)=true;rw [sW i];exact j⟩
theorem acI {l:List (RQ × RQ)} {x:RQ} (d:TW l) (j:x.ok):(XF l x).ok:=by
 unfold XF;split
 ·have:=nG false;exact this
 ·refine pW ?_;have i:=(xR x l).1;have h:=d.pos;have f:gz l x - 1<l.length:=by omega
  have c:gz l x - 1<(jb q0 l).length:=by rw [Fj l q0 d.pos];exact f
  have g:=Xxe f;have e:atR l x=gG (jb q0 l)[gz l x - 1] (iH l[gz l x - 1].2 (dU x l[gz l x - 1].1)):=by
   unfold atR;rw [π,π,ξ f,ξ c];rfl
  rw [e];exact eu (LV d _ (Xxe c)).1 (iI (d.ok _ g).2 (gU j (d.ok _ g).1))
theorem acH {l:List Br} {x:RQ} (c:x.ok):(MC l x).ok:=by
 unfold MC;split
 ·rename_i h;exact acI (Ur h).1 c
 ·assumption
theorem Yz (d:List UInt8) (u1 u2:Int) {l:List Br} (hs:∀ x ∈ l,x.s28) (j:l.length<2^40) {x:RQ} (f:x.ok) (k:iG x=true):
  CO 130 [.agg [.str d,ω u1,ω u2,.sl (gm l) l.length false],qA x] (.ret (.tup [.agg [.bool (MC l x).n,.str (MC l x).a,.str (MC l x).d],ω (MC l x).e])):=by
 have c:=Oo d u1 u2 l t_ j (fun x f=>(hs x f).sm) (Yd hs);unfold MC;by_cases h:O3 t_ l=0
 ·rw [if_pos h];rw [h] at c;obtain ⟨m,e⟩:=Ur h;have i:=ac1 d u1 u2 m f k;simp only [Jy,e,Xx0] at i;exact i c
 ·rw [if_neg h];have g:lit true (!(O3 t_ l==((0:Nat):Int)))=true:=by rw [show (O3 t_ l==((0:Nat):Int))=false from beq_eq_false_iff_ne.2 h];rfl
  exact ac4 x _ _ d u1 u2 _ g (ac0 x _ _ d u1 u2 _ g c)
structure fB where
 ls:List Lk
 qs:List Sq
def sqO (qs:List Sq) (nm:List UInt8):Option Sq:=qs.find? fun q=>nm==q.nm
theorem aaZ (qs:List Sq) (c:List UInt8):scO (qs.map Sq.c) c=(sqO qs c).map Sq.c:=by
 unfold scO sqO;rw [List.find?_map];rfl
abbrev afj (E:fB):AV:= .agg [.mp (zH E.ls).1 (zH E.ls).2,.mp (CG (E.qs.map Sq.c)).1 (CG (E.qs.map Sq.c)).2]
def Oy (qs:List Sq) (op:Int) (nm:List UInt8) (st:RQ) (a:Oq):Oq:=
 if op=20 then (if a.bit then FC (!a.one) else .err 13)
 else if op=24 then (match sqO qs nm with|none=> .err 12|some s=>MC s.l a.q)
 else if op=21 then mW (vV a.q st) else if op=22 then mW (XJ a.q st) else mW (XI a.q st)
def pI (E:fB) (x:Nd) (l:List Oq):Oq:=
 if x.op≤4 then Ai x.neg x.num x.den 0 else if x.op≤8 then (PP E.ls x.op x.name).getD (.err 12)
 else match l with
 | [a]=>if a.e=0 then Oy E.qs x.op x.name (vQ x.neg x.num x.den) a else a
 | [a,b]=>if a.e=0 then (if b.e=0 then KY x.op a b else b) else a
 | [a,b,c]=>QX a b c
 |_=> .err 11
def QA (x:Nd):Prop:=21≤x.op→x.op≤23→eQ x.neg x.num x.den=true∧0<jy x.neg x.num x.den
theorem zS {a s:RQ} (e:iG a=true) (d:iG s=true):h_ 10000 (XI a s)∧h_ 10000 (XJ a s)∧h_ 10000 (vV a s):=by
 have c:=Nk e d;have g:h_ 51 s:=aW d;have f:=xu c (g.mono (show 51≤208 by decide));refine ⟨?_, ?_,c.mono (by decide)⟩
 ·unfold XI;split
  ·exact f.mono (by decide)
  ·exact c.mono (by decide)
 ·unfold XJ;split
  ·exact h_.mono (L:=51) (aW e) (by decide)
  ·exact f.mono (by decide)
theorem Aw {a s:RQ} (c:a.ok) (hs:s.ok):(XJ a s).ok∧(XI a s).ok:=by
 constructor
 ·unfold XJ;split
  ·exact c
  ·exact eu (jd hs) hs
 ·unfold XI;split
  ·exact eu (jd hs) hs
  ·exact jd hs
theorem Nu (E:fB) (x:Nd) (G:Bool) (a:Oq) (p:20≤x.op∧x.op≤24) (j:QA x) (D:a.ok) (C:a.e=0) (u:∀ s ∈ E.qs,s.l.length<2^40∧∀ b ∈ s.l,b.s28):
  CO 78 [afj E,.agg (rU x),.sl (zU a) 1 G] (.ret (dZ (Oy E.qs x.op x.name (vQ x.neg x.num x.den) a))):=by
 obtain ⟨q,rfl,g,f⟩:=yV D C;obtain ⟨d,y,t,w,m⟩:=x;unfold Oy;simp only at p j ⊢;have step:21≤d→d≤23→∃ c:RQ,vQ y t w=c∧c.ok∧iG c=true∧0<iQ c∧t=ae c.n∧w=ae c.d∧y=c.neg:=by
  intro k n;obtain ⟨F,B⟩:=j k n;obtain ⟨h,H⟩:=nY F;refine ⟨_,rfl,jl _ _ _,by rw [sW h];exact H,by rw [← Fg];exact B, ?_, ?_, ?_⟩
  ·rw [sW h];exact (iR h).1.symm
  ·rw [sW h];exact (iR h).2.symm
  ·rw [sW h]
 have o:∀ {r:RQ},h_ 10000 r→r.ok→CO 124 [qA r] (.ret (dZ (mW r))):=fun k n=>qM n (φ k.1 (by decide)) (φ k.2 (by decide))
 have A:d=20∨d=21∨d=22∨d=23∨d=24:=by omega
 rcases A with rfl|rfl|rfl|rfl|rfl
 ·rw [if_pos rfl];have z:=nI (.val q);generalize Oq.bit (.val q)=w2 at*
  generalize Oq.one (.val q)=w1 at*
  cases w2 with
  |false=>exact YL (.val q) _ _ _ _ _ _ _ _ _ _ _ rfl z (iZ 13)
  |true=>exact YM (.val q) _ _ _ _ _ _ _ _ _ _ _ _ rfl z (lF _)
 ·obtain ⟨c,e,k1,k2,k3,rfl,rfl,rfl⟩:=step (by decide) (by decide);rw [e,if_neg (by decide),if_neg (by decide),if_pos rfl];exact YN (.val q) _ _ c _ _ _ _ _ _ (DL g f k1 k2 k3) (o (zS f k2).2.2 (jd k1))
 ·obtain ⟨c,e,k1,k2,k3,rfl,rfl,rfl⟩:=step (by decide) (by decide);rw [e,if_neg (by decide),if_neg (by decide),if_neg (by decide),if_pos rfl];exact YO (.val q) _ _ c _ _ _ _ _ _ (adE g f k1 k2 k3) (o (zS f k2).2.1 (Aw g k1).1)
 ·obtain ⟨c,e,k1,k2,k3,rfl,rfl,rfl⟩:=step (by decide) (by decide);rw [e,if_neg (by decide),if_neg (by decide),if_neg (by decide),if_neg (by decide)];exact YP (.val q) _ _ c _ _ _ _ _ _ (UO g f k1 k2 k3) (o (zS f k2).1 (Aw g k1).2)
 ·rw [if_neg (by decide),if_pos rfl];have i:=LD (E.qs.map Sq.c) m;rw [aaZ] at i;cases hs:sqO E.qs m with
  |none=>
   rw [hs] at i;exact YQ (.val q) _ _ false _ _ m [] 0 0 _ _ _ _ [] 0 (by rw [i];exact aT.zsc) rfl (CJ _) (iZ 12)
  |some s=>
   rw [hs] at i;have v:=List.mem_of_find?_eq_some hs;exact YR (.val q) _ _ _ true _ _ m s.nm s.u1 s.u2 _ _ _ _ (gm s.l) s.l.length (by rw [i];exact aT.refl _) rfl (CJ _) (Yz s.nm s.u1 s.u2 (u s v).2 (u s v).1 g f)
def gJ (l:List Oq):List AV:=l.flatMap zU
theorem J8 (E:fB) (x:Nd) (j:Bool) (l:List Oq) (A:1≤x.op) (r:x.op≤24) (t:QA x) (m:l.length=dP x.op) (w:∀ o ∈ l,o.ok) (q:x.sm) (C:∀ s ∈ E.qs,s.l.length<2^40∧∀ b ∈ s.l,b.s28):
  CO 46 [afj E,.agg (rU x),.sl (gJ l) l.length j] (.ret (dZ (pI E x l))):=by
 obtain ⟨d,g,f,i,e⟩:=x;unfold pI;simp only at A r t m ⊢;have k:∀ {p:Prop} [Decidable p],¬ p→lit false (decide p)=true:=fun h=>aK (Yq1 h)
 have zT:∀ o:Oq,o.e=0→lit false (!(o.e==((0:Nat):Int)))=true:=fun o h=>by rw [h];rfl
 have y:∀ o:Oq,¬ o.e=0→lit true (!(o.e==((0:Nat):Int)))=true:=fun o h=>by rw [show (o.e==((0:Nat):Int))=false from beq_eq_false_iff_ne.2 h];rfl
 by_cases h4:d≤4
 ·rw [if_pos h4];have:dP d=0:=by unfold dP;rw [if_neg (by omega),if_neg (by omega),if_neg (by omega)]
  rw [this,Xvu] at m;subst m;exact ade _ g j f i e d _ _ _ _ (aN (Yq0 h4)) (ada g j f i e d _ _ _ _ _ [] 0 (Kq g f i (Xxa q.1 (by decide)) (Xxa q.2 (by decide))))
 ·rw [if_neg h4];by_cases h8:d≤8
  ·rw [if_pos h8];have:dP d=0:=by unfold dP;rw [if_neg (by omega),if_neg (by omega),if_neg (by omega)]
   rw [this,Xvu] at m;subst m;refine adf _ g j f i e d _ _ _ _ (aN (Yq0 h8)) (k h4) ?_;have v:=abU E.ls d e;cases u:PP E.ls d e with
   |none=>
    rw [u] at v;exact adb g j false f i e d _ _ _ _ _ [] 0 v rfl (Cj _) (iZ 12)
   |some o=>
    rw [u] at v;exact adc g j true f i e d o _ _ _ _ [] 0 v rfl (Cj _)
  ·rw [if_neg h8];by_cases h15:d=15
   ·have:dP d=3:=by unfold dP;rw [if_pos h15]
    rw [this] at m
    match l,m with
    | [a,b,c],_=>
     exact adm a b c _ g j f i e d _ _ _ _ (aN (by rw [h15];rfl)) (k h8) (k h4) (Np d g j f i e _ _ _ _ a b c)
   ·have n:lit false (d==((15:Nat):Int))=true:=by rw [show (d==((15:Nat):Int))=false from beq_eq_false_iff_ne.2 h15];rfl
    by_cases h19:d≤19
    ·have:dP d=2:=by unfold dP;rw [if_neg (by omega),if_pos (by omega)]
     rw [this] at m
     match l,m with
     | [a,b],_=>
      have z:=w a (by simp);have B:=w b (by simp);simp only;by_cases za:a.e=0
      ·rw [if_pos za];by_cases zb:b.e=0
       ·rw [if_pos zb];exact adl a b _ g j f i e d _ _ _ _ (zT b zb) (zT a za) n (k h8) (k h4) (UT d g j f i e _ _ _ _ a b (by omega) z za B zb)
       ·rw [if_neg zb];exact adk a b g j f i e d _ _ _ _ (y b zb) (zT a za) n (k h8) (k h4)
      ·rw [if_neg za];exact adi a b g j f i e d _ _ _ _ (y a za) n (k h8) (k h4)
    ·have:dP d=1:=by unfold dP;rw [if_neg (by omega),if_neg (by omega),if_pos (by omega)]
     rw [this] at m
     match l,m with
     | [a],_=>
      have z:=w a (by simp);simp only;by_cases za:a.e=0
      ·rw [if_pos za];exact adh a _ g j f i e d _ _ _ _ (zT a za) n (k h8) (k h4) (Nu E ⟨d,g,f,i,e⟩ j a ⟨by show 20≤d;omega,r⟩ t z za C)
      ·rw [if_neg za];exact adg a g j f i e d _ _ _ _ (y a za) n (k h8) (k h4)
theorem Wi {g:Int} {a b:Oq} (f:a.ok) (e:b.ok) (j:a.e=0) (i:b.e=0):(KY g a b).ok:=by
 obtain ⟨q,rfl,c,k⟩:=yV f j;obtain ⟨r,rfl,d,m⟩:=yV e i;unfold KY
 repeat' split
 all_goals first|exact pW (eu c d)|exact pW (gU c d)|exact pW (iI c d)|exact (by decide:(13:Int) ≠ 0)|exact e|exact f|exact nG _|exact (by decide:(16:Int) ≠ 0)|(rename_i h;exact pW (pM c (Nat.pos_of_ne_zero h)))
theorem aa1 {qs:List Sq} {e:Int} {f:List UInt8} {d:RQ} {a:Oq} (ks:d.ok) (h:a.ok) (g:a.e=0):(Oy qs e f d a).ok:=by
 obtain ⟨q,rfl,c,i⟩:=yV h g;unfold Oy
 repeat' split
 all_goals first|exact nG _|exact (by decide:(13:Int) ≠ 0)|exact (by decide:(12:Int) ≠ 0)|exact acH c|exact pW (jd ks)|exact pW (Aw c ks).1|exact pW (Aw c ks).2
theorem ad4 {ls:List Lk} {c:Int} {d:List UInt8}:((PP ls c d).getD (.err 12)).ok:=by
 unfold PP;cases ls.find? _ with
 |none=>exact (by decide:(12:Int) ≠ 0)
 |some x=>exact vK _ _ _ _
theorem VQ {E:fB} {x:Nd} {l:List Oq} (d:∀ o ∈ l,o.ok):(pI E x l).ok:=by
 unfold pI;split
 ·exact vK _ _ _ _
 ·split
  ·exact ad4
  ·split
   ·rename_i a;split
    ·exact aa1 (jl _ _ _) (d a (by simp)) (by assumption)
    ·exact d a (by simp)
   ·rename_i a b;split
    ·split
     ·exact Wi (d a (by simp)) (d b (by simp)) (by assumption) (by assumption)
     ·exact d b (by simp)
    ·exact d a (by simp)
   ·rename_i a b c;unfold QX
    repeat' split
    all_goals first|exact (by decide:(13:Int) ≠ 0)|exact d _ (by simp)
   ·exact (by decide:(11:Int) ≠ 0)
structure Ty where
 tr:Bool
 m:Int
 d:Int
def akP (m d:Int):Bool:=decide (-3≤m∧m≤3∧ -3≤d∧d≤3)
def Oj (t:Ty):Bool:=cond t.tr ((t.m==0) && (t.d==0)) (akP t.m t.d)
structure Sg where
 op:Int
 name:List UInt8
 ty:Ty
def alF (s:Sg) (op:Int) (nm:List UInt8):Bool:=(s.op==op) && ((s.name==nm) && (iJ op && (Oj s.ty && (!(op==((24:Nat):Int))|| !s.ty.tr))))
def abM (l:List Sg) (op:Int) (nm:List UInt8):Option Ty:=(l.find? fun s=>alF s op nm).map (·.ty)
def zT:Ty:=⟨false,0,0⟩
theorem ahU (x y:Nat) (c:CO 134 [.str (ae x),ω 3] (.ret (.tup [ω (x:Int),.bool true]))) (e:CO 134 [.str (ae y),ω 4] (.ret (.tup [ω (y:Int),.bool true]))) (d:CO 79 [ω (γ .i64 ((x:Int)*(y:Int)))] (.ret (.str (ae (x*y))))):CO 100 [.str (ae x),.str (ae y)] (.ret (.str (ae (x*y)))):=pK [] 2 3 (.n 2 .nil) (.c d (.c e (.c c .nil)))
theorem jT {x:Nat} (h:x<16777216):(ae x).length≤7:=bU (by omega)
theorem ahT (x y:Nat) (f:x<65536) (g:y<65536):CO 100 [.str (ae x),.str (ae y)] (.ret (.str (ae (x*y)))):=by
 have i:=jT (x:=x) (by omega);have j:=jT (x:=y) (by omega);have c:=gQ (ae x) 3 (by omega) (by omega) (by rw [aB];omega);have d:=gQ (ae y) 4 (by omega) (by omega) (by rw [aB];omega);rw [aB] at c d;have h:x*y<65536*65536:=Xvx f g;have e:=kW (x*y) (by omega);refine ahU x y c d ?_;rw [← Int.natCast_mul,dn (by omega) (by omega)];exact e
theorem ai1 (c:Bool) (n k:Nat) (q:RQ) (f:lit false ((ae k)== [])=true) (e:CO 98 [Ω c (ae n) (ae 1)] (.ret (Ω c (ae n) (ae 1)))) (i:CO 98 [Ω false (ae k) (ae 1)] (.ret (Ω false (ae k) (ae 1)))) (g:CO 100 [.str (ae n),.str (ae 1)] (.ret (.str (ae (n*1))))) (d:CO 100 [.str (ae 1),.str (ae k)] (.ret (.str (ae (1*k))))) (h:CO 99 [.bool (!(c==false)),.str (ae (n*1)),.str (ae (1*k))] (.ret (.agg [.bool q.neg,.str (ae q.n),.str (ae q.d)]))):CO 60 [Ω c (ae n) (ae 1),Ω false (ae k) (ae 1)] (.ret (.tup [.agg [.bool q.neg,.str (ae q.n),.str (ae q.d)],.bool true])):=pK [] 1 0 (.k 10 f (.n 9 .nil)) (.c h (.c d (.c g (.c i (.c e .nil)))))
theorem PG {c:Bool} {n:Nat} (h:c=true→0<n):(⟨c,n,1⟩:RQ).ok:=⟨by simp,by simp,h⟩
theorem QJ {c:Bool} {n d:Nat} (h:(⟨c,n,d⟩:RQ).ok):vQ c (ae n) (ae d)=⟨c,n,d⟩:=by
 unfold vQ;rw [if_pos (wY ⟨c,n,d⟩ h),aB,aB]
theorem Zt {k:Nat} (h:0<k):ae k ≠ []:=by
 intro c;have:=aB k;rw [c] at this;simp [ag] at this;omega
theorem amc (c:Bool) (n k:Nat) (d:c=true→0<n) (o:n<65536) (p:0<k) (f:k<65536):CO 60 [qA ⟨c,n,1⟩,qA ⟨false,k,1⟩] (.ret (.tup [qA (jR c n k),.bool true])):=by
 have q:=jT (x:=n) (by omega);have r:=jT (x:=k) (by omega);have t:=jT (x:=1) (by omega);have v1:=iM c (ae n) (ae 1) (by omega) (by omega);have i:=iM false (ae k) (ae 1) (by omega) (by omega);rw [QJ (PG d)] at v1;rw [QJ (PG (by simp))] at i;have j:=ahT n 1 o (by omega);have m:=ahT 1 k (by omega) f;have u:(ae (n*1)).length≤7:=jT (by omega);have v:(ae (1*k)).length≤7:=jT (by omega);have g:=oz c (n*1) (1*k) (by omega) (by omega) (by omega);rw [χ,Xzy] at g;have e:(!(c==false))=c:=by cases c<;>rfl
 have h:=ai1 c n k (jR c n k) (by rw [show (ae k== [])=false by simpa using Zt p];rfl) v1 i j m;rw [e,χ,Xzy] at h;exact h g
theorem aar (x:Nat) (p:x<1000000):CO 48 [ω (-((x:Int)+1))] (.ret (Le true (x+1) 1)):=by
 have c:x<9223372036854775808:=by omega
 have k:=kW x c;have i:=kW 1 (by omega);have n:(ae x).length≤7:=bU (by omega);have o:(ae 1).length≤7:=bU (by omega);have e:=gQ (ae x) 7 (by omega) (by omega) (by rw [aB];omega);have g:=gQ (ae 1) 7 (by omega) (by omega) (by rw [aB];omega);rw [aB] at e g;have f:=afh (ae x) (ae 1) x 1 (x+1);rw [yX (by omega)] at f;have d:=f e g (kW (x+1) (by omega));have h:=aiE (-((x:Int)+1)) (x+1) x;have j:γ .i64 (-((x:Int)+1)+((1:Nat):Int))= -(x:Int):=by rw [dn]<;>omega
 have m:γ .i64 (0 - -(x:Int))=(x:Int):=by rw [dn]<;>omega
 rw [j,m] at h;exact h (by simp only [lit,Xqo];exact Yq1 (by omega)) k i d i
def KU (v:Int):RQ:=⟨decide (v<0),v.natAbs,1⟩
theorem N8 (v:Int) (h: -1000000≤v) (c:v≤1000000):CO 48 [ω v] (.ret (qA (KU v))):=by
 by_cases h0:0≤v
 ·obtain ⟨x,rfl⟩:∃ x:Nat,v=(x:Int):=⟨v.toNat,by omega⟩
  have:=ZQ x (by omega);unfold KU;rw [Yq1 (by omega),Xje];exact this
 ·obtain ⟨x,rfl⟩:∃ x:Nat,v= -((x:Int)+1):=⟨(-v - 1).toNat,by omega⟩
  have:=aar x (by omega);unfold KU;rw [Yq0 (by omega),show (-((x:Int)+1)).natAbs=x+1 by omega];exact this
def eqT (a b:Ty):Bool:=((a.tr==b.tr) && ((a.m==b.m) && ((a.d==b.d) && true)))
def F8 (ts:List Ty):Bool:=ts.all fun t=> !t.tr
def ab7:Nat→Ty→List Ty→Bool × Ty
 |1,_,[]=>(true,⟨false,1,0⟩)
 |2,_,[]=>(true,⟨false,0,1⟩)
 |3,_,[]=>(true,⟨false,0,0⟩)
 |4,_,[]=>(true,⟨true,0,0⟩)
 |5,sg,[]=>(true,sg)
 |6,sg,[]=>(true,sg)
 |7,sg,[]=>(true,sg)
 |8,sg,[]=>(true,sg)
 |9,_,[a,b]=>(eqT a b && F8 [a,b],a)
 |10,_,[a,b]=>(eqT a b && F8 [a,b],a)
 |11,_,[a,b]=>(F8 [a,b] && Oj ⟨false,γ .i64 (a.m+b.m),γ .i64 (a.d+b.d)⟩,⟨false,γ .i64 (a.m+b.m),γ .i64 (a.d+b.d)⟩)
 |12,_,[a,b]=>(F8 [a,b] && Oj ⟨false,γ .i64 (a.m - b.m),γ .i64 (a.d - b.d)⟩,⟨false,γ .i64 (a.m - b.m),γ .i64 (a.d - b.d)⟩)
 |13,_,[a,b]=>(eqT a b && F8 [a,b],a)
 |14,_,[a,b]=>(eqT a b && F8 [a,b],a)
 |15,_,[a,b,c]=>(a.tr && eqT b c,b)
 |16,_,[a,b]=>(eqT a b && F8 [a,b],⟨true,0,0⟩)
 |17,_,[a,b]=>(eqT a b,⟨true,0,0⟩)
 |18,_,[a,b]=>(a.tr && b.tr,⟨true,0,0⟩)
 |19,_,[a,b]=>(a.tr && b.tr,⟨true,0,0⟩)
 |20,_,[a]=>(a.tr,⟨true,0,0⟩)
 |21,_,[a]=>(F8 [a],a)
 |22,_,[a]=>(F8 [a],a)
 |23,_,[a]=>(F8 [a],a)
 |24,sg,[a]=>(eqT a sg,sg)
 |_,_,_=>(false,⟨false,0,0⟩)
def ofR (named fo:Bool) (sg:Ty) (op:Nat) (ts:List Ty):Ty × Int:=cond (named && !fo) (⟨false,0,0⟩,12) (cond (ab7 op sg ts).1 ((ab7 op sg ts).2,0) (⟨false,0,0⟩,13))
def abn (l:List Sg) (x:Nd) (ts:List Ty):Ty × Int:=ofR (iJ x.op) (abM l x.op x.name).isSome ((abM l x.op x.name).getD zT) x.op.toNat ts
inductive Tm (l:List Sg):List Nd→Ty→Prop where
 |n0 {x:Nd} {t:Ty}:aI x=0→dP x.op=0→abn l x []=(t,0)→Tm l [x] t
 |n1 {x:Nd} {t ta:Ty} {a:List Nd}:Tm l a ta→aI x=0→dP x.op=1→abn l x [ta]=(t,0)→Tm l (a++ [x]) t
 |n2 {x:Nd} {t ta tb:Ty} {a b:List Nd}:Tm l a ta→Tm l b tb→aI x=0→dP x.op=2→abn l x [ta,tb]=(t,0)→Tm l (a++b++ [x]) t
 |n3 {x:Nd} {t ta tb tc:Ty} {a b c:List Nd}:Tm l a ta→Tm l b tb→Tm l c tc→aI x=0→dP x.op=3→abn l x [ta,tb,tc]=(t,0)→Tm l (a++b++c++ [x]) t
abbrev LX (ls:List Lk) (cs:List Sc) (nl ns:Bool) (k1 v1 k2 v2:List AV):Hp:= [(0,⟨[.sl (d_ ls) ls.length nl,.sl (dV cs) cs.length ns],0,false,0,0,true⟩),(1,⟨[.mp k1 v1,.mp k2 v2],0,false,0,0,true⟩)]
theorem YT (x:Nd) (o:Oq) (g h d f:Bool) (k:Nat) (k1 v1 k2 c v u:List AV) (e:List Nd) (A:List (List Nat)) (ls:List Lk) (cs:List Sc) {nt:Nat} (q:56≤nt) (w:(ε ((δ (k:Int))*5) (bG e))=rU x++v) (p:(ε ((δ (k:Int))*1) (dh A))= [.sl [] 0 false]++u) (n:ω (γ .i64 ((k:Int)+((1:Nat):Int)))=ω ((k+1:Nat):Int)) (i:(decide (((0:Nat):Int)≤(k:Int)))=true) (t:(decide ((k:Int)<(A.length:Int)))=true) (m:(decide ((k:Int)<(e.length:Int)))=true) (r:lit true (decide ((k:Int)<(e.length:Int)))=true) (j:CO 46 [.agg [.mp k1 v1,.mp k2 c],.agg [ω x.op,.bool x.neg,.str x.num,.str x.den,.str x.name],.nilS] (.ret (dZ o))):ψ nt f19 ⟨[(3,.ptr 0 0 0),(5,.sl (dh A) A.length f),(7,.ptr 1 0 0),(8,.nilS),(23,.sl (bG e) e.length g),(24,ω (e.length:Int)),(25,ω (k:Int))],(LX ls cs h d k1 v1 k2 c),.dead,[]⟩ (.normal) ⟨[(3,.ptr 0 0 0),(5,.sl (dh A) A.length f),(7,.ptr 1 0 0),(8,.ref 2 0 0 1),(23,.sl (bG e) e.length g),(24,ω (e.length:Int)),(25,ω ((k+1:Nat):Int))],(LX ls cs h d k1 v1 k2 c++ [(2,⟨[.bool o.n,.str o.a,.str o.d,ω o.e],0,false,0,4,true⟩)]),.dead,[]⟩:=pN 19 [] 3 1 (.k 12 i (.c t (.k 6 i (.c m (.c r .nil))))) (.v 54 (.eq n) (.c j (.v 32 (.ppt p) (.v 28 (.ppt w) .nil)))) q
theorem YU (d h j c:Bool) (k:Nat) (k1 v1 k2 i:List AV) (e:List Nd) (A:List (List Nat)) (ls:List Lk) (cs:List Sc) {nt:Nat} (f:56≤nt) (g:lit false (decide ((k:Int)<(e.length:Int)))=true):ψ nt f19 ⟨[(3,.ptr 0 0 0),(5,.sl (dh A) A.length c),(7,.ptr 1 0 0),(8,.nilS),(23,.sl (bG e) e.length d),(24,ω (e.length:Int)),(25,ω (k:Int))],(LX ls cs h j k1 v1 k2 i),.dead,[]⟩ (.exit 0) ⟨[(8,.nilS)],[],.dead,[]⟩:=pN 19 [] 1 0 (.c g .nil) (.nil) f
theorem adx (x:Nd) (o:Oq) (j m h i:Bool) (k:Nat) (k1 v1 k2 f B y:List AV) (e:List Nd) (A:List (List Nat)) (c:List Oq) (ls:List Lk) (cs:List Sc) {nt:Nat} (t:56≤nt) (C:(ε ((δ (k:Int))*5) (bG e))=rU x++B) (r:(ε ((δ (k:Int))*1) (dh A))= [.sl [] 0 false]++y) (d:((ν (c.length*4) (gJ c))++ [.bool o.n,.str o.a,.str o.d,ω o.e])=(gJ (c++ [o]))) (q:ω (γ .i64 ((k:Int)+((1:Nat):Int)))=ω ((k+1:Nat):Int)) (z:(Xqm (c.length+1) 1099511627776)=true) (w:(Xqm (c.length*4) (η (gJ c)))=true) (g:(decide (((0:Nat):Int)≤(k:Int)))=true) (u:(decide ((k:Int)<(A.length:Int)))=true) (v:(decide ((k:Int)<(e.length:Int)))=true) (n:lit true (decide ((k:Int)<(e.length:Int)))=true) (p:CO 46 [.agg [.mp k1 v1,.mp k2 f],.agg [ω x.op,.bool x.neg,.str x.num,.str x.den,.str x.name],.nilS] (.ret (dZ o))):ψ nt f19 ⟨[(3,.ptr 0 0 0),(5,.sl (dh A) A.length i),(7,.ptr 1 0 0),(8,.ref 2 0 0 c.length),(23,.sl (bG e) e.length j),(24,ω (e.length:Int)),(25,ω (k:Int))],(LX ls cs m h k1 v1 k2 f++ [(2,⟨(gJ c),0,false,0,4,true⟩)]),.dead,[]⟩ (.normal) ⟨[(3,.ptr 0 0 0),(5,.sl (dh A) A.length i),(7,.ptr 1 0 0),(8,.ref 2 0 0 (c.length+1)),(23,.sl (bG e) e.length j),(24,ω (e.length:Int)),(25,ω ((k+1:Nat):Int))],(LX ls cs m h k1 v1 k2 f++ [(2,⟨(gJ (c++ [o])),0,false,0,4,true⟩)]),.dead,[]⟩:=pN 19 [] 2 1 (.k 1 z (.c w (.k 10 g (.c u (.k 6 g (.c v (.c n .nil))))))) (.v 54 (.eq q) (.b 53 d (.c p (.v 32 (.ppt r) (.v 28 (.ppt C) .nil))))) t
theorem ady (f i m d:Bool) (k:Nat) (k1 v1 k2 j:List AV) (e:List Nd) (A:List (List Nat)) (c:List Oq) (ls:List Lk) (cs:List Sc) {nt:Nat} (g:56≤nt) (h:lit false (decide ((k:Int)<(e.length:Int)))=true):ψ nt f19 ⟨[(3,.ptr 0 0 0),(5,.sl (dh A) A.length d),(7,.ptr 1 0 0),(8,.ref 2 0 0 c.length),(23,.sl (bG e) e.length f),(24,ω (e.length:Int)),(25,ω (k:Int))],(LX ls cs i m k1 v1 k2 j++ [(2,⟨(gJ c),0,false,0,4,true⟩)]),.dead,[]⟩ (.exit 0) ⟨[(8,.ref 0 0 0 c.length)],[(0,⟨(gJ c),0,false,0,4,true⟩)],.dead,[]⟩:=pN 19 [] 1 0 (.c h .nil) (.nil) g
theorem adz (x:Nd) (o f:Oq) (n q j m:Bool) (k g:Nat) (k1 v1 k2 i F D H:List AV) (e:List Nd) (A:List (List Nat)) (c:List Oq) (ls:List Lk) (cs:List Sc) {nt:Nat} (y:56≤nt) (I:(ε ((δ (k:Int))*5) (bG e))=rU x++F) (w:(ε ((δ (k:Int))*1) (dh A))= [.sl [ω (g:Int)] 1 false]++D) (d:(ε ((0+(δ (g:Int)))*4) (gJ c))=zU f++H) (h:((ν (c.length*4) (gJ c))++ [.bool o.n,.str o.a,.str o.d,ω o.e])=(gJ (c++ [o]))) (v:ω (γ .i64 ((k:Int)+((1:Nat):Int)))=ω ((k+1:Nat):Int)) (E:(Xqm (c.length+1) 1099511627776)=true) (C:(Xqm (c.length*4) (η (gJ c)))=true) (u:(decide (((0:Nat):Int)≤(g:Int)))=true) (z:(decide ((g:Int)<(c.length:Int)))=true) (p:(decide (((0:Nat):Int)≤(k:Int)))=true) (r:(decide ((k:Int)<(A.length:Int)))=true) (B:(decide ((k:Int)<(e.length:Int)))=true) (G:lit true (decide ((k:Int)<(e.length:Int)))=true) (t:CO 46 [.agg [.mp k1 v1,.mp k2 i],.agg [ω x.op,.bool x.neg,.str x.num,.str x.den,.str x.name],.sl [.bool f.n,.str f.a,.str f.d,ω f.e] 1 true] (.ret (dZ o))):ψ nt f19 ⟨[(3,.ptr 0 0 0),(5,.sl (dh A) A.length m),(7,.ptr 1 0 0),(8,.ref 2 0 0 c.length),(23,.sl (bG e) e.length n),(24,ω (e.length:Int)),(25,ω (k:Int))],(LX ls cs q j k1 v1 k2 i++ [(2,⟨(gJ c),0,false,0,4,true⟩)]),.dead,[]⟩ (.normal) ⟨[(3,.ptr 0 0 0),(5,.sl (dh A) A.length m),(7,.ptr 1 0 0),(8,.ref 2 0 0 (c.length+1)),(23,.sl (bG e) e.length n),(24,ω (e.length:Int)),(25,ω ((k+1:Nat):Int))],(LX ls cs q j k1 v1 k2 i++ [(2,⟨(gJ (c++ [o])),0,false,0,4,true⟩)]),.dead,[]⟩:=pN 19 [] 4 3 (.k 1 E (.c C (.n 12 (.a (rE [.bool,.str,.str,.int .i64] d rfl) (.c u (.c z (.k 5 p (.c r (.k 6 p (.c B (.c G .nil))))))))))) (.v 54 (.eq v) (.b 53 h (.c t (.v 43 (.rd [.bool,.str,.str,.int .i64] d rfl) (.v 32 (.ppt w) (.v 28 (.ppt I) .nil)))))) y
theorem adA (x:Nd) (o h f:Oq) (r t p q:Bool) (k j i:Nat) (k1 v1 k2 n K I N B:List AV) (e:List Nd) (A:List (List Nat)) (c:List Oq) (ls:List Lk) (cs:List Sc) {nt:Nat} (E:56≤nt) (O:(ε ((δ (k:Int))*5) (bG e))=rU x++K) (C:(ε ((δ (k:Int))*1) (dh A))= [.sl [ω (j:Int),ω (i:Int)] 2 false]++I) (d:(ε ((0+(δ (j:Int)))*4) (gJ c))=zU h++N) (g:(ε ((0+(δ (i:Int)))*4) (gJ c))=zU f++B) (m:((ν (c.length*4) (gJ c))++ [.bool o.n,.str o.a,.str o.d,ω o.e])=(gJ (c++ [o]))) (z:ω (γ .i64 ((k:Int)+((1:Nat):Int)))=ω ((k+1:Nat):Int)) (J:(Xqm (c.length+1) 1099511627776)=true) (H:(Xqm (c.length*4) (η (gJ c)))=true) (y:(decide (((0:Nat):Int)≤(i:Int)))=true) (F:(decide ((i:Int)<(c.length:Int)))=true) (G:(decide (((0:Nat):Int)≤(j:Int)))=true) (v:(decide ((j:Int)<(c.length:Int)))=true) (u:(decide (((0:Nat):Int)≤(k:Int)))=true) (M:(decide ((k:Int)<(A.length:Int)))=true) (P:(decide ((k:Int)<(e.length:Int)))=true) (D:lit true (decide ((k:Int)<(e.length:Int)))=true) (w:CO 46 [.agg [.mp k1 v1,.mp k2 n],.agg [ω x.op,.bool x.neg,.str x.num,.str x.den,.str x.name],.sl [.bool h.n,.str h.a,.str h.d,ω h.e,.bool f.n,.str f.a,.str f.d,ω f.e] 2 true] (.ret (dZ o))):ψ nt f19 ⟨[(3,.ptr 0 0 0),(5,.sl (dh A) A.length q),(7,.ptr 1 0 0),(8,.ref 2 0 0 c.length),(23,.sl (bG e) e.length r),(24,ω (e.length:Int)),(25,ω (k:Int))],(LX ls cs t p k1 v1 k2 n++ [(2,⟨(gJ c),0,false,0,4,true⟩)]),.dead,[]⟩ (.normal) ⟨[(3,.ptr 0 0 0),(5,.sl (dh A) A.length q),(7,.ptr 1 0 0),(8,.ref 2 0 0 (c.length+1)),(23,.sl (bG e) e.length r),(24,ω (e.length:Int)),(25,ω ((k+1:Nat):Int))],(LX ls cs t p k1 v1 k2 n++ [(2,⟨(gJ (c++ [o])),0,false,0,4,true⟩)]),.dead,[]⟩:=pN 19 [] 5 11 (.k 1 J (.c H (.n 13 (.a (rE [.bool,.str,.str,.int .i64] g rfl) (.c y (.c F (.n 7 (.a (rE [.bool,.str,.str,.int .i64] d rfl) (.c G (.c v (.k 5 u (.c M (.k 6 u (.c P (.c D .nil))))))))))))))) (.v 54 (.eq z) (.b 53 m (.c w (.v 43 (.rd [.bool,.str,.str,.int .i64] g rfl) (.v 43 (.rd [.bool,.str,.str,.int .i64] d rfl) (.v 32 (.ppt C) (.v 28 (.ppt O) .nil))))))) E
theorem adB (x:Nd) (o j h f:Oq) (y z v w:Bool) (k p m n:Nat) (k1 v1 k2 u S Q U H C:List AV) (e:List Nd) (A:List (List Nat)) (c:List Oq) (ls:List Lk) (cs:List Sc) {nt:Nat} (K:56≤nt) (V:(ε ((δ (k:Int))*5) (bG e))=rU x++S) (I:(ε ((δ (k:Int))*1) (dh A))= [.sl [ω (p:Int),ω (m:Int),ω (n:Int)] 3 false]++Q) (d:(ε ((0+(δ (p:Int)))*4) (gJ c))=zU j++U) (i:(ε ((0+(δ (m:Int)))*4) (gJ c))=zU h++H) (g:(ε ((0+(δ (n:Int)))*4) (gJ c))=zU f++C) (q:((ν (c.length*4) (gJ c))++ [.bool o.n,.str o.a,.str o.d,ω o.e])=(gJ (c++ [o]))) (G:ω (γ .i64 ((k:Int)+((1:Nat):Int)))=ω ((k+1:Nat):Int)) (R:(Xqm (c.length+1) 1099511627776)=true) (P:(Xqm (c.length*4) (η (gJ c)))=true) (F:(decide (((0:Nat):Int)≤(n:Int)))=true) (M:(decide ((n:Int)<(c.length:Int)))=true) (N:(decide (((0:Nat):Int)≤(m:Int)))=true) (D:(decide ((m:Int)<(c.length:Int)))=true) (O:(decide (((0:Nat):Int)≤(p:Int)))=true) (T:(decide ((p:Int)<(c.length:Int)))=true) (B:(decide (((0:Nat):Int)≤(k:Int)))=true) (J:(decide ((k:Int)<(A.length:Int)))=true) (r:(decide ((k:Int)<(e.length:Int)))=true) (t:lit true (decide ((k:Int)<(e.length:Int)))=true) (E:CO 46 [.agg [.mp k1 v1,.mp k2 u],.agg [ω x.op,.bool x.neg,.str x.num,.str x.den,.str x.name],.sl [.bool j.n,.str j.a,.str j.d,ω j.e,.bool h.n,.str h.a,.str h.d,ω h.e,.bool f.n,.str f.a,.str f.d,ω f.e] 3 true] (.ret (dZ o))):ψ nt f19 ⟨[(3,.ptr 0 0 0),(5,.sl (dh A) A.length w),(7,.ptr 1 0 0),(8,.ref 2 0 0 c.length),(23,.sl (bG e) e.length y),(24,ω (e.length:Int)),(25,ω (k:Int))],(LX ls cs z v k1 v1 k2 u++ [(2,⟨(gJ c),0,false,0,4,true⟩)]),.dead,[]⟩ (.normal) ⟨[(3,.ptr 0 0 0),(5,.sl (dh A) A.length w),(7,.ptr 1 0 0),(8,.ref 2 0 0 (c.length+1)),(23,.sl (bG e) e.length y),(24,ω (e.length:Int)),(25,ω ((k+1:Nat):Int))],(LX ls cs z v k1 v1 k2 u++ [(2,⟨(gJ (c++ [o])),0,false,0,4,true⟩)]),.dead,[]⟩:=pN 19 [] 6 27 (.k 1 R (.c P (.n 13 (.a (rE [.bool,.str,.str,.int .i64] g rfl) (.c F (.c M (.n 8 (.a (rE [.bool,.str,.str,.int .i64] i rfl) (.c N (.c D (.n 7 (.a (rE [.bool,.str,.str,.int .i64] d rfl) (.c O (.c T (.k 5 B (.c J (.k 6 B (.c r (.c t .nil))))))))))))))))))) (.v 54 (.eq G) (.b 53 q (.c E (.v 43 (.rd [.bool,.str,.str,.int .i64] g rfl) (.v 43 (.rd [.bool,.str,.str,.int .i64] i rfl) (.v 43 (.rd [.bool,.str,.str,.int .i64] d rfl) (.v 32 (.ppt I) (.v 28 (.ppt V) .nil)))))))) K
theorem ahh (d f g h:Bool) (k1 v1 k2 i:List AV) (e:List Nd) (A:List (List Nat)) (c:List Oq) (ls:List Lk) (cs:List Sc) (k:CO 24 [.sl (bG e) e.length d] (.ret (.tup [.sl (dh A) A.length h,.bool true]))) (m:CO 45 [.agg [.sl (d_ ls) ls.length f,.sl (dV cs) cs.length g]] (.ret (.agg [.mp k1 v1,.mp k2 i]))) (j:aG prog ap [] 56 (.block 0 (.loop (af 0 (ah f19)))) ⟨[(0,.sl (bG e) e.length d),(1,.agg [.sl (d_ ls) ls.length f,.sl (dV cs) cs.length g]),(3,.ptr 0 0 0),(4,.nilS),(5,.sl (dh A) A.length h),(6,.bool true),(7,.ptr 1 0 0),(8,.nilS),(9,.dead),(10,.dead),(11,.dead),(13,.dead),(20,.bool false),(23,.sl (bG e) e.length d),(24,ω (e.length:Int)),(25,ω 0),(26,.dead),(33,.dead),(34,.dead),(35,.dead),(36,.dead)],(LX ls cs f g k1 v1 k2 i),.dead,[]⟩ (.normal) ⟨[(8,.ref 0 0 0 c.length)],[(0,⟨(gJ c),0,false,0,4,true⟩)],.dead,[]⟩):CO 19 [.sl (bG e) e.length d,.agg [.sl (d_ ls) ls.length f,.sl (dV cs) cs.length g]] (.ret (.own (ν (c.length*4) (gJ c)) c.length 4)):=pK [0] 1 0 (.n 4 .nil) (.l j (.c m (.c k .nil)))
theorem ahi (c f g:Bool) (e:List Nd) (ls:List Lk) (cs:List Sc) (d:CO 24 [.sl (bG e) e.length c] (.ret (.tup [.nilS,.bool false]))):CO 19 [.sl (bG e) e.length c,.agg [.sl (d_ ls) ls.length f,.sl (dV cs) cs.length g]] (.ret (.nilS)):=pK [] 1 1 (.n 1 .nil) (.c d .nil)
theorem agP (o:Oq) (d g h:Bool) (k:Nat) (r:List AV) (e:List Nd) (c:List Oq) (ls:List Lk) (cs:List Sc) (f:(ε ((0+(δ (k:Int)))*4) (gJ c))=zU o++r) (p:ω (γ .i64 ((c.length:Int) - ((1:Nat):Int)))=ω (k:Int)) (n:(decide (((0:Nat):Int)≤(k:Int)))=true) (j:(decide ((k:Int)<(c.length:Int)))=true) (i:lit false ((c.length:Int)==((0:Nat):Int))=true) (m:CO 19 [.sl (bG e) e.length d,.agg [.sl (d_ ls) ls.length g,.sl (dV cs) cs.length h]] (.ret (.own (gJ c) c.length 4))):CO 21 [.sl (bG e) e.length d,.agg [.sl (d_ ls) ls.length g,.sl (dV cs) cs.length h]] (.ret (dZ o)):=pK [] 1 0 (.n 5 (.a (rE [.bool,.str,.str,.int .i64] f rfl) (.c n (.c j (.c i (.n 2 .nil)))))) (.v 18 (.rd [.bool,.str,.str,.int .i64] f rfl) (.v 16 (.eq p) (.c m .nil)))
theorem agO (c d f:Bool) (e:List Nd) (ls:List Lk) (cs:List Sc) (g:CO 19 [.sl (bG e) e.length c,.agg [.sl (d_ ls) ls.length d,.sl (dV cs) cs.length f]] (.ret (.nilS))) (h:CO 41 [ω 11] (.ret (.agg [.bool false,.str [],.str [],ω 11]))):CO 21 [.sl (bG e) e.length c,.agg [.sl (d_ ls) ls.length d,.sl (dV cs) cs.length f]] (.ret (.agg [.bool false,.str [],.str [],ω 11])):=pK [] 1 1 (.n 8 .nil) (.c h (.c g .nil))
def trF (E:fB) (A:List (List Nat)):List Nd→List Oq→List Oq
 | [],os=>os
 |x::r,os=>trF E A r (os++ [pI E x ((A.getD os.length []).map fun j=>os.getD j zO)])
def gB (E:fB) (e:List Nd):List Oq:=trF E (fC e) e []
def abL (E:fB) (e:List Nd):Oq:=if dD e=0 then (gB E e).getLastD (.err 11) else .err 11
theorem yD (l:List Oq):(gJ l).length=l.length*4:=ul zU 4 (fun _=>rfl) l
theorem oq {l:List Oq} {k:Nat} (h:k<l.length):ε ((0+δ (k:Int))*4) (gJ l)=zU (l.getD k zO)++gJ (l.drop (k+1)):=by
 rw [aC,Xqf,π,ξ h];exact yj zU 4 (fun _=>rfl) h
theorem uB (l:List Oq) (o:Oq):ν (l.length*4) (gJ l)++ [.bool o.n,.str o.a,.str o.d,ω o.e]=gJ (l++ [o]):=by
 rw [Xqc (by rw [yD];exact Δ _)];unfold gJ;rw [Xjb];rfl
def teO (os:List Oq):AV:=match os with| []=> .nilS|_::_=> .ref 2 0 0 os.length
def teB (os:List Oq):Hp:=match os with| []=> []|_::_=> [(2,⟨gJ os,0,false,0,4,true⟩)]
abbrev teS (E:fB) (nl ns ne na:Bool) (e:List Nd) (A:List (List Nat)) (os:List Oq):St:=⟨[(3,.ptr 0 0 0),(5,.sl (dh A) A.length na),(7,.ptr 1 0 0),(8,teO os),(23,.sl (bG e) e.length ne),(24,ω (e.length:Int)),(25,ω (os.length:Int))],LX E.ls (E.qs.map Sq.c) nl ns (zH E.ls).1 (zH E.ls).2 (CG (E.qs.map Sq.c)).1 (CG (E.qs.map Sq.c)).2++teB os,.dead,[]⟩
def acb (os:List Oq):St:=match os with| []=> ⟨[(8,.nilS)],[],.dead,[]⟩|_::_=> ⟨[(8,.ref 0 0 0 os.length)],[(0,⟨gJ os,0,false,0,4,true⟩)],.dead,[]⟩
theorem Xn (E:fB) (g h f d:Bool) (e:List Nd) (A:List (List Nat)) (c:List Oq) (o:Oq):teS E g h f d e A (c++ [o])=⟨[(3,.ptr 0 0 0),(5,.sl (dh A) A.length d),(7,.ptr 1 0 0),(8,.ref 2 0 0 (c.length+1)),(23,.sl (bG e) e.length f),(24,ω (e.length:Int)),(25,ω ((c.length+1:Nat):Int))],LX E.ls (E.qs.map Sq.c) g h (zH E.ls).1 (zH E.ls).2 (CG (E.qs.map Sq.c)).1 (CG (E.qs.map Sq.c)).2++ [(2,⟨gJ (c++ [o]),0,false,0,4,true⟩)],.dead,[]⟩:=by
 cases c with
 |nil=>rfl
 |cons a r=>
  show (⟨[(3,_),(5,_),(7,_),(8,.ref 2 0 0 (a::r++ [o]).length),(23,_),(24,_),(25,ω (((a::r++ [o]).length:Nat):Int))],_,_,_⟩:St)=_;rw [show (a::r++ [o]).length=(a::r).length+1 from θ];rfl
theorem Fv (E:fB) (g i f d:Bool) (e:List Nd) (A:List (List Nat)) {c:List Oq} (h:0<c.length):teS E g i f d e A c=⟨[(3,.ptr 0 0 0),(5,.sl (dh A) A.length d),(7,.ptr 1 0 0),(8,.ref 2 0 0 c.length),(23,.sl (bG e) e.length f),(24,ω (e.length:Int)),(25,ω (c.length:Int))],LX E.ls (E.qs.map Sq.c) g i (zH E.ls).1 (zH E.ls).2 (CG (E.qs.map Sq.c)).1 (CG (E.qs.map Sq.c)).2++ [(2,⟨gJ c,0,false,0,4,true⟩)],.dead,[]⟩:=by
 cases c with
 |nil=>simp at h
 |cons a r=>rfl
theorem Jr {x:Nd} (h:aI x=0):QA x:=by
 intro g e;have c:fJ x=true:=by
  cases d:fJ x with
  |true=>rfl
  |false=>
   exfalso;unfold aI at h;rw [d] at h;cases f:(!PD x.op||(!iJ x.op && !(x.name== [])))<;>rw [f] at h<;>cases h
 unfold fJ at c;rw [show (x.op==((4:Nat):Int))=false from beq_eq_false_iff_ne.2 (by omega),show zG x.op=false from Yq1 (by omega),show Am x.op=true from Yq0 ⟨g,e⟩] at c;simp only [cond,ο] at c;exact ⟨c.1,by have:=of_decide_eq_true c.2;omega⟩
theorem O1:∀ (r:List Nd) (d k:Nat),jD r d= .inl k→∀ x ∈ r,aI x=0
 | [],_,_,_,x,hx=>by cases hx
 | y::r,d,k,h,x,hx=>by
  simp only [jD] at h;split at h
  ·rename_i c;split at h
   ·cases h
   ·rcases List.mem_cons.1 hx with rfl|hx
    ·exact c
    ·exact O1 r _ k h x hx
  ·cases h
theorem qB {e:List Nd} (h:dD e=0):(∀ x ∈ e,aI x=0)∧e.length≤60∧0<e.length:=by
 unfold dD at h;split at h
 ·cases h
 ·rename_i f;cases c:jD e 0 with
  |inl d=>
   refine ⟨O1 e 0 d c,by omega, ?_⟩;cases e with
   |nil=>simp only [jD] at c;cases c;simp [jD] at h
   |cons _ _=>simp
  |inr w=>
   rw [c] at h;exact absurd h (Ic _ _ _ c)
structure fB.sm (E:fB):Prop where
 ls:E.ls.length<2^40
 qs:E.qs.length<2^40
 lk:∀ x ∈ E.ls,x.a.length<2^36∧x.d.length<2^36
 sq:∀ s ∈ E.qs,s.l.length<2^40∧∀ b ∈ s.l,b.s28
theorem aa_ {nt:Nat} (I:56≤nt) (E:fB) (D y C z:Bool) {e:List Nd} (hE:E.sm) (hc:dD e=0) (Y:∀ x ∈ e,x.sm):∀ (r p:List Nd) (c:List Oq),e=p++r→c.length=p.length→(∀ o ∈ c,o.ok)→
  aA prog ap [] nt (af 0 (ah f19)) (fun _=> .exit 0) (teS E D y C z e (fC e)) acb c (trF E (fC e) r c):=by
 obtain ⟨hw,h60,hpos⟩:=qB hc;obtain ⟨hal,X⟩:=Dk hc;intro r
 induction r with
 |nil=>
  intro p c hp m J;rw [Θ] at hp;subst hp;cases c with
  |nil=>exact .done (YU C D y z 0 _ _ _ _ e (fC e) E.ls (E.qs.map Sq.c) I (aK (Yq1 (by simp at m;omega))))
  |cons a r=>exact .done (ady C D y z (a::r).length _ _ _ _ e (fC e) (a::r) E.ls (E.qs.map Sq.c) I (aK (Yq1 (by omega))))
 | cons x r ih=>
  intro p c hp m J;have K:c.length<e.length:=by rw [hp,m];simp
  have Q:e[c.length]=x:=by subst hp;simp [m]
  have H:x ∈ e:=by rw [← Q];exact Xxe K
  have P:ε (δ (c.length:Int)*5) (bG e)=rU x++bG r:=by subst hp;exact Cm m
  obtain ⟨d,g⟩:=X c.length x (by rw [ξ K,Q]);have R:=MQ (A:=fC e) (k:=c.length) (by omega);have F:=rf (hw x H);have w:=fun (nn:Bool) (l:List Oq) (W:l.length=dP x.op) (hk:∀ o ∈ l,o.ok)=>J8 E x nn l F.1 F.2 (Jr (hw x H)) W hk (Y x H) hE.sq
  have M:∀ j,(c.getD j zO).ok∨c.length≤j:=fun j=>by
   rcases Xq5 j c.length with h|h
   ·left;rw [π,ξ h];exact J _ (Xxe h)
   ·exact .inr h
  have f:∀ j ∈ (fC e).getD c.length [],(c.getD j zO).ok:=fun j U=>(M j).resolve_right (by have:=g j U;omega)
  have S:∀ l:List Nat,(∀ j ∈ l,(c.getD j zO).ok)→∀ o ∈ c++ [pI E x (l.map fun j=>c.getD j zO)],o.ok:=fun l W o B=>by
   rcases List.mem_append.1 B with B|B
   ·exact J o B
   ·rw [Xze] at B;subst B;exact VQ fun o B=>by
     obtain ⟨j,U,rfl⟩:=List.mem_map.1 B;exact W j U
  have nx:=ih (p++ [x]) (c++ [pI E x (((fC e).getD c.length []).map fun j=>c.getD j zO)]) (by rw [hp];simp) (by simp [m]) (S _ f);refine .next ?_ nx
  rw [Xn];have N:decide (((0:Nat):Int)≤(c.length:Int))=true:=Yq0 (by omega);have O:decide ((c.length:Int)<(((fC e).length:Nat):Int))=true:=Yq0 (by omega);have v:decide ((c.length:Int)<(e.length:Int))=true:=Yq0 (by omega);have u:=BR (i:=c.length) (by omega);have T:Xqm (c.length+1) 1099511627776=true:=Xqv (by omega);have V:Xqm (c.length*4) (η (gJ c))=true:=Xqv (by rw [yD];exact Δ _);have n:∀ j,j<c.length→decide (((0:Nat):Int)≤(j:Int))=true∧decide ((j:Int)<(c.length:Int))=true:=fun j U=> ⟨Yq0 (by omega),Yq0 (by omega)⟩
  generalize (fC e).getD c.length []=al at*
  have h3:=H6 x.op
  match al,d with
  | [],d=>
   have c0:=(w false [] d (by simp)).args (gZ.cons (aT.refl _) (gZ.cons (aT.refl _) (gZ.cons (aT.nilS false rfl) (gZ.refl _))));cases c with
   |nil=>exact YT x _ C D y z 0 _ _ _ _ _ _ e (fC e) E.ls (E.qs.map Sq.c) I P R u N O v (aN v) c0
   |cons a q=>
    exact adx x _ C D y z _ _ _ _ _ _ _ e (fC e) (a::q) E.ls (E.qs.map Sq.c) I P R (uB _ _) u T V N O v (aN v) c0
  | [i],d=>
   have t:=g i (by simp);rw [Fv _ _ _ _ _ _ _ (by omega)];exact adz x _ (c.getD i zO) C D y z _ i _ _ _ _ _ _ _ e (fC e) c E.ls (E.qs.map Sq.c) I P R (oq t) (uB _ _) u T V (n i t).1 (n i t).2 N O v (aN v) (w true [c.getD i zO] d (by simpa using f i (by simp)))
  | [i,j],d=>
   have t:=g i (by simp);have G:=g j (by simp);rw [Fv _ _ _ _ _ _ _ (by omega)];exact adA x _ (c.getD i zO) (c.getD j zO) C D y z _ i j _ _ _ _ _ _ _ _ e (fC e) c E.ls (E.qs.map Sq.c) I P R (oq t) (oq G) (uB _ _) u T V (n j G).1 (n j G).2 (n i t).1 (n i t).2 N O v (aN v) (w true [c.getD i zO,c.getD j zO] d (by
    intro o m;simp at m;rcases m with rfl|rfl
    ·exact f i (by simp)
    ·exact f j (by simp)))
  | [i,j,h],d=>
   have t:=g i (by simp);have G:=g j (by simp);have Z:=g h (by simp);rw [Fv _ _ _ _ _ _ _ (by omega)];exact adB x _ (c.getD i zO) (c.getD j zO) (c.getD h zO) C D y z _ i j h _ _ _ _ _ _ _ _ _ e (fC e) c E.ls (E.qs.map Sq.c) I P R (oq t) (oq G) (oq Z) (uB _ _) u T V (n h Z).1 (n h Z).2 (n j G).1 (n j G).2 (n i t).1 (n i t).2 N O v (aN v) (w true [c.getD i zO,c.getD j zO,c.getD h zO] d (by
    intro o m;simp at m;rcases m with rfl|rfl|rfl
    ·exact f i (by simp)
    ·exact f j (by simp)
    ·exact f h (by simp)))
  |_::_::_::_::_,d=>simp only [μ] at d;omega
theorem Js (E:fB) (A:List (List Nat)):∀ (r:List Nd) (os:List Oq),(trF E A r os).length=os.length+r.length
 | [],os=>by simp [trF]
 |x::r,os=>by rw [trF,Js E A r];simp;omega
theorem Rw (E:fB) (f g c:Bool) {e:List Nd} (h:dD e ≠ 0) (d:∀ x ∈ e,x.sm):CO 19 [.sl (bG e) e.length c,.agg [.sl (d_ E.ls) E.ls.length f,.sl (dV (E.qs.map Sq.c)) (E.qs.map Sq.c).length g]] (.ret .nilS):=
 ahi c f g e E.ls (E.qs.map Sq.c) (afX e c (dD e) [] (by rw [show (dD e==((0:Nat):Int))=false from beq_eq_false_iff_ne.2 h];rfl) (Du e c d))
theorem GK (E:fB) (d f c:Bool) {e:List Nd} (i:E.sm) (j:dD e=0) (g:∀ x ∈ e,x.sm):CO 19 [.sl (bG e) e.length c,.agg [.sl (d_ E.ls) E.ls.length d,.sl (dV (E.qs.map Sq.c)) (E.qs.map Sq.c).length f]] (.ret (.own (gJ (gB E e)) (gB E e).length 4)):=by
 have k:(gB E e).length=e.length:=by unfold gB;rw [Js];simp
 have m:=(qB j).2.2;have q:=J9 E.ls (E.qs.map Sq.c) d f (Xxa i.ls (by decide)) (by rw [Xx0];exact Xxa i.qs (by decide)) i.lk;have o:∀ nt,56≤nt→aA prog ap [] nt (af 0 (ah f19)) (fun _=> .exit 0) (teS E d f c true e (fC e)) acb [] (gB E e):=fun nt p=>aa_ p E d f c true i j g e [] [] rfl rfl (by simp)
 have n:=aA.blk (id:=0) (e':= .normal) (s:=⟨[(0,.sl (bG e) e.length c),(1,.agg [.sl (d_ E.ls) E.ls.length d,.sl (dV (E.qs.map Sq.c)) (E.qs.map Sq.c).length f]),(3,.ptr 0 0 0),(4,.nilS),(5,.sl (dh (fC e)) (fC e).length true),(6,.bool true),(7,.ptr 1 0 0),(8,.nilS),(9,.dead),(10,.dead),(11,.dead),(13,.dead),(20,.bool false),(23,.sl (bG e) e.length c),(24,ω (e.length:Int)),(25,ω 0),(26,.dead),(33,.dead),(34,.dead),(35,.dead),(36,.dead)],LX E.ls (E.qs.map Sq.c) d f (zH E.ls).1 (zH E.ls).2 (CG (E.qs.map Sq.c)).1 (CG (E.qs.map Sq.c)).2,.dead,[]⟩) (s':=⟨[(8,.ref 0 0 0 (gB E e).length)],[(0,⟨gJ (gB E e),0,false,0,4,true⟩)],.dead,[]⟩) o (by simp) rfl (aH.of ⟨rfl,rfl,rfl,rfl,rfl,rfl,rfl,trivial⟩) (by
  generalize gB E e=t at k;cases t with
  |nil=>simp at k;omega
  |cons a r=>exact aH.refl _)
 have h:=ahh c d f true _ _ _ _ e (fC e) (gB E e) E.ls (E.qs.map Sq.c) (Uc e c g j) q n;rw [Xqc (by rw [yD];exact Δ _)] at h;exact h
theorem iC (E:fB) (f g c:Bool) {e:List Nd} (j:E.sm) (d:∀ x ∈ e,x.sm):CO 21 [.sl (bG e) e.length c,.agg [.sl (d_ E.ls) E.ls.length f,.sl (dV (E.qs.map Sq.c)) (E.qs.map Sq.c).length g]] (.ret (dZ (abL E e))):=by
 unfold abL;by_cases hc:dD e=0
 ·rw [if_pos hc];have m:=GK E f g c j hc d;have n:(gB E e).length=e.length:=by unfold gB;rw [Js];simp
  obtain ⟨_,k,i⟩:=qB hc;have h:(gB E e).length - 1<(gB E e).length:=by omega
  have hlast:(gB E e).getLastD (.err 11)=(gB E e).getD ((gB E e).length - 1) zO:=by
   rw [List.getLastD_eq_getLast?,List.getLast?_eq_getElem?,π,ξ h];rfl
  rw [hlast];refine agP _ c f g ((gB E e).length - 1) _ e (gB E e) E.ls (E.qs.map Sq.c) (oq h) ?_ (Yq0 (by omega)) (Yq0 (by omega)) ?_ m
  ·congr 1;rw [show (((gB E e).length:Nat):Int) - ((1:Nat):Int)=(((gB E e).length - 1:Nat):Int) by omega];exact aS (by omega)
  ·rw [show ((((gB E e).length:Nat):Int)==((0:Nat):Int))=false from beq_eq_false_iff_ne.2 (by omega)];rfl
 ·rw [if_neg hc];exact agO c f g e E.ls (E.qs.map Sq.c) (Rw E f g c hc d) (iZ 11)
inductive Beg (ps:List (List Nat)):Nat→Nat→Prop where
 |z {i:Nat}:ps[i]? =some []→Beg ps i i
 |s {i c b:Nat} {r:List Nat}:ps[i]? =some (c::r)→c<i→Beg ps c b→Beg ps i b
theorem iq (e:Int):CO 47 [ω e] (.ret (.agg [.bool false,.str [],.str [],ω e])):=pK [] 0 0 (.n 5 .nil) (.nil)
abbrev Il (E:fB) (nl ns:Bool):AV:= .agg [.sl (d_ E.ls) E.ls.length nl,.sl (dV (E.qs.map Sq.c)) (E.qs.map Sq.c).length ns]
structure Ro where
 n:Bool
 a:List UInt8
 d:List UInt8
 e:Int
def TQ (x:Ro):List AV:= [.bool x.n,.str x.a,.str x.d,ω x.e]
def lg (l:List Ro):List AV:=l.flatMap TQ
def yH (x:Ro):Oq:=Ai x.n x.a x.d x.e
def nmN:Nd:=⟨3,false,[],[1],[]⟩
def eY (k:Nat):List Nd:=List.replicate k nmN
abbrev GH (y:Nd) (ls:List Lk) (cs:List Sc) (nl ns:Bool):Hp:= [(0,⟨[ω y.op,.bool y.neg,.str y.num,.str y.den,.str y.name],0,false,0,0,true⟩),(1,⟨[.sl (d_ ls) ls.length nl,.sl (dV cs) cs.length ns],0,false,0,0,true⟩),(2,⟨[.bool false,.str [],.str [],ω 0],0,false,0,0,true⟩)]
theorem agV (y:Nd) (x:Ro) (o:Oq) (e c d:Bool) (k:Nat) (n:List AV) (ar:List Ro) (ls:List Lk) (cs:List Sc) {nt:Nat} (i:44≤nt) (q:(ε ((δ (k:Int))*4) (lg ar))=TQ x++n) (h:ω (γ .i64 ((k:Int)+((1:Nat):Int)))=ω ((k+1:Nat):Int)) (m:(decide (((0:Nat):Int)≤(k:Int)))=true) (j:(decide ((k:Int)<(ar.length:Int)))=true) (g:lit true (decide ((k:Int)<(ar.length:Int)))=true) (f:CO 42 [ω 0] (.ret (Ω false [] [1]))) (p:CO 43 [.agg [.bool x.n,.str x.a,.str x.d,ω x.e]] (.ret (.agg [.bool o.n,.str o.a,.str o.d,ω o.e]))):ψ nt f15 ⟨[(3,.ptr 0 0 0),(5,.ptr 1 0 0),(6,.ptr 2 0 0),(7,.nilS),(8,.nilS),(15,.sl (lg ar) ar.length d),(16,ω (ar.length:Int)),(17,ω (k:Int))],(GH y ls cs e c),.dead,[]⟩ (.normal) ⟨[(3,.ptr 0 0 0),(5,.ptr 1 0 0),(6,.ptr 2 0 0),(7,.ref 3 0 0 1),(8,.ref 4 0 0 1),(15,.sl (lg ar) ar.length d),(16,ω (ar.length:Int)),(17,ω ((k+1:Nat):Int))],(GH y ls cs e c++ [(3,⟨zcc3_0,0,false,0,5,true⟩),(4,⟨[.bool o.n,.str o.a,.str o.d,ω o.e],0,false,0,4,true⟩)]),.dead,[]⟩:=pN 15 [] 3 1 (.k 15 m (.c j (.c g .nil))) (.v 17 (.eq h) (.c p (.c f (.v 19 (.ppt q) .nil)))) i
theorem agW (y:Nd) (c d e:Bool) (k:Nat) (ar:List Ro) (ls:List Lk) (cs:List Sc) {nt:Nat} (f:44≤nt) (g:lit false (decide ((k:Int)<(ar.length:Int)))=true):ψ nt f15 ⟨[(3,.ptr 0 0 0),(5,.ptr 1 0 0),(6,.ptr 2 0 0),(7,.nilS),(8,.nilS),(15,.sl (lg ar) ar.length e),(16,ω (ar.length:Int)),(17,ω (k:Int))],(GH y ls cs c d),.dead,[]⟩ (.exit 0) ⟨[(3,.ptr 0 0 0),(5,.ptr 1 0 0),(6,.ptr 2 0 0),(7,.nilS),(8,.nilS)],(GH y ls cs c d),.dead,[]⟩:=pN 15 [] 1 0 (.c g .nil) (.nil) f
theorem alB (y:Nd) (x:Ro) (o:Oq) (f d e:Bool) (k:Nat) (t:List AV) (ar:List Ro) (c:List Oq) (ls:List Lk) (cs:List Sc) {nt:Nat} (n:44≤nt) (v:(ε ((δ (k:Int))*4) (lg ar))=TQ x++t) (m:ω (γ .i64 ((k:Int)+((1:Nat):Int)))=ω ((k+1:Nat):Int)) (g:(Xqm (c.length+1) 1099511627776)=true) (r:(Xqm (c.length*4) (η (gJ c)))=true) (j:(Xqm (c.length*5) (η (bG (eY c.length))))=true) (p:(decide (((0:Nat):Int)≤(k:Int)))=true) (q:(decide ((k:Int)<(ar.length:Int)))=true) (h:lit true (decide ((k:Int)<(ar.length:Int)))=true) (i:CO 42 [ω 0] (.ret (Ω false [] [1]))) (u:CO 43 [.agg [.bool x.n,.str x.a,.str x.d,ω x.e]] (.ret (.agg [.bool o.n,.str o.a,.str o.d,ω o.e]))):ψ nt f15 ⟨[(3,.ptr 0 0 0),(5,.ptr 1 0 0),(6,.ptr 2 0 0),(7,.ref 3 0 0 c.length),(8,.ref 4 0 0 c.length),(15,.sl (lg ar) ar.length e),(16,ω (ar.length:Int)),(17,ω (k:Int))],(GH y ls cs f d++ [(3,⟨(bG (eY c.length)),0,false,0,5,true⟩),(4,⟨(gJ c),0,false,0,4,true⟩)]),.dead,[]⟩ (.normal) ⟨[(3,.ptr 0 0 0),(5,.ptr 1 0 0),(6,.ptr 2 0 0),(7,.ref 3 0 0 (c.length+1)),(8,.ref 4 0 0 (c.length+1)),(15,.sl (lg ar) ar.length e),(16,ω (ar.length:Int)),(17,ω ((k+1:Nat):Int))],(GH y ls cs f d++ [(3,⟨((ν (c.length*5) (bG (eY c.length)))++ zcc3_0),0,false,0,5,true⟩),(4,⟨((ν (c.length*4) (gJ c))++ [.bool o.n,.str o.a,.str o.d,ω o.e]),0,false,0,4,true⟩)]),.dead,[]⟩:=pN 15 [] 1 1 (.k 1 g (.c r (.k 6 g (.c j (.k 6 p (.c q (.c h .nil))))))) (.v 17 (.eq m) (.c u (.c i (.v 19 (.ppt v) .nil)))) n
theorem alC (y:Nd) (d e f:Bool) (k:Nat) (ar:List Ro) (c:List Oq) (ls:List Lk) (cs:List Sc) {nt:Nat} (g:44≤nt) (h:lit false (decide ((k:Int)<(ar.length:Int)))=true):ψ nt f15 ⟨[(3,.ptr 0 0 0),(5,.ptr 1 0 0),(6,.ptr 2 0 0),(7,.ref 3 0 0 c.length),(8,.ref 4 0 0 c.length),(15,.sl (lg ar) ar.length f),(16,ω (ar.length:Int)),(17,ω (k:Int))],(GH y ls cs d e++ [(3,⟨(bG (eY c.length)),0,false,0,5,true⟩),(4,⟨(gJ c),0,false,0,4,true⟩)]),.dead,[]⟩ (.exit 0) ⟨[(3,.ptr 0 0 0),(5,.ptr 1 0 0),(6,.ptr 2 0 0),(7,.ref 3 0 0 c.length),(8,.ref 4 0 0 c.length)],(GH y ls cs d e++ [(3,⟨(bG (eY c.length)),0,false,0,5,true⟩),(4,⟨(gJ c),0,false,0,4,true⟩)]),.dead,[]⟩:=pN 15 [] 1 0 (.c h .nil) (.nil) g
theorem adG (y:Nd) (d e f:Bool) (c:Int) (ar:List Ro) (ls:List Lk) (cs:List Sc) (j:lit true (!(c==((0:Nat):Int)))=true) (h:lit false (decide (((60:Nat):Int)<(ar.length:Int)))=true) (g:aG prog ap [] 44 (.block 0 (.loop (af 0 (ah f15)))) ⟨[(0,.agg [ω y.op,.bool y.neg,.str y.num,.str y.den,.str y.name]),(1,.sl (lg ar) ar.length f),(2,.agg [.sl (d_ ls) ls.length d,.sl (dV cs) cs.length e]),(3,.ptr 0 0 0),(5,.ptr 1 0 0),(6,.ptr 2 0 0),(7,.nilS),(8,.nilS),(10,.dead),(13,.bool (decide (((60:Nat):Int)<(ar.length:Int)))),(15,.sl (lg ar) ar.length f),(16,ω (ar.length:Int)),(17,ω 0),(18,.dead),(37,.dead)],(GH y ls cs d e),.dead,[]⟩ (.normal) ⟨[(3,.ptr 0 0 0),(5,.ptr 1 0 0),(6,.ptr 2 0 0),(7,.nilS),(8,.nilS)],(GH y ls cs d e),.dead,[]⟩) (i:CO 44 [.sl [ω y.op,.bool y.neg,.str y.num,.str y.den,.str y.name] 1 true] (.ret (ω c))) (k:CO 41 [ω 11] (.ret (.agg [.bool false,.str [],.str [],ω 11]))):CO 15 [.agg [ω y.op,.bool y.neg,.str y.num,.str y.den,.str y.name],.sl (lg ar) ar.length f,.agg [.sl (d_ ls) ls.length d,.sl (dV cs) cs.length e]] (.ret (.agg [.bool false,.str [],.str [],ω 11])):=pK [0] 3 4 (.k 5 j (.k 8 h .nil)) (.c k (.c i (.l g .nil)))
theorem adH (y:Nd) (q:Oq) (e d f:Bool) (c:Int) (k1 v1 k2 g:List AV) (ar:List Ro) (ls:List Lk) (cs:List Sc) (m:lit false (!(c==((0:Nat):Int)))=true) (k:lit false (decide (((60:Nat):Int)<(ar.length:Int)))=true) (h:aG prog ap [] 44 (.block 0 (.loop (af 0 (ah f15)))) ⟨[(0,.agg [ω y.op,.bool y.neg,.str y.num,.str y.den,.str y.name]),(1,.sl (lg ar) ar.length f),(2,.agg [.sl (d_ ls) ls.length e,.sl (dV cs) cs.length d]),(3,.ptr 0 0 0),(5,.ptr 1 0 0),(6,.ptr 2 0 0),(7,.nilS),(8,.nilS),(10,.dead),(13,.bool (decide (((60:Nat):Int)<(ar.length:Int)))),(15,.sl (lg ar) ar.length f),(16,ω (ar.length:Int)),(17,ω 0),(18,.dead),(37,.dead)],(GH y ls cs e d),.dead,[]⟩ (.normal) ⟨[(3,.ptr 0 0 0),(5,.ptr 1 0 0),(6,.ptr 2 0 0),(7,.nilS),(8,.nilS)],(GH y ls cs e d),.dead,[]⟩) (i:CO 44 [.sl [ω y.op,.bool y.neg,.str y.num,.str y.den,.str y.name] 1 true] (.ret (ω c))) (n:CO 45 [.agg [.sl (d_ ls) ls.length e,.sl (dV cs) cs.length d]] (.ret (.agg [.mp k1 v1,.mp k2 g]))) (j:CO 46 [.agg [.mp k1 v1,.mp k2 g],.agg [ω y.op,.bool y.neg,.str y.num,.str y.den,.str y.name],.nilS] (.ret (.agg [.bool q.n,.str q.a,.str q.d,ω q.e]))):CO 15 [.agg [ω y.op,.bool y.neg,.str y.num,.str y.den,.str y.name],.sl (lg ar) ar.length f,.agg [.sl (d_ ls) ls.length e,.sl (dV cs) cs.length d]] (.ret (.agg [.bool q.n,.str q.a,.str q.d,ω q.e])):=pK [0] 3 0 (.k 12 m (.k 8 k .nil)) (.c j (.c n (.c i (.l h .nil))))
theorem ahl (y:Nd) (e f g:Bool) (c:Int) (ar:List Ro) (d:List Oq) (ls:List Lk) (cs:List Sc) (m:lit true (!(c==((0:Nat):Int)))=true) (i:(Xqm (d.length+1) 1099511627776)=true) (n:(Xqm (d.length*5) (η (bG (eY d.length))))=true) (j:lit false (decide (((60:Nat):Int)<(ar.length:Int)))=true) (h:aG prog ap [] 44 (.block 0 (.loop (af 0 (ah f15)))) ⟨[(0,.agg [ω y.op,.bool y.neg,.str y.num,.str y.den,.str y.name]),(1,.sl (lg ar) ar.length g),(2,.agg [.sl (d_ ls) ls.length e,.sl (dV cs) cs.length f]),(3,.ptr 0 0 0),(5,.ptr 1 0 0),(6,.ptr 2 0 0),(7,.nilS),(8,.nilS),(10,.dead),(13,.bool (decide (((60:Nat):Int)<(ar.length:Int)))),(15,.sl (lg ar) ar.length g),(16,ω (ar.length:Int)),(17,ω 0),(18,.dead),(37,.dead)],(GH y ls cs e f),.dead,[]⟩ (.normal) ⟨[(3,.ptr 0 0 0),(5,.ptr 1 0 0),(6,.ptr 2 0 0),(7,.ref 3 0 0 d.length),(8,.ref 4 0 0 d.length)],(GH y ls cs e f++ [(3,⟨(bG (eY d.length)),0,false,0,5,true⟩),(4,⟨(gJ d),0,false,0,4,true⟩)]),.dead,[]⟩) (k:CO 44 [.sl (ν ((d.length+1)*5) ((ν (d.length*5) (bG (eY d.length)))++ [ω y.op,.bool y.neg,.str y.num,.str y.den,.str y.name])) (d.length+1) true] (.ret (ω c))) (o:CO 41 [ω 11] (.ret (.agg [.bool false,.str [],.str [],ω 11]))):CO 15 [.agg [ω y.op,.bool y.neg,.str y.num,.str y.den,.str y.name],.sl (lg ar) ar.length g,.agg [.sl (d_ ls) ls.length e,.sl (dV cs) cs.length f]] (.ret (.agg [.bool false,.str [],.str [],ω 11])):=pK [0] 2 2 (.k 5 m (.k 1 i (.c n (.k 6 j .nil)))) (.c o (.c k (.l h .nil)))
theorem ahm (y:Nd) (q:Oq) (f e g:Bool) (c:Int) (k1 v1 k2 h:List AV) (ar:List Ro) (d:List Oq) (ls:List Lk) (cs:List Sc) (p:lit false (!(c==((0:Nat):Int)))=true) (o:(Xqm (d.length+1) 1099511627776)=true) (k:(Xqm (d.length*5) (η (bG (eY d.length))))=true) (m:lit false (decide (((60:Nat):Int)<(ar.length:Int)))=true) (i:aG prog ap [] 44 (.block 0 (.loop (af 0 (ah f15)))) ⟨[(0,.agg [ω y.op,.bool y.neg,.str y.num,.str y.den,.str y.name]),(1,.sl (lg ar) ar.length g),(2,.agg [.sl (d_ ls) ls.length f,.sl (dV cs) cs.length e]),(3,.ptr 0 0 0),(5,.ptr 1 0 0),(6,.ptr 2 0 0),(7,.nilS),(8,.nilS),(10,.dead),(13,.bool (decide (((60:Nat):Int)<(ar.length:Int)))),(15,.sl (lg ar) ar.length g),(16,ω (ar.length:Int)),(17,ω 0),(18,.dead),(37,.dead)],(GH y ls cs f e),.dead,[]⟩ (.normal) ⟨[(3,.ptr 0 0 0),(5,.ptr 1 0 0),(6,.ptr 2 0 0),(7,.ref 3 0 0 d.length),(8,.ref 4 0 0 d.length)],(GH y ls cs f e++ [(3,⟨(bG (eY d.length)),0,false,0,5,true⟩),(4,⟨(gJ d),0,false,0,4,true⟩)]),.dead,[]⟩) (j:CO 44 [.sl (ν ((d.length+1)*5) ((ν (d.length*5) (bG (eY d.length)))++ [ω y.op,.bool y.neg,.str y.num,.str y.den,.str y.name])) (d.length+1) true] (.ret (ω c))) (r:CO 45 [.agg [.sl (d_ ls) ls.length f,.sl (dV cs) cs.length e]] (.ret (.agg [.mp k1 v1,.mp k2 h]))) (n:CO 46 [.agg [.mp k1 v1,.mp k2 h],.agg [ω y.op,.bool y.neg,.str y.num,.str y.den,.str y.name],.sl (ν (d.length*4) (gJ d)) d.length true] (.ret (.agg [.bool q.n,.str q.a,.str q.d,ω q.e]))):CO 15 [.agg [ω y.op,.bool y.neg,.str y.num,.str y.den,.str y.name],.sl (lg ar) ar.length g,.agg [.sl (d_ ls) ls.length f,.sl (dV cs) cs.length e]] (.ret (.agg [.bool q.n,.str q.a,.str q.d,ω q.e])):=pK [0] 2 0 (.k 12 p (.k 1 o (.c k (.k 6 m .nil)))) (.c n (.c r (.c j (.l i .nil))))
def eoN (os:List Oq):AV:=match os with| []=> .nilS|_::_=> .ref 3 0 0 os.length
def eoM (os:List Oq):AV:=match os with| []=> .nilS|_::_=> .ref 4 0 0 os.length
def eoB (os:List Oq):Hp:=match os with| []=> []|_::_=> [(3,⟨bG (eY os.length),0,false,0,5,true⟩),(4,⟨gJ os,0,false,0,4,true⟩)]
abbrev eoS (y:Nd) (ls:List Lk) (cs:List Sc) (nl ns na:Bool) (ar:List Ro) (os:List Oq):St:=⟨[(3,.ptr 0 0 0),(5,.ptr 1 0 0),(6,.ptr 2 0 0),(7,eoN os),(8,eoM os),(15,.sl (lg ar) ar.length na),(16,ω (ar.length:Int)),(17,ω (os.length:Int))],GH y ls cs nl ns++eoB os,.dead,[]⟩
abbrev eoO (y:Nd) (ls:List Lk) (cs:List Sc) (nl ns:Bool) (os:List Oq):St:=⟨[(3,.ptr 0 0 0),(5,.ptr 1 0 0),(6,.ptr 2 0 0),(7,eoN os),(8,eoM os)],GH y ls cs nl ns++eoB os,.dead,[]⟩
theorem of0:CO 42 [ω 0] (.ret (Ω false [] [1])):=sJ (ET 0 (by decide)) (by kernel_rfl)
theorem RZ (k:Nat):ν (k*5) (bG (eY k))++ zcc3_0=bG (eY (k+1)):=by
 rw [Xqc (by rw [vw];simp [eY])];unfold eY;rw [List.replicate_succ'];unfold bG;rw [Xjb];rfl
theorem UR (y:Nd) (ls:List Lk) (cs:List Sc) (e f d:Bool) (ar:List Ro) (c:List Oq) (o:Oq):eoS y ls cs e f d ar (c++ [o])=⟨[(3,.ptr 0 0 0),(5,.ptr 1 0 0),(6,.ptr 2 0 0),(7,.ref 3 0 0 (c.length+1)),(8,.ref 4 0 0 (c.length+1)),(15,.sl (lg ar) ar.length d),(16,ω (ar.length:Int)),(17,ω ((c.length+1:Nat):Int))],GH y ls cs e f++ [(3,⟨bG (eY (c.length+1)),0,false,0,5,true⟩),(4,⟨gJ (c++ [o]),0,false,0,4,true⟩)],.dead,[]⟩:=by
 cases c with
 |nil=>rfl
 |cons a r=>
  show (⟨[(3,_),(5,_),(6,_),(7,.ref 3 0 0 (a::r++ [o]).length),(8,.ref 4 0 0 (a::r++ [o]).length),(15,_),(16,_),(17,ω (((a::r++ [o]).length:Nat):Int))],_++ [(3,⟨bG (eY (a::r++ [o]).length),_,_,_,_,_⟩),_],_,_⟩:St)=_;rw [show (a::r++ [o]).length=(a::r).length+1 from θ]
theorem aaq {l:List Ro} {k:Nat} {x:Ro} {p r:List Ro} (h:l=p++x::r) (c:k=p.length):ε (δ (k:Int)*4) (lg l)=TQ x++lg r:=by
 subst h c;rw [aC];unfold lg;rw [Xjb,Xjc];have d:(List.flatMap TQ p).length=p.length*4:=ul TQ 4 (fun _=>rfl) p;rw [← d,Xvh]
theorem YD {nt:Nat} (n:44≤nt) (y:Nd) (ls:List Lk) (cs:List Sc) (f e g:Bool) {ar:List Ro} (C:ar.length≤60) (o:∀ x ∈ ar,x.a.length<2^36∧x.d.length<2^36):∀ (r p:List Ro) (c:List Oq),ar=p++r→c=p.map yH→
  aA prog ap [] nt (af 0 (ah f15)) (fun _=> .exit 0) (eoS y ls cs f e g ar) (eoO y ls cs f e) c (ar.map yH):=by
 intro r
 induction r with
 |nil=>
  intro p c hp k;rw [Θ] at hp;subst hp;subst k;have hd:lit false (decide ((((ar.map yH).length:Nat):Int)<(ar.length:Int)))=true:=aK (Yq1 (by simp));generalize ar.map yH=c at*
  cases c with
  |nil=>exact .done (agW y f e g 0 ar ls cs n hd)
  |cons a q=>exact .done (alC y f e g (a::q).length ar (a::q) ls cs n hd)
 | cons x r ih=>
  intro p c hp k;have d:c.length=p.length:=by rw [k,Xx0]
  have A:c.length<ar.length:=by rw [hp,d];simp
  have t:=aaq hp d;have hs:=o x (by rw [hp];simp);have w:=ih (p++ [x]) (c++ [yH x]) (by rw [hp];simp) (by rw [k];simp);refine .next ?_ w
  rw [UR];have u:decide (((0:Nat):Int)≤(c.length:Int))=true:=Yq0 (by omega);have m:decide ((c.length:Int)<(ar.length:Int))=true:=Yq0 (by omega);have j:=BR (i:=c.length) (by omega);have z:Xqm (c.length+1) 1099511627776=true:=Xqv (by omega);have v:Xqm (c.length*4) (η (gJ c))=true:=Xqv (by rw [yD];exact Δ _);have B:Xqm (c.length*5) (η (bG (eY c.length)))=true:=Xqv (by rw [vw];simp [eY]);cases c with
  |nil=>exact agV y x (yH x) f e g 0 _ ar ls cs n t j u m (aN m) of0 (vM x.n x.a x.d x.e hs.1 hs.2)
  |cons a q=>
   have h:=alB y x (yH x) f e g (a::q).length _ ar (a::q) ls cs n t j z v B u m (aN m) of0 (vM x.n x.a x.d x.e hs.1 hs.2);rw [RZ,uB] at h;exact h
def YV (E:fB) (y:Nd) (l:List Oq):Oq:=if dD (eY l.length++ [y])=0 then pI E y l else .err 11
theorem JS:∀ (k d:Nat) (r:List Nd),jD (eY k++r) d=jD r (d+k)
 |0,_,_=>rfl
 |k+1,d,r=>by
  show jD (nmN::(eY k++r)) d=_;simp only [jD];rw [if_pos (show aI nmN=0 by kernel_rfl),if_neg (show ¬ d<dP nmN.op from Xwi _),JS k _ r];congr 1;show d - 0+1+k=_;omega
theorem abZ {k:Nat} {y:Nd} (h:dD (eY k++ [y])=0):k=dP y.op:=by
 unfold dD at h;split at h
 ·cases h
 ·rw [JS] at h;simp only [jD] at h;by_cases hw:aI y=0
  ·rw [if_pos hw] at h;by_cases hd:0+k<dP y.op
   ·rw [if_pos hd] at h;cases h
   ·rw [if_neg hd] at h;dsimp only at h;split at h
    ·omega
    ·cases h
  ·rw [if_neg hw] at h;exact absurd h hw
theorem IY (k:Nat):∀ x ∈ eY k,x.sm:=by
 intro x c;rw [List.eq_of_mem_replicate c];exact ⟨by decide,by decide⟩
theorem Po (E:fB) (f e j:Bool) (n:E.sm) (y:Nd) (A:y.sm) {ar:List Ro} (G:ar.length≤60) (t:∀ x ∈ ar,x.a.length<2^36∧x.d.length<2^36):
  CO 15 [.agg (rU y),.sl (lg ar) ar.length j,.agg [.sl (d_ E.ls) E.ls.length f,.sl (dV (E.qs.map Sq.c)) (E.qs.map Sq.c).length e]] (.ret (dZ (YV E y (ar.map yH)))):=by
 have F:=J9 E.ls (E.qs.map Sq.c) f e (Xxa n.ls (by decide)) (by rw [Xx0];exact Xxa n.qs (by decide)) n.lk;have N:∀ nt,44≤nt→aA prog ap [] nt (af 0 (ah f15)) (fun _=> .exit 0) (eoS y E.ls (E.qs.map Sq.c) f e j ar) (eoO y E.ls (E.qs.map Sq.c) f e) [] (ar.map yH):=fun nt J=>YD J y E.ls (E.qs.map Sq.c) f e j G t ar [] [] rfl rfl
 have w:∀ x ∈ eY ar.length++ [y],x.sm:=fun x M=>(List.mem_append.1 M).elim (IY _ x) (fun h=>by rw [Xze] at h;exact h ▸ A)
 have g:=Du (eY ar.length++ [y]) true w;have d:lit false (decide (((60:Nat):Int)<(ar.length:Int)))=true:=aK (Yq1 (by omega));have c:(ar.map yH).length=ar.length:=Xx0 ..;have m:=aA.blk (id:=0) (e':= .normal) (s:=⟨[(0,.agg [ω y.op,.bool y.neg,.str y.num,.str y.den,.str y.name]),(1,.sl (lg ar) ar.length j),(2,.agg [.sl (d_ E.ls) E.ls.length f,.sl (dV (E.qs.map Sq.c)) (E.qs.map Sq.c).length e]),(3,.ptr 0 0 0),(5,.ptr 1 0 0),(6,.ptr 2 0 0),(7,.nilS),(8,.nilS),(10,.dead),(13,.bool (decide (((60:Nat):Int)<(ar.length:Int)))),(15,.sl (lg ar) ar.length j),(16,ω (ar.length:Int)),(17,ω 0),(18,.dead),(37,.dead)],(GH y E.ls (E.qs.map Sq.c) f e),.dead,[]⟩) (s':=eoO y E.ls (E.qs.map Sq.c) f e (ar.map yH)) N (by simp) rfl (aH.of ⟨rfl,rfl,rfl,rfl,rfl,rfl,rfl,rfl,trivial⟩) (aH.refl _);have hnode:∀ z:Bool,dD (eY ar.length++ [y])=0→CO 46 [afj E,.agg (rU y),.sl (gJ (ar.map yH)) (ar.map yH).length z] (.ret (dZ (pI E y (ar.map yH)))):=fun z h=>by
  have C:=(qB h).1 y (by simp);have k:=rf C;exact J8 E y z (ar.map yH) k.1 k.2 (Jr C) (by rw [c];exact abZ h) (fun o I=>by obtain ⟨x,_,rfl⟩:=List.mem_map.1 I;exact vK _ _ _ _) A n.sq
 unfold YV;rw [c];have O:Xqm (ar.length+1) 1099511627776=true:=Xqv (by omega);cases r:ar.map yH with
 | nil=>
  have p:ar.length=0:=by rw [← c,r];rfl
  rw [r] at m hnode;have K:dD (eY ar.length++ [y])=dD (eY 0++ [y]):=by rw [p]
  rw [K];rw [p] at g hnode;by_cases hc:dD (eY 0++ [y])=0
  ·rw [if_pos hc];rw [hc] at g;exact adH y _ f e j 0 _ _ _ _ ar E.ls (E.qs.map Sq.c) (aK rfl) d m g F ((hnode false hc).args (gZ.cons (aT.refl _) (gZ.cons (aT.refl _) (gZ.cons (aT.nilS false rfl) (gZ.refl _)))))
  ·rw [if_neg hc];exact adG y f e j _ ar E.ls (E.qs.map Sq.c) (aN (by simpa using hc)) d m g (iZ 11)
 | cons a q=>
  have p:(a::q).length=ar.length:=by rw [← c,r]
  rw [r] at m hnode;have v:ν (((a::q).length+1)*5) (ν ((a::q).length*5) (bG (eY (a::q).length))++ [ω y.op,.bool y.neg,.str y.num,.str y.den,.str y.name])=bG (eY (a::q).length++ [y]):=by
   have H:ν ((a::q).length*5) (bG (eY (a::q).length))=bG (eY (a::q).length):=Xqc (by rw [vw];simp [eY]);rw [H,Xqc (by rw [θ,vw];simp [eY];omega)];unfold bG;rw [Xjb];rfl
  have B:Xqm ((a::q).length+1) 1099511627776=true:=Xqv (by omega);have D:Xqm ((a::q).length*5) (η (bG (eY (a::q).length)))=true:=Xqv (by rw [vw];simp [eY]);have i:CO 44 [.sl (ν (((a::q).length+1)*5) (ν ((a::q).length*5) (bG (eY (a::q).length))++ [ω y.op,.bool y.neg,.str y.num,.str y.den,.str y.name])) ((a::q).length+1) true] (.ret (ω (dD (eY ar.length++ [y])))):=by
   rw [v,p];have:=g;rw [show (eY ar.length++ [y]).length=ar.length+1 by simp [eY]] at this;exact this
  have u:ν ((a::q).length*4) (gJ (a::q))=gJ (a::q):=Xqc (by rw [yD];exact Δ _);by_cases hc:dD (eY ar.length++ [y])=0
  ·rw [if_pos hc];rw [hc] at i;exact ahm y _ f e j 0 _ _ _ _ ar (a::q) E.ls (E.qs.map Sq.c) (aK rfl) B D d m i F (by rw [u];exact hnode true hc)
  ·rw [if_neg hc];exact ahl y f e j _ ar (a::q) E.ls (E.qs.map Sq.c) (aN (by simpa using hc)) B D d m i (iZ 11)
end Go.Proofs.Tryz
