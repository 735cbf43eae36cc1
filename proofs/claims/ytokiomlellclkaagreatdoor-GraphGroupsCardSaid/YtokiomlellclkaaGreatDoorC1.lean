/- Contracts of functions that the law reaches, each by its own hypotheses; joined by a program of mine. -/
import Derived.Test.YtokiomlellclkaaGreatDoorM5
import Derived.Test.YtokiomlellclkaaGreatDoorAp
import Derived.Test.YtokiomlellclkaaGreatDoorChecked
import Derived.Eval
set_option linter.unusedSimpArgs false
set_option linter.unusedVariables false
set_option maxRecDepth 100000
open Go
open Go.IntKind renaming wrap→ν
open Int renaming toNat→θ,toNat_of_nonneg→Xjq,tmod_lt_of_pos→Xze,tmod→Xjr,neg_tmod→Xkr
open List renaming range→Ψ,flatMap_cons→Xqa,length_append→η,length_cons→τ,drop→κ,flatMap_append→Xxt,drop_left→Xjt,drop_eq_getElem_cons→Xxn,take→Xqk,take_of_length_le→Xqr,append_nil→μ,take_left'→Xjy,drop_eq_nil_of_le→Xq5,length→Xqb,append_assoc→Xqi,nil_append→Xqj,length_nil→Xqf,getElem?_eq_getElem→δ,getElem_mem→Xxq,length_range→Xx5,getElem?_append_right→Xq2,length_flatMap→Xz2,map_cons→Γ,sum_cons→Xw5,all→Xqd,any→Yqd,mem_cons→Xqo,nodup_append→Xq6,nodup_range→Xxr,mem_append→Xjz,map_nil→Xje,map_map→Xzd,foldl_cons→Xqw,countP_eq_length_filter→Xzz,mem_filter→Xq7,foldl_nil→Xv4,tail_cons→Xv5,cons_append→Xqz,map_toArray→Xzs,mem_cons_self→Xxg,mem_cons_of_mem→Θ,mem_of_getElem?→ο,length_filter_le→Xqp,filter_congr→Xxv,length_map→Xxa
open Nat renaming succ_mul→Xz5,le_refl→ζ,ble→Xqq,zero_add→Φ,sub_self→Xwt,zero_le→Xqn,not_lt_zero→Xwu,lt_of_le_of_lt→Xjk,le_trans→Xqg,lt_succ_self→Xj8
open Bool renaming false_eq_true→Xqx,and_eq_true→ε,or_eq_true→Xq9,eq_false_iff→Xjf
open Option renaming toList→Xzx,map_some→Xqu,getD_some→Xqt,getD→Xqc
open UInt8 renaming ofNat→Xql
namespace AM
theorem jD {x:Int} (h: -9223372036854775808≤x) (a:x<9223372036854775808):ν .i64 x=x:=by
 show (if (true && decide (x % 2^64≥2^63))=true then x % 2^64 - 2^64 else x % 2^64)=x;by_cases hx:x % 2^64≥2^63
 ·rw [if_pos (by simpa using hx)];omega
 ·rw [if_neg (by simpa using hx)];omega
theorem OX {a:Nat} (h:a<9223372036854775808):ν .i64 (a:Int)=(a:Int):=jD (by omega) (by omega)
theorem xN {a b:Nat} (h:a+b<9223372036854775808):ν .i64 ((a:Int)+(b:Int))=((a+b:Nat):Int):=by
 rw [jD (by omega) (by omega)];omega
theorem xO {a b:Nat} (h:b≤a) (c:a<9223372036854775808):ν .i64 ((a:Int) - (b:Int))=((a - b:Nat):Int):=by
 rw [jD (by omega) (by omega)];omega
theorem Xz {a b:Nat} (h:a*b<9223372036854775808):ν .i64 ((a:Int)*(b:Int))=((a*b:Nat):Int):=by
 rw [← Int.natCast_mul,OX h]
theorem abJ (k:IntKind) (a:k.signed=false) (x:Int):ν k x=x % 2^k.bits:=by
 show (if (k.signed && _)=true then _ else _)=_;rw [a];rfl
theorem abP {w:Nat} {k:IntKind} (b:k.signed=false) (c:k.bits=w) (a:Nat):ν k (a:Int)=((a % 2^w:Nat):Int):=by
 rw [abJ k b,c];simp
theorem akk (a:Nat):ν .u64 (a:Int)=((a % 18446744073709551616:Nat):Int):=abP (w:=64) rfl rfl a
theorem iy (a:Nat):θ (a:Int)=a:=rfl
theorem d_eq (a b:Nat):decide ((a:Int)=(b:Int))=decide (a=b):=by
 by_cases h:a=b
 ·simp [h]
 ·rw [Yq1 h,Yq1 (by omega)]
end AM
open Go AM
namespace Go.Proofs.Tryz
abbrev ψ (n:Nat) (f:Func):=ag prog ap [] n (ah 0 (af f))
abbrev zcc1_0 : List UInt8 := [98,97,115,105,99]
theorem aci:(Ψ ap.nty).map ap.ty.get=(Ψ ap.nty).map (U9 prog):=by kernel_rfl
noncomputable def acg (i:Nat):Bool:=match ap.fn.get i with|some _=>true|_=>false
theorem ach:(Ψ ap.nfn).map (fun i=>(ap.fn.get i).map AF.fn)=(Ψ ap.nfn).map fun i=>match acg i with|true=>prog.funcs[i]? |false=>none:=by kernel_rfl
theorem VF:(Ψ ap.nfn).all (fun i=>BP (ap.fn.get i))=true:=by kernel_rfl
theorem Z9:di prog ap:=VG aci (hm:=by kernel_rfl)
theorem ah9:Ed prog ap:=V4 ach VF
theorem mixed:prog.follows .mixedOrders=true:=Tryz.checked.mixed
end Go.Proofs.Tryz
namespace Go.Proofs.Tryz
open Go AM
theorem good:uy prog ap:=⟨Z9,mixed,ah9⟩
abbrev CO (f:Nat) (args:List AV) (out:gV):Prop:=ae prog ap f args [] out []
theorem pK (c:List Nat) (n k:Nat) {ans:List (gV × List az)} {a:qQ} {hs:List mJ} {bs:List Bool} {ps:List Prop} {f:Nat} {args:List AV} {h b:List az} {out:gV} (d:jE bs) (hp:PS prog ap ps ans a hs)
  (he:Na prog ap (uq prog ap 3000 4) 3000 c f args h a ⟨false,qB n k,[],[],ans,hs⟩= .ok (out,b,.dead) ⟨false,[],bs,ps,[],[]⟩:=by kernel_rfl):ae prog ap f args h out b:=pk good c n k d hp he
theorem pN (f:Nat) (c:List Nat) (n k:Nat) {nt nt0:Nat} {ans:List (gV × List az)} {b:qQ} {hs:List mJ} {bs:List Bool} {ps:List Prop} {a:Code} {s s':St} {h0:List az} {e:aJ} (d:jE bs) (hp:PS prog ap ps ans b hs) (g:nt0≤nt)
  (he:vM prog ap h0 f nt0 c a s b (qB n k) ans hs s'.env= .ok ((e,s'),[]) ⟨false,[],bs,ps,[],[]⟩:=by kernel_rfl):ag prog ap h0 nt a s e s':=pn good f c n k d hp g he
abbrev HY:St:=⟨[],[],.dead,[]⟩
abbrev H5 (a:AV) (b c:Nat) (d e f:List AV):St:=⟨[(0,a),(2,.ptr 0 0 0),(3,.ptr 1 0 0),(4,.ptr 2 0 0),(6,ω (b:Int)),(7,ω (c:Int))],[(0,⟨[.nilS,.nilS,.nilS],0,false,0,0,true⟩),(1,⟨[.bool false,ω 1,ω 0],0,false,0,0,true⟩),(2,⟨d,0,false,0,0,false⟩),(3,⟨[.str [120],.bool false,ω 1,ω 0],0,false,0,4,true⟩),(4,⟨e,0,false,0,4,true⟩),(5,⟨f,0,false,0,12,true⟩)],.dead,[]⟩
abbrev J3 (a:Int) (b:Nat) (c:List AV):St:=⟨[(1,ω a),(2,.ptr 0 0 0),(5,.nilS),(9,ω (b:Int))],[(0,⟨c,0,false,0,0,true⟩)],.dead,[]⟩
abbrev J4 (a:AV):St:=⟨[(4,a)],[],.dead,[]⟩
abbrev Me (a:Int) (b c d e:Nat) (f:List AV):St:=⟨[(1,ω a),(2,.ptr 0 0 0),(5,.nilS),(6,ω (b:Int)),(9,ω (c:Int)),(14,ω (d:Int)),(15,ω (e:Int))],[(0,⟨f,0,false,0,0,true⟩)],.dead,[]⟩
abbrev Qk (a:AV) (b:Nat) (c d:List AV):St:=⟨[(0,a),(2,.ptr 0 0 0),(3,.ptr 1 0 0),(4,.ptr 2 0 0),(5,.ptr 3 0 0),(6,ω (b:Int)),(7,ω 0),(8,.dead),(9,.dead),(10,.dead),(11,.dead),(12,.dead),(13,.dead),(14,.dead),(15,.dead),(39,.dead),(57,.dead),(69,.dead),(74,.dead),(89,.dead),(97,.dead),(115,.dead)],[(0,⟨[.nilS,.nilS,.nilS],0,false,0,0,true⟩),(1,⟨[.bool false,ω 1,ω 0],0,false,0,0,true⟩),(2,⟨[.ref 4 0 0 1,.ref 5 0 0 1,.nilS],0,false,0,0,false⟩),(3,⟨c,0,false,0,0,true⟩),(4,⟨[.str [120],.bool false,ω 1,ω 0],0,false,0,4,true⟩),(5,⟨d,0,false,0,4,true⟩)],.dead,[]⟩
abbrev Xi (a:AV) (b:Int) (c d:AV) (e:Int) (f g h:AV) (i:List AV):St:=⟨[(0,a),(1,ω b),(2,.ptr 0 0 0),(4,c),(5,.nilS),(6,d),(7,.dead),(8,.dead),(9,ω e),(10,f),(14,g),(15,h),(16,.dead),(24,.dead)],[(0,⟨i,0,false,0,0,true⟩)],.dead,[]⟩
abbrev Xj (a:Int) (b:AV) (c d:Nat) (e f:List AV):St:=⟨[(1,ω a),(2,.ptr 0 0 0),(5,.mr 1 0),(11,b),(12,ω (c:Int)),(13,ω (d:Int))],[(0,⟨e,0,false,0,0,true⟩),(1,⟨f,0,false,0,4611686018427387904,true⟩)],.dead,[]⟩
abbrev Xk (a:Nat) (b:List AV):St:=⟨[(2,.ref 0 0 0 a)],[(0,⟨b,0,false,0,2,true⟩)],.dead,[]⟩
abbrev Xl (a:AV) (b c:Nat) (d:List AV):St:=⟨[(0,a),(2,.ptr 0 0 0),(3,.ptr 1 0 0),(4,.ptr 2 0 0),(6,ω (b:Int)),(7,ω (c:Int))],[(0,⟨[.nilS,.nilS,.nilS],0,false,0,0,true⟩),(1,⟨[.bool false,ω 1,ω 0],0,false,0,0,true⟩),(2,⟨[.ref 3 0 0 1,.ref 4 0 0 1,.nilS],0,false,0,0,false⟩),(3,⟨[.str [120],.bool false,ω 1,ω 0],0,false,0,4,true⟩),(4,⟨d,0,false,0,4,true⟩)],.dead,[]⟩
abbrev OH (a:List AV):St:=⟨[(2,.ptr 0 0 0),(4,.ptr 1 0 0)],[(0,⟨[.nilS,.nilS,.nilS],0,false,0,0,true⟩),(1,⟨[.ref 2 0 0 1,.ref 3 0 0 1,.nilS],0,false,0,0,false⟩),(2,⟨[.str [120],.bool false,ω 1,ω 0],0,false,0,4,true⟩),(3,⟨a,0,false,0,4,true⟩)],.dead,[]⟩
abbrev OI (a b c:List AV):St:=⟨[(2,.ptr 0 0 0),(4,.ptr 1 0 0)],[(0,⟨[.nilS,.nilS,.nilS],0,false,0,0,true⟩),(1,⟨a,0,false,0,0,false⟩),(2,⟨[.str [120],.bool false,ω 1,ω 0],0,false,0,4,true⟩),(3,⟨b,0,false,0,4,true⟩),(4,⟨c,0,false,0,12,true⟩)],.dead,[]⟩
abbrev OJ (a:List AV):St:=⟨[(3,.ptr 0 0 0),(4,.mr 1 0)],[(0,⟨[.sl [.str [98]] 1 true,.nilS,.sl [.str [97]] 1 true],0,false,0,0,true⟩),(1,⟨a,0,false,0,4611686018427387904,true⟩)],.dead,[]⟩
abbrev UQ (a:List AV):St:=⟨[(5,.mr 0 0)],[(0,⟨a,0,false,0,4611686018427387904,true⟩)],.dead,[]⟩
abbrev UR (a:List AV):St:=⟨[(4,.mr 0 0)],[(0,⟨a,0,false,0,4611686018427387904,true⟩)],.dead,[]⟩
abbrev UT (a b c d:List AV):St:=⟨[],[(0,⟨[.mr 5 0],0,false,0,0,false⟩),(1,⟨a,0,false,0,0,true⟩),(2,⟨b,0,false,0,0,true⟩),(3,⟨[.mr 6 0],0,false,0,0,false⟩),(4,⟨[.fn 56 [] [.ptr 0 0 0,.ptr 1 0 0,.ptr 2 0 0,.ptr 3 0 0,.ptr 4 0 0]],0,false,0,0,false⟩),(5,⟨c,0,false,0,4611686018427387904,true⟩),(6,⟨d,0,false,0,4611686018427387904,true⟩)],.dead,[]⟩
abbrev UU (a b:Nat) (c d:List AV):St:=⟨[(0,.ref 0 0 0 a),(5,ω (b:Int))],[(0,⟨c,0,false,0,2,true⟩),(1,⟨[.mr 2 0],0,false,0,0,false⟩),(2,⟨d,0,false,0,4611686018427387904,true⟩)],.dead,[]⟩
abbrev UV (a b c:List AV):St:=⟨[(3,.ptr 0 0 0),(4,.ptr 1 0 0),(13,.ptr 2 0 0)],[(0,⟨a,0,false,0,0,true⟩),(1,⟨b,0,false,0,0,true⟩),(2,⟨[.mr 3 0],0,false,0,0,false⟩),(3,⟨c,0,false,0,4611686018427387904,true⟩)],.dead,[]⟩
abbrev UW (a:Nat) (b:AV) (c:Int) (d e f g h:AV) (i:List AV):St:=⟨[(0,.ref 0 0 0 a),(2,b),(3,ω c),(4,d),(5,e),(8,f),(13,g),(25,h),(32,.dead),(44,.dead)],[(0,⟨i,0,false,0,2,true⟩)],.dead,[]⟩
abbrev UX (a:AV) (b c:Nat) (d e f:List AV):St:=⟨[(0,a),(2,.ptr 0 0 0),(3,.ptr 1 0 0),(4,.ptr 2 0 0),(6,ω (b:Int)),(7,ω (c:Int)),(8,.ptr 3 0 0),(9,.ptr 4 0 0)],[(0,⟨[.nilS,.nilS,.nilS],0,false,0,0,true⟩),(1,⟨[.bool false,ω 1,ω 0],0,false,0,0,true⟩),(2,⟨[.ref 5 0 0 1,.ref 6 0 0 1,.nilS],0,false,0,0,false⟩),(3,⟨d,0,false,0,0,true⟩),(4,⟨e,0,false,0,0,true⟩),(5,⟨[.str [120],.bool false,ω 1,ω 0],0,false,0,4,true⟩),(6,⟨f,0,false,0,4,true⟩)],.dead,[]⟩
abbrev UY (a:AV) (b c:Nat) (d e f g h:List AV):St:=⟨[(0,a),(2,.ptr 0 0 0),(3,.ptr 1 0 0),(4,.ptr 2 0 0),(6,ω (b:Int)),(7,ω (c:Int)),(8,.ptr 3 0 0),(9,.ptr 4 0 0)],[(0,⟨[.nilS,.nilS,.nilS],0,false,0,0,true⟩),(1,⟨[.bool false,ω 1,ω 0],0,false,0,0,true⟩),(2,⟨d,0,false,0,0,false⟩),(3,⟨e,0,false,0,0,true⟩),(4,⟨f,0,false,0,0,true⟩),(5,⟨[.str [120],.bool false,ω 1,ω 0],0,false,0,4,true⟩),(6,⟨g,0,false,0,4,true⟩),(7,⟨h,0,false,0,12,true⟩)],.dead,[]⟩
abbrev UZ (a:AV) (b c:List AV):St:=⟨[(5,.mr 0 0),(6,a),(7,.mr 1 0)],[(0,⟨b,0,false,0,4611686018427387904,true⟩),(1,⟨c,0,false,0,4611686018427387904,true⟩)],.dead,[]⟩
abbrev Zx (a:Int) (b:AV) (c d:Nat) (e f:List AV):St:=⟨[(1,ω a),(3,.ptr 0 0 0),(5,.ptr 1 0 0),(7,.nilS),(23,b),(24,ω (c:Int)),(25,ω (d:Int))],[(0,⟨e,0,false,0,0,true⟩),(1,⟨f,0,false,0,0,true⟩)],.dead,[]⟩
abbrev Zy (a:AV) (b:Int) (c:AV) (d:Bool) (e:AV) (f:Nat) (g h:List AV):St:=⟨[(0,a),(1,ω b),(2,c),(3,.ptr 0 0 0),(5,.ptr 1 0 0),(6,.nilS),(7,.nilS),(9,.dead),(10,.dead),(11,.dead),(16,.bool d),(23,e),(24,ω (f:Int)),(25,ω 0),(26,.dead),(36,.dead),(39,.dead),(50,.dead)],[(0,⟨g,0,false,0,0,true⟩),(1,⟨h,0,false,0,0,true⟩)],.dead,[]⟩
abbrev Zz (a:Int) (b c:Nat) (d e:List AV):St:=⟨[(1,ω a),(2,.ptr 0 0 0),(5,.ref 1 0 0 b),(9,ω (c:Int))],[(0,⟨d,0,false,0,0,true⟩),(1,⟨e,0,false,0,2,true⟩)],.dead,[]⟩
abbrev ZA (a b:Nat) (c d:List AV):St:=⟨[(0,.ref 0 0 0 a),(1,.fn 58 [] [.ptr 1 0 0]),(4,ω 0),(5,.dead),(7,ω (b:Int)),(8,ω 0),(9,.dead),(16,.dead)],[(0,⟨c,0,false,0,2,true⟩),(1,⟨[.mr 2 0],0,false,0,0,false⟩),(2,⟨d,0,false,0,4611686018427387904,true⟩)],.dead,[]⟩
abbrev ZB (a b:AV) (c:Nat):St:=⟨[(0,a),(1,b),(4,ω 0),(5,.dead),(7,ω (c:Int)),(8,ω 0),(9,.dead),(16,.dead)],[],.dead,[]⟩
abbrev ZC (a:AV) (b c:List AV):St:=⟨[(2,a),(3,.ptr 0 0 0),(4,.ptr 1 0 0)],[(0,⟨b,0,false,0,0,true⟩),(1,⟨c,0,false,0,0,true⟩)],.dead,[]⟩
abbrev ZE (a:AV) (b c d:List AV):St:=⟨[(2,a),(3,.ptr 0 0 0),(4,.ptr 1 0 0),(7,.mr 2 0)],[(0,⟨b,0,false,0,0,true⟩),(1,⟨c,0,false,0,0,true⟩),(2,⟨d,0,false,0,4611686018427387904,true⟩)],.dead,[]⟩
abbrev ZF (a b:AV) (c:Nat) (d e f:List AV):St:=⟨[(0,.dead),(1,.dead),(2,a),(3,.ptr 0 0 0),(4,.ptr 1 0 0),(6,.dead),(7,.dead),(8,.ptr 2 0 0),(9,.dead),(10,.dead),(12,.dead),(13,.ptr 3 0 0),(14,.ptr 4 0 0),(16,.dead),(22,.dead),(24,.dead),(28,.dead),(29,.dead),(30,.dead),(31,.dead),(45,b),(46,ω (c:Int)),(47,ω 0),(48,.dead)],[(0,⟨d,0,false,0,0,true⟩),(1,⟨e,0,false,0,0,true⟩),(2,⟨[.mr 5 0],0,false,0,0,false⟩),(3,⟨[.mr 6 0],0,false,0,0,false⟩),(4,⟨[.fn 56 [] [.ptr 3 0 0,.ptr 0 0 0,.ptr 1 0 0,.ptr 2 0 0,.ptr 4 0 0]],0,false,0,0,false⟩),(5,⟨f,0,false,0,4611686018427387904,true⟩),(6,⟨[.agg [],.agg []],0,false,0,4611686018427387904,true⟩)],.dead,[]⟩
abbrev ZG (a:AV) (b c d:List AV):St:=⟨[(2,a),(3,.ptr 0 0 0),(4,.ptr 1 0 0),(8,.ptr 3 0 0)],[(3,⟨[.mr 4 0],0,false,0,0,false⟩),(4,⟨b,0,false,0,4611686018427387904,true⟩),(0,⟨c,0,false,0,0,true⟩),(1,⟨d,0,false,0,0,true⟩)],.dead,[]⟩
abbrev ZH (a b c:Nat) (d:List AV):St:=⟨[(0,.ref 0 0 0 a),(1,ω 0),(2,ω (b:Int)),(3,.fn 41 [] []),(8,ω (c:Int))],[(0,⟨d,0,false,0,2,true⟩)],.dead,[]⟩
abbrev ZI (a b:Nat) (c:Int) (d e:AV) (f:List AV):St:=⟨[(0,.ref 0 0 0 a),(1,ω 0),(2,ω (b:Int)),(3,.fn 41 [] []),(8,ω c),(9,d),(14,e),(34,.dead)],[(0,⟨f,0,false,0,2,true⟩)],.dead,[]⟩
abbrev ZJ (a b:AV) (c:List AV):St:=⟨[(0,a),(1,b),(3,.ptr 0 0 0),(4,.bool false),(5,ω 0),(9,.dead),(17,.dead)],[(0,⟨c,0,false,0,0,true⟩)],.dead,[]⟩
abbrev ZK (a:AV) (b c:Nat) (d:Bool) (e:Nat) (f g:Bool) (h i j:List AV):St:=⟨[(0,a),(2,.ptr 0 0 0),(3,.ptr 1 0 0),(4,.ptr 2 0 0),(5,.dead),(6,ω (b:Int)),(7,ω (c:Int)),(8,.ptr 3 0 0),(9,.ptr 4 0 0),(10,.bool d),(11,ω (e:Int)),(12,ω 0),(13,.dead),(14,.dead),(15,.dead),(39,.bool f),(57,.bool g),(69,.dead),(74,.dead),(89,.dead),(97,.dead),(115,.dead)],[(0,⟨[.nilS,.nilS,.nilS],0,false,0,0,true⟩),(1,⟨[.bool false,ω 1,ω 0],0,false,0,0,true⟩),(2,⟨[.ref 5 0 0 1,.ref 6 0 0 1,.nilS],0,false,0,0,false⟩),(3,⟨h,0,false,0,0,true⟩),(4,⟨i,0,false,0,0,false⟩),(5,⟨[.str [120],.bool false,ω 1,ω 0],0,false,0,4,true⟩),(6,⟨j,0,false,0,4,true⟩),(7,⟨[ω 5,.bool false,.str [],.str [],.str [120]],0,false,0,5,true⟩)],.dead,[]⟩
abbrev ZL (a:AV) (b c:Nat) (d:Bool) (e:Nat) (f g:Bool) (h i j k l:List AV):St:=⟨[(0,a),(2,.ptr 0 0 0),(3,.ptr 1 0 0),(4,.ptr 2 0 0),(5,.dead),(6,ω (b:Int)),(7,ω (c:Int)),(8,.ptr 3 0 0),(9,.ptr 4 0 0),(10,.bool d),(11,ω (e:Int)),(12,ω 0),(13,.dead),(14,.dead),(15,.dead),(39,.bool f),(57,.bool g),(69,.dead),(74,.dead),(89,.dead),(97,.dead),(115,.dead)],[(0,⟨[.nilS,.nilS,.nilS],0,false,0,0,true⟩),(1,⟨[.bool false,ω 1,ω 0],0,false,0,0,true⟩),(2,⟨h,0,false,0,0,false⟩),(3,⟨i,0,false,0,0,true⟩),(4,⟨j,0,false,0,0,false⟩),(5,⟨[.str [120],.bool false,ω 1,ω 0],0,false,0,4,true⟩),(6,⟨k,0,false,0,4,true⟩),(7,⟨l,0,false,0,12,true⟩),(8,⟨[ω 5,.bool false,.str [],.str [],.str [120]],0,false,0,5,true⟩)],.dead,[]⟩
abbrev ZM (a b:AV) (c:Nat) (d:List AV):St:=⟨[(0,a),(1,b),(3,.ptr 0 0 0),(4,ω 0),(5,.dead),(7,ω (c:Int)),(8,ω 0),(9,.dead),(16,.dead)],[(0,⟨d,0,false,0,0,true⟩)],.dead,[]⟩
abbrev ZN:St:=⟨[(1,.ptr 0 0 0)],[(0,⟨[.sl [.str [98],.bool false,ω 0,ω 0] 1 true,.nilS,.sl [.str [97],.bool false,ω 0,ω 0,.sl [ω 5,.bool false,.str [],.str [],.str [98]] 1 true,.bool false,.bool false,.str [1],.str [1],.bool false,.str [9],.str [1]] 1 true],0,false,0,0,true⟩)],.dead,[]⟩
abbrev ZO (a:Int) (b c:List AV):St:=⟨[(1,ω a),(2,.ptr 0 0 0),(5,.mr 1 0)],[(0,⟨b,0,false,0,0,true⟩),(1,⟨c,0,false,0,4611686018427387904,true⟩)],.dead,[]⟩
abbrev LB (n b:Nat) (f:Func):St→aJ→St→Prop:=bG prog ap [] n (.block b (.loop (ah b (af f))))
end Go.Proofs.Tryz
set_option maxRecDepth 100000
set_option linter.unusedVariables false
open Go AM
namespace AM
variable {P:Program} {ap:AP}
theorem aN.goD {α σ β:Type} {h0:List az} {nt:Nat} {b:Code} {e:β→aJ} {st:Nat × σ→St} {out:β→St} (F:σ→α→σ ⊕ β) (a:σ→β) (L:List α) (Inv:List α→σ→Prop)
  (hstep:∀ p x r s,L=p++x::r→Inv p s→(∃ s',F s x= .inl s'∧ag P ap h0 nt b (st (p.length,s)) .normal (st (p.length+1,s'))∧Inv (p++ [x]) s')∨∃ q,F s x= .inr q∧ag P ap h0 nt b (st (p.length,s)) (e q) (out q))
  (hend:∀ s,Inv L s→ag P ap h0 nt b (st (L.length,s)) (e (a s)) (out (a s))) (s:σ) (h:Inv [] s):aN P ap h0 nt b e st out (0,s) (AM.goL F a L s):=by
 refine aN.goL F a L Inv ?_ hend L [] s rfl h;intro p x r s i f;rcases hstep p x r s i f with ⟨s',c,d,g⟩|⟨q,c,d⟩
 ·rw [c];exact ⟨d,g⟩
 ·rw [c];exact d
end AM
namespace Go.Proofs.Tryz
theorem rO {α:Type} {f:α→List AV} {n:Nat} (a:∀ x,(f x).length=n) (l:List α):(l.flatMap f).length=l.length*n:=by
 induction l with
 |nil=>simp
 |cons x r ih=>rw [Xqa,η,ih,a,τ,Xz5];omega
theorem bI {α:Type} {f:α→List AV} {n:Nat} (a:∀ x,(f x).length=n) {p r l:List α} {x:α} (h:l=p++x::r):κ (θ (p.length:Int)*n) (l.flatMap f)=f x++r.flatMap f:=by
 subst h;rw [iy,Xxt,← rO a p,Xjt,Xqa]
theorem XN {α:Type} {f:α→List AV} {n:Nat} (b:∀ x,(f x).length=n) {l:List α} {k:Nat} {x:α} (h:l[k]? =some x):κ (θ (k:Int)*n) (l.flatMap f)=f x++(l.drop (k+1)).flatMap f:=by
 have a:k<l.length:=(List.getElem?_eq_some_iff.1 h).1;have e:l=l.take k++x::l.drop (k+1):=by
  have c:l[k]=x:=(List.getElem?_eq_some_iff.1 h).2;rw [← c,← Xxn a,List.take_append_drop]
 have d:(l.take k).length=k:=by rw [List.length_take];omega
 have:=bI b (p:=l.take k) e;rwa [d] at this
theorem V8 {α:Type} {f:α→List AV} {n:Nat} (a:∀ x,(f x).length=n) (l:List α) (x:α) {k:Nat} (h:l.length=k):Xqk (k*n) (l.flatMap f)++f x=(l++ [x]).flatMap f:=by
 rw [Xqr (by rw [rO a,h];exact ζ _),Xxt,Xqa,List.flatMap_nil,μ]
theorem k0 (k:Nat):decide (((0:Nat):Int)≤(k:Int))=true:=Yq0 (by omega)
theorem kl {k n:Nat} (h:k<n):decide ((k:Int)<(n:Int))=true:=Yq0 (by omega)
theorem kn {k n:Nat} (h:n≤k):decide ((k:Int)<(n:Int))=false:=Yq1 (by omega)
theorem jm {α:Type} {p r l:List α} {x:α} (h:l=p++x::r):p.length<l.length:=by subst h;simp
theorem wpS {k:Nat} (h:k<2^62):ω (ν .i64 ((k:Int)+((1:Nat):Int)))= ω ((k+1:Nat):Int):=by
 have e:ν .i64 ((k:Int)+((1:Nat):Int))=((k+1:Nat):Int):=by rw [jD]<;>omega
 rw [e]
theorem dF (l:List Cl):(cL l).length=l.length*2:=rO (n:=2) (fun _=>rfl) l
structure Nd where
 op:Int
 neg:Bool
 num:List UInt8
 den:List UInt8
 name:List UInt8
def ndC (x:Nd):List AV:= [ω x.op,.bool x.neg,.str x.num,.str x.den,.str x.name]
def oU (l:List Nd):List AV:=l.flatMap ndC
theorem nd5 (x:Nd):(ndC x).length=5:=rfl
structure Pv where
 nm:List UInt8
 tr:Bool
 tm:Int
 td:Int
 body:List Nd
 ch:Bool
 sn:Bool
 sa:List UInt8
 sd:List UInt8
 cn:Bool
 ca:List UInt8
 cd:List UInt8
def pvC (x:Pv):List AV:= [.str x.nm,.bool x.tr,ω x.tm,ω x.td,.sl (oU x.body) x.body.length false,.bool x.ch,.bool x.sn,.str x.sa,.str x.sd,.bool x.cn,.str x.ca,.str x.cd]
def f_ (l:List Pv):List AV:=l.flatMap pvC
theorem aer (x:Pv):(pvC x).length=12:=rfl
structure Lw where
 fx:List AV
 fn:Nat
 sx:List AV
 sn:Nat
 ps:List Pv
abbrev Lw.c (L:Lw) (a b c:Bool):List AV:= [.sl L.fx L.fn a,.sl L.sx L.sn b,.sl (f_ L.ps) L.ps.length c]
end Go.Proofs.Tryz
set_option maxRecDepth 100000
set_option linter.unusedVariables false
open Go AM
namespace Go.Proofs.Tryz
theorem yE (x:Int):CO 142 [ω x] (.ret (.bool false)):=by
 have h:CO 142 [ω x] (.ret (.bool (!(x==x)))):=pK [] 0 0 .nil .nil;rwa [show (!(x==x))=false by simp] at h
def Eg (x y:Int):Int:=if x<y then -1 else if y<x then 1 else 0
theorem aai (x y:Int):CO 93 [ω x,ω y] (.ret (ω (Eg x y))):=by
 rcases tf (decide (x<y)) with b0|b0
 ·have e:Eg x y=(-1):=by
   simp only [decide_eq_true_eq,decide_eq_false_iff_not] at b0;simp only [Eg]
   first|(rw [if_pos (by omega)];done)|(rw [if_neg (by omega),if_pos (by omega)];done)|(rw [if_neg (by omega),if_neg (by omega)];done)
  rw [e];exact pK [] 3 4 (.c (aQ b0) (.n 2 .nil)) (.c (yE y) (.c (yE x) .nil))
 ·rcases tf (decide (y<x)) with b1|b1
  ·have e:Eg x y=1:=by
    simp only [decide_eq_true_eq,decide_eq_false_iff_not] at b0 b1;simp only [Eg]
    first|(rw [if_pos (by omega)];done)|(rw [if_neg (by omega),if_pos (by omega)];done)|(rw [if_neg (by omega),if_neg (by omega)];done)
   rw [e];exact pK [] 4 8 (.c (aQ b1) (.c (aX b0) (.n 2 .nil))) (.c (yE y) (.c (yE x) .nil))
  ·have e:Eg x y=0:=by
    simp only [decide_eq_true_eq,decide_eq_false_iff_not] at b0 b1;simp only [Eg]
    first|(rw [if_pos (by omega)];done)|(rw [if_neg (by omega),if_pos (by omega)];done)|(rw [if_neg (by omega),if_neg (by omega)];done)
   rw [e];exact pK [] 4 0 (.c (aX b1) (.c (aX b0) (.n 2 .nil))) (.c (yE y) (.c (yE x) .nil))
theorem aen (x y:Int):CO 92 [.sl [ω x,ω y] 2 true] (.ret (ω (if x=0 then y else x))):=by
 rcases tf (x==((0:Nat):Int)) with b0|b0
 ·rcases tf (y==((0:Nat):Int)) with b1|b1
  ·have e:(if x=0 then y else x)=0:=by
    simp only [beq_iff_eq,Yq2] at b0 b1;split<;>simp_all
   rw [e];exact pK [] 5 5 (.k 1 (fZ b1) (.k 4 (fZ b0) (.n 4 .nil))) (.nil)
  ·have e:(if x=0 then y else x)=y:=by
    simp only [beq_iff_eq,Yq2] at b0 b1;split<;>simp_all
   rw [e];exact pK [] 4 13 (.c (nK b1) (.k 4 (fZ b0) (.n 4 .nil))) (.nil)
 ·have e:(if x=0 then y else x)=x:=by
   simp only [beq_iff_eq,Yq2] at b0;split<;>simp_all
  rw [e];exact pK [] 2 3 (.c (nK b0) (.n 4 .nil)) (.nil)
def gz (c:Cl):Prop:=0≤c.1∧c.1≤1
def Am (c d:Cl):Bool:=decide (c.1<d.1)||((c.1==d.1) && decide (c.2<d.2))
theorem u_ (c d:Cl) (a:gz c) (b:gz d):∃ r:Int,decide (r<((0:Nat):Int))=Am c d∧CO 41 [cA c,cA d] (.ret (ω r)):=by
 obtain ⟨g,j⟩:=a;obtain ⟨i,f⟩:=b;have e:ω (ν .i64 (c.1 - d.1))= ω (c.1 - d.1):=by rw [jD]<;>omega
 refine ⟨if c.1 - d.1=0 then Eg c.2 d.2 else c.1 - d.1, ?_,pK [] 0 0 (.n 4 .nil) (.c (aen (c.1 - d.1) (Eg c.2 d.2)) (.c (aai c.2 d.2) (.v 9 (.eq e) .nil)))⟩;unfold Am Eg;by_cases h:c.1=d.1
 ·rw [if_pos (by omega),h];simp;split
  ·simp [*]
  ·split<;>simp [*]
 ·rw [if_neg (by omega)];have:(c.1==d.1)=false:=by simp [h]
  rw [this];simp;omega
def aC (s n:Int) (x:Cl):Bool:=((s==1)||(s==2)) && (decide (0≤x.1) && (decide (x.1<s) && (decide (0≤x.2) && decide (x.2<n))))
theorem mD (L:Lw) (a b c:Bool) (s:Int) (x:Cl):CO 38 [.agg (L.c a b c),ω s,cA x] (.ret (.bool (aC s L.ps.length x))):=by
 rcases tf (s==((1:Nat):Int)) with b0|b0
 ·rcases tf (decide (((0:Nat):Int)≤x.1)) with b1|b1
  ·rcases tf (decide (x.1<s)) with b2|b2
   ·rcases tf (decide (((0:Nat):Int)≤x.2)) with b3|b3
    ·have e:aC s L.ps.length x=(decide (x.2<(L.ps.length:Int))):=by
      unfold aC;have i:(((0:Nat):Int))=0:=rfl;have h:(((1:Nat):Int))=1:=rfl;have j:(((2:Nat):Int))=2:=rfl;have f:=b0;(try simp only [i,h,j] at f);rw [f];have d:=b1;(try simp only [i,h,j] at d);rw [d];have g:=b2;(try simp only [i,h,j] at g);rw [g];have k:=b3;(try simp only [i,h,j] at k);rw [k]
      first|rfl|simp
     rw [e];exact pK [] 5 31 (.k 2 (aQ b3) (.k 1 (aQ b2) (.k 1 (aQ b1) (.k 2 (aQ b0) .nil)))) (.nil)
    ·have e:aC s L.ps.length x=false:=by
      unfold aC;have i:(((0:Nat):Int))=0:=rfl;have h:(((1:Nat):Int))=1:=rfl;have j:(((2:Nat):Int))=2:=rfl;have f:=b0;(try simp only [i,h,j] at f);rw [f];have d:=b1;(try simp only [i,h,j] at d);rw [d];have g:=b2;(try simp only [i,h,j] at g);rw [g];have k:=b3;(try simp only [i,h,j] at k);rw [k]
      first|rfl|simp
     rw [e];exact pK [] 5 15 (.c (aX b3) (.k 1 (aQ b2) (.k 1 (aQ b1) (.k 2 (aQ b0) .nil)))) (.nil)
   ·have e:aC s L.ps.length x=false:=by
     unfold aC;have i:(((0:Nat):Int))=0:=rfl;have h:(((1:Nat):Int))=1:=rfl;have j:(((2:Nat):Int))=2:=rfl;have f:=b0;(try simp only [i,h,j] at f);rw [f];have d:=b1;(try simp only [i,h,j] at d);rw [d];have g:=b2;(try simp only [i,h,j] at g);rw [g]
     first|rfl|simp
    rw [e];exact pK [] 5 7 (.k 1 (aX b2) (.k 1 (aQ b1) (.k 2 (aQ b0) .nil))) (.nil)
  ·have e:aC s L.ps.length x=false:=by
    unfold aC;have i:(((0:Nat):Int))=0:=rfl;have h:(((1:Nat):Int))=1:=rfl;have j:(((2:Nat):Int))=2:=rfl;have f:=b0;(try simp only [i,h,j] at f);rw [f];have d:=b1;(try simp only [i,h,j] at d);rw [d]
    first|rfl|simp
   rw [e];exact pK [] 5 3 (.k 2 (aX b1) (.k 2 (aQ b0) .nil)) (.nil)
 ·rcases tf (s==((2:Nat):Int)) with b1|b1
  ·rcases tf (decide (((0:Nat):Int)≤x.1)) with b2|b2
   ·rcases tf (decide (x.1<s)) with b3|b3
    ·rcases tf (decide (((0:Nat):Int)≤x.2)) with b4|b4
     ·have e:aC s L.ps.length x=(decide (x.2<(L.ps.length:Int))):=by
       unfold aC;have i:(((0:Nat):Int))=0:=rfl;have h:(((1:Nat):Int))=1:=rfl;have j:(((2:Nat):Int))=2:=rfl;have f:=b0;(try simp only [i,h,j] at f);rw [f];have d:=b1;(try simp only [i,h,j] at d);rw [d];have g:=b2;(try simp only [i,h,j] at g);rw [g];have k:=b3;(try simp only [i,h,j] at k);rw [k];have l:=b4;(try simp only [i,h,j] at l);rw [l]
       first|rfl|simp
      rw [e];exact pK [] 5 30 (.k 2 (aQ b4) (.k 1 (aQ b3) (.k 1 (aQ b2) (.k 1 (aQ b1) (.c (aX b0) .nil))))) (.nil)
     ·have e:aC s L.ps.length x=false:=by
       unfold aC;have i:(((0:Nat):Int))=0:=rfl;have h:(((1:Nat):Int))=1:=rfl;have j:(((2:Nat):Int))=2:=rfl;have f:=b0;(try simp only [i,h,j] at f);rw [f];have d:=b1;(try simp only [i,h,j] at d);rw [d];have g:=b2;(try simp only [i,h,j] at g);rw [g];have k:=b3;(try simp only [i,h,j] at k);rw [k];have l:=b4;(try simp only [i,h,j] at l);rw [l]
       first|rfl|simp
      rw [e];exact pK [] 5 14 (.c (aX b4) (.k 1 (aQ b3) (.k 1 (aQ b2) (.k 1 (aQ b1) (.c (aX b0) .nil))))) (.nil)
    ·have e:aC s L.ps.length x=false:=by
      unfold aC;have i:(((0:Nat):Int))=0:=rfl;have h:(((1:Nat):Int))=1:=rfl;have j:(((2:Nat):Int))=2:=rfl;have f:=b0;(try simp only [i,h,j] at f);rw [f];have d:=b1;(try simp only [i,h,j] at d);rw [d];have g:=b2;(try simp only [i,h,j] at g);rw [g];have k:=b3;(try simp only [i,h,j] at k);rw [k]
      first|rfl|simp
     rw [e];exact pK [] 5 6 (.k 1 (aX b3) (.k 1 (aQ b2) (.k 1 (aQ b1) (.c (aX b0) .nil)))) (.nil)
   ·have e:aC s L.ps.length x=false:=by
     unfold aC;have i:(((0:Nat):Int))=0:=rfl;have h:(((1:Nat):Int))=1:=rfl;have j:(((2:Nat):Int))=2:=rfl;have f:=b0;(try simp only [i,h,j] at f);rw [f];have d:=b1;(try simp only [i,h,j] at d);rw [d];have g:=b2;(try simp only [i,h,j] at g);rw [g]
     first|rfl|simp
    rw [e];exact pK [] 5 2 (.k 2 (aX b2) (.k 1 (aQ b1) (.c (aX b0) .nil))) (.nil)
  ·have e:aC s L.ps.length x=false:=by
    unfold aC;have i:(((0:Nat):Int))=0:=rfl;have h:(((1:Nat):Int))=1:=rfl;have j:(((2:Nat):Int))=2:=rfl;have f:=b0;(try simp only [i,h,j] at f);rw [f];have d:=b1;(try simp only [i,h,j] at d);rw [d]
    first|rfl|simp
   rw [e];exact pK [] 5 0 (.k 3 (aX b1) (.c (aX b0) .nil)) (.nil)
def pJ:List Cl→Cl→List Cl→List Cl
 | [],y,r=>y::r
 |x::q,y,r=>if Am y x then pJ q y (x::r) else (x::q).reverse++y::r
def vz:List Cl→List Cl→List Cl
 |p,[]=>p
 |p,y::r=>vz (pJ p.reverse y []) r
def jv:List Cl→List Cl
 | []=> []
 |x::l=>vz [x] l
abbrev cB (l:List Cl):az:=⟨cL l,0,false,0,2,true⟩
theorem Vt {k:Nat} (a:k<2^62):ω (ν .i64 ((((k+1):Nat):Int) - ((1:Nat):Int)))= ω (k:Int):=by
 have e:ν .i64 ((((k+1):Nat):Int) - ((1:Nat):Int))=(k:Int):=by rw [jD]<;>omega
 rw [e]
theorem pM {a b n:Nat} (h:b=n) (c:a≤n):a≤b:=h ▸ c
theorem zW {a b:Nat} (h:a≤b):Xqq a b=true:=Nat.ble_eq_true_of_le h
theorem UK {L p r:List Cl} {x z:Cl} (b:L=p++x::r):Xqk ((0+(θ (p.length:Int)))*2) (cL L)++cC z++κ (((0+(θ (p.length:Int)))*2)+2) (cL L)=cL (p++z::r):=by
 subst b;rw [iy,Φ];have a:(cL p).length=p.length*2:=dF p;have e:cL (p++x::r)=cL p++(cC x++cL r):=by simp [cL]
 rw [e,Xjy a,List.drop_append,Xq5 (by omega),a,show p.length*2+2 - p.length*2=(cC x).length by simp [cC],Xjt];simp [cL]
theorem qC {L p r:List Cl} {x:Cl} (a:L=p++x::r):κ ((0+(θ (p.length:Int)))*2) (cL L)=cC x++cL r:=by
 rw [Φ];exact bI (n:=2) (fun _=>rfl) a
theorem Ws {p r:List Cl} {x y:Cl}:(p++x::y::r).length=p.length+r.length+2:=by simp;omega
def Qy (n i k:Nat) (L:List Cl):St:=⟨[(0,.ref 0 0 0 n),(1,ω 0),(2,ω (n:Int)),(3,.fn 41 [] []),(8,ω (i:Int)),(9,ω (k:Int))],[(0,⟨(cL L),0,false,0,2,true⟩)],.dead,[]⟩
theorem aaI {nt:Nat} (t:53≤nt) (L0 p r:List Cl) (x y:Cl) (n i:Nat) (hs:(p++x::y::r).length=n) (B:n<2^40) (l:gz x) (j:gz y) (m:Am y x=true):
  ag prog ap [cB L0] nt (ah 2 (af f132)) (Qy n i (p.length+1) (p++x::y::r)) .normal (Qy n i p.length (p++y::x::r)):=by
 obtain ⟨q,o,v⟩:=u_ y x j l;rw [m] at o;have e:=qC (L:=p++x::y::r) (p:=p) (x:=x) (r:=y::r) rfl;have f:κ ((0+(θ (((p.length+1):Nat):Int)))*2) (cL (p++x::y::r))=cC y++cL r:=by
  have:=qC (L:=p++x::y::r) (p:=p++ [x]) (x:=y) (r:=r) (by simp);simpa using this
 have d:p.length<2^62:=by rw [Ws] at hs;omega
 have u:p.length+1<n:=by rw [← hs,Ws];omega
 have c:(cL (p++x::y::r)).length=n*2:=by rw [dF,hs]
 have s:(decide (((0:Nat):Int)<(((p.length+1):Nat):Int)))=true:=Yq0 (by omega);have s1:Xqk ((0+(θ (((p.length+1):Nat):Int)))*2) (cL (p++x::y::r))++cC x++κ (((0+(θ (((p.length+1):Nat):Int)))*2)+2) (cL (p++x::y::r))=cL (p++x::x::r):=by
  have:=UK (L:=p++x::y::r) (p:=p++ [x]) (x:=y) (r:=r) (z:=x) (by simp);simpa using this
 have s2:=UK (L:=p++x::x::r) (p:=p) (x:=x) (r:=x::r) (z:=y) rfl;have hlen2:(cL (p++x::x::r)).length=n*2:=by rw [dF,← hs];simp
 rw [← s1] at s2 hlen2;unfold Qy;rw [← s2];clear s1 s2 hs;generalize A:p++x::y::r=L at*
 generalize p.length=k at*
 have g:(Xqq (((0+(θ (k:Int)))*2)+2) (Xqb (Xqk ((0+(θ (((k+1):Nat):Int)))*2) (cL L)++ [ω x.1,ω x.2]++κ (((0+(θ (((k+1):Nat):Int)))*2)+2) (cL L))))=true:=(zW (pM hlen2 (by omega)))
 have a:(decide ((k:Int)<(n:Int)))=true:=(kl (by omega))
 have h:(Xqq (((0+(θ (((k+1):Nat):Int)))*2)+2) (Xqb (cL L)))=true:=(zW (pM c (by omega)))
 have b:(decide ((((k+1):Nat):Int)<(n:Int)))=true:=(kl (by omega))
 exact pN 132 [] 2 3 (.c g (.k 1 a (.c h (.k 1 b (.a (bU [.int .i64,.int .i64] f rfl) (.k 1 b (.a (bU [.int .i64,.int .i64] e rfl) (.k 1 a (.c (aQ o) (.a (bU [.int .i64,.int .i64] e rfl) (.k 1 a (.a (bU [.int .i64,.int .i64] f rfl) (.k 1 b (.c (aQ s) .nil)))))))))))))) (.v 36 (.eq (Vt d)) (.v 50 (.rd [.int .i64,.int .i64] f rfl) (.v 46 (.rd [.int .i64,.int .i64] e rfl) (.v 44 (.eq (Vt d)) (.v 41 (.eq (Vt d)) (.c v (.v 31 (.rd [.int .i64,.int .i64] e rfl) (.v 29 (.eq (Vt d)) (.v 26 (.rd [.int .i64,.int .i64] f rfl) .nil))))))))) t
theorem aaK {nt:Nat} (o:53≤nt) (L0 p r:List Cl) (x y:Cl) (n i:Nat) (hs:(p++x::y::r).length=n) (v:n<2^40) (c:gz x) (b:gz y) (e:Am y x=false):
  ag prog ap [cB L0] nt (ah 2 (af f132)) (Qy n i (p.length+1) (p++x::y::r)) (.exit 2) ⟨[(0,.ref 0 0 0 n),(1,ω 0),(2,ω (n:Int)),(3,.fn 41 [] []),(8,ω (i:Int))],[(0,cB (p++x::y::r))],.dead,[]⟩:=by
 obtain ⟨q,f,t⟩:=u_ y x b c;rw [e] at f;have h:=qC (L:=p++x::y::r) (p:=p) (x:=x) (r:=y::r) rfl;have j:κ ((0+(θ (((p.length+1):Nat):Int)))*2) (cL (p++x::y::r))=cC y++cL r:=by
  have:=qC (L:=p++x::y::r) (p:=p++ [x]) (x:=y) (r:=r) (by simp);simpa using this
 have m:p.length<2^62:=by rw [Ws] at hs;omega
 have s:p.length+1<n:=by rw [← hs,Ws];omega
 have g:(cL (p++x::y::r)).length=n*2:=by rw [dF,hs]
 have l:(decide (((0:Nat):Int)<(((p.length+1):Nat):Int)))=true:=Yq0 (by omega);clear hs;unfold Qy;generalize u:p++x::y::r=L at*
 generalize p.length=k at*
 have d:(decide ((k:Int)<(n:Int)))=true:=(kl (by omega))
 have a:(decide ((((k+1):Nat):Int)<(n:Int)))=true:=(kl (by omega))
 exact pN 132 [] 2 1 (.c (aX f) (.a (bU [.int .i64,.int .i64] h rfl) (.k 1 d (.a (bU [.int .i64,.int .i64] j rfl) (.k 1 a (.c (aQ l) .nil)))))) (.c t (.v 31 (.rd [.int .i64,.int .i64] h rfl) (.v 29 (.eq (Vt m)) (.v 26 (.rd [.int .i64,.int .i64] j rfl) .nil)))) o
theorem adZ {nt:Nat} (a:53≤nt) (L0 L:List Cl) (n i:Nat):
  ag prog ap [cB L0] nt (ah 2 (af f132)) (Qy n i 0 L) (.exit 2) ⟨[(0,.ref 0 0 0 n),(1,ω 0),(2,ω (n:Int)),(3,.fn 41 [] []),(8,ω (i:Int))],[(0,cB L)],.dead,[]⟩:=pN 132 [] 2 0 (.n 2 .nil) (.nil) a
theorem Jf {nt:Nat} (a:53≤nt) (L0:List Cl) (n i:Nat) (c:n<2^40) (y:Cl) (b:gz y):∀ (q r:List Cl),(∀ x ∈ q,gz x)→(q.reverse++y::r).length=n→
  aN prog ap [cB L0] nt (ah 2 (af f132)) (fun _=> .exit 2) (fun p:List Cl × List Cl=>Qy n i p.1.length (p.1.reverse++y::p.2)) (fun L=> ⟨[(0,.ref 0 0 0 n),(1,ω 0),(2,ω (n:Int)),(3,.fn 41 [] []),(8,ω (i:Int))],[(0,cB L)],.dead,[]⟩) (q,r) (pJ q y r)
 | [],r,_,_=> .done (adZ a L0 (y::r) n i)
 | x::q,r,hq,hs=>by
  have d:=hq x (by simp);have e:(x::q).reverse++y::r=q.reverse++x::y::r:=by simp
  rw [e] at hs;unfold pJ;cases h:Am y x with
  |true=>
   rw [if_pos rfl];refine .next (a':=(q,x::r)) ?_ (Jf a L0 n i c y b q (x::r) (fun z f=>hq z (by simp [f])) (by simpa using hs))
   have:=aaI a L0 q.reverse r x y n i hs c d b h;show ag _ _ _ _ _ (Qy n i (q.length+1) ((x::q).reverse++y::r)) _ (Qy n i q.length (q.reverse++y::x::r));rw [e];simpa using this
  |false=>
   rw [if_neg (by simp)];refine .done ?_;have:=aaK a L0 q.reverse r x y n i hs c d b h;show ag _ _ _ _ _ (Qy n i (q.length+1) ((x::q).reverse++y::r)) _ _;rw [e];simpa using this
theorem Je:∀ (q:List Cl) (y:Cl) (r s:List Cl),pJ q y (r++s)=pJ q y r++s
 | [],y,r,s=>by simp [pJ]
 |x::q,y,r,s=>by
  unfold pJ;cases Am y x with
  |true=>rw [if_pos rfl,if_pos rfl,← Je q y (x::r) s];rfl
  |false=>rw [if_neg (by simp),if_neg (by simp)];simp
theorem yl:∀ (q:List Cl) (y:Cl) (r:List Cl),(pJ q y r).Perm (q.reverse++y::r)
 | [],y,r=>by simp [pJ]
 | x::q,y,r=>by
  unfold pJ;cases Am y x with
  |true=>
   rw [if_pos rfl];refine (yl q y (x::r)).trans ?_;rw [List.reverse_cons,Xqi];exact List.Perm.append_left _ (List.Perm.swap x y r)
  |false=>rw [if_neg (by simp)]
theorem zt:∀ (r p:List Cl),(vz p r).Perm (p++r)
 | [],p=>by simp [vz]
 |y::r,p=>by
  unfold vz;refine (zt r _).trans ?_;have:=(yl p.reverse y []).append_right r;simpa using this
theorem vF (l:List Cl):(jv l).Perm l:=by
 cases l with
 |nil=>exact List.Perm.refl _
 |cons x l=>exact zt l [x]
def Dk (n k:Nat) (L:List Cl):St:=(ZH n n k (cL L))
theorem aa7 {nt:Nat} (a:53≤nt) (L0 p r:List Cl) (y:Cl) (n:Nat) (hs:(p++y::r).length=n) (d:n<2^40) (hp:∀ x ∈ p,gz x) (j:gz y):
  ag prog ap [cB L0] nt (ah 0 (af f132)) (Dk n p.length (p++y::r)) .normal (Dk n (p.length+1) (pJ p.reverse y []++r)):=by
 have f:p.length<2^62:=by rw [← hs] at d;simp at d;omega
 have g:p.length<n:=by rw [← hs];simp
 have e:(decide ((p.length:Int)<(n:Int)))=true:=Yq0 (by omega);have b:=aN.blk (id:=2) (e':= .normal) (s:=Qy n p.length p.length (p++y::r)) (s':=⟨[(0,.ref 0 0 0 n),(1,ω 0),(2,ω (n:Int)),(3,.fn 41 [] []),(8,ω (p.length:Int))],[(0,cB (pJ p.reverse y r))],.dead,[]⟩) (fun nt (a:53≤nt)=>Jf a L0 n p.length d y j p.reverse r (fun x i=>hp x (by simpa using i)) (by simpa using hs)) (by simp) rfl
  (by simpa using aH.refl _) (aH.refl _)
 rw [← Xqj r,Je p.reverse y [] r,Xqj] at b;unfold Qy at b;unfold Dk;generalize l:p++y::r=L at*
 generalize pJ p.reverse y []++r=L2 at*
 generalize p.length=k at*
 have h:bG prog ap [cB L0] 53 (.block 2 (.loop (ah 2 (af f132)))) (ZI n n (k:Int) (ω (k:Int)) (.bool (decide ((k:Int)<(n:Int)))) (cL L)) (.normal) (ZH n n k (cL L2)):=(fun nt c=>(b nt c).weak (aH.of ⟨rfl,rfl,rfl,rfl,rfl,rfl,trivial⟩) (aH.refl _))
 exact pN 132 [2] 1 1 (.c (aQ e) .nil) (.v 16 (.eq (wpS f)) (.l h .nil)) a
theorem Oj {nt:Nat} (b:53≤nt) (L0 L:List Cl) (n k:Nat) (h:n≤k):ag prog ap [cB L0] nt (ah 0 (af f132)) (Dk n k L) (.exit 0) ⟨[],[(0,cB L)],.dead,[]⟩:=by
 have a:(decide ((k:Int)<(n:Int)))=false:=Yq1 (by omega);exact pN 132 [2] 1 0 (.c (aX a) .nil) .nil b
theorem Jw {nt:Nat} (d:53≤nt) (L0:List Cl) (n:Nat) (e:n<2^40):∀ (r p:List Cl),(∀ x ∈ p,gz x)→(∀ x ∈ r,gz x)→(p++r).length=n→
  aN prog ap [cB L0] nt (ah 0 (af f132)) (fun _=> .exit 0) (fun q:List Cl × List Cl=>Dk n q.1.length (q.1++q.2)) (fun L=> ⟨[],[(0,cB L)],.dead,[]⟩) (p,r) (vz p r)
 | [],p,_,_,hs=>by
  refine .done ?_;show ag _ _ _ _ _ (Dk n p.length (p++ [])) _ _;have:=Oj d L0 (p++ []) n p.length (by rw [← hs];simp);rw [μ] at this ⊢;exact this
 | y::r,p,hp,hr,hs=>by
  unfold vz;have b:=yl p.reverse y [];rw [List.reverse_reverse] at b;have a:(pJ p.reverse y []).length=p.length+1:=by rw [b.length_eq];simp
  refine .next (a':=(pJ p.reverse y [],r)) ?_ (Jw d L0 n e r (pJ p.reverse y []) (fun x c=> ?_) (fun x c=>hr x (by simp [c])) (by rw [← hs];simp [a];omega))
  ·show ag _ _ _ _ _ (Dk n p.length (p++y::r)) _ (Dk n (pJ p.reverse y []).length (pJ p.reverse y []++r));rw [a];exact aa7 d L0 p r y n hs e hp (hr y (by simp))
  ·have:=b.mem_iff.1 c;simp at this;rcases this with h|h
   ·exact hp x h
   ·subst h;exact hr x (by simp)
theorem aaJ (l:List Cl) (g:l.length<2^40) (hs:∀ x ∈ l,gz x):ae prog ap 132 [.ref 0 0 0 l.length,ω 0,ω (l.length:Int),.fn 41 [] []] [cB l] (.ret (.tup [])) [cB (jv l)]:=by
 have hloop:bG prog ap [cB l] 53 (.block 0 (.loop (ah 0 (af f132)))) (Dk l.length 1 l) .normal ⟨[],[(0,cB (jv l))],.dead,[]⟩:=by
  cases l with
  |nil=>exact aN.blk (id:=0) (e':= .normal) (fun nt c=>aN.done (α:=Unit) (β:=Unit) (a:=()) (r:=()) (e:=fun _=> .exit 0) (st:=fun _=>Dk 0 1 []) (out:=fun _=> ⟨[],[(0,cB [])],.dead,[]⟩) (Oj c [] [] 0 1 (by omega))) (by simp) rfl (aH.refl _) (aH.refl _)
  |cons x r=>exact aN.blk (id:=0) (e':= .normal) (fun nt c=>Jw c (x::r) (x::r).length g r [x] (fun z b=>by simp at b;subst b;exact hs z (by simp)) (fun z b=>hs z (by simp [b])) rfl) (by simp) rfl (aH.refl _) (aH.refl _)
 unfold Dk at hloop;have f:bG prog ap [cB l] 53 (.block 0 (.loop (ah 0 (af f132)))) (ZI l.length l.length 1 (.dead) (.dead) (cL l)) (.normal) ⟨[],[(0,⟨(cL (jv l)),0,false,0,2,true⟩)],.dead,[]⟩:=(fun nt d=>(hloop nt d).weak (aH.of ⟨rfl,rfl,rfl,rfl,rfl,trivial⟩) (aH.refl _))
 exact pK [0] 0 0 .nil (.l f .nil)
end Go.Proofs.Tryz
namespace Go.Proofs.Tryz
open Go AM
theorem cD (c:List Nat) {ans:List (gV × List az)} {ps:List Prop} {f:Nat} {args:List AV} {h a:List az} {out:gV} (hp:PS prog ap ps ans [] [])
  (he:lG ap (Ho prog ap 3000 c 9) 3000 .dead f args h ⟨true,[],[],[],ans,[]⟩= .ok (out,a,.dead) ⟨true,[],[],ps,[],[]⟩:=by kernel_rfl):ae prog ap f args h out a:=LY good.apok good.mixed good.fnok he ⟨fun _ b=>(by cases b),hp.all.mem⟩
theorem aaR:∀ n:Nat,n≤12→∃ v:Int,CO 91 [.int .u64 (n:Int)] (.ret (ω v))
 |0,_=> ⟨0,cD [] .nil⟩
 |1,_=> ⟨1,cD [] .nil⟩
 |2,_=> ⟨2,cD [] .nil⟩
 |3,_=> ⟨2,cD [] .nil⟩
 |4,_=> ⟨3,cD [] .nil⟩
 |5,_=> ⟨3,cD [] .nil⟩
 |6,_=> ⟨3,cD [] .nil⟩
 |7,_=> ⟨3,cD [] .nil⟩
 |8,_=> ⟨4,cD [] .nil⟩
 |9,_=> ⟨4,cD [] .nil⟩
 |10,_=> ⟨4,cD [] .nil⟩
 |11,_=> ⟨4,cD [] .nil⟩
 |12,_=> ⟨4,cD [] .nil⟩
 |n+13,h=>absurd h (by omega)
theorem aa8 (L L2:List Cl) (n:Nat) (v:Int) (c:n≤12) (h:ae prog ap 132 [.ref 0 0 0 n,ω 0,ω (n:Int),.fn 41 [] []] [cB L] (.ret (.tup [])) [cB L2]):ae prog ap 90 [.ref 0 0 0 n,ω 0,ω (n:Int),ω v,.fn 41 [] []] [cB L] (.ret (.tup [])) [cB L2]:=by
 have b:ω (ν .i64 ((n:Int) - ((0:Nat):Int)))= ω (n:Int):=by
  have e:ν .i64 ((n:Int) - ((0:Nat):Int))=(n:Int):=by rw [jD]<;>omega
  rw [e]
 have a:(decide ((n:Int)≤((12:Nat):Int)))=true:=Yq0 (by omega);exact pK [] 1 1 (.c (aQ a) .nil) (.c h (.v 23 (.eq b) .nil))
theorem Xh (l:List Cl) (a:l.length≤12) (hs:∀ x ∈ l,gz x):ae prog ap 40 [.ref 0 0 0 l.length,.fn 41 [] []] [cB l] (.ret (.tup [])) [cB (jv l)]:=by
 obtain ⟨v,d⟩:=aaR l.length a;have c:=aa8 l (jv l) l.length v a (aaJ l (by omega) hs);have b:AV.int .u64 (ν .u64 (l.length:Int))= .int .u64 (l.length:Int):=by
  have e:ν .u64 (l.length:Int)=(l.length:Int):=by rw [akk]<;>omega
  rw [e]
 generalize jv l=L2 at*
 generalize l.length=n at*
 exact pK [] 0 0 .nil (.c c (.c d (.v 10 (.eq b) .nil)))
theorem UN:CO 40 [.nilS,.fn 41 [] []] (.ret (.tup [])):=cD [] .nil
def Nl (y x:Cl):Bool:=((y.1==x.1) && ((y.2==x.2) && true))
def ui:List Cl→Cl→List Cl→List Cl
 |A,_,[]=>A
 |A,z,y::r=>if Nl y z then ui A y r else ui (A++ [y]) y r
def dN:List Cl→List Cl
 | []=> []
 |x::l=>ui [x] x l
def xY:List Cl→List Cl→Cl→List Cl→List Cl × List Cl
 |A,G,z,[]=>(A,G++ [z])
 |A,G,z,y::r=>if Nl y z then xY A (G++ [z]) y r else xY (A++ [y]) (G++ [z]).tail y r
theorem BH:∀ (r A G:List Cl) (z:Cl),(xY A G z r).1=ui A z r
 | [],A,G,z=>rfl
 |y::r,A,G,z=>by
  unfold xY ui;split
  ·exact BH r A _ y
  ·exact BH r _ _ y
theorem BI:∀ (r A G:List Cl) (z:Cl),(xY A G z r).1.length+(xY A G z r).2.length=A.length+G.length+1+r.length
 | [],A,G,z=>by simp [xY];omega
 |y::r,A,G,z=>by
  unfold xY;split
  ·rw [BI r A _ y];simp;omega
  ·rw [BI r _ _ y];simp;omega
theorem Nc {L p r:List Cl} {x:Cl} {a j:Nat} (c:L=p++x::r) (b:a+j=p.length):κ ((a+(θ (j:Int)))*2) (cL L)=cC x++cL r:=by
 have:=bI (f:=cC) (n:=2) (fun _=>rfl) c;rw [iy] at this ⊢;rw [b];exact this
def Vp (n k kz q j:Nat) (L:List Cl):St:=⟨[(0,.ref 0 0 0 n),(3,ω (k:Int)),(4,.ref 0 0 kz q),(5,ω (((j+1):Nat):Int))],[(0,⟨(cL L),0,false,0,2,true⟩)],.dead,[]⟩
theorem acA {nt:Nat} (t:61≤nt) (L0 A G r:List Cl) (x y:Cl) (n a q j:Nat) (hs:(A++G++x::y::r).length=n) (E:n<2^40) (C:a+q=n) (v:A.length+G.length=a+j) (o:Nl y x=false):
  ag prog ap [cB L0] nt (ah 2 (af f42)) (Vp n A.length a q j (A++G++x::y::r)) .normal (Vp n (A++ [y]).length a q (j+1) ((A++ [y])++(G++ [x]).tail++y::r)):=by
 have m:(κ ((a+(θ (j:Int)))*2) (cL (A++G++x::y::r)))=cC x++cL (y::r):=Nc (p:=A++G) rfl (by simp;omega);have c:(κ ((a+(θ (((j+1):Nat):Int)))*2) (cL (A++G++x::y::r)))=cC y++cL r:=Nc (p:=A++G++ [x]) (by simp) (by simp;omega);have b:(cL (A++G++x::y::r)).length=n*2:=by rw [dF,hs]
 have u:A.length+G.length+2+r.length=n:=by rw [← hs];simp;omega
 have d:(decide ((((j+1):Nat):Int)<(q:Int)))=true:=kl (by omega);have B:j<2^62:=by omega
 have i:j+1<2^62:=by omega
 have s:A.length<2^62:=by omega
 have s1:Xqk ((0+(θ (A.length:Int)))*2) (cL (A++G++x::y::r))++cC y++κ (((0+(θ (A.length:Int)))*2)+2) (cL (A++G++x::y::r))=cL ((A++ [y])++(G++ [x]).tail++y::r):=by
  cases G with
  |nil=>have:=UK (L:=A++ []++x::y::r) (p:=A) (x:=x) (r:=y::r) (z:=y) (by simp);simpa using this
  |cons g G=>have:=UK (L:=A++(g::G)++x::y::r) (p:=A) (x:=g) (r:=G++x::y::r) (z:=y) (by simp);simpa using this
 have e:(A++ [y]).length=A.length+1:=by simp
 unfold Vp;rw [e,← s1];clear s1 e hs;unfold Nl at o;generalize D:A++G++x::y::r=L at*
 generalize A.length=k at*
 have h:(Xqq (((0+(θ (k:Int)))*2)+2) (Xqb (cL L)))=true:=(zW (pM b (by omega)))
 have l:(decide ((k:Int)<(n:Int)))=true:=(kl (by omega))
 have f:(decide ((j:Int)<(q:Int)))=true:=(kl (by omega))
 exact pN 42 [] 2 3 (.c h (.k 1 l (.a (bU [.int .i64,.int .i64] c rfl) (.k 1 d (.c (nK o) (.a (bU [.int .i64,.int .i64] m rfl) (.k 1 f (.a (bU [.int .i64,.int .i64] c rfl) (.k 1 d (.c (aQ d) .nil)))))))))) (.v 34 (.eq (wpS i)) (.v 53 (.eq (wpS s)) (.v 50 (.rd [.int .i64,.int .i64] c rfl) (.v 43 (.rd [.int .i64,.int .i64] m rfl) (.v 41 (.eq (Vt B)) (.v 38 (.rd [.int .i64,.int .i64] c rfl) .nil)))))) t
theorem acz {nt:Nat} (i:61≤nt) (L0 A G r:List Cl) (x y:Cl) (n a q j:Nat) (hs:(A++G++x::y::r).length=n) (v:n<2^40) (t:a+q=n) (m:A.length+G.length=a+j) (g:Nl y x=true):
  ag prog ap [cB L0] nt (ah 2 (af f42)) (Vp n A.length a q j (A++G++x::y::r)) .normal (Vp n A.length a q (j+1) (A++G++x::y::r)):=by
 have f:(κ ((a+(θ (j:Int)))*2) (cL (A++G++x::y::r)))=cC x++cL (y::r):=Nc (p:=A++G) rfl (by simp;omega);have h:(κ ((a+(θ (((j+1):Nat):Int)))*2) (cL (A++G++x::y::r)))=cC y++cL r:=Nc (p:=A++G++ [x]) (by simp) (by simp;omega);have e:(cL (A++G++x::y::r)).length=n*2:=by rw [dF,hs]
 have l:A.length+G.length+2+r.length=n:=by rw [← hs];simp;omega
 have d:(decide ((((j+1):Nat):Int)<(q:Int)))=true:=kl (by omega);have o:j<2^62:=by omega
 have b:j+1<2^62:=by omega
 have s:A.length<2^62:=by omega
 unfold Vp;clear hs;unfold Nl at g;generalize u:A++G++x::y::r=L at*
 generalize A.length=k at*
 have c:(decide ((j:Int)<(q:Int)))=true:=(kl (by omega))
 exact pN 42 [] 2 1 (.c (fZ g) (.a (bU [.int .i64,.int .i64] f rfl) (.k 1 c (.a (bU [.int .i64,.int .i64] h rfl) (.k 1 d (.c (aQ d) .nil)))))) (.v 34 (.eq (wpS b)) (.v 43 (.rd [.int .i64,.int .i64] f rfl) (.v 41 (.eq (Vt o)) (.v 38 (.rd [.int .i64,.int .i64] h rfl) .nil)))) i
theorem acy {nt:Nat} (b:61≤nt) (L0 L:List Cl) (n k c q j:Nat) (h:q≤j+1):
  ag prog ap [cB L0] nt (ah 2 (af f42)) (Vp n k c q j L) (.exit 2) ⟨[(0,.ref 0 0 0 n),(3,ω (k:Int))],[(0,cB L)],.dead,[]⟩:=by
 have a:(decide ((((j+1):Nat):Int)<(q:Int)))=false:=kn h;exact pN 42 [] 1 0 (.c (aX a) .nil) .nil b
theorem Gi {nt:Nat} (b:61≤nt) (L0:List Cl) (n a q:Nat) (c:n<2^40) (d:a+q=n):∀ (r A G:List Cl) (z:Cl) (j:Nat),(A++G++z::r).length=n→A.length+G.length=a+j→
  aN prog ap [cB L0] nt (ah 2 (af f42)) (fun _=> .exit 2) (fun p:List Cl × List Cl × Cl × List Cl × Nat=>Vp n p.1.length a q p.2.2.2.2 (p.1++p.2.1++p.2.2.1::p.2.2.2.1)) (fun p:List Cl × List Cl=> ⟨[(0,.ref 0 0 0 n),(3,ω (p.1.length:Int))],[(0,cB (p.1++p.2))],.dead,[]⟩) (A,G,z,r,j) (xY A G z r)
 | [],A,G,z,j,hs,hj=>by
  refine .done ?_;have:=acy b L0 (A++G++ [z]) n A.length a q j (by simp at hs;omega);simpa [xY] using this
 | y::r,A,G,z,j,hs,hj=>by
  unfold xY;cases e:Nl y z with
  |true=>
   rw [if_pos rfl];refine .next (a':=(A,G++ [z],y,r,j+1)) ?_ (Gi b L0 n a q c d r A (G++ [z]) y (j+1) (by simpa using hs) (by simp;omega))
   have:=acz b L0 A G r z y n a q j hs c d hj e;simpa using this
  |false=>
   rw [if_neg (by simp)];refine .next (a':=(A++ [y],(G++ [z]).tail,y,r,j+1)) (acA b L0 A G r z y n a q j hs c d hj e) (Gi b L0 n a q c d r (A++ [y]) (G++ [z]).tail y (j+1) ?_ ?_)
   ·simp at hs ⊢;omega
   ·simp;omega
def Ig (k:Nat):List AV:=gu k [ω 0,ω 0]
theorem O5 (k:Nat):(Ig k).length=k*2:=by unfold Ig gu;simp [List.length_flatten]
def zX (n k:Nat) (L:List Cl):St:=⟨[(0,.ref 0 0 0 n),(3,ω (((k+1):Nat):Int))],[(0,⟨(cL L),0,false,0,2,true⟩)],.dead,[]⟩
def cp1:List Cl→Cl→List Cl→Option (List Cl)
 |_,_,[]=>none
 |p,x,y::r=>if Nl y x then some (ui (p++ [x]) y r) else cp1 (p++ [x]) y r
def aan:Option (List Cl)→aJ
 |none=> .exit 0
 |some _=> .ret
def acx (n:Nat) (L:List Cl):Option (List Cl)→St
 |none=> ⟨[(0,.ref 0 0 0 n)],[(0,cB L)],.dead,[]⟩
 |some A=>(Xk A.length (cL A++Ig (n - A.length)))
theorem Q4:∀ (r p:List Cl) (x:Cl),(match cp1 p x r with|none=>p++x::r|some A=>A)=ui (p++ [x]) x r
 | [],p,x=>rfl
 | y::r,p,x=>by
  rw [cp1,ui];cases a:Nl y x with
  |true=>rw [if_pos rfl,if_pos rfl]
  |false=>
   rw [if_neg (by simp),if_neg (by simp)];have:=Q4 r (p++ [x]) y;cases h:cp1 (p++ [x]) y r with
   |none=>rw [h] at this;simpa using this
   |some A=>rw [h] at this;exact this
theorem aaq {nt:Nat} (l:61≤nt) (L0 p r:List Cl) (x y:Cl) (n:Nat) (hs:(p++x::y::r).length=n) (U:n<2^40) (F:Nl y x=true):
  ag prog ap [cB L0] nt (ah 0 (af f42)) (zX n p.length (p++x::y::r)) .ret (acx n (p++x::y::r) (some (ui (p++ [x]) y r))):=by
 have z:=qC (L:=p++x::y::r) (p:=p) (x:=x) (r:=y::r) rfl;have C:κ ((0+(θ (((p.length+1):Nat):Int)))*2) (cL (p++x::y::r))=cC y++cL r:=by
  have:=qC (L:=p++x::y::r) (p:=p++ [x]) (x:=y) (r:=r) (by simp);simpa using this
 have S:p.length+r.length+2=n:=by rw [← hs];simp;omega
 have I:p.length<2^62:=by omega
 have N:p.length+1<2^62:=by omega
 have E:(cL (p++x::y::r)).length=n*2:=by rw [dF,hs]
 have H:(decide ((((p.length+1):Nat):Int)<(n:Int)))=true:=kl (by omega);obtain ⟨q,i⟩:∃ q,q=n - (p.length+1):=⟨_,rfl⟩
 have K:AV.ref 0 0 (0+(θ (((p.length+1):Nat):Int))) ((θ (n:Int)) - (θ (((p.length+1):Nat):Int)))= .ref 0 0 (p.length+1) q:=by
  rw [iy,iy,Φ,← i]
 have G:(xY (p++ [x]) [] y r).1=ui (p++ [x]) y r:=BH r (p++ [x]) [] y;have d:=BI r (p++ [x]) [] y;have f:=aN.blk (id:=2) (e':= .normal) (s:=Vp n (p++ [x]).length (p.length+1) q 0 ((p++ [x])++ []++y::r)) (fun nt (l:61≤nt)=>Gi l L0 n (p.length+1) q U (by omega) r (p++ [x]) [] y 0 (by rw [← hs];simp) (by simp)) (by simp) rfl (aH.refl _) (aH.refl _);rw [← G];generalize o:xY (p++ [x]) [] y r=RR at*
 obtain ⟨A,B⟩:=RR;have D:(p++ [x])++ []++y::r=p++x::y::r:=by simp
 have g:(p++ [x]).length=p.length+1:=by simp
 rw [D,g] at f;simp only [g,Xqf] at d;have b:A.length+B.length=n:=by omega
 have hlen2:(cL (A++B)).length=n*2:=by rw [dF,η,b]
 have a:Xqk ((0+(θ (A.length:Int)))*2) (cL (A++B))++(gu ((θ (n:Int)) - (θ (A.length:Int))) [ω 0,ω 0])++κ (((0+(θ (A.length:Int)))*2)+(Xqb (gu ((θ (n:Int)) - (θ (A.length:Int))) [ω 0,ω 0]))) (cL (A++B))=cL A++Ig (n - A.length):=by
  rw [iy,iy,Φ];have O:(cL A).length=A.length*2:=dF A;have Q:cL (A++B)=cL A++cL B:=by simp [cL]
  have M:(gu (n - A.length) [ω 0,ω 0]).length=(n - A.length)*2:=O5 _;rw [M,Q,Xjy O,Xq5 (by rw [η,dF,dF];omega),μ];rfl
 show ag _ _ _ _ _ (zX n p.length (p++x::y::r)) _ (Xk A.length (cL A++Ig (n - A.length)));rw [← a];unfold Vp at f;unfold zX;simp only at f;have R:A.length≤n:=by omega
 clear hs a o G d D g b;unfold Nl at F;generalize V:p++x::y::r=L at*
 generalize J:A++B=L2 at*
 generalize p.length=k at*
 generalize A.length=m at*
 have T:bG prog ap [cB L0] 61 (.block 2 (.loop (ah 2 (af f42)))) (UW n (.dead) (((k+1):Nat):Int) (.ref 0 0 (k+1) q) (ω 1) (.dead) (.bool (decide ((((k+1):Nat):Int)<(n:Int)))) (.bool ((y.1==x.1) && ((y.2==x.2) && true))) (cL L)) (.normal) ⟨[(0,.ref 0 0 0 n),(3,ω (m:Int))],[(0,⟨(cL L2),0,false,0,2,true⟩)],.dead,[]⟩:=(fun nt u=>(f nt u).weak (aH.of ⟨rfl,rfl,rfl,rfl,trivial⟩) (aH.refl _))
 have e:(decide ((m:Int)≤(n:Int)))=true:=(Yq0 (by omega))
 have t:(Xqq (((0+(θ (m:Int)))*2)+(((θ (n:Int)) - (θ (m:Int)))*2)) (Xqb (cL L2)))=true:=(zW (pM hlen2 (by omega)))
 have c:(decide ((n:Int)≤(n:Int)))=true:=(Yq0 (by omega))
 have j:(decide ((((k+1):Nat):Int)≤(n:Int)))=true:=(Yq0 (by omega))
 have h:(decide ((k:Int)<(n:Int)))=true:=(kl (by omega))
 have v:(decide ((((k+1):Nat):Int)<(n:Int)))=true:=(kl (by omega))
 exact pN 42 [2] 2 3 (.k 2 e (.c t (.k 1 e (.c c (.k 1 j (.c c (.c (aQ F) (.a (bU [.int .i64,.int .i64] z rfl) (.k 1 h (.a (bU [.int .i64,.int .i64] C rfl) (.k 1 v (.c (aQ H) .nil)))))))))))) (.l T (.v 28 (.eq K) (.v 24 (.rd [.int .i64,.int .i64] z rfl) (.v 22 (.eq (Vt I)) (.v 19 (.rd [.int .i64,.int .i64] C rfl) .nil))))) l
theorem aap {nt:Nat} (j:61≤nt) (L0 p r:List Cl) (x y:Cl) (n:Nat) (hs:(p++x::y::r).length=n) (o:n<2^40) (f:Nl y x=false):
  ag prog ap [cB L0] nt (ah 0 (af f42)) (zX n p.length (p++x::y::r)) .normal (zX n (p.length+1) (p++x::y::r)):=by
 have e:=qC (L:=p++x::y::r) (p:=p) (x:=x) (r:=y::r) rfl;have g:κ ((0+(θ (((p.length+1):Nat):Int)))*2) (cL (p++x::y::r))=cC y++cL r:=by
  have:=qC (L:=p++x::y::r) (p:=p++ [x]) (x:=y) (r:=r) (by simp);simpa using this
 have l:p.length+r.length+2=n:=by rw [← hs];simp;omega
 have i:p.length<2^62:=by omega
 have b:p.length+1<2^62:=by omega
 have d:(cL (p++x::y::r)).length=n*2:=by rw [dF,hs]
 have h:(decide ((((p.length+1):Nat):Int)<(n:Int)))=true:=kl (by omega);unfold zX;clear hs;unfold Nl at f;generalize m:p++x::y::r=L at*
 generalize p.length=k at*
 have c:(decide ((k:Int)<(n:Int)))=true:=(kl (by omega))
 have a:(decide ((((k+1):Nat):Int)<(n:Int)))=true:=(kl (by omega))
 exact pN 42 [2] 2 1 (.c (aX f) (.a (bU [.int .i64,.int .i64] e rfl) (.k 1 c (.a (bU [.int .i64,.int .i64] g rfl) (.k 1 a (.c (aQ h) .nil)))))) (.v 15 (.eq (wpS b)) (.v 24 (.rd [.int .i64,.int .i64] e rfl) (.v 22 (.eq (Vt i)) (.v 19 (.rd [.int .i64,.int .i64] g rfl) .nil)))) j
theorem aao {nt:Nat} (b:61≤nt) (L0 L:List Cl) (n k:Nat) (h:n≤k+1):
  ag prog ap [cB L0] nt (ah 0 (af f42)) (zX n k L) (.exit 0) ⟨[(0,.ref 0 0 0 n)],[(0,cB L)],.dead,[]⟩:=by
 have a:(decide ((((k+1):Nat):Int)<(n:Int)))=false:=kn h;exact pN 42 [2] 1 0 (.c (aX a) .nil) .nil b
theorem II {nt:Nat} (a:61≤nt) (L0 L:List Cl) (n:Nat) (b:n<2^40) (hs:L.length=n):∀ (r p:List Cl) (x:Cl),p++x::r=L→
  aN prog ap [cB L0] nt (ah 0 (af f42)) aan (fun k:Nat=>zX n k L) (acx n L) p.length (cp1 p x r)
 | [],p,x,h=>by
  refine .done ?_;exact aao a L0 L n p.length (by rw [← hs,← h];simp)
 | y::r,p,x,h=>by
  unfold cp1;cases c:Nl y x with
  |true=>
   rw [if_pos rfl];refine .done ?_;have:=aaq a L0 p r x y n (by rw [h];exact hs) b c;rwa [h] at this
  |false=>
   rw [if_neg (by simp)];have:=aap a L0 p r x y n (by rw [h];exact hs) b c;rw [h] at this;refine .next (a':=p.length+1) this ?_
   have d:=II a L0 L n b hs r (p++ [x]) y (by rw [← h];simp);simpa using d
theorem O4 (l:List AV):l++Ig 0=l:=by simp [Ig,gu]
theorem KI (l:List Cl) (g:l.length<2^40):ae prog ap 42 [.ref 0 0 0 l.length] [cB l] (.ret (.ref 0 0 0 (dN l).length)) [⟨cL (dN l)++Ig (l.length - (dN l).length),0,false,0,2,true⟩]:=by
 have small:∀ (L:List Cl) (n:Nat),n<2→ae prog ap 42 [.ref 0 0 0 n] [cB L] (.ret (.ref 0 0 0 n)) [cB L]:=fun L n f=>by
  have d:(decide (((n:Nat):Int)<((2:Nat):Int)))=true:=kl f;exact pK [0] 1 1 (.c (aQ d) .nil) .nil
 match l,g with
 | [],_=>have:=small [] 0 (by omega);simpa [dN,O4] using this
 | [x],_=>
  have:=small [x] 1 (by omega);show ae prog ap 42 [.ref 0 0 0 1] [cB [x]] (.ret (.ref 0 0 0 1)) [⟨cL [x]++Ig 0,0,false,0,2,true⟩];rw [O4];exact this
 | x::y::r,g=>
  have c:=Q4 (y::r) [] x;rw [Xqj,Xqj] at c;have j:dN (x::y::r)=ui [x] x (y::r):=rfl;rw [j,← c];have hloop:=fun nt (f:61≤nt)=>II f (x::y::r) (x::y::r) (x::y::r).length g rfl (y::r) [] x rfl
  have d:(decide ((((x::y::r).length:Nat):Int)<((2:Nat):Int)))=false:=kn (by simp);cases h:cp1 [] x (y::r) with
  |none=>
   rw [h] at hloop;have b:=aN.blk (id:=0) (e':= .normal) (s:=zX (x::y::r).length 0 (x::y::r)) (s':=⟨[(0,.ref 0 0 0 (x::y::r).length)],[(0,cB (x::y::r))],.dead,[]⟩) hloop (by simp [aan]) rfl (aH.refl _) (aH.refl _);unfold zX at b;simp only [Xwt,O4];generalize i:x::y::r=L at*
   generalize L.length=n at*
   have e:bG prog ap [cB L] 61 (.block 0 (.loop (ah 0 (af f42)))) (UW n (.nilS) 1 (.dead) (.dead) (.bool (decide (((n:Nat):Int)<((2:Nat):Int)))) (.dead) (.dead) (cL L)) (.normal) ⟨[(0,.ref 0 0 0 n)],[(0,⟨(cL L),0,false,0,2,true⟩)],.dead,[]⟩:=(fun nt a=>(b nt a).weak (aH.of ⟨rfl,rfl,trivial⟩) (aH.refl _))
   exact pK [0] 1 0 (.c (aX d) .nil) (.l e .nil)
  |some A=>
   rw [h] at hloop;have b:=aN.blk (id:=0) (e':= .ret) (s:=zX (x::y::r).length 0 (x::y::r)) (s':=(Xk A.length (cL A++Ig ((x::y::r).length - A.length)))) hloop (by simp [aan]) rfl (aH.refl _) (aH.refl _);unfold zX at b;show ae prog ap 42 _ _ (.ret (.ref 0 0 0 A.length)) [⟨cL A++Ig ((x::y::r).length - A.length),0,false,0,2,true⟩];generalize i:x::y::r=L at*
   generalize L.length=n at*
   generalize A.length=k at*
   generalize cL A++Ig (n - k)=C2 at*
   have e:bG prog ap [cB L] 61 (.block 0 (.loop (ah 0 (af f42)))) (UW n (.nilS) 1 (.dead) (.dead) (.bool (decide (((n:Nat):Int)<((2:Nat):Int)))) (.dead) (.dead) (cL L)) (.ret) (Xk k C2):=(fun nt a=>(b nt a).weak (aH.of ⟨rfl,rfl,trivial⟩) (aH.refl _))
   exact pK [0] 1 0 (.c (aX d) .nil) (.l e .nil)
theorem IC:CO 42 [.nilS] (.ret .nilS):=cD [] .nil
theorem IP (x:Pv) (a:List UInt8):CO 89 [.agg (pvC x),.pp [.str a] 0] (.ret (.bool (x.nm==a))):=pK [] 0 0 (.n 2 .nil) .nil
def fdF (nm:List UInt8) (k:Nat) (x:Pv):Nat ⊕ Option Nat:=if x.nm==nm then .inr (some k) else .inl (k+1)
def VY (ps:List Pv) (nm:List UInt8):Option Nat:=AM.goL (fdF nm) (fun _=>none) ps 0
def Ri (ps:List Pv) (nm:List UInt8) (c:Bool) (p:Nat × Nat):St:=⟨[(0,.sl (f_ ps) ps.length c),(1,.fn 89 [] [.pp [.str nm] 0]),(7,ω (ps.length:Int)),(8,ω (p.1:Int))],[],.dead,[]⟩
def fdE:Option Nat→aJ
 |none=> .exit 0
 |some _=> .ret
def Rf:Option Nat→St
 |none=>HY
 |some k=>(J4 (.int .i64 (k:Int)))
theorem VZ {nt:Nat} (d:19≤nt) (ps:List Pv) (a:List UInt8) (c:Bool) (f:ps.length<2^40):aN prog ap [] nt (ah 0 (af f88)) fdE (Ri ps a c) Rf (0,0) (VY ps a):=by
 refine aN.goD (fdF a) (fun _=>none) ps (fun p s=>s=p.length) ?_ ?_ 0 rfl
 ·rintro p x rs s hL hp
  have e:(κ ((θ (p.length:Int))*12) (f_ ps))=pvC x++f_ rs:=bI aer hL;have b:(decide ((p.length:Int)<(ps.length:Int)))=true:=kl (jm hL);have g:p.length<2^62:=by have:=jm hL;omega
  subst hp;show (∃ s',_∧ag _ _ _ _ _ (Ri ps a c (p.length,_)) _ _∧_)∨∃ q,_∧ag _ _ _ _ _ (Ri ps a c (p.length,_)) _ _;have hp:(p++ [x]).length=p.length+1:=by simp
  generalize p.length=k at*
  clear hL;rcases tf (x.nm==a) with b0|b0
  ·exact .inr ⟨some k,by simp only [fdF,b0,if_true],pN 88 [] 2 3 (.c (aQ b0) (.k 12 (k0 k) (.c b (.c (aQ b) .nil)))) (.c (IP x a) (.v 14 (.ppt e) .nil)) d⟩
  ·exact .inl ⟨k+1,by simp only [fdF,b0,Xqx,if_false],pN 88 [] 2 1 (.c (aX b0) (.k 12 (k0 k) (.c b (.c (aQ b) .nil)))) (.v 18 (.eq (wpS g)) (.c (IP x a) (.v 14 (.ppt e) .nil))) d,by simp [hp]⟩
 ·intro _ _;exact pN 88 [] 1 0 (.c (aX (kn (ζ ps.length))) .nil) (.nil) d
theorem SA (ps:List Pv) (a:List UInt8) (c:Bool) (d:ps.length<2^40):CO 88 [.sl (f_ ps) ps.length c,.fn 89 [] [.pp [.str a] 0]] (.ret (.int .i64 (match VY ps a with|none=> -1|some k=>(k:Int)))):=by
 have hloop:=fun nt (hn:19≤nt)=>VZ hn ps a c d
 cases g:VY ps a with
 |none=>
  rw [g] at hloop;have f:=aN.blk (id:=0) (e':= .normal) (s:=Ri ps a c (0,0)) (s':=Rf none) hloop (by simp [fdE]) rfl (aH.refl _) (aH.refl _);have e:LB 19 0 f88 (ZB (.sl (f_ ps) ps.length c) (.fn 89 [] [.pp [.str a] 0]) ps.length) (.normal) HY:=(fun nt b=>(f nt b).weak (aH.of ⟨rfl,rfl,rfl,rfl,trivial⟩) (aH.refl _))
  exact pK [0] 0 0 .nil (.l e .nil)
 |some k=>
  rw [g] at hloop;have f:=aN.blk (id:=0) (e':= .ret) (s:=Ri ps a c (0,0)) (s':=Rf (some k)) hloop (by simp [fdE]) rfl (aH.refl _) (aH.refl _);have e:LB 19 0 f88 (ZB (.sl (f_ ps) ps.length c) (.fn 89 [] [.pp [.str a] 0]) ps.length) (.ret) (J4 (ω (k:Int))):=(fun nt b=>(f nt b).weak (aH.of ⟨rfl,rfl,rfl,rfl,trivial⟩) (aH.refl _))
  exact pK [0] 0 0 .nil (.l e .nil)
theorem mx0 (k:Nat):ω (if ((0:Nat):Int)>(k:Int) then ((0:Nat):Int) else (k:Int))= ω (k:Int):=by rw [if_neg (by omega)]
theorem ge0 (k:Nat):AV.bool (decide (((0:Nat):Int)≤(k:Int)))= .bool true:=by rw [Yq0 (by omega)]
theorem V3 (L:Lw) (a b c:Bool) (e:List UInt8) (d:L.ps.length<2^40):CO 39 [.agg (L.c a b c),.str e] (.ret (match VY L.ps e with|none=> .tup [.int .i64 0,.bool false]|some k=> .tup [.int .i64 (k:Int),.bool true])):=by
 cases f:VY L.ps e with
 |none=>
  have h:=SA L.ps e c d;rw [f] at h;exact pK [] 0 0 (.n 1 .nil) (.c (h:CO 88 [.sl (f_ L.ps) L.ps.length c,.fn 89 [] [.pp [.str e] 0]] (.ret (ω (-1)))) .nil)
 |some k=>
  have h:=SA L.ps e c d;rw [f] at h;exact pK [] 0 0 (.n 1 .nil) (.v 14 (.eq (ge0 k)) (.v 12 (.eq (mx0 k)) (.c (h:CO 88 [.sl (f_ L.ps) L.ps.length c,.fn 89 [] [.pp [.str e] 0]] (.ret (ω (k:Int)))) .nil)))
theorem F7 (os:List Cl) (z:Cl):Xqk (os.length*2) (cL os)++cC z=cL (os++ [z]):=V8 (f:=cC) (n:=2) (fun _=>rfl) os z rfl
def PI (ps:List Pv) (nm:List UInt8):Nat:=(VY ps nm).getD 0
def fdB (ps:List Pv) (nm:List UInt8):Bool:=(VY ps nm).isSome
theorem Nq (L:Lw) (a b c:Bool) (e:List UInt8) (d:L.ps.length<2^40):CO 39 [.agg (L.c a b c),.str e] (.ret (.tup [ω ((PI L.ps e:Nat):Int),.bool (fdB L.ps e)])):=by
 have h:=V3 L a b c e d;unfold PI fdB;cases f:VY L.ps e with
 |none=>rw [f] at h;exact h
 |some k=>rw [f] at h;exact h
def rD (L:Lw) (s:Int) (w:Cl) (x:Nd):Option Cl:=if fdB L.ps x.name then (if x.op==((6:Nat):Int) then some (w.1,((PI L.ps x.name:Nat):Int)) else if x.op==((8:Nat):Int) then (if s==((2:Nat):Int) then some (1 - w.1,((PI L.ps x.name:Nat):Int)) else none) else none) else none
def ahY (os:List Cl):AV:=match os with| []=> .nilS|_::_=> .ref 2 0 0 os.length
def ahX (os:List Cl):Hp:=match os with| []=> []|_::_=> [(2,cB os)]
def Qs (L:Lw) (a b c:Bool) (s:Int) (w:Cl) (bd:List Nd) (p:Nat × List Cl):St:=⟨[(1,ω s),(3,.ptr 0 0 0),(5,.ptr 1 0 0),(7,ahY p.2),(23,.sl (oU bd) bd.length false),(24,ω (bd.length:Int)),(25,ω (p.1:Int))],(0,⟨L.c a b c,0,false,0,0,true⟩)::(1,⟨cC w,0,false,0,0,true⟩)::ahX p.2,.dead,[]⟩
def Vh (os:List Cl):St:=match os with| []=> ⟨[(7,.nilS)],[],.dead,[]⟩|_::_=> ⟨[(7,.ref 0 0 0 os.length)],[(0,cB os)],.dead,[]⟩
theorem akh {nt:Nat} (h:71≤nt) (L:Lw) (a b c:Bool) (s:Int) (w:Cl) (m:gz w) (f q:List Nd) (x:Nd) (k:Nat) (j:L.ps.length<2^40) (o:k<2^40) (n:k<f.length) (l:(κ ((θ (k:Int))*5) (oU f))=ndC x++oU q):
  ψ nt f16 (Zx s (.sl (oU f) f.length false) f.length k (L.c a b c) (cC w)) .normal (Qs L a b c s w f (k+1,(rD L s w x).toList)):=by
 have i:=Nq L a b c x.name j;have d:(decide ((k:Int)<(f.length:Int)))=true:=kl n;have g:k<2^62:=by omega
 have p:ω (ν .i64 (((1:Nat):Int) - w.1))= ω (1 - w.1):=by
  have r:=m.1;have t:=m.2;rw [jD]<;>first|rfl|omega
 rcases tf (fdB L.ps x.name) with b0|b0
 ·rcases tf (x.op==((6:Nat):Int)) with b1|b1
  ·have e:rD L s w x=some (w.1,((PI L.ps x.name:Nat):Int)):=by simp only [rD,b0,b1,if_true,Xqx,if_false];try rfl
   rw [e];exact pN 16 [] 4 5 (.k 4 (aQ b1) (.k 1 (fZ b0) (.k 10 (k0 k) (.c d (.c (aQ d) .nil))))) (.v 66 (.eq (wpS g)) (.c i (.v 27 (.ppt l) .nil))) h
  ·rcases tf (x.op==((8:Nat):Int)) with b2|b2
   ·rcases tf (s==((2:Nat):Int)) with b3|b3
    ·have e:rD L s w x=some (1 - w.1,((PI L.ps x.name:Nat):Int)):=by simp only [rD,b0,b1,b2,b3,if_true,Xqx,if_false];try rfl
     rw [e];exact pN 16 [] 6 25 (.k 4 (aQ b3) (.c (aQ b2) (.k 1 (aX b1) (.k 1 (fZ b0) (.k 10 (k0 k) (.c d (.c (aQ d) .nil))))))) (.v 66 (.eq (wpS g)) (.v 61 (.eq p) (.c i (.v 27 (.ppt l) .nil)))) h
    ·have e:rD L s w x=none:=by simp only [rD,b0,b1,b2,b3,if_true,Xqx,if_false];try rfl
     rw [e];exact pN 16 [] 5 9 (.c (aX b3) (.c (aQ b2) (.k 1 (aX b1) (.k 1 (fZ b0) (.k 10 (k0 k) (.c d (.c (aQ d) .nil))))))) (.v 66 (.eq (wpS g)) (.c i (.v 27 (.ppt l) .nil))) h
   ·have e:rD L s w x=none:=by simp only [rD,b0,b1,b2,if_true,Xqx,if_false];try rfl
    rw [e];exact pN 16 [] 5 1 (.k 1 (aX b2) (.k 1 (aX b1) (.k 1 (fZ b0) (.k 10 (k0 k) (.c d (.c (aQ d) .nil)))))) (.v 66 (.eq (wpS g)) (.c i (.v 27 (.ppt l) .nil))) h
 ·have e:rD L s w x=none:=by simp only [rD,b0,if_true,Xqx,if_false];try rfl
  rw [e];exact pN 16 [] 2 3 (.c (nK b0) (.k 10 (k0 k) (.c d (.c (aQ d) .nil)))) (.v 66 (.eq (wpS g)) (.c i (.v 27 (.ppt l) .nil))) h
theorem ahs {nt:Nat} (f:71≤nt) (L:Lw) (a b c:Bool) (s:Int) (w:Cl) (d:List Nd):ψ nt f16 (Zx s (.sl (oU d) d.length false) d.length d.length (L.c a b c) (cC w)) (.exit 0) ⟨[(7,.nilS)],[],.dead,[]⟩:=by
 have e:(decide ((d.length:Int)<(d.length:Int)))=false:=kn (ζ _);exact pN 16 [] 1 0 (.c (aX e) .nil) .nil f
theorem akg {nt:Nat} (p:71≤nt) (L:Lw) (a b c:Bool) (s:Int) (w:Cl) (r:gz w) (f y:List Nd) (x:Nd) (k:Nat) (os:List Cl) (d:os ≠ []) (B:os.length<2^40) (q:L.ps.length<2^40) (u:k<2^40) (t:k<f.length) (l:(κ ((θ ((k:Nat):Int))*5) (oU f))=ndC x++oU y):
  ψ nt f16 ⟨[(1,ω s),(3,.ptr 0 0 0),(5,.ptr 1 0 0),(7,.ref 2 0 0 os.length),(23,.sl (oU f) f.length false),(24,ω (f.length:Int)),(25,ω ((k:Nat):Int))],[(0,⟨L.c a b c,0,false,0,0,true⟩),(1,⟨cC w,0,false,0,0,true⟩),(2,cB os)],.dead,[]⟩ .normal (Qs L a b c s w f (k+1,(os++(rD L s w x).toList))):=by
 have j:=Nq L a b c x.name q;have h:(decide (((k:Nat):Int)<(f.length:Int)))=true:=kl t;have i:k<2^62:=by omega
 have v:ω (ν .i64 (((1:Nat):Int) - w.1))= ω (1 - w.1):=by
  have z:=r.1;have A:=r.2;rw [jD]<;>first|rfl|omega
 have n:(Xqq (os.length+1) 1099511627776)=true:=(zW (by omega))
 have m:(Xqq (os.length*2) (Xqb (cL os)))=true:=(zW (pM (dF os) (by omega)))
 have g:∀ os:List Cl,os ≠ []→∀ k,Qs L a b c s w f (k,os)=⟨[(1,ω s),(3,.ptr 0 0 0),(5,.ptr 1 0 0),(7,.ref 2 0 0 os.length),(23,.sl (oU f) f.length false),(24,ω (f.length:Int)),(25,ω ((k:Nat):Int))],[(0,⟨L.c a b c,0,false,0,0,true⟩),(1,⟨cC w,0,false,0,0,true⟩),(2,cB os)],.dead,[]⟩:=fun os d k=>by cases os with|nil=>exact absurd rfl d|cons o os=>rfl
 rcases tf (fdB L.ps x.name) with b0|b0
 ·rcases tf (x.op==((6:Nat):Int)) with b1|b1
  ·have e:rD L s w x=some (w.1,((PI L.ps x.name:Nat):Int)):=by simp only [rD,b0,b1,if_true,Xqx,if_false];try rfl
   rw [e];rw [g _ (by simp [d])];simp only [Xzx,μ,η,τ,Xqf,Φ];exact pN 16 [] 3 5 (.k 1 n (.c m (.k 2 (aQ b1) (.k 1 (fZ b0) (.k 10 (k0 k) (.c h (.c (aQ h) .nil))))))) (.v 66 (.eq (wpS i)) (.b 49 (F7 os (w.1,(((PI L.ps x.name):Nat):Int))) (.c j (.v 27 (.ppt l) .nil)))) p
  ·rcases tf (x.op==((8:Nat):Int)) with b2|b2
   ·rcases tf (s==((2:Nat):Int)) with b3|b3
    ·have e:rD L s w x=some (1 - w.1,((PI L.ps x.name:Nat):Int)):=by simp only [rD,b0,b1,b2,b3,if_true,Xqx,if_false];try rfl
     rw [e];rw [g _ (by simp [d])];simp only [Xzx,μ,η,τ,Xqf,Φ];exact pN 16 [] 5 25 (.k 1 n (.c m (.k 2 (aQ b3) (.c (aQ b2) (.k 1 (aX b1) (.k 1 (fZ b0) (.k 10 (k0 k) (.c h (.c (aQ h) .nil))))))))) (.v 66 (.eq (wpS i)) (.b 65 (F7 os (1 - w.1,(((PI L.ps x.name):Nat):Int))) (.v 61 (.eq v) (.c j (.v 27 (.ppt l) .nil))))) p
    ·have e:rD L s w x=none:=by simp only [rD,b0,b1,b2,b3,if_true,Xqx,if_false];try rfl
     rw [e];rw [g _ (by simp [d])];simp only [Xzx,μ,η,τ,Xqf,Φ];exact pN 16 [] 5 9 (.c (aX b3) (.c (aQ b2) (.k 1 (aX b1) (.k 1 (fZ b0) (.k 10 (k0 k) (.c h (.c (aQ h) .nil))))))) (.v 66 (.eq (wpS i)) (.c j (.v 27 (.ppt l) .nil))) p
   ·have e:rD L s w x=none:=by simp only [rD,b0,b1,b2,if_true,Xqx,if_false];try rfl
    rw [e];rw [g _ (by simp [d])];simp only [Xzx,μ,η,τ,Xqf,Φ];exact pN 16 [] 5 1 (.k 1 (aX b2) (.k 1 (aX b1) (.k 1 (fZ b0) (.k 10 (k0 k) (.c h (.c (aQ h) .nil)))))) (.v 66 (.eq (wpS i)) (.c j (.v 27 (.ppt l) .nil))) p
 ·have e:rD L s w x=none:=by simp only [rD,b0,if_true,Xqx,if_false];try rfl
  rw [e];rw [g _ (by simp [d])];simp only [Xzx,μ,η,τ,Xqf,Φ];exact pN 16 [] 2 3 (.c (nK b0) (.k 10 (k0 k) (.c h (.c (aQ h) .nil)))) (.v 66 (.eq (wpS i)) (.c j (.v 27 (.ppt l) .nil))) p
theorem ahr {nt:Nat} (f:71≤nt) (L:Lw) (a b c:Bool) (s:Int) (w:Cl) (d:List Nd) (os:List Cl):ψ nt f16 ⟨[(1,ω s),(3,.ptr 0 0 0),(5,.ptr 1 0 0),(7,.ref 2 0 0 os.length),(23,.sl (oU d) d.length false),(24,ω (d.length:Int)),(25,ω (d.length:Int))],[(0,⟨L.c a b c,0,false,0,0,true⟩),(1,⟨cC w,0,false,0,0,true⟩),(2,cB os)],.dead,[]⟩ (.exit 0) ⟨[(7,.ref 0 0 0 os.length)],[(0,cB os)],.dead,[]⟩:=by
 have e:(decide ((d.length:Int)<(d.length:Int)))=false:=kn (ζ _);exact pN 16 [] 1 0 (.c (aX e) .nil) .nil f
def r_ (L:Lw) (s:Int) (w:Cl) (bd:List Nd):List Cl:=bd.filterMap (rD L s w)
theorem Xy {nt:Nat} (i:71≤nt) (L:Lw) (a b c:Bool) (s:Int) (w:Cl) (g:gz w) (d:List Nd) (e:L.ps.length<2^40) (q:d.length<2^39):
  aN prog ap [] nt (ah 0 (af f16)) (fun _=> .exit 0) (Qs L a b c s w d) Vh (0,[]) (r_ L s w d):=by
 have n:(2:Nat)^39=549755813888:=by decide
 have m:(2:Nat)^40=1099511627776:=by decide
 have j:AM.goL (fun (os:List Cl) x=>(Sum.inl (os++(rD L s w x).toList):List Cl ⊕ List Cl)) id d []=r_ L s w d:=by
  have key:∀ (d:List Nd) (os:List Cl),AM.goL (fun (os:List Cl) x=>(Sum.inl (os++(rD L s w x).toList):List Cl ⊕ List Cl)) id d os=os++r_ L s w d:=by
   intro d
   induction d with
   |nil=>intro os;simp [AM.goL,r_]
   |cons x d ih=>
    intro os;simp only [AM.goL];rw [ih];unfold r_;cases h:rD L s w x<;>simp [h]
  simpa using key d []
 rw [← j];refine aN.goD (fun (os:List Cl) x=>(Sum.inl (os++(rD L s w x).toList):List Cl ⊕ List Cl)) id d (fun p os=>os.length≤p.length) ?_ ?_ [] (by simp)
 ·intro p x r os l hp;have f:p.length<d.length:=jm l;have k:=bI nd5 l;refine .inl ⟨os++(rD L s w x).toList,rfl, ?_,by cases rD L s w x<;>simp<;>omega⟩;cases os with
  |nil=>exact akh i L a b c s w g d r x p.length e (by omega) f k
  |cons o os=>exact akg i L a b c s w g d r x p.length (o::os) (by simp) (by simp only [τ] at hp ⊢;omega) e (by omega) f k
 ·intro os _;cases os with
  |nil=>exact ahs i L a b c s w d
  |cons o os=>exact ahr i L a b c s w d (o::os)
theorem aar {L:Lw} {s:Int} {w d:Cl} {x:Nd} (c:gz w) (h:rD L s w x=some d):gz d:=by
 unfold rD at h;obtain ⟨a,b⟩:=c;unfold gz;split at h
 ·split at h
  ·cases h;exact ⟨a,b⟩
  ·split at h
   ·split at h
    ·cases h;constructor<;>simp only<;>omega
    ·cases h
   ·cases h
 ·cases h
def fC (L:Lw) (s:Int) (w:Cl):List Cl:=if (aC s L.ps.length w) then dN (jv (r_ L s w ((L.ps[w.2.toNat]?.map Pv.body).getD []))) else []
theorem Ro (l:List Cl) (C:List AV) (h:C.take (l.length*2)=cL l) {P:Program} {f:Nat} {args:List AV} (b:ae P ap f args [] (.ret (.own C l.length 2)) []):ae P ap f args [] (.ret (.sl (cL l) l.length false)) []:=by
 have a:=b.thaw (by simp);simp only [uQ,thaw,h] at a;exact a.out (kK.ret rfl rfl (bF.sl _ _ _))
def vZ (L:Lw):Prop:=L.ps.length<2^40∧∀ p ∈ L.ps,p.body.length<2^39∧∀ s w,(r_ L s w p.body).length≤12
theorem OV (L:Lw) (a b c:Bool) (s:Int) (w:Cl) (Q:vZ L):CO 16 [.agg (L.c a b c),ω s,cA w] (.ret (.sl (cL (fC L s w)) (fC L s w).length false)):=by
 obtain ⟨u,t⟩:=Q;have d:=mD L a b c s w;unfold fC;cases i:(aC s L.ps.length w) with
 | false=>
  rw [i] at d;have h:CO 16 [.agg (L.c a b c),ω s,cA w] (.ret .nilS):=by
   generalize k:false=vq at d;have i:=k.symm;exact pK [0] 1 1 (.c (nK i) (.n 5 .nil)) (.c d .nil)
  exact h.out (kK.ret rfl rfl (bF.nilS false rfl))
 | true=>
  have j:=i;unfold aC at j;simp only [ε,decide_eq_true_eq] at j;obtain ⟨h0,K,S,F,G⟩:=j;have hs:s≤2:=by simp only [Xq9,beq_iff_eq] at h0;omega
  have z:gz w:=⟨K,by omega⟩
  have A:w.2.toNat<L.ps.length:=by omega
  have e:L.ps[w.2.toNat]? =some L.ps[w.2.toNat]:=δ A;have f:L.ps[w.2.toNat] ∈ L.ps:=Xxq A;have O:=(t _ f).1;have n:=(t _ f).2 s w;generalize L.ps[w.2.toNat]=p at e O n;have hp:=XN aer e;rw [iy] at hp;generalize R:(L.ps.drop (w.2.toNat+1))=rp at hp;change (κ ((θ w.2)*12) (f_ L.ps))=pvC p++f_ rp at hp;rw [i] at d;simp only [e,Xqu,Xqt,if_true];have g:=aN.blk (id:=0) (e':= .normal) (s:=Qs L a b c s w p.body (0,[])) (s':=Vh (r_ L s w p.body)) (fun nt (hn:71≤nt)=>Xy hn L a b c s w z p.body u (by omega)) (by simp) rfl (aH.refl _) (aH.refl _);have r:∀ x ∈ r_ L s w p.body,gz x:=fun x J=>by
   obtain ⟨y,_,M⟩:=List.mem_filterMap.1 J;exact aar z M
  unfold Qs at g;change bG _ _ _ _ _ ⟨_,[(0,⟨L.c a b c,0,false,0,0,true⟩),(1,⟨cC w,0,false,0,0,true⟩)],_,_⟩ _ _ at g;generalize k:true=vq at d;have i:=k.symm;cases H:r_ L s w p.body with
  | nil=>
   rw [H] at g;have h:CO 16 [.agg (L.c a b c),ω s,cA w] (.ret .nilS):=by
    have m:(decide (((0:Nat):Int)≤w.2))=true:=(Yq0 F)
    have l:(decide (w.2<(L.ps.length:Int)))=true:=(Yq0 G)
    have C:LB 71 0 f16 (Zy (.agg [.sl L.fx L.fn a,.sl L.sx L.sn b,.sl (f_ L.ps) L.ps.length c]) s (.agg [ω w.1,ω w.2]) (!vq) (.sl (oU p.body) p.body.length false) p.body.length [.sl L.fx L.fn a,.sl L.sx L.sn b,.sl (f_ L.ps) L.ps.length c] [ω w.1,ω w.2]) (.normal) ⟨[(7,.nilS)],[],.dead,[]⟩:=(fun nt q=>(g nt q).weak (aH.of ⟨rfl,rfl,rfl,rfl,rfl,rfl,rfl,trivial⟩) (aH.refl _))
    exact pK [0] 1 0 (.k 1 m (.c l (.k 2 (fZ i) (.n 5 .nil)))) (.c IC (.c UN (.l C (.v 21 (.ppt hp) (.c d .nil)))))
   exact h.out (kK.ret rfl rfl (bF.nilS false rfl))
  |cons o os=>
   rw [H] at g r n;have E:=Xh (o::os) n r;have D:=(vF (o::os)).length_eq;have v:=KI (jv (o::os)) (by omega);rw [D] at v;have B:(cL (dN (jv (o::os)))++Ig ((o::os).length - (dN (jv (o::os))).length)).take ((dN (jv (o::os))).length*2)=cL (dN (jv (o::os))):=Xjy (dF _);unfold Vh at g;refine Ro _ (Xqk ((dN (jv (o::os))).length*2) (cL (dN (jv (o::os)))++Ig ((o::os).length - (dN (jv (o::os))).length))) (by rw [List.take_take,Nat.min_self];exact B) ?_;change bG _ _ _ _ _ _ _ ⟨[(7,.ref 0 0 0 (o::os).length)],[(0,cB (o::os))],_,_⟩ at g;generalize I:jv (o::os)=o2 at*
   generalize (dN o2).length=n3 at*
   generalize N:o::os=o1 at*
   generalize o1.length=n1 at*
   generalize cL (dN o2)++Ig (n1 - n3)=C3 at*
   have m:(decide (((0:Nat):Int)≤w.2))=true:=(Yq0 F)
   have l:(decide (w.2<(L.ps.length:Int)))=true:=(Yq0 G)
   have C:LB 71 0 f16 (Zy (.agg [.sl L.fx L.fn a,.sl L.sx L.sn b,.sl (f_ L.ps) L.ps.length c]) s (.agg [ω w.1,ω w.2]) (!vq) (.sl (oU p.body) p.body.length false) p.body.length [.sl L.fx L.fn a,.sl L.sx L.sn b,.sl (f_ L.ps) L.ps.length c] [ω w.1,ω w.2]) (.normal) ⟨[(7,.ref 0 0 0 n1)],[(0,⟨(cL o1),0,false,0,2,true⟩)],.dead,[]⟩:=(fun nt q=>(g nt q).weak (aH.of ⟨rfl,rfl,rfl,rfl,rfl,rfl,rfl,trivial⟩) (aH.refl _))
   exact pK [0] 1 0 (.k 1 m (.c l (.k 2 (fZ i) (.n 5 .nil)))) (.c v (.c E (.l C (.v 21 (.ppt hp) (.c d .nil)))))
def qg (s:Int) (n q:Nat):List Cl:=(Ψ n).flatMap fun k=>if aC s n ((q:Int),((k:Nat):Int)) then [((q:Int),((k:Nat):Int))] else []
def clS (L:Lw) (a b c:Bool) (s:Int) (q:Nat) (p:Nat × List Cl):St:=match p.2 with
 | []=>(Me s q q L.ps.length p.1 (L.c a b c))
 |o::os2=> ⟨[(1,.int .i64 s),(2,.ptr 0 0 0),(5,.ref 1 0 0 (o::os2).length),(6,.int .i64 (q:Int)),(9,.int .i64 (q:Int)),(14,.int .i64 (L.ps.length:Int)),(15,.int .i64 (p.1:Int))],[(0,⟨L.c a b c,0,false,0,0,true⟩),(1,cB (o::os2))],.dead,[]⟩
def clO (L:Lw) (a b c:Bool) (s:Int) (q:Nat) (os:List Cl):St:=match os with
 | []=>(J3 s q (L.c a b c))
 |o::os2=> ⟨[(1,.int .i64 s),(2,.ptr 0 0 0),(5,.ref 1 0 0 (o::os2).length),(9,.int .i64 (q:Int))],[(0,⟨L.c a b c,0,false,0,0,true⟩),(1,cB (o::os2))],.dead,[]⟩
theorem acw {nt:Nat} (h:32≤nt) (L:Lw) (a b c:Bool) (s:Int) (q k:Nat) (i:k<2^40) (d:k<L.ps.length) (l:aC s L.ps.length ((q:Int),(k:Int))=true):
  ag prog ap [] nt (ah 2 (af f49)) (Me s q q L.ps.length k (L.c a b c)) .normal ⟨[(1,ω s),(2,.ptr 0 0 0),(5,.ref 1 0 0 1),(6,ω (q:Int)),(9,ω (q:Int)),(14,ω (L.ps.length:Int)),(15,ω ((k+1:Nat):Int))],[(0,⟨L.c a b c,0,false,0,0,true⟩),(1,cB [((q:Int),(k:Int))])],.dead,[]⟩:=by
 have e:=mD L a b c s ((q:Int),(k:Int));have g:(decide ((k:Int)<(L.ps.length:Int)))=true:=kl d;have f:k<2^62:=by omega
 generalize j:aC s L.ps.length ((q:Int),(k:Int))=vq at*
 exact pN 49 [] 3 3 (.k 5 (aQ l) (.k 6 (aQ g) .nil)) (.v 29 (.eq (wpS f)) (.c e .nil)) h
theorem acr {nt:Nat} (h:32≤nt) (L:Lw) (a b c:Bool) (s:Int) (q k:Nat) (i:k<2^40) (d:k<L.ps.length) (l:aC s L.ps.length ((q:Int),(k:Int))=false):
  ag prog ap [] nt (ah 2 (af f49)) (Me s q q L.ps.length k (L.c a b c)) .normal (Me s q q L.ps.length (k+1) (L.c a b c)):=by
 have e:=mD L a b c s ((q:Int),(k:Int));have g:(decide ((k:Int)<(L.ps.length:Int)))=true:=kl d;have f:k<2^62:=by omega
 generalize j:aC s L.ps.length ((q:Int),(k:Int))=vq at*
 exact pN 49 [] 2 1 (.c (aX l) (.k 6 (aQ g) .nil)) (.v 29 (.eq (wpS f)) (.c e .nil)) h
theorem aco {nt:Nat} (e:32≤nt) (L:Lw) (a b c:Bool) (s:Int) (q:Nat):ag prog ap [] nt (ah 2 (af f49)) (Me s q q L.ps.length L.ps.length (L.c a b c)) (.exit 2) (J3 s q (L.c a b c)):=by
 have d:(decide ((L.ps.length:Int)<(L.ps.length:Int)))=false:=kn (ζ _);exact pN 49 [] 1 0 (.c (aX d) .nil) .nil e
theorem acv {nt:Nat} (i:32≤nt) (L:Lw) (a b c:Bool) (s:Int) (q k:Nat) (os:List Cl) (o:os.length<2^40) (j:k<2^40) (e:k<L.ps.length) (l:aC s L.ps.length ((q:Int),(k:Int))=true):
  ag prog ap [] nt (ah 2 (af f49)) ⟨[(1,ω s),(2,.ptr 0 0 0),(5,.ref 1 0 0 os.length),(6,ω (q:Int)),(9,ω (q:Int)),(14,ω (L.ps.length:Int)),(15,ω (k:Int))],[(0,⟨L.c a b c,0,false,0,0,true⟩),(1,cB os)],.dead,[]⟩ .normal ⟨[(1,ω s),(2,.ptr 0 0 0),(5,.ref 1 0 0 (os.length+1)),(6,ω (q:Int)),(9,ω (q:Int)),(14,ω (L.ps.length:Int)),(15,ω ((k+1:Nat):Int))],[(0,⟨L.c a b c,0,false,0,0,true⟩),(1,cB (os++ [((q:Int),(k:Int))]))],.dead,[]⟩:=by
 have g:=mD L a b c s ((q:Int),(k:Int));have m:(decide ((k:Int)<(L.ps.length:Int)))=true:=kl e;have h:k<2^62:=by omega
 generalize n:aC s L.ps.length ((q:Int),(k:Int))=vq at*
 have d:(Xqq (os.length+1) 1099511627776)=true:=(zW (by omega))
 have f:(Xqq (os.length*2) (Xqb (cL os)))=true:=(zW (pM (dF os) (by omega)))
 exact pN 49 [] 2 3 (.k 1 d (.c f (.k 3 (aQ l) (.k 6 (aQ m) .nil)))) (.v 29 (.eq (wpS h)) (.b 28 (F7 os ((q:Int),(k:Int))) (.c g .nil))) i
theorem acp {nt:Nat} (h:32≤nt) (L:Lw) (a b c:Bool) (s:Int) (q k:Nat) (os:List Cl) (o:os.length<2^40) (i:k<2^40) (d:k<L.ps.length) (j:aC s L.ps.length ((q:Int),(k:Int))=false):
  ag prog ap [] nt (ah 2 (af f49)) ⟨[(1,ω s),(2,.ptr 0 0 0),(5,.ref 1 0 0 os.length),(6,ω (q:Int)),(9,ω (q:Int)),(14,ω (L.ps.length:Int)),(15,ω (k:Int))],[(0,⟨L.c a b c,0,false,0,0,true⟩),(1,cB os)],.dead,[]⟩ .normal ⟨[(1,ω s),(2,.ptr 0 0 0),(5,.ref 1 0 0 os.length),(6,ω (q:Int)),(9,ω (q:Int)),(14,ω (L.ps.length:Int)),(15,ω ((k+1:Nat):Int))],[(0,⟨L.c a b c,0,false,0,0,true⟩),(1,cB os)],.dead,[]⟩:=by
 have e:=mD L a b c s ((q:Int),(k:Int));have l:(decide ((k:Int)<(L.ps.length:Int)))=true:=kl d;have g:k<2^62:=by omega
 generalize m:aC s L.ps.length ((q:Int),(k:Int))=vq at*
 have f:(Xqq (os.length+1) 1099511627776)=true:=(zW (by omega))
 have n:(Xqq (os.length*2) (Xqb (cL os)))=true:=(zW (pM (dF os) (by omega)))
 exact pN 49 [] 2 1 (.c (aX j) (.k 6 (aQ l) .nil)) (.v 29 (.eq (wpS g)) (.c e .nil)) h
theorem acn {nt:Nat} (e:32≤nt) (L:Lw) (a b c:Bool) (s:Int) (q:Nat) (os:List Cl):ag prog ap [] nt (ah 2 (af f49)) ⟨[(1,ω s),(2,.ptr 0 0 0),(5,.ref 1 0 0 os.length),(6,ω (q:Int)),(9,ω (q:Int)),(14,ω (L.ps.length:Int)),(15,ω (L.ps.length:Int))],[(0,⟨L.c a b c,0,false,0,0,true⟩),(1,cB os)],.dead,[]⟩ (.exit 2) ⟨[(1,ω s),(2,.ptr 0 0 0),(5,.ref 1 0 0 os.length),(9,ω (q:Int))],[(0,⟨L.c a b c,0,false,0,0,true⟩),(1,cB os)],.dead,[]⟩:=by
 have d:(decide ((L.ps.length:Int)<(L.ps.length:Int)))=false:=kn (ζ _);exact pN 49 [] 1 0 (.c (aX d) .nil) .nil e
theorem VK {nt:Nat} (e:32≤nt) (L:Lw) (a b c:Bool) (s:Int) (q:Nat) (os:List Cl) (n:os.length+L.ps.length<2^40):
  aN prog ap [] nt (ah 2 (af f49)) (fun _=> .exit 2) (clS L a b c s q) (clO L a b c s q) (0,os) (os++qg s L.ps.length q):=by
 have h:∀ (l:List Nat) (os:List Cl),AM.goL (fun (os:List Cl) k=>(Sum.inl (os++(if aC s L.ps.length ((q:Int),((k:Nat):Int)) then [((q:Int),((k:Nat):Int))] else [])):List Cl ⊕ List Cl)) id l os=os++l.flatMap fun k=>if aC s L.ps.length ((q:Int),((k:Nat):Int)) then [((q:Int),((k:Nat):Int))] else []:=by
  intro l
  induction l with
  |nil=>intro os;simp [AM.goL]
  |cons x l ih=>intro os;simp only [AM.goL];rw [ih];simp
 unfold qg;rw [← h];have i:(Ψ L.ps.length).length=L.ps.length:=Xx5;refine aN.goD (fun (os:List Cl) k=>(Sum.inl (os++(if aC s L.ps.length ((q:Int),((k:Nat):Int)) then [((q:Int),((k:Nat):Int))] else [])):List Cl ⊕ List Cl)) id (Ψ L.ps.length) (fun p f=>f.length≤os.length+p.length) ?_ ?_ os (by simp)
 ·intro p k r f j hp;have d:p.length<L.ps.length:=by rw [← i,j];simp
  have m:k=p.length:=by
   have:=congrArg (fun l=>l[p.length]?) j;simp only [Xq2 (ζ _),Xwt,List.getElem?_cons_zero] at this;rw [List.getElem?_range d] at this;exact (Option.some.inj this).symm
  subst m;refine .inl ⟨_,rfl, ?_,by split<;>simp<;>omega⟩;cases g:aC s L.ps.length ((q:Int),(p.length:Int)) with
  |true=>
   rw [if_pos rfl];cases f with
   |nil=>exact acw e L a b c s q p.length (by omega) d g
   |cons o os'=>have:=acv e L a b c s q p.length (o::os') (by omega) (by omega) d g;simpa [clS] using this
  |false=>
   rw [if_neg (by simp),μ];cases f with
   |nil=>exact acr e L a b c s q p.length (by omega) d g
   |cons o os'=>exact acp e L a b c s q p.length (o::os') (by omega) (by omega) d g
 ·intro f _;rw [i];cases f with
  |nil=>exact aco e L a b c s q
  |cons o os'=>exact acn e L a b c s q (o::os')
def ak (s:Int) (n:Nat):List Cl:=qg s n 0++qg s n 1
theorem aah {nt:Nat} (h:32≤nt) (L:Lw) (a b c:Bool) (s:Int) (q n k:Nat) (l m:List Cl) (d:q<2) (i:LB 32 2 f49 (Me s q q L.ps.length 0 (L.c a b c)) .normal (J3 s q (L.c a b c))):
  ψ nt f49 (J3 s q (L.c a b c)) .normal (J3 s (q+1) (L.c a b c)):=by
 have f:(decide ((q:Int)<((2:Nat):Int)))=true:=kl d;have g:q<2^62:=by omega
 have j:LB 32 2 f49 (Xi (.dead) s (.dead) (ω (q:Int)) (q:Int) (.bool (decide ((q:Int)<((2:Nat):Int)))) (ω (L.ps.length:Int)) (ω 0) [.sl L.fx L.fn a,.sl L.sx L.sn b,.sl (f_ L.ps) L.ps.length c]) (.normal) (J3 s q [.sl L.fx L.fn a,.sl L.sx L.sn b,.sl (f_ L.ps) L.ps.length c]):=(fun nt e=>(i nt e).weak (aH.of ⟨rfl,rfl,rfl,rfl,rfl,rfl,rfl,trivial⟩) (aH.refl _))
 exact pN 49 [2] 1 1 (.k 1 (aQ f) .nil) (.v 30 (.eq (wpS g)) (.l j .nil)) h
theorem aag {nt:Nat} (j:32≤nt) (L:Lw) (a b c:Bool) (s:Int) (q n d:Nat) (m f:List Cl) (e:q<2) (k:LB 32 2 f49 (Me s q q L.ps.length 0 (L.c a b c)) .normal ⟨[(1,ω s),(2,.ptr 0 0 0),(5,.ref 1 0 0 d),(9,ω (q:Int))],[(0,⟨L.c a b c,0,false,0,0,true⟩),(1,cB f)],.dead,[]⟩):
  ψ nt f49 (J3 s q (L.c a b c)) .normal ⟨[(1,ω s),(2,.ptr 0 0 0),(5,.ref 1 0 0 d),(9,ω ((q+1:Nat):Int))],[(0,⟨L.c a b c,0,false,0,0,true⟩),(1,cB f)],.dead,[]⟩:=by
 have h:(decide ((q:Int)<((2:Nat):Int)))=true:=kl e;have i:q<2^62:=by omega
 have l:LB 32 2 f49 (Xi (.dead) s (.dead) (ω (q:Int)) (q:Int) (.bool (decide ((q:Int)<((2:Nat):Int)))) (ω (L.ps.length:Int)) (ω 0) [.sl L.fx L.fn a,.sl L.sx L.sn b,.sl (f_ L.ps) L.ps.length c]) (.normal) (Zz s d q [.sl L.fx L.fn a,.sl L.sx L.sn b,.sl (f_ L.ps) L.ps.length c] (cL f)):=(fun nt g=>(k nt g).weak (aH.of ⟨rfl,rfl,rfl,rfl,rfl,rfl,rfl,trivial⟩) (aH.refl _))
 exact pN 49 [2] 1 1 (.k 1 (aQ h) .nil) (.v 30 (.eq (wpS i)) (.l l .nil)) j
theorem aaf {nt:Nat} (l:32≤nt) (L:Lw) (a b c:Bool) (s:Int) (q i d:Nat) (f g:List Cl) (e:q<2) (m:LB 32 2 f49 ⟨[(1,ω s),(2,.ptr 0 0 0),(5,.ref 1 0 0 i),(6,ω (q:Int)),(9,ω (q:Int)),(14,ω (L.ps.length:Int)),(15,ω ((0:Nat):Int))],[(0,⟨L.c a b c,0,false,0,0,true⟩),(1,cB f)],.dead,[]⟩ .normal ⟨[(1,ω s),(2,.ptr 0 0 0),(5,.ref 1 0 0 d),(9,ω (q:Int))],[(0,⟨L.c a b c,0,false,0,0,true⟩),(1,cB g)],.dead,[]⟩):
  ψ nt f49 ⟨[(1,ω s),(2,.ptr 0 0 0),(5,.ref 1 0 0 i),(9,ω (q:Int))],[(0,⟨L.c a b c,0,false,0,0,true⟩),(1,cB f)],.dead,[]⟩ .normal ⟨[(1,ω s),(2,.ptr 0 0 0),(5,.ref 1 0 0 d),(9,ω ((q+1:Nat):Int))],[(0,⟨L.c a b c,0,false,0,0,true⟩),(1,cB g)],.dead,[]⟩:=by
 have j:(decide ((q:Int)<((2:Nat):Int)))=true:=kl e;have k:q<2^62:=by omega
 have n:LB 32 2 f49 ⟨[(0,.dead),(1,ω s),(2,.ptr 0 0 0),(4,.dead),(5,.ref 1 0 0 i),(6,ω (q:Int)),(7,.dead),(8,.dead),(9,ω (q:Int)),(10,.bool (decide ((q:Int)<((2:Nat):Int)))),(14,ω (L.ps.length:Int)),(15,ω 0),(16,.dead),(24,.dead)],[(0,⟨[.sl L.fx L.fn a,.sl L.sx L.sn b,.sl (f_ L.ps) L.ps.length c],0,false,0,0,true⟩),(1,⟨(cL f),0,false,0,2,true⟩)],.dead,[]⟩ (.normal) (Zz s d q [.sl L.fx L.fn a,.sl L.sx L.sn b,.sl (f_ L.ps) L.ps.length c] (cL g)):=(fun nt h=>(m nt h).weak (aH.of ⟨rfl,rfl,rfl,rfl,rfl,rfl,rfl,trivial⟩) (aH.refl _))
 exact pN 49 [2] 1 1 (.k 1 (aQ j) .nil) (.v 30 (.eq (wpS k)) (.l n .nil)) l
theorem acu {nt:Nat} (e:32≤nt) (L:Lw) (a b c:Bool) (s:Int) (g:Nat) (f:List Cl):ψ nt f49 (J3 s 2 (L.c a b c)) (.exit 0) ⟨[(5,.nilS)],[],.dead,[]⟩:=by
 have d:(decide (((2:Nat):Int)<((2:Nat):Int)))=false:=by decide
 exact pN 49 [2] 1 0 (.c (aX d) .nil) .nil e
theorem acs {nt:Nat} (g:32≤nt) (L:Lw) (a b c:Bool) (s:Int) (e:Nat) (d:List Cl):ψ nt f49 ⟨[(1,ω s),(2,.ptr 0 0 0),(5,.ref 1 0 0 e),(9,ω ((2:Nat):Int))],[(0,⟨L.c a b c,0,false,0,0,true⟩),(1,cB d)],.dead,[]⟩ (.exit 0) ⟨[(5,.ref 0 0 0 e)],[(0,cB d)],.dead,[]⟩:=by
 have f:(decide (((2:Nat):Int)<((2:Nat):Int)))=false:=by decide
 exact pN 49 [2] 1 0 (.c (aX f) .nil) .nil g
theorem Nb {nt:Nat} (e:32≤nt) (L:Lw) (a b c:Bool) (s:Int) (q:Nat) (os:List Cl) (d:q<2) (g:os.length+L.ps.length<2^40):
  ψ nt f49 (clO L a b c s q os) .normal (clO L a b c s (q+1) (os++qg s L.ps.length q)):=by
 have f:=aN.blk (id:=2) (e':= .normal) (s:=clS L a b c s q (0,os)) (s':=clO L a b c s q (os++qg s L.ps.length q)) (fun nt (e:32≤nt)=>VK e L a b c s q os g) (by simp) rfl (aH.refl _) (aH.refl _);generalize h:qg s L.ps.length q=row at*
 clear h;cases os with
 |nil=>
  rw [Xqj] at*
  cases row with
  |nil=>exact aah e L a b c s q 0 0 [] [] d f
  |cons y o2=>exact aag e L a b c s q 0 (y::o2).length [] (y::o2) d f
 |cons x os=>exact aaf e L a b c s q (x::os).length (x::os++row).length (x::os) (x::os++row) d f
def clR (os:List Cl):St:=match os with| []=> ⟨[(5,.nilS)],[],.dead,[]⟩|o::os2=> ⟨[(5,.ref 0 0 0 (o::os2).length)],[(0,cB (o::os2))],.dead,[]⟩
theorem aae {nt:Nat} (e:32≤nt) (L:Lw) (a b c:Bool) (s:Int) (g:L.ps.length<2^38):aN prog ap [] nt (ah 0 (af f49)) (fun _=> .exit 0) (fun p:Nat × List Cl=>clO L a b c s p.1 p.2) clR (0,[]) (ak s L.ps.length):=by
 have d:∀ q,(qg s L.ps.length q).length≤L.ps.length:=fun q=>by
  unfold qg;rw [Xz2];have:∀ l:List Nat,(l.map fun k=>(if aC s L.ps.length (((q:Nat):Int),((k:Nat):Int)) then [((((q:Nat):Int),((k:Nat):Int)):Cl)] else []).length).sum≤l.length:=by
   intro l
   induction l with
   |nil=>simp
   |cons x l ih=>simp only [Γ,Xw5,τ];split<;>simp<;>omega
  have:=this (Ψ L.ps.length);rwa [Xx5] at this
 have f:(2:Nat)^38=274877906944:=by decide
 have h0:=d 0;refine .next (a':=(1,qg s L.ps.length 0)) (by simpa using Nb e L a b c s 0 [] (by omega) (by simp;omega)) ?_
 refine .next (a':=(2,ak s L.ps.length)) (Nb e L a b c s 1 (qg s L.ps.length 0) (by omega) (by omega)) (.done ?_)
 generalize ak s L.ps.length=o1;cases o1 with
 |nil=>exact acu e L a b c s 0 []
 |cons o os=>exact acs e L a b c s (o::os).length (o::os)
def aew (l:List Cl):AV:=match l with| []=> .nilS|o::os=> .own (cL (o::os)) (o::os).length 2
theorem BC (L:Lw) (a b c:Bool) (s:Int) (i:L.ps.length<2^38):CO 49 [.agg (L.c a b c),ω s] (.ret (aew (ak s L.ps.length))):=by
 have e:=aN.blk (id:=0) (e':= .normal) (s:=clO L a b c s 0 []) (s':=clR (ak s L.ps.length)) (fun nt (hn:32≤nt)=>aae hn L a b c s i) (by simp) rfl (aH.refl _) (aH.refl _);cases g:ak s L.ps.length with
 |nil=>
  rw [g] at e;have f:LB 32 0 f49 (Xi (.agg [.sl L.fx L.fn a,.sl L.sx L.sn b,.sl (f_ L.ps) L.ps.length c]) s (.nilS) (.dead) 0 (.dead) (.dead) (.dead) [.sl L.fx L.fn a,.sl L.sx L.sn b,.sl (f_ L.ps) L.ps.length c]) (.normal) ⟨[(5,.nilS)],[],.dead,[]⟩:=(fun nt d=>(e nt d).weak (aH.of ⟨rfl,rfl,rfl,rfl,trivial⟩) (aH.refl _))
  exact pK [0] 0 0 .nil (.l f .nil)
 |cons o os=>
  rw [g] at e;have h:Xqk ((o::os).length*2) (cL (o::os))=cL (o::os):=Xqr (by rw [dF];exact ζ _);show CO 49 _ (.ret (.own (cL (o::os)) (o::os).length 2));rw [← h];change bG _ _ _ _ _ _ _ ⟨[(5,.ref 0 0 0 (o::os).length)],[(0,cB (o::os))],_,_⟩ at e;clear h;generalize j:o::os=o1 at*
  generalize o1.length=n1 at*
  have f:LB 32 0 f49 (Xi (.agg [.sl L.fx L.fn a,.sl L.sx L.sn b,.sl (f_ L.ps) L.ps.length c]) s (.nilS) (.dead) 0 (.dead) (.dead) (.dead) [.sl L.fx L.fn a,.sl L.sx L.sn b,.sl (f_ L.ps) L.ps.length c]) (.normal) ⟨[(5,.ref 0 0 0 n1)],[(0,⟨(cL o1),0,false,0,2,true⟩)],.dead,[]⟩:=(fun nt d=>(e nt d).weak (aH.of ⟨rfl,rfl,rfl,rfl,trivial⟩) (aH.refl _))
  exact pK [0] 0 0 .nil (.l f .nil)
noncomputable def iU (t:Nat):AV→Bool:=match ap.tyAt t with|some ti=>gW ti|none=>fun _=>false
theorem aaO (x:Cl):iU 25 (cA x)=true:=by kernel_rfl
theorem dM (l:List Cl):Xqd (l.map cA) (iU 25)=true:=by
 rw [List.all_eq_true];intro k a;obtain ⟨x,_,rfl⟩:=List.mem_map.1 a;exact aaO x
theorem jP (x y:Cl):uG (cA x) (cA y)=true↔x=y:=by
 simp only [cA,cC,uG,Gq,zY,Bool.and_true,ε,beq_iff_eq];exact ⟨fun h=>Prod.ext h.1 h.2,fun h=>h ▸ ⟨rfl,rfl⟩⟩
theorem QO {l:List Cl} {x:Cl}:Yqd (l.map cA) (uG (cA x))=true↔x ∈ l:=by
 rw [List.any_eq_true];constructor
 ·rintro ⟨k,hk,h⟩
  obtain ⟨y,a,rfl⟩:=List.mem_map.1 hk;rw [(jP x y).1 h];exact a
 ·intro h;exact ⟨cA x,List.mem_map.2 ⟨x,h,rfl⟩,(jP x x).2 rfl⟩
theorem xw {l:List Cl} {x:Cl} (h:x ∉ l):gB (l.map cA) (cA x)=(l++ [x]).map cA:=by
 unfold gB;have:Yqd (l.map cA) (uG (cA x))=false:=by
  rw [Xjf];exact fun e=>h (QO.1 e)
 rw [this];simp
theorem lY:∀ {l:List Cl} {x:Cl} (vs:List AV) (v:AV),x ∉ l→vs.length=l.length→eH (l.map cA) vs (cA x) v=vs++ [v]
 | [],x,[],v,_,_=>rfl
 | [],x,_::_,v,_,h=>by simp at h
 |y::l,x,[],v,_,h=>by simp at h
 |y::l,x,u::vs,v,h,hl=>by
  simp only [Xqo,not_or] at h;have e:uG (cA x) (cA y)=false:=by rw [Xjf];exact fun e=>h.1 ((jP x y).1 e)
  simp only [Γ,eH,e];rw [lY vs v h.2 (by simpa using hl)];rfl
def dw (L:Lw) (s:Int) (l:List Cl):Ut:=l.map fun x=>(x,fC L s x)
def xP (W:Ut):List AV:=W.map fun x=> .sl (cL x.2) x.2.length false
theorem agX {nt:Nat} (A:25≤nt) (L:Lw) (a b c:Bool) (s:Int) (C:vZ L) (l p r:List Cl) (x:Cl) (j:l=p++x::r) (B:l.length<2^40) (d:x ∉ p):
  ψ nt f47 (Xj s (.sl (cL l) l.length false) l.length p.length (L.c a b c) [.agg (p.map cA),.agg (xP (dw L s p))]) .normal (Xj s (.sl (cL l) l.length false) l.length (p.length+1) (L.c a b c) [.agg ((p++ [x]).map cA),.agg (xP (dw L s (p++ [x])))]):=by
 have t:=bI (f:=cC) (n:=2) (fun _=>rfl) j;change κ _ (cL l)=cC x++cL r at t;have z:=OV L a b c s x C;have h:p.length<l.length:=jm j;have y:p.length<2^62:=by omega
 have i:=dM p;have m:=xw d;have q:=lY (xP (dw L s p)) (.sl (cL (fC L s x)) (fC L s x).length false) d (by simp [xP,dw]);have o:xP (dw L s (p++ [x]))=xP (dw L s p)++ [.sl (cL (fC L s x)) (fC L s x).length false]:=by simp [xP,dw]
 rw [o,← m,← q];have v:(decide ((p.length:Int)<(l.length:Int)))=true:=kl h;have hp:(p++ [x]).length=p.length+1:=by simp
 clear m q o j;generalize xP (dw L s p)=vs at*
 generalize List.map cA p=ks at*
 generalize fC L s x=u at*
 generalize p.length=k at*
 have e:(Xqd ks (iU 25))=true:=i;have g:(decide ((k:Int)<(l.length:Int)))=true:=v;exact pN 47 [] 1 1 (.k 1 e (.k 11 g (.c (aQ v) .nil))) (.v 23 (.eq (wpS y)) (.c z (.v 15 (.ppt t) .nil))) A
theorem agW {nt:Nat} (e:25≤nt) (L:Lw) (a b c:Bool) (s:Int) (l:List Cl) (ks vs:List AV):
  ψ nt f47 (Xj s (.sl (cL l) l.length false) l.length l.length (L.c a b c) [.agg ks,.agg vs]) (.exit 0) (UQ [.agg ks,.agg vs]):=by
 have d:(decide ((l.length:Int)<(l.length:Int)))=false:=kn (ζ _);exact pN 47 [] 1 0 (.c (aX d) .nil) .nil e
theorem OE {nt:Nat} (i:25≤nt) (L:Lw) (a b c:Bool) (s:Int) (j:vZ L) (l:List Cl) (f:l.length<2^40) (d:l.Nodup):∀ (r p:List Cl),l=p++r→
  aN prog ap [] nt (ah 0 (af f47)) (fun _=> .exit 0) (fun p:List Cl=>(Xj s (.sl (cL l) l.length false) l.length p.length (L.c a b c) [.agg (p.map cA),.agg (xP (dw L s p))])) (fun p:List Cl=>(UQ [.agg (p.map cA),.agg (xP (dw L s p))])) p l
 | [],p,h=>by
  have hp:p=l:=by rw [h];simp
  subst hp;exact .done (agW i L a b c s p _ _)
 | x::r,p,h=>by
  have g:x ∉ p:=by
   rw [h] at d;intro g;have:=(List.nodup_append.1 d).2.2 x g x (by simp);exact this rfl
  refine .next (a':=p++ [x]) ?_ (OE i L a b c s j l f d r (p++ [x]) (by rw [h];simp))
  have:=agX i L a b c s j l p r x h f g;have e:(p++ [x]).length=p.length+1:=by simp
  simpa [e] using this
theorem Iz (L:Lw) (a b c:Bool) (s:Int) (e:L.ps.length<2^38):CO 49 [.agg (L.c a b c),ω s] (.ret (.sl (cL (ak s L.ps.length)) (ak s L.ps.length).length false)):=by
 have h:=BC L a b c s e;cases d:ak s L.ps.length with
 |nil=>rw [d] at h;exact h.out (kK.ret rfl rfl (bF.nilS false rfl))
 |cons o os=>rw [d] at h;exact Ro (o::os) _ (Xqr (by rw [dF];exact ζ _)) h
theorem xA {s:Int} {n q:Nat} {x:Cl}:x ∈ qg s n q↔x.1=q∧aC s n x=true:=by
 unfold qg;rw [List.mem_flatMap];constructor
 ·rintro ⟨k,hk,hx⟩
  split at hx
  ·rename_i f;rw [List.mem_singleton] at hx;subst hx;exact ⟨rfl,f⟩
  ·cases hx
 ·rintro ⟨h1,h2⟩
  obtain ⟨a,b⟩:=x;simp only at h1;subst h1;have c:=h2;unfold aC at c;simp only [ε,decide_eq_true_eq] at c;obtain ⟨_,_,_,d,g⟩:=c;have e:(b.toNat:Int)=b:=Xjq d;refine ⟨b.toNat,List.mem_range.2 (by omega), ?_⟩;rw [e,if_pos h2];simp
theorem DD (s:Int) (n q:Nat):(qg s n q).Nodup:=by
 unfold qg;have key:∀ l:List Nat,l.Nodup→(l.flatMap fun k=>if aC s n ((q:Int),((k:Nat):Int)) then [(((q:Int),((k:Nat):Int)):Cl)] else []).Nodup:=by
  intro l
  induction l with
  |nil=>intro _;simp
  |cons k l ih=>
   intro h;rw [List.nodup_cons] at h;rw [Xqa,Xq6];refine ⟨by split<;>simp,ih h.2,fun x b y a e=> ?_⟩;subst e;obtain ⟨k2,c,a⟩:=List.mem_flatMap.1 a;split at b<;>split at a<;>simp at b a
   rw [b] at a;simp at a;have:k=k2:=by omega
   subst this;exact h.1 c
 exact key _ Xxr
theorem gq {s:Int} {n:Nat} {x:Cl}:x ∈ ak s n↔aC s n x=true:=by
 unfold ak;rw [Xjz,xA,xA];constructor
 ·rintro (h|h)<;>exact h.2
 ·intro h;have a:=h;unfold aC at a;simp only [ε,Xq9,decide_eq_true_eq,beq_iff_eq] at a;obtain ⟨h0,b,c,_⟩:=a;have:x.1=((0:Nat):Int)∨x.1=((1:Nat):Int):=by omega
  exact this.imp (fun e=> ⟨e,h⟩) (fun e=> ⟨e,h⟩)
theorem Gf (s:Int) (n:Nat):(ak s n).Nodup:=by
 unfold ak;rw [Xq6];refine ⟨DD _ _ _,DD _ _ _,fun x a y b e=> ?_⟩;subst e;have c:=(xA.1 a).1;have d:=(xA.1 b).1;omega
theorem KF (s:Int) (n:Nat) (e:n<2^38):(ak s n).length<2^40:=by
 have a:∀ q,(qg s n q).length≤n:=fun q=>by
  unfold qg;rw [Xz2];have:∀ l:List Nat,(l.map fun k=>(if aC s n (((q:Nat):Int),((k:Nat):Int)) then [((((q:Nat):Int),((k:Nat):Int)):Cl)] else []).length).sum≤l.length:=by
   intro l
   induction l with
   |nil=>simp
   |cons x l ih=>simp only [Γ,Xw5,τ];split<;>simp<;>omega
  have:=this (Ψ n);rwa [Xx5] at this
 have c:(2:Nat)^38=274877906944:=by decide
 have b:(2:Nat)^40=1099511627776:=by decide
 have h0:=a 0;have d:=a 1;unfold ak;rw [η];omega
theorem OG (L:Lw) (a b c:Bool) (s:Int) (j:vZ L) (g:L.ps.length<2^38):ae prog ap 47 [.agg (L.c a b c),ω s] [] (.ret (.mr 0 0)) [⟨[.agg ((ak s L.ps.length).map cA),.agg (xP (dw L s (ak s L.ps.length)))],0,false,0,4611686018427387904,true⟩]:=by
 have i:=Iz L a b c s g;have f:=aN.blk (id:=0) (e':= .normal) (fun nt (d:25≤nt)=>OE d L a b c s j (ak s L.ps.length) (KF _ _ g) (Gf _ _) (ak s L.ps.length) [] rfl) (by simp) rfl (aH.refl _) (aH.refl _);simp only [Xje,Xqf] at f;change bG _ _ _ _ _ ⟨_,[(0,⟨L.c a b c,0,false,0,0,true⟩),(1,⟨[.agg [],.agg []],0,false,0,4611686018427387904,true⟩)],_,_⟩ _ _ at f;generalize (ak s L.ps.length).map cA=ks at*
 generalize xP (dw L s (ak s L.ps.length))=vs at*
 generalize ak s L.ps.length=l at*
 have h:LB 25 0 f47 ⟨[(0,.agg [.sl L.fx L.fn a,.sl L.sx L.sn b,.sl (f_ L.ps) L.ps.length c]),(1,ω s),(2,.ptr 0 0 0),(4,.mp [] []),(5,.mr 1 0),(7,.dead),(11,.sl (cL l) l.length false),(12,ω (l.length:Int)),(13,ω 0),(14,.dead)],[(0,⟨[.sl L.fx L.fn a,.sl L.sx L.sn b,.sl (f_ L.ps) L.ps.length c],0,false,0,0,true⟩),(1,⟨[.agg [],.agg []],0,false,0,4611686018427387904,true⟩)],.dead,[]⟩ (.normal) (UQ [.agg ks,.agg vs]):=(fun nt e=>(f nt e).weak (aH.of ⟨rfl,rfl,rfl,rfl,rfl,rfl,trivial⟩) (aH.refl _))
 exact jO good 1 (F:=⟨f47,[0,1,2,4,5,7,11,12,13,14],true⟩) rfl rfl (fun nt d=>(pN 47 [0] 0 0 (.n 3 .nil) (.l h (.c i .nil)) d:ag prog ap [] nt (af f47) (dZ .dead [.agg (L.c a b c),ω s] []) .ret (UR [.agg ks,.agg vs]))) rfl (Xqn _) rfl
def zS (l:List Cl):List AV:=l.map fun _=> .bool true
def qw (L:Lw) (a b c:Bool) (s:Int) (uk uv ks vs:List AV):List az:= [⟨[.mr 5 0],0,false,0,0,false⟩,⟨[.sl L.fx L.fn a,.sl L.sx L.sn b,.sl (f_ L.ps) L.ps.length c],0,false,0,0,true⟩,⟨[ω s],0,false,0,0,true⟩,⟨[.mr 6 0],0,false,0,0,false⟩,⟨[.fn 56 [] [.ptr 0 0 0,.ptr 1 0 0,.ptr 2 0 0,.ptr 3 0 0,.ptr 4 0 0]],0,false,0,0,false⟩,⟨[.agg ks,.agg vs],0,false,0,4611686018427387904,true⟩,⟨[.agg uk,.agg uv],0,false,0,4611686018427387904,true⟩]
theorem x_:∀ (l:List Cl) (x:Cl),Xqc (bu (l.map cA) (zS l) (cA x)) (.bool false)= .bool (decide (x ∈ l))
 | [],x=>by simp [bu,zS]
 | y::l,x=>by
  simp only [zS,Γ,bu];cases h:uG (cA x) (cA y) with
  |true=>have:=(jP x y).1 h;subst this;simp
  |false=>
   have a:x ≠ y:=fun e=>by rw [(jP x y).2 e] at h;cases h
   have:=x_ l x;simp only [zS] at this;simp only [this,Xqo,a,false_or]
theorem KO:∀ (U:Ut) (x:Cl),bF (Xqc (bu (U.map fun x=>cA x.1) (xP U) (cA x)) .nilS) (.sl (cL (dh U x)) (dh U x).length false)
 | [],x=>by simpa [bu,xP,dh,cL] using bF.nilS false rfl
 | (y,l)::U,x=>by
  simp only [xP,Γ,bu,dh];cases h:uG (cA x) (cA y) with
  |true=>have:=(jP x y).1 h;subst this;rw [if_pos rfl];exact bF.eq rfl
  |false=>
   have a:¬ y=x:=fun e=>by rw [(jP x y).2 e.symm] at h;cases h
   rw [if_neg a];exact KO U x
theorem abK (U:Ut):Xqd (U.map fun x=>cA x.1) (iU 25)=true:=by
 have:=dM (U.map (·.1));rwa [Xzd] at this
def kJ (us:Cl→List Cl) (ok:Cl→Bool):Nat→List Cl→Cl→List Cl
 |0,seen,_=>seen
 |n+1,seen,x=>if x ∈ seen then seen else if ok x then (us x).foldl (kJ us ok n) (seen++ [x]) else seen
theorem D_ (us:Cl→List Cl) (ok:Cl→Bool):∀ (n:Nat) (seen:List Cl) (x:Cl),∃ t,kJ us ok n seen x=seen++t
 |0,seen,_=> ⟨[],by simp [kJ]⟩
 | n +1,seen,x=>by
  unfold kJ;split
  ·exact ⟨[],by simp⟩
  ·split
   ·have key:∀ (l:List Cl) (a:List Cl),∃ t,l.foldl (kJ us ok n) a=a++t:=by
     intro l
     induction l with
     |nil=>intro a;exact ⟨[],by simp⟩
     |cons y l ih=>
      intro a;obtain ⟨t,b⟩:=D_ us ok n a y;obtain ⟨d,c⟩:=ih (kJ us ok n a y);exact ⟨t++d,by rw [Xqw,c,b,Xqi]⟩
    obtain ⟨t,b⟩:=key (us x) (seen++ [x]);exact ⟨[x]++t,by rw [b,Xqi]⟩
   ·exact ⟨[],by simp⟩
def vlS (L:Lw) (a b c:Bool) (s:Int) (uk uv:List AV) (l:List Cl) (k:Nat) (ks vs:List AV):St:=⟨[(1,.ptr 0 0 0),(2,.ptr 1 0 0),(3,.ptr 2 0 0),(4,.ptr 3 0 0),(5,.ptr 4 0 0),(23,.sl (cL l) l.length false),(24,ω (l.length:Int)),(25,ω (k:Int))],[(0,⟨[.mr 5 0],0,false,0,0,false⟩),(1,⟨[.sl L.fx L.fn a,.sl L.sx L.sn b,.sl (f_ L.ps) L.ps.length c],0,false,0,0,true⟩),(2,⟨[ω s],0,false,0,0,true⟩),(3,⟨[.mr 6 0],0,false,0,0,false⟩),(4,⟨[.fn 56 [] [.ptr 0 0 0,.ptr 1 0 0,.ptr 2 0 0,.ptr 3 0 0,.ptr 4 0 0]],0,false,0,0,false⟩),(5,⟨[.agg ks,.agg vs],0,false,0,4611686018427387904,true⟩),(6,⟨[.agg uk,.agg uv],0,false,0,4611686018427387904,true⟩)],.dead,[]⟩
theorem ahu (L:Lw) (a b c:Bool) (s:Int) (uk g ks vs:List AV) (x:Cl) (e:Xqd ks (iU 25)=true) (d:Xqc (bu ks vs (cA x)) (.bool false)= .bool true):ae prog ap 56 [cA x,.ptr 0 0 0,.ptr 1 0 0,.ptr 2 0 0,.ptr 3 0 0,.ptr 4 0 0] (qw L a b c s uk g ks vs) (.ret (.tup [])) (qw L a b c s uk g ks vs):=by
 obtain ⟨f,hs⟩:∃ f,f=true:=⟨_,rfl⟩
 have d:Xqc (bu ks vs (cA x)) (.bool false)= .bool f:=by rw [hs];exact d
 exact pK [0] 2 3 (.k 1 (aQ hs) (.k 1 e (.n 3 .nil))) (.v 11 (.eq d) .nil)
theorem ahv (L:Lw) (a b c:Bool) (s:Int) (uk h ks vs:List AV) (x:Cl) (e:Xqd ks (iU 25)=true) (d:Xqc (bu ks vs (cA x)) (.bool false)= .bool false) (i:aC s L.ps.length x=false):ae prog ap 56 [cA x,.ptr 0 0 0,.ptr 1 0 0,.ptr 2 0 0,.ptr 3 0 0,.ptr 4 0 0] (qw L a b c s uk h ks vs) (.ret (.tup [])) (qw L a b c s uk h ks vs):=by
 obtain ⟨f,hs⟩:∃ f,f=false:=⟨_,rfl⟩
 have d:Xqc (bu ks vs (cA x)) (.bool false)= .bool f:=by rw [hs];exact d
 have g:=mD L a b c s x;generalize aC s L.ps.length x=vq at*
 exact pK [0] 2 2 (.c (nK i) (.k 6 (aX hs) (.k 1 e (.n 3 .nil)))) (.c g (.v 11 (.eq d) .nil))
theorem ahw (L:Lw) (a b c:Bool) (s:Int) (uk d ks vs:List AV) (x:Cl) (f:Xqd ks (iU 25)=true) (i:Xqd uk (iU 25)=true) (k2 j:List AV) (us:List Cl) (e:Xqc (bu ks vs (cA x)) (.bool false)= .bool false) (m:aC s L.ps.length x=true) (g:bF (Xqc (bu uk d (cA x)) .nilS) (.sl (cL us) us.length false))
  (l0:bG prog ap (qw L a b c s uk d ks vs) 33 (.block 0 (.loop (ah 0 (af f56)))) (vlS L a b c s uk d us 0 (gB ks (cA x)) (eH ks vs (cA x) (.bool true))) .normal (UT [.sl L.fx L.fn a,.sl L.sx L.sn b,.sl (f_ L.ps) L.ps.length c] [ω s] [.agg k2,.agg j] [.agg uk,.agg d])):ae prog ap 56 [cA x,.ptr 0 0 0,.ptr 1 0 0,.ptr 2 0 0,.ptr 3 0 0,.ptr 4 0 0] (qw L a b c s uk d ks vs) (.ret (.tup [])) (qw L a b c s uk d k2 j):=by
 unfold vlS qw at l0;have n:bG prog ap [⟨[.mr 5 0],0,false,0,0,false⟩,⟨[.sl L.fx L.fn a,.sl L.sx L.sn b,.sl (f_ L.ps) L.ps.length c],0,false,0,0,true⟩,⟨[ω s],0,false,0,0,true⟩,⟨[.mr 6 0],0,false,0,0,false⟩,⟨[.fn 56 [] [.ptr 0 0 0,.ptr 1 0 0,.ptr 2 0 0,.ptr 3 0 0,.ptr 4 0 0]],0,false,0,0,false⟩,⟨[.agg ks,.agg vs],0,false,0,4611686018427387904,true⟩,⟨[.agg uk,.agg d],0,false,0,4611686018427387904,true⟩] 33 (.block 0 (.loop (ah 0 (af f56)))) ⟨[(0,.agg [ω x.1,ω x.2]),(1,.ptr 0 0 0),(2,.ptr 1 0 0),(3,.ptr 2 0 0),(4,.ptr 3 0 0),(5,.ptr 4 0 0),(6,.ptr 7 0 0),(8,.dead),(18,.bool (!(aC s L.ps.length x))),(23,.sl (cL us) us.length false),(24,ω (us.length:Int)),(25,ω 0),(26,.dead)],[(0,⟨[.mr 5 0],0,false,0,0,false⟩),(1,⟨[.sl L.fx L.fn a,.sl L.sx L.sn b,.sl (f_ L.ps) L.ps.length c],0,false,0,0,true⟩),(2,⟨[ω s],0,false,0,0,true⟩),(3,⟨[.mr 6 0],0,false,0,0,false⟩),(4,⟨[.fn 56 [] [.ptr 0 0 0,.ptr 1 0 0,.ptr 2 0 0,.ptr 3 0 0,.ptr 4 0 0]],0,false,0,0,false⟩),(5,⟨[.agg (gB ks (.agg [ω x.1,ω x.2])),.agg (eH ks vs (.agg [ω x.1,ω x.2]) (.bool true))],0,false,0,4611686018427387904,true⟩),(6,⟨[.agg uk,.agg d],0,false,0,4611686018427387904,true⟩),(7,⟨[ω x.1,ω x.2],0,false,0,0,true⟩)],.dead,[]⟩ (.normal) (UT [.sl L.fx L.fn a,.sl L.sx L.sn b,.sl (f_ L.ps) L.ps.length c] [ω s] [.agg k2,.agg j] [.agg uk,.agg d]):=(fun nt k=>ag.tidy [1,2,3,4,5,23,24,25] (l0 nt k) (by kernel_rfl) rfl)
 obtain ⟨l,hs⟩:∃ l,l=false:=⟨_,rfl⟩
 have e:Xqc (bu ks vs (cA x)) (.bool false)= .bool l:=by rw [hs];exact e
 have h:=mD L a b c s x;generalize aC s L.ps.length x=vq at*
 exact pK [0] 2 0 (.k 1 i (.k 4 f (.k 3 (fZ m) (.k 6 (aX hs) (.k 1 f (.n 3 .nil)))))) (.l n (.v 23 g (.c h (.v 11 (.eq e) .nil))))
theorem ahy {nt:Nat} (u:33≤nt) (h0:List az) (t:h0.length=7) (L:Lw) (a b c:Bool) (s:Int) (uk d ks vs k2 m:List AV) (l p r:List Cl) (x:Cl) (h:l=p++x::r) (v:l.length<2^40) (j:ae prog ap 56 [cA x,.ptr 0 0 0,.ptr 1 0 0,.ptr 2 0 0,.ptr 3 0 0,.ptr 4 0 0] (qw L a b c s uk d ks vs) (.ret (.tup [])) (qw L a b c s uk d k2 m)):
  ag prog ap h0 nt (ah 0 (af f56)) (vlS L a b c s uk d l p.length ks vs) .normal (vlS L a b c s uk d l (p.length+1) k2 m):=by
 have i:=bI (f:=cC) (n:=2) (fun _=>rfl) h;change κ _ (cL l)=cC x++cL r at i;have g:p.length<l.length:=jm h;have q:p.length<2^62:=by omega
 have o:(decide ((p.length:Int)<(l.length:Int)))=true:=kl g
 match h0,t with
 | [b0,b1,b2,b3,b4,b5,b6],_=>
  unfold vlS;unfold qw at j;clear h;generalize p.length=k at*
  have e:(decide ((k:Int)<(l.length:Int)))=true:=o;exact pN 56 [] 1 1 (.k 7 e (.c (aQ o) .nil)) (.v 32 (.eq (wpS q)) (.c j (.v 27 (.ppt i) .nil))) u
theorem ahx {nt:Nat} (f:33≤nt) (h0:List az) (e:h0.length=7) (L:Lw) (a b c:Bool) (s:Int) (uk d ks vs:List AV) (l:List Cl):
  ag prog ap h0 nt (ah 0 (af f56)) (vlS L a b c s uk d l l.length ks vs) (.exit 0) (UT [.sl L.fx L.fn a,.sl L.sx L.sn b,.sl (f_ L.ps) L.ps.length c] [ω s] [.agg ks,.agg vs] [.agg uk,.agg d]):=by
 have g:(decide ((l.length:Int)<(l.length:Int)))=false:=kn (ζ _)
 match h0,e with
 | [b0,b1,b2,b3,b4,b5,b6],_=>exact pN 56 [] 1 0 (.c (aX g) .nil) .nil f
def jB (C:List Cl) (seen:List Cl):Nat:=(C.filter fun c=>decide (c ∉ seen)).length
theorem yU (C:List Cl) {s t:List Cl} (h:∀ x ∈ s,x ∈ t):jB C t≤jB C s:=by
 unfold jB;rw [← Xzz,← Xzz];refine List.countP_mono_left fun x _ a=> ?_
 simp only [decide_eq_true_eq] at a ⊢;exact fun e=>a (h x e)
theorem FH {C:List Cl} {s:List Cl} {x:Cl} (a:x ∈ C) (hs:x ∉ s):jB C (s++ [x])<jB C s:=by
 unfold jB;have e:(C.filter fun c=>decide (c ∉ s++ [x]))=(C.filter fun c=>decide (c ∉ s)).filter fun c=>decide (c ≠ x):=by
  rw [List.filter_filter];congr 1;funext c;rw [Bool.eq_iff_iff];simp [and_comm]
 rw [e];refine (List.length_filter_lt_length_iff_exists).2 ⟨x, ?_,by simp⟩;rw [Xq7];exact ⟨a,by simpa using hs⟩
theorem Vk (L:Lw) (a b c:Bool) (s:Int) (U:Ut) (l:∀ x,(dh U x).length<2^40):∀ (n:Nat) (seen:List Cl) (x:Cl),jB (ak s L.ps.length) seen<n→
  ae prog ap 56 [cA x,.ptr 0 0 0,.ptr 1 0 0,.ptr 2 0 0,.ptr 3 0 0,.ptr 4 0 0] (qw L a b c s (U.map fun x=>cA x.1) (xP U) (seen.map cA) (zS seen)) (.ret (.tup [])) (qw L a b c s (U.map fun x=>cA x.1) (xP U) ((kJ (dh U) (aC s L.ps.length) n seen x).map cA) (zS (kJ (dh U) (aC s L.ps.length) n seen x)))
 |0,seen,x,h=>absurd h (Xwu _)
 | n + 1,seen,x,h=>by
  have f:=x_ seen x;unfold kJ;by_cases hx:x ∈ seen
  ·rw [if_pos hx];exact ahu L a b c s _ _ _ _ x (dM seen) (by rw [f];simp [hx])
  ·rw [if_neg hx];have e:Xqc (bu (seen.map cA) (zS seen) (cA x)) (.bool false)= .bool false:=by rw [f];simp [hx]
   cases j:aC s L.ps.length x with
   |false=>
    rw [if_neg (by simp)];exact ahv L a b c s _ _ _ _ x (dM seen) e j
   | true=>
    rw [if_pos rfl];have k:jB (ak s L.ps.length) (seen++ [x])<n:=by have:=FH (gq.2 j) hx;omega
    have h0len:(qw L a b c s (U.map fun x=>cA x.1) (xP U) (seen.map cA) (zS seen)).length=7:=rfl;have loop:∀ (r p d:List Cl),dh U x=p++r→jB (ak s L.ps.length) d<n→∀ nt,33≤nt→
      aN prog ap (qw L a b c s (U.map fun x=>cA x.1) (xP U) (seen.map cA) (zS seen)) nt (ah 0 (af f56)) (fun _=> .exit 0) (fun q:Nat × List Cl=>vlS L a b c s (U.map fun x=>cA x.1) (xP U) (dh U x) q.1 (q.2.map cA) (zS q.2))
       (fun d:List Cl=> ⟨[],(qw L a b c s (U.map fun x=>cA x.1) (xP U) (d.map cA) (zS d)).zipIdx.map (fun q=>(q.2,q.1)),.dead,[]⟩) (p.length,d) (r.foldl (kJ (dh U) (aC s L.ps.length) n) d):=by
     intro r
     induction r with
     |nil=>
      intro p d hp hs nt g;rw [μ] at hp;rw [Xv4,← hp];exact .done (ahx g _ h0len L a b c s _ _ _ _ (dh U x))
     |cons y r ih=>
      intro p d hp hs nt g;rw [Xqw];have u:=Vk L a b c s U l n d y hs;obtain ⟨t,A⟩:=D_ (dh U) (aC s L.ps.length) n d y;have v:=ahy g _ h0len L a b c s _ _ _ _ _ _ (dh U x) p r y hp (l x) u;have m:=ih (p++ [y]) (kJ (dh U) (aC s L.ps.length) n d y) (by rw [hp];simp) (Xjk (yU _ (fun z B=>by rw [A];simp [B])) hs) nt g;rw [show (p++ [y]).length=p.length+1 by simp] at m;exact .next (a':=(p.length+1,_)) v m
    have i:=aN.blk (id:=0) (e':= .normal) (loop (dh U x) [] (seen++ [x]) rfl k) (by simp) rfl (aH.refl _) (aH.refl _);rw [← xw hx] at i;have o:zS (seen++ [x])=eH (seen.map cA) (zS seen) (cA x) (.bool true):=by
     rw [lY (zS seen) (.bool true) hx (by simp [zS])];simp [zS]
    rw [o] at i;exact ahw L a b c s _ _ _ _ x (dM seen) (abK U) _ _ (dh U x) e j (KO U x) i
theorem aet (l:List Cl) (x:Cl):ae prog ap 58 [cA x,.ptr 0 0 0] [⟨[.mr 1 0],0,false,0,0,false⟩,⟨[.agg (l.map cA),.agg (zS l)],0,false,0,4611686018427387904,true⟩] (.ret (.bool (!(decide (x ∈ l))))) [⟨[.mr 1 0],0,false,0,0,false⟩,⟨[.agg (l.map cA),.agg (zS l)],0,false,0,4611686018427387904,true⟩]:=by
 have b:=x_ l x;have a:=dM l;generalize decide (x ∈ l)=sv at*
 generalize zS l=vs at*
 generalize l.map cA=ks at*
 exact pK [] 0 0 (.k 1 a (.n 3 .nil)) (.v 6 (.eq b) .nil)
abbrev dH (ks vs:List AV) (L:List Cl):List az:= [cB L,⟨[.mr 2 0],0,false,0,0,false⟩,⟨[.agg ks,.agg vs],0,false,0,4611686018427387904,true⟩]
def Sz (ks vs:List AV) (n:Nat) (L:List Cl) (k:Nat):St:=⟨[(0,.ref 0 0 0 n),(1,.fn 58 [] [.ptr 1 0 0]),(7,ω (n:Int)),(8,ω (k:Int))],[(0,⟨(cL L),0,false,0,2,true⟩),(1,⟨[.mr 2 0],0,false,0,0,false⟩),(2,⟨[.agg ks,.agg vs],0,false,0,4611686018427387904,true⟩)],.dead,[]⟩
theorem aaM {nt:Nat} (f:19≤nt) (ks vs:List AV) (c:Cl→Bool) (h:∀ x,ae prog ap 58 [cA x,.ptr 0 0 0] [⟨[.mr 1 0],0,false,0,0,false⟩,⟨[.agg ks,.agg vs],0,false,0,4611686018427387904,true⟩] (.ret (.bool (!(c x)))) [⟨[.mr 1 0],0,false,0,0,false⟩,⟨[.agg ks,.agg vs],0,false,0,4611686018427387904,true⟩]) (L0 p r:List Cl) (x:Cl) (n:Nat) (hs:(p++x::r).length=n) (l:n<2^40) (a:c x=false):
  ag prog ap (dH ks vs L0) nt (ah 0 (af f100)) (Sz ks vs n (p++x::r) p.length) .ret ⟨[(4,ω (p.length:Int))],[(0,cB (p++x::r)),(1,⟨[.mr 2 0],0,false,0,0,false⟩),(2,⟨[.agg ks,.agg vs],0,false,0,4611686018427387904,true⟩)],.dead,[]⟩:=by
 have e:=qC (L:=p++x::r) (p:=p) (x:=x) (r:=r) rfl;have b:p.length<n:=by rw [← hs];simp
 have i:p.length<2^62:=by omega
 have d:(decide ((p.length:Int)<(n:Int)))=true:=kl b;have g:=h x;unfold Sz;clear hs;generalize j:p++x::r=L at*
 generalize p.length=k at*
 generalize c x=kx at*
 exact pN 100 [] 2 3 (.c (nK a) (.a (bU [.int .i64,.int .i64] e rfl) (.k 1 d (.c (aQ d) .nil)))) (.c g (.v 15 (.rd [.int .i64,.int .i64] e rfl) .nil)) f
theorem ad4 {nt:Nat} (g:19≤nt) (ks vs:List AV) (c:Cl→Bool) (i:∀ x,ae prog ap 58 [cA x,.ptr 0 0 0] [⟨[.mr 1 0],0,false,0,0,false⟩,⟨[.agg ks,.agg vs],0,false,0,4611686018427387904,true⟩] (.ret (.bool (!(c x)))) [⟨[.mr 1 0],0,false,0,0,false⟩,⟨[.agg ks,.agg vs],0,false,0,4611686018427387904,true⟩]) (L0 p r:List Cl) (x:Cl) (n:Nat) (hs:(p++x::r).length=n) (l:n<2^40) (a:c x=true):
  ag prog ap (dH ks vs L0) nt (ah 0 (af f100)) (Sz ks vs n (p++x::r) p.length) .normal (Sz ks vs n (p++x::r) (p.length+1)):=by
 have e:=qC (L:=p++x::r) (p:=p) (x:=x) (r:=r) rfl;have b:p.length<n:=by rw [← hs];simp
 have f:p.length<2^62:=by omega
 have d:(decide ((p.length:Int)<(n:Int)))=true:=kl b;have h:=i x;unfold Sz;clear hs;generalize j:p++x::r=L at*
 generalize p.length=k at*
 generalize c x=kx at*
 exact pN 100 [] 2 1 (.c (fZ a) (.a (bU [.int .i64,.int .i64] e rfl) (.k 1 d (.c (aQ d) .nil)))) (.v 18 (.eq (wpS f)) (.c h (.v 15 (.rd [.int .i64,.int .i64] e rfl) .nil))) g
theorem ad3 {nt:Nat} (b:19≤nt) (ks vs:List AV) (L0 L:List Cl) (n:Nat):
  ag prog ap (dH ks vs L0) nt (ah 0 (af f100)) (Sz ks vs n L n) (.exit 0) ⟨[],[(0,cB L),(1,⟨[.mr 2 0],0,false,0,0,false⟩),(2,⟨[.agg ks,.agg vs],0,false,0,4611686018427387904,true⟩)],.dead,[]⟩:=by
 have a:(decide ((n:Int)<(n:Int)))=false:=kn (ζ _);exact pN 100 [] 1 0 (.c (aX a) .nil) .nil b
def Su (kp:Cl→Bool):List Cl→Nat→Option Nat
 | [],_=>none
 |x::r,k=>if kp x then Su kp r (k+1) else some k
def ixE:Option Nat→aJ
 |none=> .exit 0
 |some _=> .ret
def ixO (ks vs:List AV) (L:List Cl):Option Nat→St
 |none=> ⟨[],[(0,cB L),(1,⟨[.mr 2 0],0,false,0,0,false⟩),(2,⟨[.agg ks,.agg vs],0,false,0,4611686018427387904,true⟩)],.dead,[]⟩
 |some k=> ⟨[(4,.int .i64 (k:Int))],[(0,cB L),(1,⟨[.mr 2 0],0,false,0,0,false⟩),(2,⟨[.agg ks,.agg vs],0,false,0,4611686018427387904,true⟩)],.dead,[]⟩
theorem NP {nt:Nat} (c:19≤nt) (ks vs:List AV) (a:Cl→Bool) (d:∀ x,ae prog ap 58 [cA x,.ptr 0 0 0] [⟨[.mr 1 0],0,false,0,0,false⟩,⟨[.agg ks,.agg vs],0,false,0,4611686018427387904,true⟩] (.ret (.bool (!(a x)))) [⟨[.mr 1 0],0,false,0,0,false⟩,⟨[.agg ks,.agg vs],0,false,0,4611686018427387904,true⟩]) (L:List Cl) (n:Nat) (hs:L.length=n) (e:n<2^40):∀ (r p:List Cl),p++r=L→
  aN prog ap (dH ks vs L) nt (ah 0 (af f100)) ixE (fun k:Nat=>Sz ks vs n L k) (ixO ks vs L) p.length (Su a r p.length)
 | [],p,h=>by
  have hp:p.length=n:=by rw [← hs,← h];simp
  rw [hp];exact .done (ad3 c ks vs L L n)
 | x::r,p,h=>by
  unfold Su;cases f:a x with
  |true=>
   rw [if_pos rfl];have b:=ad4 c ks vs a d L p r x n (by rw [h];exact hs) e f;rw [h] at b;refine .next (a':=p.length+1) b ?_
   have g:=NP c ks vs a d L n hs e r (p++ [x]) (by rw [← h];simp);simpa using g
  |false=>
   rw [if_neg (by simp)];have b:=aaM c ks vs a d L p r x n (by rw [h];exact hs) e f;rw [h] at b;exact .done b
theorem Cj (b:Cl→Bool):∀ (r p:List Cl),match Su b r p.length with
  |none=> ∀ x ∈ r,b x=true
  |some i=> ∃ q x t,r=q++x::t∧i=p.length+q.length∧(∀ y ∈ q,b y=true)∧b x=false
 | [],p=>by simp [Su]
 | x::r,p=>by
  unfold Su;cases c:b x with
  | true=>
   simp only [if_true];have h:=Cj b r (p++ [x]);rw [show (p++ [x]).length=p.length+1 by simp] at h;cases d:Su b r (p.length+1) with
   |none=>
    rw [d] at h;intro y a;rcases List.mem_cons.1 a with rfl|a
    ·exact c
    ·exact h y a
   |some i=>
    rw [d] at h;obtain ⟨q,z,t,e,f,g,j⟩:=h;refine ⟨x::q,z,t,by rw [e];rfl,by rw [f];simp;omega,fun y a=> ?_,j⟩;rcases List.mem_cons.1 a with rfl|a
    ·exact c
    ·exact g y a
  |false=>exact ⟨[],x,r,rfl,by simp,(fun y a=>(by cases a)),c⟩
theorem ad5 (ks vs:List AV) (c:Cl→Bool) (f:∀ x,ae prog ap 58 [cA x,.ptr 0 0 0] [⟨[.mr 1 0],0,false,0,0,false⟩,⟨[.agg ks,.agg vs],0,false,0,4611686018427387904,true⟩] (.ret (.bool (!(c x)))) [⟨[.mr 1 0],0,false,0,0,false⟩,⟨[.agg ks,.agg vs],0,false,0,4611686018427387904,true⟩]) (L:List Cl) (g:L.length<2^40):ae prog ap 100 [.ref 0 0 0 L.length,.fn 58 [] [.ptr 1 0 0]] (dH ks vs L) (.ret (.int .i64 (match Su c L 0 with|none=> -1|some k=>(k:Int)))) (dH ks vs L):=by
 have hloop:=fun nt (hn:19≤nt)=>NP hn ks vs c f L L.length rfl g L [] rfl
 cases e:Su c L 0 with
 |none=>
  rw [Xqf,e] at hloop;have b:=aN.blk (id:=0) (e':= .normal) (s:=Sz ks vs L.length L 0) (s':=ixO ks vs L none) hloop (by simp [ixE]) rfl (aH.refl _) (aH.refl _);unfold Sz ixO at b;generalize L.length=n at*
  have d:bG prog ap (dH ks vs L) 19 (.block 0 (.loop (ah 0 (af f100)))) (ZA n n (cL L) [.agg ks,.agg vs]) (.normal) ⟨[],[(0,⟨(cL L),0,false,0,2,true⟩),(1,⟨[.mr 2 0],0,false,0,0,false⟩),(2,⟨[.agg ks,.agg vs],0,false,0,4611686018427387904,true⟩)],.dead,[]⟩:=(fun nt a=>(b nt a).weak (aH.of ⟨rfl,rfl,rfl,rfl,trivial⟩) (aH.refl _))
  exact pK [0] 0 0 .nil (.l d .nil)
 |some k=>
  rw [Xqf,e] at hloop;have b:=aN.blk (id:=0) (e':= .ret) (s:=Sz ks vs L.length L 0) (s':=ixO ks vs L (some k)) hloop (by simp [ixE]) rfl (aH.refl _) (aH.refl _);unfold Sz ixO at b;generalize L.length=n at*
  have d:bG prog ap (dH ks vs L) 19 (.block 0 (.loop (ah 0 (af f100)))) (ZA n n (cL L) [.agg ks,.agg vs]) (.ret) ⟨[(4,ω (k:Int))],[(0,⟨(cL L),0,false,0,2,true⟩),(1,⟨[.mr 2 0],0,false,0,0,false⟩),(2,⟨[.agg ks,.agg vs],0,false,0,4611686018427387904,true⟩)],.dead,[]⟩:=(fun nt a=>(b nt a).weak (aH.of ⟨rfl,rfl,rfl,rfl,trivial⟩) (aH.refl _))
  exact pK [0] 0 0 .nil (.l d .nil)
def VT (ks vs:List AV) (n k j:Nat) (L:List Cl):St:=⟨[(0,.ref 0 0 0 n),(1,.fn 58 [] [.ptr 1 0 0]),(5,ω (k:Int)),(6,ω (j:Int))],[(0,⟨(cL L),0,false,0,2,true⟩),(1,⟨[.mr 2 0],0,false,0,0,false⟩),(2,⟨[.agg ks,.agg vs],0,false,0,4611686018427387904,true⟩)],.dead,[]⟩
theorem acC {nt:Nat} (v:42≤nt) (ks vs:List AV) (c:Cl→Bool) (C:∀ x,ae prog ap 58 [cA x,.ptr 0 0 0] [⟨[.mr 1 0],0,false,0,0,false⟩,⟨[.agg ks,.agg vs],0,false,0,4611686018427387904,true⟩] (.ret (.bool (!(c x)))) [⟨[.mr 1 0],0,false,0,0,false⟩,⟨[.agg ks,.agg vs],0,false,0,4611686018427387904,true⟩]) (L0 A G r:List Cl) (y:Cl) (n j:Nat) (D:0<G.length) (hs:(A++G++y::r).length=n) (F:n<2^40) (t:A.length+G.length=j) (f:c y=true):
  ag prog ap (dH ks vs L0) nt (ah 0 (af f57)) (VT ks vs n A.length j (A++G++y::r)) .normal (VT ks vs n (A++ [y]).length (j+1) ((A++ [y])++(G.tail++ [y])++r)):=by
 have s1:Xqk ((0+(θ (A.length:Int)))*2) (cL (A++G++y::r))++cC y++κ (((0+(θ (A.length:Int)))*2)+2) (cL (A++G++y::r))=cL ((A++ [y])++(G.tail++ [y])++r):=by
  obtain ⟨g,G',rfl⟩:=List.exists_cons_of_length_pos D;have:=UK (L:=A++(g::G')++y::r) (p:=A) (x:=g) (r:=G'++y::r) (z:=y) (by simp);simpa using this
 have a:(A++G).length=j:=by simp;omega
 have m:(κ ((0+(θ (j:Int)))*2) (cL (A++G++y::r)))=cC y++cL r:=by
  rw [← a];exact qC (L:=A++G++y::r) (p:=A++G) (x:=y) (r:=r) rfl
 have b:(cL (A++G++y::r)).length=n*2:=by rw [dF,hs]
 have B:A.length+G.length+1+r.length=n:=by rw [← hs];simp;omega
 have u:j<2^62:=by omega
 have o:A.length<2^62:=by omega
 have l:(decide ((j:Int)<(n:Int)))=true:=kl (by omega);have s:=C y;have h:(!(c y))=false:=by rw [f];rfl
 have e:(A++ [y]).length=A.length+1:=by simp
 have q:A.length<n:=by omega
 unfold VT;rw [e,← s1];clear s1 e hs a;generalize E:A++G++y::r=L at*
 generalize A.length=k at*
 generalize c y=kx at*
 have d:(Xqq (((0+(θ (k:Int)))*2)+2) (Xqb (cL L)))=true:=(zW (pM b (by omega)))
 have i:(decide ((k:Int)<(n:Int)))=true:=(kl (by omega))
 exact pN 57 [] 2 3 (.c d (.k 1 i (.k 2 (nK h) (.n 3 (.a (bU [.int .i64,.int .i64] m rfl) (.k 1 l (.c (aQ l) .nil))))))) (.v 21 (.eq (wpS u)) (.v 35 (.eq (wpS o)) (.c s (.v 25 (.rd [.int .i64,.int .i64] m rfl) .nil)))) v
theorem acD {nt:Nat} (i:42≤nt) (ks vs:List AV) (b:Cl→Bool) (h:∀ x,ae prog ap 58 [cA x,.ptr 0 0 0] [⟨[.mr 1 0],0,false,0,0,false⟩,⟨[.agg ks,.agg vs],0,false,0,4611686018427387904,true⟩] (.ret (.bool (!(b x)))) [⟨[.mr 1 0],0,false,0,0,false⟩,⟨[.agg ks,.agg vs],0,false,0,4611686018427387904,true⟩]) (L0 A G r:List Cl) (y:Cl) (n j:Nat) (hs:(A++G++y::r).length=n) (u:n<2^40) (q:A.length+G.length=j) (c:b y=false):
  ag prog ap (dH ks vs L0) nt (ah 0 (af f57)) (VT ks vs n A.length j (A++G++y::r)) .normal (VT ks vs n A.length (j+1) (A++G++y::r)):=by
 have a:(A++G).length=j:=by simp;omega
 have g:(κ ((0+(θ (j:Int)))*2) (cL (A++G++y::r)))=cC y++cL r:=by
  rw [← a];exact qC (L:=A++G++y::r) (p:=A++G) (x:=y) (r:=r) rfl
 have f:(cL (A++G++y::r)).length=n*2:=by rw [dF,hs]
 have l:A.length+G.length+1+r.length=n:=by rw [← hs];simp;omega
 have m:j<2^62:=by omega
 have s:A.length<2^62:=by omega
 have e:(decide ((j:Int)<(n:Int)))=true:=kl (by omega);have o:=h y;have d:(!(b y))=true:=by rw [c];rfl
 unfold VT;clear hs a;generalize t:A++G++y::r=L at*
 generalize A.length=k at*
 generalize b y=kx at*
 exact pN 57 [] 2 1 (.c (fZ d) (.n 3 (.a (bU [.int .i64,.int .i64] g rfl) (.k 1 e (.c (aQ e) .nil))))) (.v 21 (.eq (wpS m)) (.c o (.v 25 (.rd [.int .i64,.int .i64] g rfl) .nil))) i
theorem acB {nt:Nat} (b:42≤nt) (ks vs:List AV) (L0 L:List Cl) (n k:Nat):
  ag prog ap (dH ks vs L0) nt (ah 0 (af f57)) (VT ks vs n k n L) (.exit 0) (UU n k (cL L) [.agg ks,.agg vs]):=by
 have a:(decide ((n:Int)<(n:Int)))=false:=kn (ζ _);exact pN 57 [] 1 0 (.c (aX a) .nil) .nil b
def PE (kp:Cl→Bool):List Cl→List Cl→List Cl→List Cl × List Cl
 |A,G,[]=>(A,G)
 |A,G,y::r=>if kp y then PE kp (A++ [y]) (G.tail++ [y]) r else PE kp A (G++ [y]) r
theorem Gj (a:Cl→Bool):∀ (r A G:List Cl),(PE a A G r).1=A++r.filter a
 | [],A,G=>by simp [PE]
 |y::r,A,G=>by
  unfold PE;cases h:a y with
  |true=>rw [if_pos rfl,Gj a r];simp [h]
  |false=>rw [if_neg (by simp),Gj a r];simp [h]
theorem Ag (a:Cl→Bool):∀ (r A:List Cl) (g:Cl) (G:List Cl),(PE a A (g::G) r).1.length+(PE a A (g::G) r).2.length=A.length+(g::G).length+r.length
 | [],A,g,G=>by simp [PE]
 | y::r,A,g,G=>by
  unfold PE;cases h:a y with
  |true=>
   rw [if_pos rfl];cases G with
   |nil=>rw [Xv5,Xqj,Ag a r];simp;omega
   |cons g2 G=>rw [Xv5,Xqz,Ag a r];simp;omega
  |false=>rw [if_neg (by simp),Xqz,Ag a r];simp;omega
theorem Ah {nt:Nat} (b:42≤nt) (ks vs:List AV) (a:Cl→Bool) (c:∀ x,ae prog ap 58 [cA x,.ptr 0 0 0] [⟨[.mr 1 0],0,false,0,0,false⟩,⟨[.agg ks,.agg vs],0,false,0,4611686018427387904,true⟩] (.ret (.bool (!(a x)))) [⟨[.mr 1 0],0,false,0,0,false⟩,⟨[.agg ks,.agg vs],0,false,0,4611686018427387904,true⟩]) (L0:List Cl) (n:Nat) (d:n<2^40):∀ (r A:List Cl) (g:Cl) (G:List Cl) (j:Nat),(A++(g::G)++r).length=n→A.length+(g::G).length=j→
  aN prog ap (dH ks vs L0) nt (ah 0 (af f57)) (fun _=> .exit 0) (fun p:List Cl × List Cl × List Cl × Nat=>VT ks vs n p.1.length p.2.2.2 (p.1++p.2.1++p.2.2.1)) (fun p:List Cl × List Cl=>(UU n p.1.length (cL (p.1++p.2)) [.agg ks,.agg vs])) (A,g::G,r,j) (PE a A (g::G) r)
 | [],A,g,G,j,hs,hj=>by
  refine .done ?_;have e:j=n:=by rw [← hs,← hj];simp
  subst e;have:=acB b ks vs L0 (A++(g::G)++ []) j A.length;simpa [PE] using this
 | y::r,A,g,G,j,hs,hj=>by
  unfold PE;cases f:a y with
  | true=>
   rw [if_pos rfl];have h:=acC b ks vs a c L0 A (g::G) r y n j (by simp) hs d hj f;cases G with
   |nil=>
    refine .next (a':=(A++ [y],[y],r,j+1)) h (Ah b ks vs a c L0 n d r (A++ [y]) y [] (j+1) ?_ ?_)
    ·simp at hs ⊢;omega
    ·simp at hj ⊢;omega
   |cons g2 G=>
    refine .next (a':=(A++ [y],g2::G++ [y],r,j+1)) h (Ah b ks vs a c L0 n d r (A++ [y]) g2 (G++ [y]) (j+1) ?_ ?_)
    ·simp at hs ⊢;omega
    ·simp at hj ⊢;omega
  | false=>
   rw [if_neg (by simp)];refine .next (a':=(A,g::G++ [y],r,j+1)) ?_ (Ah b ks vs a c L0 n d r A g (G++ [y]) (j+1) ?_ ?_)
   ·have:=acD b ks vs a c L0 A (g::G) r y n j hs d hj f;simpa using this
   ·simp at hs ⊢;omega
   ·simp at hj ⊢;omega
theorem Sv {a:Cl→Bool} {L:List Cl} (h:Su a L 0=none):L.filter a=L:=by
 have:=Cj a L [];rw [Xqf,h] at this;exact List.filter_eq_self.2 this
theorem aas (ks vs:List AV) (a:Cl→Bool) (C:∀ x,ae prog ap 58 [cA x,.ptr 0 0 0] [⟨[.mr 1 0],0,false,0,0,false⟩,⟨[.agg ks,.agg vs],0,false,0,4611686018427387904,true⟩] (.ret (.bool (!(a x)))) [⟨[.mr 1 0],0,false,0,0,false⟩,⟨[.agg ks,.agg vs],0,false,0,4611686018427387904,true⟩]) (L:List Cl) (G:L.length<2^40):ae prog ap 57 [.ref 0 0 0 L.length,.fn 58 [] [.ptr 1 0 0]] (dH ks vs L) (.ret (.ref 0 0 0 (L.filter a).length)) [⟨cL (L.filter a)++Ig (L.length - (L.filter a).length),0,false,0,2,true⟩,⟨[.mr 2 0],0,false,0,0,false⟩,⟨[.agg ks,.agg vs],0,false,0,4611686018427387904,true⟩]:=by
 have l:=ad5 ks vs a C L G;have e:=Cj a L [];rw [Xqf] at e;cases c:Su a L 0 with
 |none=>
  rw [Sv c,Xwt,O4];rw [c] at l;have y:((-1)==(-1:Int))=true:=by decide
  generalize L.length=n at*
  exact pK [0] 1 1 (.c (aQ y) .nil) (.c l .nil)
 | some i=>
  rw [c] at l e;simp only at l;obtain ⟨q,x,t,o,b,D,F⟩:=e;rw [Φ] at b;have E:L.filter a=q++t.filter a:=by
   rw [o,List.filter_append,List.filter_cons,F,List.filter_eq_self.2 D];rfl
  have hloop:=fun nt (hn:42≤nt)=>Ah hn ks vs a C L L.length G t q x [] (i+1) (by rw [o];simp) (by rw [b];rfl)
  have r:=aN.blk (id:=0) (e':= .normal) hloop (by simp) rfl (aH.refl _) (aH.refl _);have p:=Gj a t q [x];have s:=Ag a t q x [];rw [E,← p];have m:q++ [x]++t=L:=by rw [o];simp
  have g:q.length+1+t.length=L.length:=by rw [o];simp;omega
  simp only [m,← b] at r;simp only [τ,Xqf,Φ,g] at s;generalize PE a q [x] t=RR at*
  obtain ⟨A,B⟩:=RR;simp only at r s ⊢;have I:i<2^62:=by omega
  have hlen2:(cL (A++B)).length=L.length*2:=by rw [dF,η,s]
  have d:Xqk ((0+(θ (A.length:Int)))*2) (cL (A++B))++(gu ((θ (L.length:Int)) - (θ (A.length:Int))) [ω 0,ω 0])++κ (((0+(θ (A.length:Int)))*2)+(Xqb (gu ((θ (L.length:Int)) - (θ (A.length:Int))) [ω 0,ω 0]))) (cL (A++B))=cL A++Ig (L.length - A.length):=by
   rw [iy,iy,Φ];have p:(cL A).length=A.length*2:=dF A;have K:cL (A++B)=cL A++cL B:=by simp [cL]
   have J:(gu (L.length - A.length) [ω 0,ω 0]).length=(L.length - A.length)*2:=O5 _;rw [J,K,Xjy p,Xq5 (by rw [η,dF,dF];omega),μ];rfl
  rw [← d];have y:((i:Int)==(-1:Int))=false:=by simp
  have M:A.length≤L.length:=by omega
  unfold VT at r;clear d E p o m g s hloop c C D F b;generalize L.length=n at*
  generalize H:A++B=L2 at*
  generalize A.length=k at*
  have N:bG prog ap (dH ks vs L) 42 (.block 0 (.loop (ah 0 (af f57)))) ⟨[(0,.ref 0 0 0 n),(1,.fn 58 [] [.ptr 1 0 0]),(4,.nilS),(5,ω (i:Int)),(6,ω (((i+1):Nat):Int)),(7,.dead),(12,.bool ((i:Int)==(-1:Int))),(19,.dead),(29,.dead)],[(0,⟨(cL L),0,false,0,2,true⟩),(1,⟨[.mr 2 0],0,false,0,0,false⟩),(2,⟨[.agg ks,.agg vs],0,false,0,4611686018427387904,true⟩)],.dead,[]⟩ (.normal) (UU n k (cL L2) [.agg ks,.agg vs]):=(fun nt z=>(r nt z).weak (aH.of ⟨rfl,rfl,rfl,rfl,trivial⟩) (aH.refl _))
  have h:AV.ref 0 0 0 ((θ (k:Int)) - 0)= .ref 0 0 0 k:=rfl;have f:(decide (((0:Nat):Int)≤(k:Int)))=true:=(k0 _)
  have j:(decide ((k:Int)≤(n:Int)))=true:=(Yq0 (by omega))
  have v:(Xqq (((0+(θ (k:Int)))*2)+(((θ (n:Int)) - (θ (k:Int)))*2)) (Xqb (cL L2)))=true:=(zW (pM hlen2 (by omega)))
  have u:(decide ((n:Int)≤(n:Int)))=true:=(Yq0 (by omega))
  exact pK [0] 1 0 (.k 1 f (.c j (.c v (.c f (.c j (.c u (.c (aX y) .nil))))))) (.v 41 (.eq h) (.l N (.v 15 (.eq (wpS I)) (.c l .nil))))
end Go.Proofs.Tryz
set_option maxRecDepth 100000
set_option linter.unusedVariables false
open Go AM
open Go.ChangeMaps (setBlock)
namespace Go.Proofs.Tryz
def mk (d:Option Nat) (p:Op) (s:Oper):Oper:={s with dst:=d,op:=p,guard:=none}
theorem uK {P:Program} {ops:Array Oper} {rest:List Oper} {s:Oper} {a:Act} {w w':World} {Q:Exit→Act→World→Prop} {d:Nat} {p:Op} {v:Value} (b:(execOp a.eval (mk (some d) p s)).run P w= .ok (.value v) w') (h:wpList P ops Q rest (a.put (some d) v) w'):wpList P ops Q (mk (some d) p s::rest) a w:=
 wpList_plain rfl fun K c=>by unfold Oper.wp;rw [b];exact c _ _ h
theorem mku {P:Program} {ops:Array Oper} {rest:List Oper} {s:Oper} {a:Act} {w w':World} {Q:Exit→Act→World→Prop} {p:Op} (b:(execOp a.eval (mk none p s)).run P w= .ok .skip w') (h:wpList P ops Q rest a w'):wpList P ops Q (mk none p s::rest) a w:=
 wpList_plain rfl fun K c=>by unfold Oper.wp;rw [b];exact c _ _ h
theorem aP {a:Act} {d t:Nat} {v:Value} (b:d<a.tmps.size):(a.put (some d) v).eval (.tmp t)=if t=d then v else a.eval (.tmp t):=by
 by_cases e:t=d
 ·subst e;rw [if_pos rfl];exact cZ a t v b
 ·rw [if_neg e];exact jS a (some d) v (by simpa using fun h=>e h.symm)
structure Ka (dl:List Nat) (a0 a:Act):Prop where
 size:a.tmps.size=a0.tmps.size
 dfs:a.defers=a0.defers
 get:∀ t,t ∉ dl→a.eval (.tmp t)=a0.eval (.tmp t)
theorem Ka.refl (b:List Nat) (a:Act):Ka b a a:=⟨rfl,rfl,fun _ _=>rfl⟩
theorem Ka.put {b:List Nat} {a0 a:Act} {d:Nat} {v:Value} (h:Ka b a0 a) (f:d ∈ b):Ka b a0 (a.put (some d) v):=
 ⟨by rw [ay];exact h.size,by rw [lZ];exact h.dfs,fun t c=>by
  have e:t ≠ d:=fun e=>c (e ▸ f)
  rw [show (a.put (some d) v).eval (.tmp t)=a.eval (.tmp t) from jS a (some d) v (by simpa using fun h=>e h.symm)];exact h.get t c⟩
theorem Ka.trans {e:List Nat} {a b c:Act} (h:Ka e a b) (d:Ka e b c):Ka e a c:=⟨d.size.trans h.size,d.dfs.trans h.dfs,fun t f=>(d.get t f).trans (h.get t f)⟩
structure Kp (base um:Nat) (w0 w:World):Prop where
 os:w.os=w0.os
 tape:w.tape=w0.tape
 output:w.output=w0.output
 size:w0.heap.size≤w.heap.size
 blk:∀ k,k<base→k ≠ um→w.heap[k]? =w0.heap[k]?
theorem Kp.refl (base a:Nat) (w:World):Kp base a w w:=⟨rfl,rfl,rfl,ζ _,fun _ _ _=>rfl⟩
theorem Kp.trans {base e:Nat} {a b c:World} (h:Kp base e a b) (d:Kp base e b c):Kp base e a c:=⟨d.os.trans h.os,d.tape.trans h.tape,d.output.trans h.output,Xqg h.size d.size,fun k f g=>(d.blk k f g).trans (h.blk k f g)⟩
theorem Kp.grown {base a:Nat} {w w':World} {row:Option Nat} (d:base≤w.heap.size) (h:w.grownBy w' row) (b:∀ k,row=some k→k=a∨base≤k):Kp base a w w':=
 ⟨h.os,h.tape,h.output,h.size,fun k c f=>h.block k (by omega) fun e=>by rcases b k e.symm with e1|e1<;>omega⟩
structure Lo (g:bD) (m:aB) (S:au) (base um:Nat):Prop where
 blk:∀ k,base≤k∨k=um→∀ b B,g b=some B→(m b).1 ≠ k
 clr:∀ k,base≤k∨k=um→∀ o,S k o=none
theorem Lo.fr {env:dG} {hp:Hp} {nt:Nat} {m:aB} {S:au} {w0 w:World} {a0 a:Act} {base g:Nat} {i:List Nat} (j:Lo (AM.ai hp) m S base g) (n:FR ap env hp [] nt m S w0 a0) (l:Kp base g w0 w) (f:Ka i a0 a) (o:∀ d ∈ i,env.get d= .dead):FR ap env hp [] nt m S w a:=by
 have b:=n.other (w':=w) fun k c=>by
  by_cases h:base≤k∨k=g
  ·exact .inr ⟨c,j.blk k h,j.clr k h⟩
  ·exact .inl (l.blk k (by omega) (by omega))
 refine ⟨b.srel,fun t=> ?_, ?_,f.size.trans b.size⟩
 ·by_cases ht:t ∈ i
  ·rw [o t ht];simp [VR]
  ·have:=f.get t ht;have e:a.tmps.getD t undef=a0.tmps.getD t undef:=this;rw [e];exact b.env t
 ·rw [f.dfs];exact b.dfs
theorem Lo.frame {hp:Hp} {h0:List az} {m0 m:aB} {S0 S:au} {w0 w w':World} {base d:Nat} (g:Lo (AM.ai hp) m S base d) (h:Fr (ax h0) m0 S0 w0 (AM.ai hp) m S w) (a:Kp base d w w') (i:w0.heap.size≤d) (l:w0.heap.size≤base):Fr (ax h0) m0 S0 w0 (AM.ai hp) m S w':=
 h.other a.size a.os a.tape a.output (fun k j=>a.blk k (by omega) (by omega)) fun b B f=>a.blk _ (by
  refine Nat.lt_of_not_le fun c=>g.blk _ (.inl c) b B f rfl) fun e=>g.blk _ (.inr e) b B f rfl
theorem ahl:ap.tyAt 25=some ⟨.struct [(0,3,1),(1,3,1)],2,16,[ω 0,ω 0],[.int .i64,.int .i64],true⟩:=by kernel_rfl
theorem aj8:ap.tyAt 35=some ⟨.slice 25,1,24,[.nilS],[.sl],false⟩:=by kernel_rfl
theorem ahm:ap.tyAt 95=some ⟨.map 25 35,1,8,[.mp [] []],[.oth],false⟩:=by kernel_rfl
theorem Xw:prog.underlying 35=some (.slice 25):=by kernel_rfl
theorem akb:prog.underlying 95=some (.map 25 35):=by kernel_rfl
theorem Sr:∃ i,prog.info? 25=some i∧i.zero=some (.agg #[.int .i64 0,.int .i64 0])∧i.size=2∧i.bytes=16:=by
 have h:(prog.info? 25).map (fun i=>(i.zero,i.size,i.bytes))=some (some (.agg #[.int .i64 0,.int .i64 0]),2,16):=by kernel_rfl
 cases a:prog.info? 25 with
 |none=>rw [a] at h;cases h
 |some i=>
  rw [a] at h;simp only [Xqu,Option.some.injEq,Prod.mk.injEq] at h;exact ⟨i,rfl,h.1,h.2.1,h.2.2⟩
theorem ajj:∃ i,prog.info? 35=some i∧i.zero=some (.slice none 0 0):=by
 have h:(prog.info? 35).map (fun i=>i.zero)=some (some (.slice none 0 0)):=by kernel_rfl
 cases a:prog.info? 35 with
 |none=>rw [a] at h;cases h
 |some i=>
  rw [a] at h;simp only [Xqu,Option.some.injEq] at h;exact ⟨i,rfl,h⟩
section
variable {w:World}
theorem Oz:(Instr.alloc 25 true (.tuple #[])).run prog w= .ok (.pointer (some ⟨w.heap.size,0,none⟩)) (w.alloc (.cells #[.int .i64 0,.int .i64 0] 25)):=by
 obtain ⟨i,a,b,c,_⟩:=Sr;simp [Instr.alloc,zeroValue,typeInfo,a,b,newVar,newRow,Value.cells]
theorem OA {k:Nat} {cur:Array Value} (b:w.heap[k]? =some (.cells cur 25 (0,0))) (hs:cur.size=2) (c:Cl):(Instr.storeAt 25 (.pointer (some ⟨k,0,none⟩)) (cV c)).run prog w= .ok () (w.setRow k (cU c).toArray):=by
 obtain ⟨i,d,g,f,_⟩:=Sr;have a:=run_storeCells_at prog k 0 25 (cU c) 0 cur w b (by simp [cU,hs]) (KE c);have e:(cur.toList.take (0+0)++cU c++cur.toList.drop (0+0+(cU c).length)).toArray=(cU c).toArray:=by
  have:cur.toList.drop 2= []:=Xq5 (by simp [hs]);simp [cU,this]
 rw [e] at a;simp [Instr.storeAt,Instr.sureAddr,storeVar,Go.sizeOf,typeInfo,d,f,cV,Value.cells,a];simp [cU] at a ⊢
theorem Hq (a:di prog ap) {k o:Nat} {c:Cl} (h:∀ j u,(cU c)[j]? =some u→w.cell? ⟨k,o+j,none⟩=some u):(Instr.loadAt 25 (.pointer (some ⟨k,o,none⟩))).run prog w= .ok (cV c) w:=by
 obtain ⟨i,d,z,f⟩:=bQ a ahl;obtain ⟨cv,b,e⟩:=lQ (g:=fun _=>none) (m:=fun _=>(0,0)) (S:=fun _ _=>none) (w:=w) f (us:=cU c) (cs:=cC c) rfl h (aV _ (Kv c)) (v:=cA c) rfl;have:=EF (Bd _ e rfl);subst this;simpa [Instr.loadAt,Instr.sureAddr] using b
end
def uo:Code→List Oper
 | .region _ ops _=>ops.toList
 |_=> []
noncomputable def uN (p:List Nat) (k:Nat):Oper:=(uo (b_ p (af f22))).getD k default
abbrev pRd:List Nat:= [1,1,1,0,1,0,0]
abbrev QA:List Nat:= [1,1,1,0,1,0,0,1,1]
abbrev G_:List Nat:= [1,1,1,0,1,0,0,1,1,0,1,1,0,0]
noncomputable def MX:Code:= .block 3 (.seq
 (.region 8 #[mk (some 32) (.indexAddr 35 (.tmp 28) (.tmp 30)) (uN (G_++ [1,1,0,0,0]) 0),mk (some 33) (.load 25 (.tmp 32)) (uN (G_++ [1,1,0,0,0]) 1),mk (some 12) (.alloc 25) (uN (G_++ [1,1,0,0,0]) 2),mk none (.store 25 (.tmp 12) (.tmp 33)) (uN (G_++ [1,1,0,0,0]) 3)] false)
 (.region 9 #[mk (some 34) (.load 95 (.tmp 8)) (uN (G_++ [1,1,0,0,1]) 0),mk (some 35) (.load 25 (.tmp 12)) (uN (G_++ [1,1,0,0,1]) 1),mk (some 37) (.load 25 (.tmp 9)) (uN (G_++ [1,1,0,0,1]) 2),mk (some 38) (.buildSlice 35 1 #[(0,.tmp 37)]) (uN (G_++ [1,1,0,0,1]) 3),mk (some 39) (.mapEntry 95 (.tmp 34) (.tmp 35)) (uN (G_++ [1,1,0,0,1]) 4),mk (some 36) (.extract (.tmp 39) 0) (uN (G_++ [1,1,0,0,1]) 5),
  mk (some 40) (.call {callee:= .builtin .append,args:=#[.tmp 36,.tmp 38],argTypes:=#[35,35]}) (uN (G_++ [1,1,0,0,1]) 6),mk (some 41) (.extract (.tmp 39) 1) (uN (G_++ [1,1,0,0,1]) 7),mk none (.entryStore 95 (.tmp 34) (.tmp 41) (.tmp 40)) (uN (G_++ [1,1,0,0,1]) 8)] false))
noncomputable def inB:Code:= .seq (.region 7 #[mk (some 31) (.binOp .lss 3 (.tmp 30) (.tmp 29) 3) (uN (G_++ [0]) 0)] false) (.seq (.cond (.tmp 31) .skip (.exit 2)) (.seq MX
 (.region 10 #[mk (some 42) (.binOp .add 3 (.tmp 30) (.const (.int .i64 1)) 3) (uN (G_++ [1,1,1]) 0),mk (some 30) (.move (.tmp 42)) (uN (G_++ [1,1,1]) 1)] false)))
theorem Px:b_ QA (af f22)= .block 1 (.seq
 (.region 5 #[mk (some 25) (.entry (.tmp 22)) (uN (QA++ [0,0]) 0),mk (some 26) (.extract (.tmp 25) 0) (uN (QA++ [0,0]) 1),mk (some 27) (.extract (.tmp 25) 1) (uN (QA++ [0,0]) 2),mk (some 9) (.alloc 25) (uN (QA++ [0,0]) 3),mk none (.store 25 (.tmp 9) (.tmp 26)) (uN (QA++ [0,0]) 4),mk (some 10) (.assign (.tmp 27)) (uN (QA++ [0,0]) 5)] false)
 (.seq (.region 6 #[mk (some 28) (.move (.tmp 10)) (uN (QA++ [0,1,0]) 0),mk (some 29) (.call {callee:= .builtin .len,args:=#[.tmp 28],argTypes:=#[35]}) (uN (QA++ [0,1,0]) 1),mk (some 30) (.move (.const (.int .i64 0))) (uN (QA++ [0,1,0]) 2)] false)
  (.block 2 (.loop inB)))):=by kernel_rfl
theorem QZ:b_ [1,1,1,0] (af f22)= .seq (.region 3 #[mk (some 21) (.move (.tmp 7)) (uN [1,1,1,0,0] 0),mk (some 22) (.range 95 (.tmp 21)) (uN [1,1,1,0,0] 1)] false)
 (.block 0 (.loop (.seq (.region 4 #[mk (some 23) (.next (.tmp 22) false) (uN (pRd++ [0]) 0),mk (some 24) (.extract (.tmp 23) 0) (uN (pRd++ [0]) 1)] false) (.seq (.cond (.tmp 24) .skip (.exit 0)) (b_ QA (af f22)))))):=by kernel_rfl
end Go.Proofs.Tryz
set_option maxRecDepth 100000
set_option linter.unusedVariables false
open Go AM
open Go.ChangeMaps (setBlock)
namespace Go.Proofs.Tryz
abbrev IJ:List Nat:= [9,10,12,25,26,27,28,29,30,31,32,33,34,35,36,37,38,39,40,41,42]
structure In (nt:Nat) (a:Act) (vv:Value) (n kU k9 k:Nat):Prop where
 sz:a.tmps.size=nt
 t8:a.eval (.tmp 8)= .pointer (some ⟨kU,0,none⟩)
 t9:a.eval (.tmp 9)= .pointer (some ⟨k9,0,none⟩)
 t28:a.eval (.tmp 28)=vv
 t29:a.eval (.tmp 29)= .int .i64 (n:Int)
 t30:a.eval (.tmp 30)= .int .i64 (k:Int)
structure InW (w:World) (base um kU k9:Nat) (c:Cl) (U:Ut) (bnd:Nat):Prop where
 u:w.cell? ⟨kU,0,none⟩=some (.map (some um))
 n:w.heap[k9]? =some (.cells (cU c).toArray 25 (0,0))
 t:Af w base 25 um k9 U bnd
 b:base≤w.heap.size
 lU:kU<base
 l9:base≤k9
 ne:kU ≠ um
def O_ (w:World) (base um:Nat) (us:List Cl) (vv:Value):Prop:=∃ b o cap,vv= .slice (some ⟨b,o,none⟩) us.length cap∧b<base∧b ≠ um∧∀ k d,us[k]? =some d→∀ j u,(cU d)[j]? =some u→w.cell? ⟨b,o+k*2+j,none⟩=some u
theorem O_.kept {w w':World} {base c:Nat} {us:List Cl} {e:Value} (h:O_ w base c us e) (i:Kp base c w w'):O_ w' base c us e:=by
 obtain ⟨b,o,cap,p,f,g,m⟩:=h;exact ⟨b,o,cap,p,f,g,fun k d n j u l=>by rw [World.cell?_of_block (w:=w) (a:=⟨b,_,none⟩) (i.blk b f g)];exact m k d n j u l⟩
theorem sW {w:World} {k j:Nat} {cur:Array Value} {e:TypeId} {u:Value} (h:w.heap[k]? =some (.cells cur e (0,0))) (a:cur.toList[j]? =some u):w.cell? ⟨k,0+j,none⟩=some u:=by
 rw [Φ,iI h];exact a
theorem abj {w:World} {b o n cap k:Nat} (a:k<n):(Instr.indexAt 35 (.slice (some ⟨b,o,none⟩) n cap) (.int .i64 (k:Int))).run prog w= .ok (.pointer (some ⟨b,o+k*2,none⟩)) w:=by
 obtain ⟨i,c,f,d,_⟩:=Sr;have h0:¬ ((k:Int)<0):=by omega
 have e:(k:Int)<(n:Int):=by omega
 simp [Instr.indexAt,asIntOf,run_underlying Xw,h0,e,a,Go.sizeOf,typeInfo,c,d,Addr.add_mid]
theorem W_ {w:World} (e:di prog ap) {k b:Nat} (h:w.cell? ⟨k,0,none⟩=some (.map (some b))):(Instr.loadAt 95 (.pointer (some ⟨k,0,none⟩))).run prog w= .ok (.map (some b)) w:=by
 obtain ⟨i,d,z,n⟩:=bQ e ahm;obtain ⟨cv,l,f⟩:=lQ (g:=fun _=>none) (m:=fun _=>(0,0)) (S:=fun _ _=>none) (w:=w) n (us:= [.map (some b)]) (cs:= [.raw (.map (some b))]) (k:=k) (a:=0) rfl
  (fun j u c=>by
   match j,c with
   |0,c=>simp at c;subst c;exact h) (by simp [aS,VR,PR]) (v:= .raw (.map (some b))) rfl
 simp only [VR,PR] at f;subst f;simpa [Instr.loadAt,Instr.sureAddr] using l
theorem Xa {w:World} (c:Cl):(Instr.buildSlice 35 1 #[(0,cV c)]).run prog w= .ok (.slice (some ⟨w.heap.size,0,none⟩) 1 1) (w.alloc (.cells (cU c).toArray 25)):=by
 obtain ⟨i,b,d,a,_⟩:=Sr;refine l_ Xw b d (by rw [a];decide) (by rw [a];decide) ?_;rw [a];have e:Array.range 2=#[0,1]:=rfl;simp [Instr.fill,madeCells,cV,cU,Value.cells,e]
theorem SB (c:Cl):gW ⟨.struct [(0,3,1),(1,3,1)],2,16,[ω 0,ω 0],[.int .i64,.int .i64],true⟩ (cA c)=true:=rfl
theorem DU {w:World} {k:Nat} {cur a:Array Value} {e:TypeId} (h:w.heap[k]? =some (.cells cur e (0,0))):(w.setRow k a).heap[k]? =some (.cells a e (0,0)):=setRow_heap w k cur a e (0,0) h
theorem ah3 {n bnd:Nat} (h:n≤bnd) (a:bnd<2^40):n+1≤maxLen∧(n+1)*16≤140737488355328:=by
 have b:(2:Nat)^40=1099511627776:=by decide
 simp only [maxLen];omega
set_option maxHeartbeats 1000000 in
theorem Wq (F:di prog ap) {nt:Nat} (hn:60≤nt) {w:World} {a:Act} {base C J k9:Nat} {c d:Cl} {U:Ut} {bnd:Nat} {us:List Cl} {vv:Value} {k:Nat} (hb:bnd<2^40) (hk:k<2^40) (hd:us[k]? =some d)
  (hI:In nt a vv us.length J k9 k) (hW:InW w base C J k9 c U bnd) (hS:O_ w base C us vv) {Q:Exit→Act→World→Prop}
  (hQ:∀ a' w',In nt a' vv us.length J k9 (k+1)→InW w' base C J k9 c (jF U d c) (bnd+1)→Kp base C w w'→Ka IJ a a'→Q .normal a' w'):
  (Code.seq MX (.region 10 #[mk (some 42) (.binOp .add 3 (.tmp 30) (.const (.int .i64 1)) 3) (uN (G_++ [1,1,1]) 0),mk (some 30) (.move (.tmp 42)) (uN (G_++ [1,1,1]) 1)] false)).wp prog Q a w:=by
 obtain ⟨b,o,cap,rfl,hbb,hbm,hcells⟩:=hS;have hkl:k<us.length:=(List.getElem?_eq_some_iff.1 hd).1;obtain ⟨i25,h251,h252,h253,h254⟩:=Sr;obtain ⟨i95,d95,z95,Y⟩:=bQ F ahm;obtain ⟨i35,d35,z35,K⟩:=bQ F aj8;have hd95:d95= .map 25 35:=H9 (by rw [← Y.d_eq]);subst hd95;have hz35:z35= .slice none 0 0:=by
  obtain ⟨i,h1,h2⟩:=ajj;have:=K.info;rw [h1] at this;cases this;have:=K.zero;rw [h2] at this;cases this;rfl
 have L:=hI.sz;refine wp_seq ?_;unfold MX;refine wp_block (wp_seq (wp_region_list ?_));refine uK (v:= .pointer (some ⟨b,o+k*2,none⟩)) (w':=w) ?_ ?_
 ·simp only [execOp,mk,hI.t28,hI.t30,Sem.run_bind,abj hkl,Result.andThen_ok,Sem.run_pure]
 have e32:=aP (a:=a) (d:=32) (t:=32) (v:= .pointer (some ⟨b,o+k*2,none⟩)) (by omega);rw [if_pos rfl] at e32;refine uK (v:=cV d) (w':=w) ?_ ?_
 ·simp only [execOp,mk,e32,Sem.run_bind,Hq F (hcells k d hd),Result.andThen_ok,Sem.run_pure]
 refine uK (v:= .pointer (some ⟨w.heap.size,0,none⟩)) (w':=w.alloc (.cells #[.int .i64 0,.int .i64 0] 25)) ?_ ?_
 ·simp only [execOp,mk,Sem.run_bind,Oz,Result.andThen_ok,Sem.run_pure]
 generalize X:w.alloc (.cells #[.int .i64 0,.int .i64 0] 25)=w1;have hn1:w1.heap[w.heap.size]? =some (.cells #[.int .i64 0,.int .i64 0] 25 (0,0)):=by rw [← X];exact heap_alloc_new w _
 have N:w.grownBy w1 none:=by rw [← X];exact World.grownBy_alloc w _ none
 have hz1:w1.heap.size=w.heap.size+1:=by rw [← X];simp
 generalize z:((a.put (some 32) (.pointer (some ⟨b,o+k*2,none⟩))).put (some 33) (cV d)).put (some 12) (.pointer (some ⟨w.heap.size,0,none⟩))=a3;have y:a3.tmps.size=nt:=by rw [← z];simp only [ay,L]
 have f12:a3.eval (.tmp 12)= .pointer (some ⟨w.heap.size,0,none⟩):=by rw [← z,aP (by simp only [ay];omega),if_pos rfl]
 have f33:a3.eval (.tmp 33)=cV d:=by rw [← z,aP (by simp only [ay];omega),if_neg (by decide),aP (by simp only [ay];omega),if_pos rfl]
 have M:Ka IJ a a3:=by rw [← z];exact (((Ka.refl IJ a).put (by decide)).put (by decide)).put (by decide)
 have f9:a3.eval (.tmp 9)= .pointer (some ⟨k9,0,none⟩):=by rw [← z];simp only [aP,ay,L,show (12:Nat)<nt by omega,show (33:Nat)<nt by omega,show (32:Nat)<nt by omega];simpa using hI.t9
 have f28:a3.eval (.tmp 28)= .slice (some ⟨b,o,none⟩) us.length cap:=by rw [← z];simp only [aP,ay,L,show (12:Nat)<nt by omega,show (33:Nat)<nt by omega,show (32:Nat)<nt by omega];simpa using hI.t28
 have f29:a3.eval (.tmp 29)= .int .i64 (us.length:Int):=by rw [← z];simp only [aP,ay,L,show (12:Nat)<nt by omega,show (33:Nat)<nt by omega,show (32:Nat)<nt by omega];simpa using hI.t29
 have f30:a3.eval (.tmp 30)= .int .i64 (k:Int):=by rw [← z];simp only [aP,ay,L,show (12:Nat)<nt by omega,show (33:Nat)<nt by omega,show (32:Nat)<nt by omega];simpa using hI.t30
 have f8:a3.eval (.tmp 8)= .pointer (some ⟨J,0,none⟩):=by rw [M.get 8 (by decide)];exact hI.t8
 clear z e32;refine mku (w':=w1.setRow w.heap.size (cU d).toArray) ?_ ?_
 ·simp only [execOp,mk,f12,f33,Sem.run_bind,OA hn1 rfl d,Result.andThen_ok,Sem.run_pure]
 generalize T:w1.setRow w.heap.size (cU d).toArray=w2;have hn2:w2.heap[w.heap.size]? =some (.cells (cU d).toArray 25 (0,0)):=by rw [← T];exact DU hn1
 have hz2:w2.heap.size=w.heap.size+1:=by rw [← T];simpa using hz1
 have S:w.grownBy w2 none:=by
  rw [← T];exact ⟨N.os,N.tape,N.output,by simp;omega,fun q hq hne=>(setRow_other w1 w.heap.size q _ (by omega)).trans (N.block q hq hne)⟩
 clear X T hn1 N hz1;show (Code.region 9 _ false).wp prog _ _ _;refine wp_region_list ?_;have hkUl:J<w.heap.size:=by have:=hW.lU;have:=hW.b;omega
 have hk9l:k9<w.heap.size:=(Array.getElem?_eq_some_iff.1 hW.n).1;have hu2:w2.cell? ⟨J,0,none⟩=some (.map (some C)):=(World.cell?_of_block (w:=w) (a:=⟨J,0,none⟩) (S.block J hkUl (by simp))).trans hW.u;have hc2:w2.heap[k9]? =some (.cells (cU c).toArray 25 (0,0)):=(S.block k9 hk9l (by simp)).trans hW.n;have hT2:Af w2 base 25 C k9 U bnd:=hW.t.kept S;refine uK (v:= .map (some C)) (w':=w2) ?_ ?_
 ·simp only [execOp,mk,f8,Sem.run_bind,W_ F hu2,Result.andThen_ok,Sem.run_pure]
 refine uK (v:=cV d) (w':=w2) ?_ ?_
 ·simp only [execOp,mk,aP,y,show (34:Nat)<nt by omega,show ¬ (12:Nat)=34 by decide,if_false,f12,Sem.run_bind,Hq (o:=0) F (fun j u hj=>sW hn2 (by simpa using hj)),Result.andThen_ok,Sem.run_pure]
 refine uK (v:=cV c) (w':=w2) ?_ ?_
 ·simp only [execOp,mk,aP,ay,y,show (34:Nat)<nt by omega,show (35:Nat)<nt by omega,show ¬ (9:Nat)=34 by decide,show ¬ (9:Nat)=35 by decide,if_false,f9,Sem.run_bind,Hq (o:=0) F (fun j u hj=>sW hc2 (by simpa using hj)),Result.andThen_ok,Sem.run_pure]
 generalize n:((a3.put (some 34) (.map (some C))).put (some 35) (cV d)).put (some 37) (cV c)=a4;have p:a4.tmps.size=nt:=by rw [← n];simp only [ay,y]
 have hka4:Ka IJ a3 a4:=by rw [← n];exact (((Ka.refl IJ a3).put (by decide)).put (by decide)).put (by decide)
 have s:(34:Nat)<nt:=by omega
 have x:(35:Nat)<nt:=by omega
 have r:(37:Nat)<nt:=by omega
 have g37:a4.eval (.tmp 37)=cV c:=by rw [← n,aP (by simp only [ay];omega),if_pos rfl]
 have g35:a4.eval (.tmp 35)=cV d:=by rw [← n];simp only [aP,ay,y,s,x,r];simp
 have g34:a4.eval (.tmp 34)= .map (some C):=by rw [← n];simp only [aP,ay,y,s,x,r];simp
 have g9:a4.eval (.tmp 9)= .pointer (some ⟨k9,0,none⟩):=by rw [← n];simp only [aP,ay,y,s,x,r];simpa using f9
 have g28:a4.eval (.tmp 28)= .slice (some ⟨b,o,none⟩) us.length cap:=by rw [← n];simp only [aP,ay,y,s,x,r];simpa using f28
 have g29:a4.eval (.tmp 29)= .int .i64 (us.length:Int):=by rw [← n];simp only [aP,ay,y,s,x,r];simpa using f29
 have g30:a4.eval (.tmp 30)= .int .i64 (k:Int):=by rw [← n];simp only [aP,ay,y,s,x,r];simpa using f30
 have hka:Ka IJ a a4:=M.trans hka4;clear n hka4 M f9 f28 f29 f30 f8 f12 f33;refine uK (v:= .slice (some ⟨w2.heap.size,0,none⟩) 1 1) (w':=w2.alloc (.cells (cU c).toArray 25)) ?_ ?_
 ·simp only [execOp,mk,Xzs,Γ,Xje,g37,Sem.run_bind,Xa,Result.andThen_ok,Sem.run_pure]
 generalize W:w2.alloc (.cells (cU c).toArray 25)=w3;have hn3:w3.heap[w2.heap.size]? =some (.cells (cU c).toArray 25 (0,0)):=by rw [← W];exact heap_alloc_new w2 _
 have hg3:w2.grownBy w3 none:=by rw [← W];exact World.grownBy_alloc w2 _ none
 have hz3:w3.heap.size=w2.heap.size+1:=by rw [← W];simp
 clear W;have hT3:Af w3 base 25 C k9 U bnd:=hT2.kept hg3;have hb3:base≤w3.heap.size:=by have:=hW.b;omega
 obtain ⟨v0,st,w4,hr4,V,ho4,hl4,hx4,hback⟩:=hT3.entry F Y ahl K hz35 SB hb3 (by omega) d;refine uK (v:= .tuple #[v0,goInt st]) (w':=w4) ?_ ?_
 ·simp only [execOp,mk,aP,p,show (38:Nat)<nt by omega,show ¬ (34:Nat)=38 by decide,show ¬ (35:Nat)=38 by decide,if_false,g34,g35,Sem.run_bind,hr4,Result.andThen_ok,Sem.run_pure]
 refine uK (v:=v0) (w':=w4) ?_ ?_
 ·simp [execOp,mk,aP,ay,p,show (39:Nat)<nt by omega,Instr.extract]
 have hsz4:w3.heap.size≤w4.heap.size:=V.size;have hne2:w2.heap.size ≠ C:=by have:=hW.t.lt;have:=hW.b;omega
 have hn4:w4.heap[w2.heap.size]? =some (.cells (cU c).toArray 25 (0,0)):=(V.block _ (by omega) (by simpa using hne2)).trans hn3;obtain ⟨q1,q2⟩:=ah3 hl4 hb;obtain ⟨v5,w5,hr5,ho5,O,_,hwh5⟩:=run_append_own_at (P:=prog) w4 base 35 (uN (G_++ [1,1,0,0,1]) 6).type 25 i25 (.agg #[.int .i64 0,.int .i64 0]) 2 16 Xw h251 h252 h253 h254 rfl (by decide) v0 _ _ ho4 ⟨w2.heap.size,0,none⟩ 1 1 (cU c) rfl
  (fun j u hj=>by
   have e:(⟨w2.heap.size,0,none⟩:Addr).add j=⟨w2.heap.size,0+j,none⟩:=Addr.add_mid ..;rw [e];exact sW hn4 (by simpa using hj)) (KE c) q1 q2 (by omega)
 generalize g:((a4.put (some 38) (.slice (some ⟨w2.heap.size,0,none⟩) 1 1)).put (some 39) (.tuple #[v0,goInt st])).put (some 36) v0=a5;have D:a5.tmps.size=nt:=by rw [← g];simp only [ay,p]
 have l:(38:Nat)<nt:=by omega
 have f:(39:Nat)<nt:=by omega
 have m:(36:Nat)<nt:=by omega
 have hka5:Ka IJ a a5:=by rw [← g];exact ((hka.put (by decide)).put (by decide)).put (by decide)
 have h36:a5.eval (.tmp 36)=v0:=by rw [← g,aP (by simp only [ay];omega),if_pos rfl]
 have h38:a5.eval (.tmp 38)= .slice (some ⟨w2.heap.size,0,none⟩) 1 1:=by rw [← g];simp only [aP,ay,p,l,f,m];simp
 have h39:a5.eval (.tmp 39)= .tuple #[v0,goInt st]:=by rw [← g];simp only [aP,ay,p,l,f,m];simp
 have h34:a5.eval (.tmp 34)= .map (some C):=by rw [← g];simp only [aP,ay,p,l,f,m];simpa using g34
 have h9:a5.eval (.tmp 9)= .pointer (some ⟨k9,0,none⟩):=by rw [← g];simp only [aP,ay,p,l,f,m];simpa using g9
 have h28:a5.eval (.tmp 28)= .slice (some ⟨b,o,none⟩) us.length cap:=by rw [← g];simp only [aP,ay,p,l,f,m];simpa using g28
 have h29:a5.eval (.tmp 29)= .int .i64 (us.length:Int):=by rw [← g];simp only [aP,ay,p,l,f,m];simpa using g29
 have h30:a5.eval (.tmp 30)= .int .i64 (k:Int):=by rw [← g];simp only [aP,ay,p,l,f,m];simpa using g30
 clear g hka g9 g28 g29 g30 g34 g35 g37;refine uK (v:=v5) (w':=w5) ?_ ?_
 ·simp only [execOp,mk,resolve,invoke,builtin,Sem.run_bind,Sem.run_pure,Result.andThen_ok,Xzs,Γ,Xje,h36,h38,hr5]
 refine uK (v:=goInt st) (w':=w5) ?_ ?_
 ·simp [execOp,mk,aP,D,show (40:Nat)<nt by omega,h39,Instr.extract]
 obtain ⟨R,hr6,hg6,hT6⟩:=hback w5 v5 c O (by rw [show F9 (dh U d++ [c])=F9 (dh U d)++cU c by simp [F9]];exact ho5) (hwh5.imp (fun h=>h) fun h=> ⟨_,h,ζ _⟩);refine mku (w':=R) ?_ ?_
 ·simp only [execOp,mk,aP,ay,D,show (40:Nat)<nt by omega,show (41:Nat)<nt by omega,show ¬ (34:Nat)=41 by decide,show ¬ (34:Nat)=40 by decide,show ¬ (40:Nat)=41 by decide,if_false,if_true,h34,Sem.run_bind,hr6,Result.andThen_ok,Sem.run_pure]
 have hv0:∀ q,v0.ownBlock=some q→q=C∨base≤q:=fun q hq=> .inr (ho4.lt q hq).1
 have hum:C<base:=hW.t.lt;have hbw:=hW.b;have hb4:base≤w4.heap.size:=by omega
 have hb5:base≤w5.heap.size:=Xqg hb4 O.size;have hkp:Kp base C w R:=(((Kp.grown hW.b S (by simp)).trans (Kp.grown (by omega) hg3 (by simp))).trans (Kp.grown hb3 V (fun q h=> .inl (by cases h;rfl)))).trans ((Kp.grown hb4 O hv0).trans (Kp.grown hb5 hg6 (fun q h=> .inl (by cases h;rfl))));have hku6:R.cell? ⟨J,0,none⟩=some (.map (some C)):=(World.cell?_of_block (w:=w) (a:=⟨J,0,none⟩) (hkp.blk J hW.lU hW.ne)).trans hW.u;have hk9um:k9 ≠ C:=by have:=hW.l9;omega
 have hk9v:some k9 ≠ v0.ownBlock:=fun e=>hx4 e.symm
 have hk96:R.heap[k9]? =some (.cells (cU c).toArray 25 (0,0)):=by
  have l4:k9<w4.heap.size:=by omega
  rw [hg6.block k9 (by have:=O.size;omega) (by simpa using hk9um),O.block k9 l4 hk9v,V.block k9 (by omega) (by simpa using hk9um),hg3.block k9 (by omega) (by simp)];exact hc2
 have hb6:base≤R.heap.size:=Xqg hb5 hg6.size;generalize G:(a5.put (some 40) v5).put (some 41) (goInt st)=a6;have E:a6.tmps.size=nt:=by rw [← G];simp only [ay,D]
 have Z:Ka IJ a a6:=by rw [← G];exact (hka5.put (by decide)).put (by decide)
 have H:(40:Nat)<nt:=by omega
 have I:(41:Nat)<nt:=by omega
 have i9:a6.eval (.tmp 9)= .pointer (some ⟨k9,0,none⟩):=by rw [← G];simp only [aP,ay,D,H,I];simpa using h9
 have i28:a6.eval (.tmp 28)= .slice (some ⟨b,o,none⟩) us.length cap:=by rw [← G];simp only [aP,ay,D,H,I];simpa using h28
 have i29:a6.eval (.tmp 29)= .int .i64 (us.length:Int):=by rw [← G];simp only [aP,ay,D,H,I];simpa using h29
 have i30:a6.eval (.tmp 30)= .int .i64 (k:Int):=by rw [← G];simp only [aP,ay,D,H,I];simpa using h30
 clear G h9 h28 h29 h30 h34 h36 h38 h39;show (Code.region 10 _ false).wp prog Q a6 R;refine wp_region_list ?_;have hkw:ν .i64 ((k:Int)+1)=((k+1:Nat):Int):=by
  have h2:(2:Nat)^40=1099511627776:=by decide
  rw [jD]<;>omega
 refine uK (v:= .int .i64 ((k+1:Nat):Int)) (w':=R) ?_ ?_
 ·have hc1:a6.eval (.const (.int .i64 1))= .int .i64 1:=rfl;have hgd:(eqGuard .add 3 (.tmp 30) (.const (.int .i64 1)) (.int .i64 (k:Int)) (.int .i64 1)).run prog R= .ok () R:=gQ _ _ _ _ _ _ (by simp) (by simp);simp only [execOp,mk,i30,hc1,Sem.run_bind,hgd,Result.andThen_ok];simp [binOp,Op.intArith,hkw]
 refine uK (v:= .int .i64 ((k+1:Nat):Int)) (w':=R) ?_ ?_
 ·simp only [execOp,mk,aP,E,show (42:Nat)<nt by omega,if_true,Sem.run_pure]
 have A:(42:Nat)<nt:=by omega
 have B:(30:Nat)<nt:=by omega
 refine hQ _ _ ⟨by simp only [ay,E], ?_, ?_, ?_, ?_, ?_⟩ ⟨hku6,hk96,hT6,hb6,hW.lU,hW.l9,hW.ne⟩ hkp ((Z.put (by decide)).put (by decide))
 ·simp only [aP,ay,E,A,B];simp [Z.get 8 (by decide)];exact hI.t8
 ·simp only [aP,ay,E,A,B];simpa using i9
 ·simp only [aP,ay,E,A,B];simpa using i28
 ·simp only [aP,ay,E,A,B];simpa using i29
 ·simp only [aP,ay,E,A,B];simp
def dO (W:Ut):List Nat→Ut
 | []=> []
 |i::l=>match W[i]? with
  |some x=>x.2.foldl (fun U d=>jF U d x.1) (dO W l)
  |none=>dO W l
theorem NK (l:di prog ap) {nt:Nat} (u:60≤nt) {base o k k9:Nat} {c:Cl} {us:List Cl} {n:Value} {Q:Exit→Act→World→Prop}:∀ (rest pre:List Cl) (U:Ut) (bnd:Nat) (w:World) (a:Act),us=pre++rest→us.length<2^39→bnd+rest.length<2^40→
  In nt a n us.length k k9 pre.length→InW w base o k k9 c U bnd→(us ≠ []→O_ w base o us n)→
  (∀ a' w',In nt a' n us.length k k9 us.length→InW w' base o k k9 c (rest.foldl (fun U d=>jF U d c) U) (bnd+rest.length)→Kp base o w w'→Ka IJ a a'→Q (.exit 2) a' w')→Code.rounds prog inB Q (rest.length+1) a w
 | rest,pre,U,bnd,w,a,hus,hl,hb,hI,hW,hS,hQ=>by
  show (inB).wp prog (Exit.then (Code.rounds prog inB Q rest.length) Q) a w;unfold inB;refine wp_seq (wp_region_list ?_);have t:=hI.sz;have p:(eqGuard .lss 3 (.tmp 30) (.tmp 29) (.int .i64 (pre.length:Int)) (.int .i64 (us.length:Int))).run prog w= .ok () w:=gQ _ _ _ _ _ _ (by simp) (by simp);refine uK (v:= .bool (decide ((pre.length:Int)<(us.length:Int)))) (w':=w) ?_ ?_
  ·simp only [execOp,mk,hI.t29,hI.t30,Sem.run_bind,p,Result.andThen_ok];simp [binOp,Op.intCmp,Op.intArith]
  have x:(31:Nat)<nt:=by omega
  generalize f:a.put (some 31) (.bool (decide ((pre.length:Int)<(us.length:Int))))=a1;have g:a1.eval (.tmp 31)= .bool (decide ((pre.length:Int)<(us.length:Int))):=by rw [← f,aP (by omega),if_pos rfl]
  have j:In nt a1 n us.length k k9 pre.length:=by
   rw [← f];refine ⟨by rw [ay];exact t, ?_, ?_, ?_, ?_, ?_⟩<;>rw [aP (by omega),if_neg (by decide)]
   ·exact hI.t8
   ·exact hI.t9
   ·exact hI.t28
   ·exact hI.t29
   ·exact hI.t30
  have h:Ka IJ a a1:=by rw [← f];exact (Ka.refl IJ a).put (by decide)
  clear f;show (Code.seq (.cond (.tmp 31) .skip (.exit 2)) _).wp prog _ a1 w
  match rest,hus,hb,hQ with
  | [],hus,hb,hQ=>
   have b:pre.length=us.length:=by rw [hus];simp
   rw [b,Yq1 (by omega)] at g;refine wp_seq (wp_cond_false g (wp_exit ?_));show Q (.exit 2) a1 w;refine hQ a1 w (by rw [b] at j;exact j) (by simpa using hW) (Kp.refl _ _ _) h
  |d::rest,hus,hb,hQ=>
   have b:pre.length<us.length:=by rw [hus];simp
   rw [Yq0 (by omega)] at g;refine wp_seq (wp_cond_true g (wp_skip ?_));have D:us[pre.length]? =some d:=by rw [hus];simp
   have i:us ≠ []:=fun e=>by rw [e] at b;simp at b
   simp only [τ] at hb;show (Code.seq MX _).wp prog _ a1 w;have G:(2:Nat)^39=549755813888:=by decide
   have E:(2:Nat)^40=1099511627776:=by decide
   refine Wq l u (by omega) (by omega) D j hW (hS i) ?_;intro a' w' r q m s;show Code.rounds prog inB Q (rest.length+1) a' w';refine NK l u rest (pre++ [d]) _ (bnd+1) w' a' (by rw [hus];simp) hl (by omega) (by simpa using r) q (fun i=>(hS i).kept m) ?_;intro C B z F A y;refine hQ C B z ?_ (m.trans A) ((h.trans s).trans y);simp only [Xqw,τ];rw [show bnd+(rest.length+1)=bnd+1+rest.length by omega];exact F
theorem M_:∀ {us:List Cl} {k j:Nat} {d:Cl} {u:Value},us[k]? =some d→(cU d)[j]? =some u→(F9 us)[k*2+j]? =some u
 | [],_,_,_,_,h,_=>by simp at h
 |x::us,0,j,d,u,h,hj=>by
  simp at h;subst h;have a:=(List.getElem?_eq_some_iff.1 hj).1;simp only [F9,Xqa,Nat.zero_mul,Φ];rw [List.getElem?_append_left a];exact hj
 |x::us,k+1,j,d,u,h,hj=>by
  simp only [List.getElem?_cons_succ] at h;have:=M_ h hj;simp only [F9,Xqa];rw [Xq2 (by simp [cU];omega)];rw [show (k+1)*2+j - (cU x).length=k*2+j by simp [cU];omega];exact this
theorem agV {hp:Hp} {m:aB} {S:au} {w:World} {base i:Nat} (q:aZ ap (AM.ai hp) m S w) (y:Lo (AM.ai hp) m S base i) {us:List Cl} {nn:Bool} {c:Value} (h:PR S (.sl (cL us) us.length nn) c):
  ∃ f cap,c= .slice f us.length cap∧(us ≠ []→O_ w base i us c):=by
 simp only [PR] at h;obtain ⟨f,cap,rfl,t,h⟩:=h;refine ⟨f,cap,rfl,fun a=> ?_⟩;rcases h with ⟨_,g,_⟩|⟨b,o,vs,rfl,g,n⟩
 ·exfalso;cases us with
  |nil=>exact a rfl
  |cons x us=>simp [cL,cC] at g
 ·have e:=A_ g;subst e;have z:¬ (base≤b∨b=i):=fun l=>by
   cases us with
   |nil=>exact a rfl
   |cons x us=>
    have:=(n 0 (.int .i64 x.1) rfl).1;rw [y.clr b l] at this;cases this
  refine ⟨b,o,cap,rfl,by omega,by omega,fun k d v j u p=> ?_⟩;obtain ⟨r,s⟩:=n _ u (M_ v p);rw [Nat.add_assoc];exact q.one r s
structure Jt (W:Ut) (lb:Nat) (kU um base:Nat) (w:World) (done:List Nat) (w':World):Prop where
 nd:done.Nodup
 lt:∀ i ∈ done,i<W.length
 u:w'.cell? ⟨kU,0,none⟩=some (.map (some um))
 t:∃ x,Af w' base 25 um x (dO W done) (done.length*lb)
 b:base≤w'.heap.size
 k:Kp w.heap.size um w w'
theorem Q7 {W:Ut} {done:List Nat} (h:done.Nodup) (b:∀ i ∈ done,i<W.length):done.length≤W.length:=by
 have:=List.Nodup.length_le_of_subset h (l₂:=Ψ W.length) (fun i a=>List.mem_range.2 (b i a));simpa using this
abbrev uF (fr:List Cl) (nf:Bool) (p:AV):dG:= [(2,.sl (cL fr) fr.length nf),(3,.ptr 0 0 0),(4,.ptr 1 0 0),(8,p)]
theorem VP {fr:List Cl} {b:Bool} {p:AV} {c:Value}:∀ d ∈ IJ,(fU 22 23 24 c (uF fr b p)).get d= .dead:=by
 intro d a;simp only [IJ,Xqo,List.not_mem_nil,or_false] at a;rcases a with rfl|rfl|rfl|rfl|rfl|rfl|rfl|rfl|rfl|rfl|rfl|rfl|rfl|rfl|rfl|rfl|rfl|rfl|rfl|rfl|rfl<;>rfl
set_option maxHeartbeats 1000000 in
theorem TJ (R:di prog ap) {nt:Nat} (U:60≤nt) {W:Ut} {lb d t base r:Nat} {G w:World} {a:Act} {done:List Nat} {i:Nat} {c:Cl} {us:List Cl} {nn:Bool} {hp:Hp} {m m0:aB} {S S0:au} {w0:World} {h0:List az} {fr:List Cl} {V:Bool} {kv vv:Value}
  (hlb:W.length*lb+lb<2^39) (hws:base=G.heap.size+1) (hr:r=G.heap.size) (hkU:d<G.heap.size) (hum:t<G.heap.size) (z:d ≠ t) (hl:Lo (AM.ai hp) m S base t) (hw0:w0.heap.size≤t) (hw0b:w0.heap.size≤base)
  (hJ:Jt W lb d t base G done w) (hi:i ∉ done) (hW:W[i]? =some (c,us)) (hus:us.length≤lb)
  (hfr:Fr (ax h0) m0 S0 w0 (AM.ai hp) m S w) (hF:FR ap (fU 22 23 24 (.pointer (some ⟨r,0,none⟩)) (uF fr V (.raw (.pointer (some ⟨d,0,none⟩))))) hp [] nt m S w a)
  (hent:(Instr.entry (.pointer (some ⟨r,0,none⟩))).run prog w= .ok (.tuple #[kv,vv]) w) (F:PR S (cA c) kv) (hvv:PR S (.sl (cL us) us.length nn) vv) {K:Exit→Act→World→Prop}
  (hK:∀ w' a',Jt W lb d t base G (i::done) w'→Fr (ax h0) m0 S0 w0 (AM.ai hp) m S w'→FR ap (fU 22 23 24 (.pointer (some ⟨r,0,none⟩)) (uF fr V (.raw (.pointer (some ⟨d,0,none⟩))))) hp [] nt m S w' a'→(∀ k,k<base→k ≠ t→w'.heap[k]? =w.heap[k]?)→K .normal a' w'):
  (b_ QA (af f22)).wp prog K a w:=by
 have F:=EF F;subst F;obtain ⟨l,cap,rfl,Q⟩:=agV hF.srel hl hvv;obtain ⟨x,hT⟩:=hJ.t;have g:a.tmps.size=nt:=hF.size;have T:a.eval (.tmp 22)= .pointer (some ⟨r,0,none⟩):=by
  have:=hF.env 22;simp only [fU,dG.get,AM.ai,Nat.beq_refl,Xqt,VR,PR] at this;exact this
 have e8:a.eval (.tmp 8)= .pointer (some ⟨d,0,none⟩):=by
  have:=hF.env 8;have e:(fU 22 23 24 (.pointer (some ⟨r,0,none⟩)) (uF fr V (.raw (.pointer (some ⟨d,0,none⟩))))).get 8= .raw (.pointer (some ⟨d,0,none⟩)):=rfl;rw [e] at this;simp only [VR,PR] at this;exact this
 rw [Px];refine wp_block (wp_seq (wp_region_list ?_));refine uK (v:= .tuple #[cV c,.slice l us.length cap]) (w':=w) ?_ ?_
 ·simp only [execOp,mk,T,Sem.run_bind,hent,Result.andThen_ok,Sem.run_pure]
 have u:(25:Nat)<nt:=by omega
 have C:(26:Nat)<nt:=by omega
 have I:(27:Nat)<nt:=by omega
 have l9:(9:Nat)<nt:=by omega
 have D:(10:Nat)<nt:=by omega
 have M:(28:Nat)<nt:=by omega
 have l29:(29:Nat)<nt:=by omega
 have O:(30:Nat)<nt:=by omega
 refine uK (v:=cV c) (w':=w) ?_ ?_
 ·simp [execOp,mk,aP,g,u,Instr.extract]
 refine uK (v:= .slice l us.length cap) (w':=w) ?_ ?_
 ·simp [execOp,mk,aP,ay,g,u,C,Instr.extract]
 refine uK (v:= .pointer (some ⟨w.heap.size,0,none⟩)) (w':=w.alloc (.cells #[.int .i64 0,.int .i64 0] 25)) ?_ ?_
 ·simp only [execOp,mk,Sem.run_bind,Oz,Result.andThen_ok,Sem.run_pure]
 generalize n:w.alloc (.cells #[.int .i64 0,.int .i64 0] 25)=w1;have E:w1.heap[w.heap.size]? =some (.cells #[.int .i64 0,.int .i64 0] 25 (0,0)):=by rw [← n];exact heap_alloc_new w _
 have j:w.grownBy w1 none:=by rw [← n];exact World.grownBy_alloc w _ none
 have J:w1.heap.size=w.heap.size+1:=by rw [← n];simp
 generalize f:(((a.put (some 25) (.tuple #[cV c,.slice l us.length cap])).put (some 26) (cV c)).put (some 27) (.slice l us.length cap)).put (some 9) (.pointer (some ⟨w.heap.size,0,none⟩))=a3;have o:a3.tmps.size=nt:=by rw [← f];simp only [ay,g]
 have y:Ka IJ a a3:=by rw [← f];exact ((((Ka.refl IJ a).put (by decide)).put (by decide)).put (by decide)).put (by decide)
 have f9:a3.eval (.tmp 9)= .pointer (some ⟨w.heap.size,0,none⟩):=by rw [← f,aP (by simp only [ay];omega),if_pos rfl]
 have f26:a3.eval (.tmp 26)=cV c:=by rw [← f];simp only [aP,ay,g,u,C,I,l9];simp
 have f27:a3.eval (.tmp 27)= .slice l us.length cap:=by rw [← f];simp only [aP,ay,g,u,C,I,l9];simp
 clear f n;refine mku (w':=w1.setRow w.heap.size (cU c).toArray) ?_ ?_
 ·simp only [execOp,mk,f9,f26,Sem.run_bind,OA E rfl c,Result.andThen_ok,Sem.run_pure]
 generalize s:w1.setRow w.heap.size (cU c).toArray=w2;have hn2:w2.heap[w.heap.size]? =some (.cells (cU c).toArray 25 (0,0)):=by rw [← s];exact DU E
 have hz2:w2.heap.size=w.heap.size+1:=by rw [← s];simpa using J
 have p:w.grownBy w2 none:=by
  rw [← s];exact ⟨j.os,j.tape,j.output,by simp;omega,fun q H z=>(setRow_other w1 w.heap.size q _ (by omega)).trans (j.block q H z)⟩
 clear s E j J;refine uK (v:= .slice l us.length cap) (w':=w2) ?_ ?_
 ·simp only [execOp,mk,f27,Sem.run_pure]
 show (Code.seq (.region 6 _ false) _).wp prog _ _ _;refine wp_seq (wp_region_list ?_);refine uK (v:= .slice l us.length cap) (w':=w2) ?_ ?_
 ·simp [execOp,mk,aP,o,D]
 refine uK (v:= .int .i64 (us.length:Int)) (w':=w2) ?_ ?_
 ·simp [execOp,mk,aP,ay,o,D,M,resolve,invoke,builtin,Builtin.len_,run_underlying Xw,goInt]
 refine uK (v:= .int .i64 0) (w':=w2) ?_ ?_
 ·simp only [execOp,mk,Sem.run_pure];rfl
 generalize A:(((a3.put (some 10) (.slice l us.length cap)).put (some 28) (.slice l us.length cap)).put (some 29) (.int .i64 (us.length:Int))).put (some 30) (.int .i64 0)=a4;have hI:In nt a4 (.slice l us.length cap) us.length d w.heap.size ([]:List Cl).length:=by
  rw [← A];refine ⟨by simp only [ay,o], ?_, ?_, ?_, ?_, ?_⟩<;>simp only [aP,ay,o,D,M,l29,O]
  ·simp [y.get 8 (by decide),e8]
  ·simpa using f9
  ·simp
  ·simp
  ·simp
 have N:Ka IJ a a4:=by rw [← A];exact (((y.put (by decide)).put (by decide)).put (by decide)).put (by decide)
 clear A;have B:=hJ.b;have Z:=Q7 hJ.nd hJ.lt;have X:i<W.length:=(List.getElem?_eq_some_iff.1 hW).1;have hbd:done.length*lb≤W.length*lb:=Nat.mul_le_mul_right _ Z;have h39:(2:Nat)^39=549755813888:=by decide
 have h40:(2:Nat)^40=1099511627776:=by decide
 have L:InW w2 base t d w.heap.size c (dO W done) (done.length*lb):=
  ⟨(World.cell?_of_block (w:=w) (a:=⟨d,0,none⟩) (p.block d (show d<_ by omega) (by simp))).trans hJ.u,hn2,(hT.new_x (ζ _)).kept p,by omega,by omega,B,z⟩
 refine wp_block (wp_loop_rounds (us.length+1) ?_);refine NK R U us [] _ _ w2 a4 rfl (show us.length<2^39 by omega) (by omega) hI L (fun h=>(Q h).kept (Kp.grown B p (by simp))) ?_;intro a' w' h1 Y h3 h4;have b:Kp base t w w':=(Kp.grown B p (by simp)).trans h3;have hka:Ka IJ a a':=N.trans h4;have:=hK w' a' ⟨List.nodup_cons.2 ⟨hi,hJ.nd⟩,fun q H=>by
   rcases List.mem_cons.1 H with rfl|H
   ·exact X
   ·exact hJ.lt q H,Y.u,⟨_,by
   have h5:=Y.t.mono (bnd':=(i::done).length*lb) (by simp only [τ,Nat.add_mul];omega);simpa only [dO,hW] using h5⟩,Y.b,hJ.k.trans ⟨b.os,b.tape,b.output,b.size,fun k hk U=>b.blk k (by omega) U⟩⟩
  (hl.frame hfr b hw0 hw0b) (hl.fr hF b hka VP) b.blk
 simpa [Exit.then,Exit.inBlock] using this
def abN (W:Ut):az:=⟨[.agg (W.map fun x=>cA x.1),.agg (W.map fun x=> .sl (cL x.2) x.2.length false)],0,false,0,dJ,true⟩
abbrev Ej (lc:List AV):az:=⟨lc,0,false,0,0,true⟩
abbrev Ei (n:Int):az:=⟨[ω n],0,false,0,0,true⟩
def sH (W:Ut) (lc:List AV) (n:Int) (fr:List Cl) (nf:Bool):St:=
 ⟨[(2,.sl (cL fr) fr.length nf),(3,.ptr 0 0 0),(4,.ptr 1 0 0),(7,.mr 2 0),(8,.ptr 3 0 0)],[(0,Ej lc),(1,Ei n),(2,abN W),(3,⟨[.mr 4 0],0,false,0,0,false⟩),(4,⟨[.agg [],.agg []],0,false,0,dJ,true⟩)],.dead,[]⟩
def Va (U:Ut) (lc:List AV) (n:Int) (fr:List Cl) (nf:Bool):St:=
 ⟨uF fr nf (.ptr 3 0 0),[(3,⟨[.mr 4 0],0,false,0,0,false⟩),(4,Eu U),(0,Ej lc),(1,Ei n)],.dead,[]⟩
theorem acO {P:Nat→Prop} (h0:∀ t,t ≠ 2→t ≠ 3→t ≠ 4→t ≠ 8→P t) (b:P 2) (c:P 3) (d:P 4) (a:P 8):∀ t,P t:=by
 intro t;by_cases e2:t=2
 ·subst e2;exact b
 by_cases e3:t=3
 ·subst e3;exact c
 by_cases e4:t=4
 ·subst e4;exact d
 by_cases e8:t=8
 ·subst e8;exact a
 exact h0 t e2 e3 e4 e8
theorem BM {fr:List Cl} {d:Bool} {p:AV} {t:Nat} (b:t ≠ 2) (c:t ≠ 3) (f:t ≠ 4) (a:t ≠ 8):(uF fr d p).get t= .dead:=by
 simp [uF,dG.get,AM.ai,iD (fun e=>b e.symm:2 ≠ t),iD (fun e=>c e.symm:3 ≠ t),iD (fun e=>f e.symm:4 ≠ t),iD (fun e=>a e.symm:8 ≠ t)]
theorem Ye {A B:az} {x:Nat} {C:az} (h:AM.ai [(0,A),(1,B)] x=some C):(x=0∧C=A)∨(x=1∧C=B):=by
 simp only [AM.ai] at h;by_cases e0:x=0
 ·subst e0;simp at h;exact .inl ⟨rfl,h.symm⟩
 ·by_cases e1:x=1
  ·subst e1;simp at h;exact .inr ⟨rfl,h.symm⟩
  ·rw [iD (fun e=>e0 e.symm:0 ≠ x),iD (fun e=>e1 e.symm:1 ≠ x)] at h;cases h
set_option maxHeartbeats 1000000 in
theorem Vb (hap:di prog ap) {nt:Nat} (hn:60≤nt) (W:Ut) (f:List AV) (hlc:bg f= []) (n:Int) (fr:List Cl) (l:Bool) (lb:Nat) (hlb:W.length*lb+lb<2^39) (hus:∀ x ∈ W,x.2.length≤lb):
  iq prog ap [] nt (b_ [1,1,1,0] (af f22)) (sH W f n fr l) fun e s'=>e= .normal∧∃ done:List Nat,done.Nodup∧(∀ i,i ∈ done↔i<W.length)∧s'=Va (dO W done) f n fr l:=by
 intro _;refine ⟨fun e s' ⟨_,_,_,_,h⟩=>h ▸ rfl,fun m0 S0 w0 m S w a hfr p Q hQ=> ?_⟩;rw [QZ];have s:=p.env 8;have e8:(sH W f n fr l).env.get 8= .ptr 3 0 0:=rfl;rw [e8] at s;simp only [VR] at s;obtain ⟨B3,hB3,_,_,s⟩:=s;have Y:AM.ai (sH W f n fr l).hp 3=some ⟨[.mr 4 0],0,false,0,0,false⟩:=rfl;have H:AM.ai (sH W f n fr l).hp 4=some ⟨[.agg [],.agg []],0,false,0,dJ,true⟩:=rfl;have l2:AM.ai (sH W f n fr l).hp 2=some (abN W):=rfl;rw [Y] at hB3;cases hB3;have s:=s rfl;obtain ⟨⟨T,t3,vs3,rest3,I,r32,_,r34,r35,r36⟩,_,_⟩:=p.srel.blk 3 _ Y;obtain ⟨⟨cur4,t4,vs4,rest4,r41,F,r43,_,_,_⟩,_,_⟩:=p.srel.blk 4 _ H;obtain ⟨es4,clk4,hm4,hc4⟩:=r41.map rfl;have hes:es4=#[]:=by
  have h:=r43 rfl;subst hc4
  match vs4,h,F with
  |u1::u2::vs,h,F=>
   simp only [a_,PR] at h;obtain ⟨⟨ks,rfl,q⟩,_⟩:=h;have d:ks= []:=by cases ks with|nil=>rfl|cons _ _=>simp [a_] at q
   subst d;simp only [jw,Xqz,List.cons.injEq,Value.agg.injEq] at F;have:=congrArg Array.size F.1;simp at this;exact Array.eq_empty_of_size_eq_zero (by simpa using this)
  | [],h,_=>simp [a_] at h
  | [_],h,_=>simp [a_] at h
 subst hes;have hv3:vs3= [.map (some (m 4).1)]:=by
  match vs3,r34 with
  | [u],h=>
   simp only [aS,VR] at h;obtain ⟨⟨B,L,_,_,h⟩,_⟩:=h;rw [H] at L;cases L;rw [h rfl]
  | [],h=>simp [aS] at h
  |_::_::_,h=>simp [aS] at h
 subst hv3;have I:=I.cells (show (0:Nat) ≠ dJ by decide);have hc3:w.cell? ⟨(m 3).1,0,none⟩=some (.map (some (m 4).1)):=by rw [iI I,r32];rfl
 have Z:(m 3).1 ≠ (m 4).1:=fun e=>by have:=p.srel.inj 3 4 _ _ Y H e;omega
 have hU3:=p.srel.lt Y;have hU4:=p.srel.lt H;have V:∀ x C,AM.ai (sH W f n fr l).hp x=some C→w0.heap.size≤(m x).1:=fun x C G=>by
  rcases hfr.img x C G with q|⟨B0,q,_⟩
  ·exact q
  ·simp [ax] at q
 have N:∀ x C,AM.ai (sH W f n fr l).hp x=some C→C.fro=false→∀ o,S (m x).1 o=none:=fun x C G hC o=>by
  cases hs:S (m x).1 o with
  |none=>rfl
  |some v=>have:=(p.srel.own x C G o v hs).1;rw [hC] at this;cases this
 have D:∀ x C,AM.ai [(0,Ej f),(1,Ei n)] x=some C→AM.ai (sH W f n fr l).hp x=some C∧x ≠ 2:=fun x C G=>by
  rcases Ye G with ⟨rfl,rfl⟩|⟨rfl,rfl⟩<;>exact ⟨rfl,by decide⟩
 have A:Lo (AM.ai [(0,Ej f),(1,Ei n)]) m S (w.heap.size+1) (m 4).1:=by
  refine ⟨fun k d b B L e=> ?_,fun k d o=> ?_⟩
  ·have q:=(D b B L).1;have:=p.srel.lt q;rcases d with d|d
   ·omega
   ·have h2:=p.srel.inj b 4 _ _ q H (e.trans d);subst h2;simp [AM.ai] at L
  ·rcases d with d|d
   ·cases hs:S k o with
    |none=>rfl
    |some v=>have:=p.srel.seal_lt hs;omega
   ·subst d;exact N 4 _ H rfl o
 have hF0:FR ap ((8,.raw (.pointer (some ⟨(m 3).1,0,none⟩)))::(sH W f n fr l).env) (sH W f n fr l).hp [] nt m S w a:=p.say (by rw [s];simp only [VR,PR]);refine Jz (h0:= []) (ks:=W.map fun x=>cA x.1) (vs:=W.map fun x=> .sl (cL x.2) x.2.length false) (B:=abN W) (b:=2) (ver:=0) (tm:=7) (n:=W.length) (hp0:= [(0,Ej f),(1,Ei n)]) (env0:=uF fr l (.raw (.pointer (some ⟨(m 3).1,0,none⟩)))) (J:=fun done w'=>Jt W lb (m 3).1 (m 4).1 (w.heap.size+1) w done w')
  rfl rfl rfl rfl rfl rfl rfl rfl rfl rfl rfl rfl (by omega) (by omega) (by omega) (by omega) (by decide) (by decide) akb rfl l2 rfl rfl rfl rfl (by simp [ax]) (by simp) D ?_ ?_ (fun x B0 C h=>by simp [ax] at h) hfr hF0 ?_ ?_ Q ?_ ?_
 ·intro x C G y j;rcases Ye G with ⟨rfl,rfl⟩|⟨rfl,rfl⟩
  ·rw [hlc] at j;cases j
  ·cases j
 ·refine acO (fun t h2 h3 h4 s=> .inl (BM h2 h3 h4 s)) (.inr ⟨by decide,by decide,rfl,fun y j=>by cases j⟩) (.inr ⟨by decide,by decide,rfl,fun y j=> ?_⟩) (.inr ⟨by decide,by decide,rfl,fun y j=> ?_⟩) (.inr ⟨by decide,by decide,rfl,fun y j=>by cases j⟩)
  ·have j:y ∈ [0]:=j;simp at j;subst j;rfl
  ·have j:y ∈ [1]:=j;simp at j;subst j;rfl
 ·intro w' d hs ho ht hu;exact ⟨by simp,(fun i hi=>(by cases hi)),(World.cell?_of_block (w:=w) (a:=⟨(m 3).1,0,none⟩) (d _ hU3)).trans hc3,⟨0,by simpa [dO] using Af.new ((d _ hU4).trans hm4) (by omega)⟩,by omega,⟨ho,ht,hu,by omega,fun k h _=>d k h⟩⟩
 ·intro done X w' r mm si se ci g hr hrs d hs ho ht hu;have n3:(m 3).1 ≠ r:=by omega
  have n4:(m 4).1 ≠ r:=by omega
  obtain ⟨x,G⟩:=g.t;exact ⟨g.nd,g.lt,(World.cell?_of_block (w:=X) (a:=⟨(m 3).1,0,none⟩) (d _ n3)).trans g.u,⟨x,G.apart (by omega) n4 d⟩,by rw [hs];exact g.b,⟨ho.trans g.k.os,ht.trans g.k.tape,hu.trans g.k.output,by rw [hs];exact g.k.size,fun k hlt hne=>(d k (by omega)).trans (g.k.blk k hlt hne)⟩⟩
 ·intro r bm done i k v X a1 es clk it0 hr g hi hni M E z U hit hi1 hi2 hbm hbe ⟨kv,vv,hent,hkv,hvv⟩ K hK;have hWi:W[i]? =some W[i]:=δ hi;have M:k=cA W[i].1:=by simp [hWi] at M;exact M.symm
  have E:v= .sl (cL W[i].2) W[i].2.length false:=by simp [hWi] at E;exact E.symm
  subst M;subst E;refine TJ (c:=W[i].1) (us:=W[i].2) hap hn hlb rfl hr hU3 hU4 Z A (V 4 _ H) (by have:=hfr.size;omega) g hni hWi (hus _ (Xxq hi)) z U hent hkv hvv ?_;intro w' a' q h2 h3 h4;have hmb:=p.srel.lt l2;refine hK w' a' q h2 h3 (h4 r (by omega) (by omega)) (h4 bm (by omega) ?_);rw [hbe];intro e;have:=p.srel.inj 2 4 _ _ l2 H e;omega
 ·intro r done X a1 g hall z U;obtain ⟨x,hT⟩:=g.t;have hcl:∀ k,w.heap.size+1≤k→(∀ b B,AM.ai [(0,Ej f),(1,Ei n)] b=some B→(m b).1 ≠ k)∧∀ o,S k o=none:=fun k d=> ⟨A.blk k (.inl d),A.clr k (.inl d)⟩
  have hlt1:(m 4).1<X.heap.size:=by have:=g.k.size;omega
  obtain ⟨m1,S1,hle,hm1,O,hSk,hfr2,hF2⟩:=hT.shut z U (V 4 _ H) ⟨hlt1,A.blk _ (.inr rfl),A.clr _ (.inr rfl)⟩ hcl 4 rfl;have hoff:xQ (AM.ai [(4,Eu (dO W done)),(0,Ej f),(1,Ei n)]) m1 S1 X (m 3).1:=by
   refine ⟨by have:=g.k.size;omega,fun b B L e=> ?_,fun o=>by rw [hSk _ _ (by omega)];exact N 3 _ Y rfl o⟩;by_cases hb4:b=4
   ·subst hb4;rw [O] at e;exact Z e.symm
   ·rw [hm1 b hb4] at e;have hB':AM.ai [(0,Ej f),(1,Ei n)] b=some B:=by
     simp only [AM.ai] at L ⊢;rw [iD (fun e=>hb4 e.symm:4 ≠ b)] at L;exact L
    have q:=(D b B hB').1;have:=p.srel.inj b 3 _ _ q Y e;subst this;simp [AM.ai] at hB'
  have R:X.heap[(m 3).1]? =some (.cells T t3 (0,0)):=(g.k.blk _ hU3 Z).trans I;have hvr:aS (AM.ai [(4,Eu (dO W done)),(0,Ej f),(1,Ei n)]) m1 S1 [.mr 4 0] [.map (some (m 4).1)]:=by
   simp only [aS,VR,and_true];exact ⟨Eu (dO W done),rfl,ζ _,⟨_,rfl⟩,fun _=>by rw [O]⟩
  obtain ⟨m2,hm2,hm2b,hfr3,hF3⟩:=XJ (h0:= []) 3 ⟨[.mr 4 0],0,false,0,0,false⟩ (k:=(m 3).1) (c:=0) hfr2 hF2 rfl hoff (V 3 _ Y) rfl rfl (fun es clk he=>by rw [R] at he;cases he)
   ⟨T,t3,_,rest3,fV.of (by decide) R,r32,(fun h=>(by cases h)),hvr,r35,fun h=>absurd h (by decide)⟩
  have hp8:a1.tmps.getD 8 undef= .pointer (some ⟨(m 3).1,0,none⟩):=by
   have:=hF3.env 8;have e:(fU 22 23 24 (.pointer (some ⟨r,0,none⟩)) (uF fr l (.raw (.pointer (some ⟨(m 3).1,0,none⟩))))).get 8= .raw (.pointer (some ⟨(m 3).1,0,none⟩)):=rfl;rw [e] at this;simpa only [VR,PR] using this
  have hF4:=hF3.say (t:=8) (x:= .ptr 3 0 0) (by
   rw [hp8];simp only [VR];exact ⟨⟨[.mr 4 0],0,false,0,0,false⟩,rfl,ζ _,⟨_,_,rfl⟩,fun _=>by rw [hm2b]⟩)
  have hF5:=hF4.drop (env':=uF fr l (.ptr 3 0 0)) (hp':= [(3,⟨[.mr 4 0],0,false,0,0,false⟩),(4,Eu (dO W done)),(0,Ej f),(1,Ei n)]) (fun _ _ h=>h) (fun _ _ _ _ _=>rfl)
   (acO (fun t h2 h3 h4 s=> .inl (BM h2 h3 h4 s)) (.inr ⟨rfl,fun _ _=>rfl⟩) (.inr ⟨rfl,fun _ _=>rfl⟩) (.inr ⟨rfl,fun _ _=>rfl⟩) (.inr ⟨rfl,fun _ _=>rfl⟩))
  exact hQ .normal (Va (dO W done) f n fr l) ⟨rfl,done,g.nd,fun i=> ⟨g.lt i,hall i⟩,rfl⟩ m2 S1 X a1 hfr3 hF5
theorem xy:∀ (U:Ut) (d c x:Cl),dh (jF U d c) x=if d=x then dh U x++ [c] else dh U x
 | [],d,c,x=>by simp only [jF,dh];split<;>rfl
 | (y,l)::r,d,c,x=>by
  unfold jF;by_cases h:y=d
  ·rw [if_pos h];subst h;simp only [dh];by_cases hx:y=x
   ·rw [if_pos hx,if_pos hx,if_pos hx]
   ·rw [if_neg hx,if_neg hx,if_neg hx]
  ·rw [if_neg h];simp only [dh,xy r d c x];by_cases hx:y=x
   ·subst hx;have:¬ d=y:=fun e=>h e.symm
    simp [this]
   ·rw [if_neg hx,if_neg hx]
theorem Fh (c x:Cl):∀ (us:List Cl) (U:Ut),∃ t,dh (us.foldl (fun U d=>jF U d c) U) x=dh U x++t∧t.length≤us.length∧(∀ y,y ∈ t↔(y=c∧x ∈ us))
 | [],U=> ⟨[],by simp,by simp,by simp⟩
 | d::us,U=>by
  obtain ⟨t,b,f,a⟩:=Fh c x us (jF U d c);rw [Xqw,b,xy];by_cases h:d=x
  ·rw [if_pos h];refine ⟨c::t,by simp,by simp;omega,fun y=> ?_⟩;rw [Xqo,a,h];constructor
   ·rintro (e|e)
    ·exact ⟨e,Xxg⟩
    ·exact ⟨e.1,Θ _ e.2⟩
   ·intro e;exact .inl e.1
  ·rw [if_neg h];refine ⟨t,rfl,by simp;omega,fun y=> ?_⟩;rw [a,Xqo];constructor
   ·exact fun e=> ⟨e.1,.inr e.2⟩
   ·rintro ⟨e1,e2|e2⟩
    ·exact absurd e2.symm h
    ·exact ⟨e1,e2⟩
theorem tY (W:Ut) (lb:Nat) (a:∀ x ∈ W,x.2.length≤lb) (x:Cl):∀ (done:List Nat),(dh (dO W done) x).length≤done.length*lb∧∀ y,y ∈ dh (dO W done) x↔∃ i ∈ done,∃ us,W[i]? =some (y,us)∧x ∈ us
 | []=> ⟨by simp [dO,dh],by simp [dO,dh]⟩
 | i ::done=>by
  obtain ⟨g,c⟩:=tY W lb a x done;unfold dO;cases b:W[i]? with
  | none=>
   simp only;refine ⟨by rw [τ,Xz5];omega,fun y=> ?_⟩;rw [c];constructor
   ·rintro ⟨j,hj,us,h⟩
    exact ⟨j,Θ _ hj,us,h⟩
   ·rintro ⟨j,hj,us,h⟩
    rcases List.mem_cons.1 hj with e|hj
    ·rw [e,b] at h;cases h.1
    ·exact ⟨j,hj,us,h⟩
  | some w=>
   simp only;obtain ⟨t,d,l,f⟩:=Fh w.1 x w.2 (dO W done);rw [d];have k:w.2.length≤lb:=a w (ο b);refine ⟨by rw [η,τ,Xz5];omega,fun y=> ?_⟩;rw [Xjz,c,f];constructor
   ·rintro (⟨j,hj,us,h⟩|⟨e1,e2⟩)
    ·exact ⟨j,Θ _ hj,us,h⟩
    ·exact ⟨i,Xxg,w.2,by rw [b,e1],e2⟩
   ·rintro ⟨j,hj,us,h,hx⟩
    rcases List.mem_cons.1 hj with e|hj
    ·rw [e,b] at h;cases h;exact .inr ⟨rfl,hx⟩
    ·exact .inl ⟨j,hj,us,h,hx⟩
theorem yG {n:Nat} {l:List Nat} (a:l.Nodup) (h:∀ i,i ∈ l↔i<n):l.length=n:=by
 have:=(List.perm_ext_iff_of_nodup a Xxr).2 (fun i=>by rw [h,List.mem_range]);rw [this.length_eq,Xx5]
inductive FV (us:Cl→List Cl) (ok:Cl→Bool) (fr:List Cl):Cl→Prop
 |base {x:Cl}:x ∈ fr→ok x=true→FV us ok fr x
 |step {x y:Cl}:FV us ok fr x→y ∈ us x→ok y=true→FV us ok fr y
theorem FV.ok {us:Cl→List Cl} {ok:Cl→Bool} {fr:List Cl} {x:Cl} (h:FV us ok fr x):ok x=true:=by
 cases h<;>assumption
theorem FV.mono {us a:Cl→List Cl} {ok:Cl→Bool} {fr:List Cl} (b:∀ x y,ok x=true→ok y=true→y ∈ us x→y ∈ a x) {x:Cl} (h:FV us ok fr x):FV a ok fr x:=by
 induction h with
 |base h1 h2=>exact .base h1 h2
 |step h1 h2 h3 ih=>exact .step ih (b _ _ h1.ok h3 h2) h3
theorem FV.trans {us:Cl→List Cl} {ok:Cl→Bool} {fr l:List Cl} (a:∀ y ∈ l,ok y=true→FV us ok fr y) {x:Cl} (h:FV us ok l x):FV us ok fr x:=by
 induction h with
 |base h1 h2=>exact a _ h1 h2
 |step h1 h2 h3 ih=>exact .step ih h2 h3
structure Z5 (us:Cl→List Cl) (ok:Cl→Bool) (seen:List Cl) (fr res:List Cl):Prop where
 sub:∀ y ∈ seen,y ∈ res
 all:∀ y ∈ fr,ok y=true→y ∈ res
 clo:∀ y ∈ res,y ∉ seen→∀ z ∈ us y,ok z=true→z ∈ res
 src:∀ y ∈ res,y ∈ seen∨FV us ok fr y
theorem Z5.two {us:Cl→List Cl} {ok:Cl→Bool} {f a b fr:List Cl} {x:Cl} (j:Z5 us ok f [x] a) (i:Z5 us ok a fr b):Z5 us ok f (x::fr) b:=by
 refine ⟨fun y c=>i.sub y (j.sub y c),fun y c d=> ?_,fun y c k z g d=> ?_,fun y c=> ?_⟩
 ·rcases List.mem_cons.1 c with e|c
  ·exact i.sub y (j.all y (by simp [e]) d)
  ·exact i.all y c d
 ·by_cases ha:y ∈ a
  ·exact i.sub z (j.clo y ha k z g d)
  ·exact i.clo y c ha z g d
 ·rcases i.src y c with h|h
  ·rcases j.src y h with h|h
   ·exact .inl h
   ·exact .inr (h.trans fun z g d=> .base (by simp at g;simp [g]) d)
  ·exact .inr (h.trans fun z g d=> .base (Θ _ g) d)
theorem Ea {us:Cl→List Cl} {ok:Cl→Bool} {C:List Cl} {n:Nat} (c:∀ seen x,jB C seen<n→Z5 us ok seen [x] (kJ us ok n seen x)):∀ (r sn:List Cl),jB C sn<n→Z5 us ok sn r (r.foldl (kJ us ok n) sn)
 | [],sn,h=> ⟨fun y a=>a,(fun y a=>by cases a),fun y a d=>absurd a d,fun y a=> .inl a⟩
 |y::r,sn,h=>by
  rw [Xqw];have b:=c sn y h;exact b.two (Ea c r _ (Xjk (yU C b.sub) h))
theorem J8 {us:Cl→List Cl} {ok:Cl→Bool} {C:List Cl} (k:∀ x,ok x=true→x ∈ C):∀ (n:Nat) (a:List Cl) (x:Cl),jB C a<n→Z5 us ok a [x] (kJ us ok n a x)
 |0,a,x,h=>absurd h (Xwu _)
 | n +1,a,x,h=>by
  unfold kJ;by_cases hx:x ∈ a
  ·rw [if_pos hx];exact ⟨fun y b=>b,(fun y b _=>(by simp at b;rw [b];exact hx)),fun y b d=>absurd b d,fun y b=> .inl b⟩
  ·rw [if_neg hx];cases g:ok x with
   |false=>
    rw [if_neg (by simp)];exact ⟨fun y b=>b,(fun y b h=>(by simp at b;rw [b,g] at h;cases h)),fun y b d=>absurd b d,fun y b=> .inl b⟩
   | true=>
    rw [if_pos rfl];have f:=Ea (us:=us) (fun a x=>J8 k n a x) (us x) (a++ [x]) (by have:=FH (k x g) hx;omega);have j:x ∈ (us x).foldl (kJ us ok n) (a++ [x]):=f.sub x (by simp);refine ⟨fun y b=>f.sub y (by simp [b]),(fun y b _=>(by simp at b;rw [b];exact j)),fun y b d z i c=> ?_,fun y b=> ?_⟩
    ·by_cases e:y=x
     ·subst e;exact f.all z i c
     ·exact f.clo y b (by simp [d,e]) z i c
    ·rcases f.src y b with h|h
     ·rcases List.mem_append.1 h with h|h
      ·exact .inl h
      ·simp at h;subst h;exact .inr (.base (by simp) g)
     ·exact .inr (h.trans fun z i c=> .step (.base (by simp) g) i c)
theorem OW {us:Cl→List Cl} {ok:Cl→Bool} {C:List Cl} (e:∀ x,ok x=true→x ∈ C) (fr:List Cl) (n:Nat) (d:C.length<n) (x:Cl):x ∈ fr.foldl (kJ us ok n) []↔FV us ok fr x:=by
 have c:jB C []<n:=Xjk (Xqp _ _) d;have h:=Ea (fun a x=>J8 (us:=us) e n a x) fr [] c;constructor
 ·intro b;rcases h.src x b with h|h
  ·cases h
  ·exact h
 ·intro b
  induction b with
  |base h1 h2=>exact h.all _ h1 h2
  |step h1 h2 h3 ih=>exact h.clo _ ih (by simp) _ h2 h3
def ku (L:Lw) (s:Int) (u:Cl):List Cl:=(ak s L.ps.length).filter fun c=>decide (u ∈ fC L s c)
open Classical in
noncomputable def bW (L:Lw) (s:Int) (fr:List Cl):List Cl:=(ak s L.ps.length).filter fun c=>decide (FV (ku L s) (aC s L.ps.length) fr c)
theorem OY {L:Lw} {s:Int} {l:List Cl} {i:Nat} {y:Cl} {us:List Cl}:(dw L s l)[i]? =some (y,us)↔l[i]? =some y∧us=fC L s y:=by
 unfold dw;rw [List.getElem?_map];cases h:l[i]? with
 |none=>simp
 |some x=>
  simp only [Xqu,Option.some.injEq,Prod.mk.injEq];constructor
  ·rintro ⟨rfl,rfl⟩;exact ⟨rfl,rfl⟩
  ·rintro ⟨rfl,rfl⟩;exact ⟨rfl,rfl⟩
theorem D8 {L:Lw} {s:Int} {lb:Nat} {done:List Nat} (d:∀ x ∈ dw L s (ak s L.ps.length),x.2.length≤lb) (e:∀ i,i ∈ done↔i<(dw L s (ak s L.ps.length)).length) (x y:Cl):y ∈ dh (dO (dw L s (ak s L.ps.length)) done) x↔y ∈ ku L s x:=by
 rw [(tY _ lb d x done).2 y];unfold ku;rw [Xq7];constructor
 ·rintro ⟨i,_,us,h,hx⟩
  obtain ⟨b,c⟩:=OY.1 h;subst c;exact ⟨ο b,by simpa using hx⟩
 ·rintro ⟨b,c⟩
  obtain ⟨i,f⟩:=List.getElem?_of_mem b;have a:=(OY (L:=L) (s:=s)).2 ⟨f,rfl⟩;exact ⟨i,(e i).2 (List.getElem?_eq_some_iff.1 a).1,_,a,by simpa using c⟩
theorem Qo {L:Lw} {s:Int} {lb:Nat} {done:List Nat} (a:∀ x ∈ dw L s (ak s L.ps.length),x.2.length≤lb) (b:∀ i,i ∈ done↔i<(dw L s (ak s L.ps.length)).length) (fr:List Cl) (n:Nat) (d:(ak s L.ps.length).length<n):
  (ak s L.ps.length).filter (fun c=>decide (c ∈ fr.foldl (kJ (dh (dO (dw L s (ak s L.ps.length)) done)) (aC s L.ps.length) n) []))=bW L s fr:=by
 classical
 unfold bW;refine Xxv fun c f=> ?_
 rw [decide_eq_decide,OW (C:=ak s L.ps.length) (fun x e=>gq.2 e) fr n d];exact ⟨fun h=>h.mono fun x y _ _ h=>(D8 a b x y).1 h,fun h=>h.mono fun x y _ _ h=>(D8 a b x y).2 h⟩
theorem ajQ {nt:Nat} (e:60≤nt) (L:Lw) (a b c:Bool) (s:Int) (fr:List Cl) (d:Bool):ag prog ap [] nt (b_ [0] (af f22)) (dZ .dead [.agg [.sl L.fx L.fn a,.sl L.sx L.sn b,.sl (f_ L.ps) L.ps.length c],ω s,.sl (cL fr) fr.length d] []) .normal (ZC (.sl (cL fr) fr.length d) [.sl L.fx L.fn a,.sl L.sx L.sn b,.sl (f_ L.ps) L.ps.length c] [ω s]):=by
 exact pN 22 [] 0 0 .nil (.nil) e
theorem ajR {nt:Nat} (f:60≤nt) (L:Lw) (a b c:Bool) (s:Int) (fr:List Cl) (d:Bool) (ks vs:List AV) (e:ae prog ap 47 [.agg [.sl L.fx L.fn a,.sl L.sx L.sn b,.sl (f_ L.ps) L.ps.length c],ω s] [] (.ret (.mr 0 0)) [⟨[.agg ks,.agg vs],0,false,0,4611686018427387904,true⟩]):ag prog ap [] nt (b_ [1,0] (af f22)) (ZC (.sl (cL fr) fr.length d) [.sl L.fx L.fn a,.sl L.sx L.sn b,.sl (f_ L.ps) L.ps.length c] [ω s]) .normal (ZE (.sl (cL fr) fr.length d) [.sl L.fx L.fn a,.sl L.sx L.sn b,.sl (f_ L.ps) L.ps.length c] [ω s] [.agg ks,.agg vs]):=by
 exact pN 22 [] 0 0 (.n 4 .nil) (.c e .nil) f
theorem ajS {nt:Nat} (e:60≤nt) (L:Lw) (a b c:Bool) (s:Int) (fr:List Cl) (d:Bool) (ks vs:List AV):ag prog ap [] nt (b_ [1,1,0] (af f22)) (ZE (.sl (cL fr) fr.length d) [.sl L.fx L.fn a,.sl L.sx L.sn b,.sl (f_ L.ps) L.ps.length c] [ω s] [.agg ks,.agg vs]) .normal ⟨[(2,.sl (cL fr) fr.length d),(3,.ptr 0 0 0),(4,.ptr 1 0 0),(7,.mr 2 0),(8,.ptr 3 0 0)],[(0,⟨[.sl L.fx L.fn a,.sl L.sx L.sn b,.sl (f_ L.ps) L.ps.length c],0,false,0,0,true⟩),(1,⟨[ω s],0,false,0,0,true⟩),(2,⟨[.agg ks,.agg vs],0,false,0,4611686018427387904,true⟩),(3,⟨[.mr 4 0],0,false,0,0,false⟩),(4,⟨[.agg [],.agg []],0,false,0,4611686018427387904,true⟩)],.dead,[]⟩:=by
 exact pN 22 [] 0 0 (.n 1 .nil) (.nil) e
def W9 (L:Lw) (a b c:Bool) (s:Int) (fr:List Cl) (nf:Bool) (uk uv:List AV) (k:Nat) (ks vs:List AV):St:=⟨[(3,.ptr 0 0 0),(4,.ptr 1 0 0),(8,.ptr 2 0 0),(13,.ptr 3 0 0),(14,.ptr 4 0 0),(45,.sl (cL fr) fr.length nf),(46,ω (fr.length:Int)),(47,ω (k:Int))],[(0,⟨[.sl L.fx L.fn a,.sl L.sx L.sn b,.sl (f_ L.ps) L.ps.length c],0,false,0,0,true⟩),(1,⟨[ω s],0,false,0,0,true⟩),(2,⟨[.mr 5 0],0,false,0,0,false⟩),(3,⟨[.mr 6 0],0,false,0,0,false⟩),(4,⟨[.fn 56 [] [.ptr 3 0 0,.ptr 0 0 0,.ptr 1 0 0,.ptr 2 0 0,.ptr 4 0 0]],0,false,0,0,false⟩),(5,⟨[.agg uk,.agg uv],0,false,0,4611686018427387904,true⟩),(6,⟨[.agg ks,.agg vs],0,false,0,4611686018427387904,true⟩)],.dead,[]⟩
def rlE (L:Lw) (a b c:Bool) (s:Int) (uk uv:List AV) (ks vs:List AV):St:=(UV [.sl L.fx L.fn a,.sl L.sx L.sn b,.sl (f_ L.ps) L.ps.length c] [ω s] [.agg ks,.agg vs])
theorem aey {nt:Nat} (q:60≤nt) (L:Lw) (a b c:Bool) (s:Int) (fr:List Cl) (l:Bool) (uk e ks vs k2 m:List AV) (p r:List Cl) (x:Cl) (d:fr=p++x::r) (t:fr.length<2^40) (j:ae prog ap 56 [cA x,.ptr 0 0 0,.ptr 1 0 0,.ptr 2 0 0,.ptr 3 0 0,.ptr 4 0 0] (qw L a b c s uk e ks vs) (.ret (.tup [])) (qw L a b c s uk e k2 m)):
  ag prog ap [] nt (ah 4 (af f22)) (W9 L a b c s fr l uk e p.length ks vs) .normal (W9 L a b c s fr l uk e (p.length+1) k2 m):=by
 have i:=bI (f:=cC) (n:=2) (fun _=>rfl) d;change κ _ (cL fr)=cC x++cL r at i;have g:p.length<fr.length:=jm d;have o:p.length<2^62:=by omega
 have h:(decide ((p.length:Int)<(fr.length:Int)))=true:=kl g;unfold W9;unfold qw at j;clear d;generalize p.length=k at*
 exact pN 22 [] 1 1 (.k 7 h (.c (aQ h) .nil)) (.v 54 (.eq (wpS o)) (.c j (.v 49 (.ppt i) .nil))) q
theorem aex {nt:Nat} (f:60≤nt) (L:Lw) (a b c:Bool) (s:Int) (fr:List Cl) (g:Bool) (uk d ks vs:List AV):
  ag prog ap [] nt (ah 4 (af f22)) (W9 L a b c s fr g uk d fr.length ks vs) (.exit 4) (rlE L a b c s uk d ks vs):=by
 have e:(decide ((fr.length:Int)<(fr.length:Int)))=false:=kn (ζ _);exact pN 22 [] 1 0 (.c (aX e) .nil) .nil f
theorem Hm {nt:Nat} (e:60≤nt) (L:Lw) (a b c:Bool) (s:Int) (fr:List Cl) (d:Bool) (U:Ut) (f:∀ x,(dh U x).length<2^40) (n:Nat) (h:fr.length<2^40):∀ (r p sn:List Cl),fr=p++r→jB (ak s L.ps.length) sn<n→
  aN prog ap [] nt (ah 4 (af f22)) (fun _=> .exit 4) (fun q:Nat × List Cl=>W9 L a b c s fr d (U.map fun x=>cA x.1) (xP U) q.1 (q.2.map cA) (zS q.2)) (fun sn:List Cl=>rlE L a b c s (U.map fun x=>cA x.1) (xP U) (sn.map cA) (zS sn)) (p.length,sn) (r.foldl (kJ (dh U) (aC s L.ps.length) n) sn)
 | [],p,sn,hp,hs=>by
  rw [μ] at hp;rw [Xv4,← hp];exact .done (aex e L a b c s fr d _ _ _ _)
 |y::r,p,sn,hp,hs=>by
  rw [Xqw];have i:=Vk L a b c s U f n sn y hs;obtain ⟨t,k⟩:=D_ (dh U) (aC s L.ps.length) n sn y;have j:=aey e L a b c s fr d _ _ _ _ _ _ p r y hp h i;have g:=Hm e L a b c s fr d U f n h r (p++ [y]) (kJ (dh U) (aC s L.ps.length) n sn y) (by rw [hp];simp) (Xjk (yU _ (fun z l=>by rw [k];simp [l])) hs);rw [show (p++ [y]).length=p.length+1 by simp] at g;exact .next (a':=(p.length+1,_)) j g
theorem aaN (ks vs:List AV):ae prog ap 100 [.nilS,.fn 58 [] [.ptr 0 0 0]] [⟨[.mr 1 0],0,false,0,0,false⟩,⟨[.agg ks,.agg vs],0,false,0,4611686018427387904,true⟩] (.ret (ω (-1))) [⟨[.mr 1 0],0,false,0,0,false⟩,⟨[.agg ks,.agg vs],0,false,0,4611686018427387904,true⟩]:=by
 exact pK [] 1 0 (.n 1 .nil) (.nil)
theorem VQ (ks vs:List AV):ae prog ap 57 [.nilS,.fn 58 [] [.ptr 0 0 0]] [⟨[.mr 1 0],0,false,0,0,false⟩,⟨[.agg ks,.agg vs],0,false,0,4611686018427387904,true⟩] (.ret .nilS) [⟨[.mr 1 0],0,false,0,0,false⟩,⟨[.agg ks,.agg vs],0,false,0,4611686018427387904,true⟩]:=by
 have a:=aaN ks vs;exact pK [] 1 1 (.n 1 .nil) (.c a .nil)
theorem ajU {nt:Nat} (h:60≤nt) (L:Lw) (a b c:Bool) (s:Int) (fr:List Cl) (e:Bool) (uk g ks vs:List AV) (l:List Cl) (q:Nat) (C2:List AV) (d:CO 49 [.agg [.sl L.fx L.fn a,.sl L.sx L.sn b,.sl (f_ L.ps) L.ps.length c],ω s] (.ret (.own (cL l) l.length 2))) (f:ae prog ap 57 [.ref 0 0 0 l.length,.fn 58 [] [.ptr 1 0 0]] [⟨(cL l),0,false,0,2,true⟩,⟨[.mr 2 0],0,false,0,0,false⟩,⟨[.agg ks,.agg vs],0,false,0,4611686018427387904,true⟩] (.ret (.ref 0 0 0 q)) [⟨C2,0,false,0,2,true⟩,⟨[.mr 2 0],0,false,0,0,false⟩,⟨[.agg ks,.agg vs],0,false,0,4611686018427387904,true⟩])
  (l1:LB 60 4 f22 (ZF (.sl (cL fr) fr.length e) (.sl (cL fr) fr.length e) fr.length [.sl L.fx L.fn a,.sl L.sx L.sn b,.sl (f_ L.ps) L.ps.length c] [ω s] [.agg uk,.agg g]) (.normal) (UV [.sl L.fx L.fn a,.sl L.sx L.sn b,.sl (f_ L.ps) L.ps.length c] [ω s] [.agg ks,.agg vs])):ag prog ap [] nt (b_ [1,1,1,1] (af f22)) (ZG (.sl (cL fr) fr.length e) [.agg uk,.agg g] [.sl L.fx L.fn a,.sl L.sx L.sn b,.sl (f_ L.ps) L.ps.length c] [ω s]) .ret ⟨[(6,.ref 0 0 0 q)],[(0,⟨C2,0,false,0,2,true⟩)],.dead,[]⟩:=by
 exact pN 22 [4] 0 0 (.n 6 .nil) (.c f (.c d (.l l1 .nil))) h
theorem ajT {nt:Nat} (h:60≤nt) (L:Lw) (a b c:Bool) (s:Int) (fr:List Cl) (e:Bool) (uk g ks vs:List AV) (d:CO 49 [.agg [.sl L.fx L.fn a,.sl L.sx L.sn b,.sl (f_ L.ps) L.ps.length c],ω s] (.ret .nilS)) (f:ae prog ap 57 [.nilS,.fn 58 [] [.ptr 0 0 0]] [⟨[.mr 1 0],0,false,0,0,false⟩,⟨[.agg ks,.agg vs],0,false,0,4611686018427387904,true⟩] (.ret .nilS) [⟨[.mr 1 0],0,false,0,0,false⟩,⟨[.agg ks,.agg vs],0,false,0,4611686018427387904,true⟩])
  (l1:LB 60 4 f22 (ZF (.sl (cL fr) fr.length e) (.sl (cL fr) fr.length e) fr.length [.sl L.fx L.fn a,.sl L.sx L.sn b,.sl (f_ L.ps) L.ps.length c] [ω s] [.agg uk,.agg g]) (.normal) (UV [.sl L.fx L.fn a,.sl L.sx L.sn b,.sl (f_ L.ps) L.ps.length c] [ω s] [.agg ks,.agg vs])):ag prog ap [] nt (b_ [1,1,1,1] (af f22)) (ZG (.sl (cL fr) fr.length e) [.agg uk,.agg g] [.sl L.fx L.fn a,.sl L.sx L.sn b,.sl (f_ L.ps) L.ps.length c] [ω s]) .ret ⟨[(6,.nilS)],[],.dead,[]⟩:=by
 exact pN 22 [4] 0 0 (.n 6 .nil) (.c f (.c d (.l l1 .nil))) h
theorem aak:af f22= .seq (b_ [0] (af f22)) (.seq (b_ [1,0] (af f22)) (.seq (b_ [1,1,0] (af f22)) (.seq (b_ [1,1,1,0] (af f22)) (b_ [1,1,1,1] (af f22))))):=by kernel_rfl
theorem BD:∀ (r A:List Cl) (z:Cl),(ui A z r).length≤A.length+r.length
 | [],A,z=>by simp [ui]
 |y::r,A,z=>by
  unfold ui;split
  ·have:=BD r A y;simp;omega
  ·have:=BD r (A++ [y]) y;simp at this ⊢;omega
theorem lu {L:Lw} (a:vZ L) (s:Int) (w:Cl):(fC L s w).length≤12:=by
 unfold fC;split
 ·have b:(jv (r_ L s w ((L.ps[w.2.toNat]?.map Pv.body).getD []))).length≤12:=by
   rw [(vF _).length_eq];cases h:L.ps[w.2.toNat]? with
   |none=>simp [r_]
   |some p=>exact (a.2 p (ο h)).2 s w
  generalize jv (r_ L s w ((L.ps[w.2.toNat]?.map Pv.body).getD []))=l at*
  cases l with
  |nil=>simp [dN]
  |cons x l=>
   have:=BD l [x] x;simp only [dN];simp at this b ⊢;omega
 ·simp
theorem fE (s:Int) (n:Nat):(ak s n).length≤n+n:=by
 have a:∀ q,(qg s n q).length≤n:=fun q=>by
  unfold qg;rw [Xz2];have:∀ l:List Nat,(l.map fun k=>(if aC s n (((q:Nat):Int),((k:Nat):Int)) then [((((q:Nat):Int),((k:Nat):Int)):Cl)] else []).length).sum≤l.length:=by
   intro l
   induction l with
   |nil=>simp
   |cons x l ih=>simp only [Γ,Xw5,τ];split<;>simp<;>omega
  have:=this (Ψ n);rwa [Xx5] at this
 unfold ak;rw [η];exact Nat.add_le_add (a 0) (a 1)
theorem TV (L:Lw) (a b c:Bool) (s:Int) (fr:List Cl) (g:Bool) (n:vZ L) (t:L.ps.length<2^34) (r:fr.length<2^40) {e:aJ} {d:St} (f:d.md= .dead)
  (tail:∀ done:List Nat,done.Nodup→(∀ i,i ∈ done↔i<(dw L s (ak s L.ps.length)).length)→∀ nt,60≤nt→ag prog ap [] nt (b_ [1,1,1,1] (af f22)) (Va (dO (dw L s (ak s L.ps.length)) done) (L.c a b c) s fr g) e d) (nt:Nat) (hn:60≤nt):
  ag prog ap [] nt (af f22) (dZ .dead [.agg [.sl L.fx L.fn a,.sl L.sx L.sn b,.sl (f_ L.ps) L.ps.length c],ω s,.sl (cL fr) fr.length g] []) e d:=by
 have j:=OG L a b c s n (by omega);have p:∀ x ∈ dw L s (ak s L.ps.length),x.2.length≤12:=fun x m=>by
  unfold dw at m;obtain ⟨y,_,rfl⟩:=List.mem_map.1 m;exact lu n s y
 have l:(dw L s (ak s L.ps.length)).length≤L.ps.length+L.ps.length:=by
  unfold dw;rw [Xxa];exact fE s _
 have q:=Vb Z9 hn (dw L s (ak s L.ps.length)) (L.c a b c) rfl s fr g 12 (by omega) p;have hrest:ag prog ap [] nt (.seq (b_ [1,1,1,0] (af f22)) (b_ [1,1,1,1] (af f22))) (sH (dw L s (ak s L.ps.length)) (L.c a b c) s fr g) e d:=by
  refine (iq.seq (Post:=fun k s1=>k=e∧s1=d) q (fun s1 ⟨_,done,h1,h2,h3⟩=> ?_) (fun e s1 ⟨h,_⟩ hne=>absurd h hne) (fun k s1 h=>h.2 ▸ f)).one;subst h3;exact (tail done h1 h2 nt hn).any ⟨rfl,rfl⟩ (fun k s1 h=>h.2 ▸ f)
 rw [aak];refine (ajQ hn L a b c s fr g).seq ((ajR hn L a b c s fr g _ _ j).seq ((ajS hn L a b c s fr g _ _).seq ?_));have o:(ak s L.ps.length).map cA=(dw L s (ak s L.ps.length)).map fun x=>cA x.1:=by
  unfold dw;rw [Xzd];rfl
 rw [o];exact hrest
theorem WX (L:Lw) (a b c:Bool) (s:Int) (fr:List Cl) (d:Bool) (C2:List AV) (q:Nat) (h:∀ nt,60≤nt→ag prog ap [] nt (af f22) (dZ .dead [.agg [.sl L.fx L.fn a,.sl L.sx L.sn b,.sl (f_ L.ps) L.ps.length c],ω s,.sl (cL fr) fr.length d] []) .ret ⟨[(6,.ref 0 0 0 q)],[(0,⟨C2,0,false,0,2,true⟩)],.dead,[]⟩):CO 22 [.agg [.sl L.fx L.fn a,.sl L.sx L.sn b,.sl (f_ L.ps) L.ps.length c],ω s,.sl (cL fr) fr.length d] (.ret (.own (C2.take (q*2)) q 2)):=
 jO good 0 (F:=⟨f22,[0,1,2,3,4,6,7,8,9,10,12,13,14,16,22,24,28,29,30,31,45,46,47,48],true⟩) rfl rfl h rfl (Xqn _) rfl
theorem TU (L:Lw) (a b c:Bool) (s:Int) (fr:List Cl) (d:Bool) (h:∀ nt,60≤nt→ag prog ap [] nt (af f22) (dZ .dead [.agg [.sl L.fx L.fn a,.sl L.sx L.sn b,.sl (f_ L.ps) L.ps.length c],ω s,.sl (cL fr) fr.length d] []) .ret ⟨[(6,.nilS)],[],.dead,[]⟩):CO 22 [.agg [.sl L.fx L.fn a,.sl L.sx L.sn b,.sl (f_ L.ps) L.ps.length c],ω s,.sl (cL fr) fr.length d] (.ret .nilS):=
 jO good 0 (F:=⟨f22,[0,1,2,3,4,6,7,8,9,10,12,13,14,16,22,24,28,29,30,31,45,46,47,48],true⟩) rfl rfl h rfl (Xqn _) rfl
theorem tN (L:Lw) (a b c:Bool) (s:Int) (fr:List Cl) (j:Bool) (D:vZ L) (H:L.ps.length<2^34) (u:fr.length<2^40) (o:Cl) (os:List Cl) (t:ak s L.ps.length=o::os):CO 22 [.agg (L.c a b c),ω s,.sl (cL fr) fr.length j] (.ret (.own (cL (bW L s fr)) (bW L s fr).length 2)):=by
 have z:∀ x ∈ dw L s (ak s L.ps.length),x.2.length≤12:=fun x v=>by
  unfold dw at v;obtain ⟨y,_,rfl⟩:=List.mem_map.1 v;exact lu D s y
 have B:(dw L s (ak s L.ps.length)).length≤L.ps.length+L.ps.length:=by
  unfold dw;rw [Xxa];exact fE s _
 have G:=fE s L.ps.length;have n:∀ done:List Nat,done.Nodup→(∀ i,i ∈ done↔i<(dw L s (ak s L.ps.length)).length)→∀ d,fr.foldl (kJ (dh (dO (dw L s (ak s L.ps.length)) done)) (aC s L.ps.length) ((ak s L.ps.length).length+1)) []=d→LB 60 4 f22 (W9 L a b c s fr j ((dO (dw L s (ak s L.ps.length)) done).map fun x=>cA x.1) (xP (dO (dw L s (ak s L.ps.length)) done)) 0 [] []) .normal (rlE L a b c s ((dO (dw L s (ak s L.ps.length)) done).map fun x=>cA x.1) (xP (dO (dw L s (ak s L.ps.length)) done)) (d.map cA) (zS d)):=fun done g m d e=>by
  have F:∀ x,(dh (dO (dw L s (ak s L.ps.length)) done) x).length<2^40:=fun x=>by
   have E:=(tY _ 12 z x done).1;rw [yG g m] at E;omega
  have:=aN.blk (id:=4) (e':= .normal) (fun nt (q:60≤nt)=>Hm q L a b c s fr j (dO (dw L s (ak s L.ps.length)) done) F ((ak s L.ps.length).length+1) u fr [] [] rfl (Nat.lt_succ_of_le (Xqp _ _))) (by simp) rfl (aH.refl _) (aH.refl _);rw [e] at this;exact this
 have l:=BC L a b c s (by omega);have k:aew (ak s L.ps.length)= .own (cL (ak s L.ps.length)) (ak s L.ps.length).length 2:=by rw [t];rfl
 rw [k] at l;clear k t;have p:(cL (bW L s fr)++Ig ((ak s L.ps.length).length - (bW L s fr).length)).take ((bW L s fr).length*2)=cL (bW L s fr):=Xjy (dF _);refine ae.out (out:= .ret (.own ((cL (bW L s fr)++Ig ((ak s L.ps.length).length - (bW L s fr).length)).take ((bW L s fr).length*2)) (bW L s fr).length 2)) (by rw [p];exact ⟨fun _=>rfl,fun _ _ _ _ h=>h⟩) ?_;refine WX L a b c s fr j _ _ (TV L a b c s fr j D H u rfl fun done g m nt q=> ?_);obtain ⟨d,e⟩:∃ d,fr.foldl (kJ (dh (dO (dw L s (ak s L.ps.length)) done)) (aC s L.ps.length) ((ak s L.ps.length).length+1)) []=d:=⟨_,rfl⟩
 have A:=n done g m d e;have C:=Qo z m fr ((ak s L.ps.length).length+1) (Xj8 _);rw [e] at C;have f:=aas (d.map cA) (zS d) (fun c=>decide (c ∈ d)) (fun x=>aet d x) (ak s L.ps.length) (by omega);rw [C] at f;unfold W9 rlE at A;exact ajU q L a b c s fr j _ _ (d.map cA) (zS d) (ak s L.ps.length) (bW L s fr).length _ l f (fun nt r=>(A nt r).weak (aH.of ⟨rfl,rfl,rfl,rfl,rfl,rfl,rfl,rfl,trivial⟩) (aH.refl _))
theorem yM (L:Lw) (s:Int) (fr:List Cl):bW L s fr=(ak s L.ps.length).filter fun c=>decide (c ∈ fr.foldl (kJ (ku L s) (aC s L.ps.length) ((ak s L.ps.length).length+1)) []):=by
 classical
 unfold bW;refine Xxv fun c b=> ?_
 rw [decide_eq_decide,OW (C:=ak s L.ps.length) (fun x a=>gq.2 a) fr _ (Xj8 _)]
def iL (l:List Int):List AV:=l.map fun a=> ω a
theorem Wl {a:List Int} {i:Nat} (h:i<a.length):κ (θ (i:Int)*1) (iL a)= [ω (a.getD i 0)]++iL (a.drop (i+1)):=by
 unfold iL;rw [iy,Nat.mul_one,← List.map_drop,Xxn h,List.getD_eq_getElem?_getD,δ h];rfl
abbrev dB (xs:List Int) (nn:Bool) (k:Nat):az:=⟨[.sl (iL xs) xs.length nn,ω (k:Int)],0,false,0,0,true⟩
theorem OZ {x:Int} (h: -2^63≤x) (a:x<2^63):ν .i64 x=x:=jD h a
theorem WH (a:Int) (n:Nat) (i:0<n) (e:n<1000):∃ k:Nat,k<n∧CO 61 [ω a,ω (n:Int)] (.ret (ω (k:Int))):=by
 have c:(!((n:Int)==((0:Nat):Int)))=true:=by simp;omega
 have f:=Xze a (b:=(n:Int)) (by omega);have g: -(n:Int)<Xjr a n:=by
  have:=Xze (-a) (b:=(n:Int)) (by omega);rw [Xkr] at this;omega
 by_cases h:Xjr a n<0
 ·have d:(decide ((Xjr a (n:Int))<((0:Nat):Int)))=true:=Yq0 h;have hp:CO 61 [ω a,ω (n:Int)] (.ret (ω (ν .i64 ((Xjr a (n:Int))+(n:Int))))):=pK [] 1 1 (.c (aQ d) (.c c .nil)) (.nil);rw [OZ (by omega) (by omega)] at hp;refine ⟨(Xjr a n+n).toNat,by omega, ?_⟩;rw [Xjq (by omega)];exact hp
 ·have d:(decide ((Xjr a (n:Int))<((0:Nat):Int)))=false:=Yq1 h;have hp:CO 61 [ω a,ω (n:Int)] (.ret (ω (Xjr a (n:Int)))):=pK [] 1 0 (.c (aX d) (.c c .nil)) (.nil);refine ⟨(Xjr a n).toNat,by omega, ?_⟩;rw [Xjq (by omega)];exact hp
theorem WI (a:Int) (n:Nat) (i:0<n) (e:n<1000):∃ k:Nat,k<n∧CO 86 [ω a,ω (n:Int)] (.ret (ω (k:Int))):=by
 have c:(!((n:Int)==((0:Nat):Int)))=true:=by simp;omega
 have f:=Xze a (b:=(n:Int)) (by omega);have g: -(n:Int)<Xjr a n:=by
  have:=Xze (-a) (b:=(n:Int)) (by omega);rw [Xkr] at this;omega
 by_cases h:Xjr a n<0
 ·have d:(decide ((Xjr a (n:Int))<((0:Nat):Int)))=true:=Yq0 h;have hp:CO 86 [ω a,ω (n:Int)] (.ret (ω (ν .i64 ((Xjr a (n:Int))+(n:Int))))):=pK [] 1 1 (.c (aQ d) (.c c .nil)) (.nil);rw [OZ (by omega) (by omega)] at hp;refine ⟨(Xjr a n+n).toNat,by omega, ?_⟩;rw [Xjq (by omega)];exact hp
 ·have d:(decide ((Xjr a (n:Int))<((0:Nat):Int)))=false:=Yq1 h;have hp:CO 86 [ω a,ω (n:Int)] (.ret (ω (Xjr a (n:Int)))):=pK [] 1 0 (.c (aX d) (.c c .nil)) (.nil);refine ⟨(Xjr a n).toNat,by omega, ?_⟩;rw [Xjq (by omega)];exact hp
theorem nM (a:List Int) (nn:Bool) (k n:Nat) (f:k<2^62) (g:0<n) (e:n<1000):∃ r k':Nat,r<n∧k'≤k+1∧ae prog ap 63 [.ptr 0 0 0,ω (n:Int)] [dB a nn k] (.ret (ω (r:Int))) [dB a nn k']:=by
 by_cases h:k<a.length
 ·obtain ⟨r,j,hm⟩:=WI (a.getD k 0) n g e;have i:=Wl h;have b:(decide ((a.length:Int)≤(k:Int)))=false:=Yq1 (by omega);have c:(decide (((0:Nat):Int)≤(k:Int)))=true:=(k0 _)
  have d:(decide ((k:Int)<(a.length:Int)))=true:=(kl h)
  exact ⟨r,k+1,j,ζ _,pK [] 1 0 (.k 1 c (.c d (.k 4 (aX b) (.n 2 .nil)))) (.c hm (.v 31 (.ppt i) (.v 30 (.eq (Vt f)) (.v 19 (.eq (wpS f)) .nil))))⟩
 ·have b:(decide ((a.length:Int)≤(k:Int)))=true:=Yq0 (by omega);exact ⟨0,k,g,Nat.le_succ _,pK [] 1 1 (.c (aQ b) (.n 2 .nil)) (.nil)⟩
theorem N7 (k:Nat) (h:k<8):CO 62 [ω (k:Int)] (.ret (.str [Xql (97+k)])):=by
 match k,h with
 |0,_=>exact cD [] .nil
 |1,_=>exact cD [] .nil
 |2,_=>exact cD [] .nil
 |3,_=>exact cD [] .nil
 |4,_=>exact cD [] .nil
 |5,_=>exact cD [] .nil
 |6,_=>exact cD [] .nil
 |7,_=>exact cD [] .nil
def aF:List Nat:= [25,59,60,64,65,101,104,106,114,143,146,147]
theorem iT:CO 65 [ω 1] (.ret (.str [1])):=cD aF (.nil)
theorem gq2:CO 25 [ω 1] (.ret (Ω false [1] [1])):=cD aF (.c iT (.c iT .nil))
theorem gq4:CO 65 [ω 2] (.ret (.str [2])):=cD aF (.nil)
theorem gq5:CO 25 [ω 2] (.ret (Ω false [2] [1])):=cD aF (.c iT (.c gq4 .nil))
theorem gq7:CO 65 [ω 3] (.ret (.str [3])):=cD aF (.nil)
theorem gq8:CO 25 [ω 3] (.ret (Ω false [3] [1])):=cD aF (.c iT (.c gq7 .nil))
theorem aay:CO 65 [ω 4] (.ret (.str [4])):=cD aF (.nil)
theorem aif:CO 25 [ω 4] (.ret (Ω false [4] [1])):=cD aF (.c iT (.c aay .nil))
theorem PN:CO 65 [ω 5] (.ret (.str [5])):=cD aF (.nil)
theorem aig:CO 25 [ω 5] (.ret (Ω false [5] [1])):=cD aF (.c iT (.c PN .nil))
theorem aih:CO 65 [ω 6] (.ret (.str [6])):=cD aF (.nil)
theorem aii:CO 25 [ω 6] (.ret (Ω false [6] [1])):=cD aF (.c iT (.c aih .nil))
theorem aij:CO 65 [ω 7] (.ret (.str [7])):=cD aF (.nil)
theorem aik:CO 25 [ω 7] (.ret (Ω false [7] [1])):=cD aF (.c iT (.c aij .nil))
theorem ail:CO 65 [ω 8] (.ret (.str [8])):=cD aF (.nil)
theorem aim:CO 25 [ω 8] (.ret (Ω false [8] [1])):=cD aF (.c iT (.c ail .nil))
theorem adJ:CO 65 [ω 9] (.ret (.str [9])):=cD aF (.nil)
theorem ain:CO 25 [ω 9] (.ret (Ω false [9] [1])):=cD aF (.c iT (.c adJ .nil))
theorem KQ:CO 65 [ω 10] (.ret (.str [10])):=cD aF (.nil)
theorem KR:CO 25 [ω 10] (.ret (Ω false [10] [1])):=cD aF (.c iT (.c KQ .nil))
theorem aio:CO 65 [ω 11] (.ret (.str [11])):=cD aF (.nil)
theorem aip:CO 25 [ω 11] (.ret (Ω false [11] [1])):=cD aF (.c iT (.c aio .nil))
theorem aiq:CO 65 [ω 12] (.ret (.str [12])):=cD aF (.nil)
theorem air:CO 25 [ω 12] (.ret (Ω false [12] [1])):=cD aF (.c iT (.c aiq .nil))
theorem ais:CO 65 [ω 13] (.ret (.str [13])):=cD aF (.nil)
theorem ait:CO 25 [ω 13] (.ret (Ω false [13] [1])):=cD aF (.c iT (.c ais .nil))
theorem aiu:CO 65 [ω 14] (.ret (.str [14])):=cD aF (.nil)
theorem aiv:CO 25 [ω 14] (.ret (Ω false [14] [1])):=cD aF (.c iT (.c aiu .nil))
theorem aiw:CO 65 [ω 15] (.ret (.str [15])):=cD aF (.nil)
theorem aix:CO 25 [ω 15] (.ret (Ω false [15] [1])):=cD aF (.c iT (.c aiw .nil))
theorem aiy:CO 65 [ω 16] (.ret (.str [16])):=cD aF (.nil)
theorem aiz:CO 25 [ω 16] (.ret (Ω false [16] [1])):=cD aF (.c iT (.c aiy .nil))
theorem aiA:CO 65 [ω 17] (.ret (.str [17])):=cD aF (.nil)
theorem aiB:CO 25 [ω 17] (.ret (Ω false [17] [1])):=cD aF (.c iT (.c aiA .nil))
theorem aiC:CO 65 [ω 18] (.ret (.str [18])):=cD aF (.nil)
theorem aiD:CO 25 [ω 18] (.ret (Ω false [18] [1])):=cD aF (.c iT (.c aiC .nil))
theorem aiE:CO 65 [ω 19] (.ret (.str [19])):=cD aF (.nil)
theorem aiF:CO 25 [ω 19] (.ret (Ω false [19] [1])):=cD aF (.c iT (.c aiE .nil))
theorem V9:CO 65 [ω 20] (.ret (.str [20])):=cD aF (.nil)
theorem adV:CO 25 [ω 20] (.ret (Ω false [20] [1])):=cD aF (.c iT (.c V9 .nil))
theorem aiG:CO 65 [ω 21] (.ret (.str [21])):=cD aF (.nil)
theorem aiH:CO 25 [ω 21] (.ret (Ω false [21] [1])):=cD aF (.c iT (.c aiG .nil))
theorem aiI:CO 65 [ω 22] (.ret (.str [22])):=cD aF (.nil)
theorem aiJ:CO 25 [ω 22] (.ret (Ω false [22] [1])):=cD aF (.c iT (.c aiI .nil))
theorem aiK:CO 65 [ω 23] (.ret (.str [23])):=cD aF (.nil)
theorem aiL:CO 25 [ω 23] (.ret (Ω false [23] [1])):=cD aF (.c iT (.c aiK .nil))
theorem aiN:CO 65 [ω 24] (.ret (.str [24])):=cD aF (.nil)
theorem aiO:CO 25 [ω 24] (.ret (Ω false [24] [1])):=cD aF (.c iT (.c aiN .nil))
theorem aiP:CO 65 [ω 25] (.ret (.str [25])):=cD aF (.nil)
theorem aiQ:CO 25 [ω 25] (.ret (Ω false [25] [1])):=cD aF (.c iT (.c aiP .nil))
theorem aiR:CO 65 [ω 26] (.ret (.str [26])):=cD aF (.nil)
theorem aiS:CO 25 [ω 26] (.ret (Ω false [26] [1])):=cD aF (.c iT (.c aiR .nil))
theorem aiT:CO 65 [ω 27] (.ret (.str [27])):=cD aF (.nil)
theorem aiU:CO 25 [ω 27] (.ret (Ω false [27] [1])):=cD aF (.c iT (.c aiT .nil))
theorem aiV:CO 65 [ω 28] (.ret (.str [28])):=cD aF (.nil)
theorem aiW:CO 25 [ω 28] (.ret (Ω false [28] [1])):=cD aF (.c iT (.c aiV .nil))
theorem aiX:CO 65 [ω 29] (.ret (.str [29])):=cD aF (.nil)
theorem aiY:CO 25 [ω 29] (.ret (Ω false [29] [1])):=cD aF (.c iT (.c aiX .nil))
theorem aiZ:CO 65 [ω 30] (.ret (.str [30])):=cD aF (.nil)
theorem ai0:CO 25 [ω 30] (.ret (Ω false [30] [1])):=cD aF (.c iT (.c aiZ .nil))
theorem ai1:CO 65 [ω 31] (.ret (.str [31])):=cD aF (.nil)
theorem ai2:CO 25 [ω 31] (.ret (Ω false [31] [1])):=cD aF (.c iT (.c ai1 .nil))
theorem ai3:CO 65 [ω 32] (.ret (.str [32])):=cD aF (.nil)
theorem ai4:CO 25 [ω 32] (.ret (Ω false [32] [1])):=cD aF (.c iT (.c ai3 .nil))
theorem ai5:CO 65 [ω 33] (.ret (.str [33])):=cD aF (.nil)
theorem ai6:CO 25 [ω 33] (.ret (Ω false [33] [1])):=cD aF (.c iT (.c ai5 .nil))
theorem ac0:CO 65 [ω 34] (.ret (.str [34])):=cD aF (.nil)
theorem ac1:CO 25 [ω 34] (.ret (Ω false [34] [1])):=cD aF (.c iT (.c ac0 .nil))
theorem ac2:CO 65 [ω 35] (.ret (.str [35])):=cD aF (.nil)
theorem ac3:CO 25 [ω 35] (.ret (Ω false [35] [1])):=cD aF (.c iT (.c ac2 .nil))
theorem ac4:CO 65 [ω 36] (.ret (.str [36])):=cD aF (.nil)
theorem ac5:CO 25 [ω 36] (.ret (Ω false [36] [1])):=cD aF (.c iT (.c ac4 .nil))
theorem ac6:CO 65 [ω 37] (.ret (.str [37])):=cD aF (.nil)
theorem ac7:CO 25 [ω 37] (.ret (Ω false [37] [1])):=cD aF (.c iT (.c ac6 .nil))
theorem ac8:CO 65 [ω 38] (.ret (.str [38])):=cD aF (.nil)
theorem ac9:CO 25 [ω 38] (.ret (Ω false [38] [1])):=cD aF (.c iT (.c ac8 .nil))
theorem ac_:CO 65 [ω 39] (.ret (.str [39])):=cD aF (.nil)
theorem ada:CO 25 [ω 39] (.ret (Ω false [39] [1])):=cD aF (.c iT (.c ac_ .nil))
theorem adb:CO 65 [ω 40] (.ret (.str [40])):=cD aF (.nil)
theorem adc:CO 25 [ω 40] (.ret (Ω false [40] [1])):=cD aF (.c iT (.c adb .nil))
theorem ade:CO 65 [ω 41] (.ret (.str [41])):=cD aF (.nil)
theorem adf:CO 25 [ω 41] (.ret (Ω false [41] [1])):=cD aF (.c iT (.c ade .nil))
theorem Rx:CO 147 [.str [1]] (.ret (.tup [ω 1,.bool true])):=cD aF (.nil)
theorem oI:CO 106 [.str [1],ω 7] (.ret (.tup [ω 1,.bool true])):=cD aF (.c Rx .nil)
theorem jg:CO 65 [ω 0] (.ret (.str [])):=cD aF (.nil)
theorem EU:CO 146 [.str [1],.str [1]] (.ret (.tup [.str [1],.str [],.bool true])):=cD aF (.c jg (.c iT (.c oI (.c oI .nil))))
theorem uJ:CO 143 [.str [1],.str [1]] (.ret (ω 0)):=cD aF (.nil)
theorem Ry:CO 114 [Ω false [1] [1]] (.ret (.bool true)):=cD aF (.c uJ (.c iT (.c EU .nil)))
theorem XO:CO 147 [.str [2]] (.ret (.tup [ω 2,.bool true])):=cD aF (.nil)
theorem I5:CO 106 [.str [2],ω 7] (.ret (.tup [ω 2,.bool true])):=cD aF (.c XO .nil)
theorem Rz:CO 146 [.str [2],.str [1]] (.ret (.tup [.str [2],.str [],.bool true])):=cD aF (.c jg (.c gq4 (.c oI (.c I5 .nil))))
theorem XP:CO 114 [Ω false [2] [1]] (.ret (.bool true)):=cD aF (.c uJ (.c iT (.c Rz .nil)))
theorem I7:CO 106 [.str [1],ω 3] (.ret (.tup [ω 1,.bool true])):=cD aF (.c Rx .nil)
theorem I8:CO 106 [.str [1],ω 4] (.ret (.tup [ω 1,.bool true])):=cD aF (.c Rx .nil)
theorem I9:CO 104 [.str [1],.str [1]] (.ret (.str [1])):=cD aF (.c iT (.c I8 (.c I7 .nil)))
theorem adg:CO 106 [.str [2],ω 4] (.ret (.tup [ω 2,.bool true])):=cD aF (.c XO .nil)
theorem XQ:CO 104 [.str [1],.str [2]] (.ret (.str [2])):=cD aF (.c gq4 (.c adg (.c I7 .nil)))
theorem adh:CO 146 [.str [1],.str [2]] (.ret (.tup [.str [],.str [1],.bool true])):=cD aF (.c iT (.c jg (.c I5 (.c oI .nil))))
theorem adi:CO 64 [Ω false [1] [1],Ω false [2] [1]] (.ret (.tup [Ω false [1] [2],.bool true])):=cD aF (.c Rz (.c EU (.c Rz (.c adh (.c XQ (.c I9 (.c XP (.c Ry .nil))))))))
theorem XR:CO 147 [.str [3]] (.ret (.tup [ω 3,.bool true])):=cD aF (.nil)
theorem XT:CO 106 [.str [3],ω 7] (.ret (.tup [ω 3,.bool true])):=cD aF (.c XR .nil)
theorem RD:CO 146 [.str [3],.str [1]] (.ret (.tup [.str [3],.str [],.bool true])):=cD aF (.c jg (.c gq7 (.c oI (.c XT .nil))))
theorem adk:CO 114 [Ω false [3] [1]] (.ret (.bool true)):=cD aF (.c uJ (.c iT (.c RD .nil)))
theorem adl:CO 106 [.str [3],ω 4] (.ret (.tup [ω 3,.bool true])):=cD aF (.c XR .nil)
theorem adm:CO 104 [.str [1],.str [3]] (.ret (.str [3])):=cD aF (.c gq7 (.c adl (.c I7 .nil)))
theorem adn:CO 146 [.str [1],.str [3]] (.ret (.tup [.str [],.str [1],.bool true])):=cD aF (.c iT (.c jg (.c XT (.c oI .nil))))
theorem ado:CO 64 [Ω false [1] [1],Ω false [3] [1]] (.ret (.tup [Ω false [1] [3],.bool true])):=cD aF (.c RD (.c EU (.c RD (.c adn (.c adm (.c I9 (.c adk (.c Ry .nil))))))))
theorem XU:CO 147 [.str [4]] (.ret (.tup [ω 4,.bool true])):=cD aF (.nil)
theorem XV:CO 106 [.str [4],ω 7] (.ret (.tup [ω 4,.bool true])):=cD aF (.c XU .nil)
theorem RF:CO 146 [.str [4],.str [1]] (.ret (.tup [.str [4],.str [],.bool true])):=cD aF (.c jg (.c aay (.c oI (.c XV .nil))))
theorem adp:CO 114 [Ω false [4] [1]] (.ret (.bool true)):=cD aF (.c uJ (.c iT (.c RF .nil)))
theorem adq:CO 106 [.str [4],ω 4] (.ret (.tup [ω 4,.bool true])):=cD aF (.c XU .nil)
theorem adr:CO 104 [.str [1],.str [4]] (.ret (.str [4])):=cD aF (.c aay (.c adq (.c I7 .nil)))
theorem ads:CO 146 [.str [1],.str [4]] (.ret (.tup [.str [],.str [1],.bool true])):=cD aF (.c iT (.c jg (.c XV (.c oI .nil))))
theorem adt:CO 64 [Ω false [1] [1],Ω false [4] [1]] (.ret (.tup [Ω false [1] [4],.bool true])):=cD aF (.c RF (.c EU (.c RF (.c ads (.c adr (.c I9 (.c adp (.c Ry .nil))))))))
theorem adu:CO 59 [ω 1,ω 0] (.ret (.agg [.bool false,ω 1,ω 0])):=cD aF (.nil)
theorem XW:CO 25 [ω 0] (.ret (Ω false [] [1])):=cD aF (.c iT (.c jg .nil))
theorem RG:CO 65 [ω 50] (.ret (.str [50])):=cD aF (.nil)
theorem Ny:CO 25 [ω 50] (.ret (Ω false [50] [1])):=cD aF (.c iT (.c RG .nil))
theorem XX:CO 147 [.str [10]] (.ret (.tup [ω 10,.bool true])):=cD aF (.nil)
theorem BU:CO 106 [.str [10],ω 7] (.ret (.tup [ω 10,.bool true])):=cD aF (.c XX .nil)
theorem Nz:CO 146 [.str [10],.str [1]] (.ret (.tup [.str [10],.str [],.bool true])):=cD aF (.c jg (.c KQ (.c oI (.c BU .nil))))
theorem XY:CO 114 [Ω false [10] [1]] (.ret (.bool true)):=cD aF (.c uJ (.c iT (.c Nz .nil)))
theorem XZ:CO 147 [.str [50]] (.ret (.tup [ω 50,.bool true])):=cD aF (.nil)
theorem I_:CO 106 [.str [50],ω 7] (.ret (.tup [ω 50,.bool true])):=cD aF (.c XZ .nil)
theorem adv:CO 146 [.str [50],.str [1]] (.ret (.tup [.str [50],.str [],.bool true])):=cD aF (.c jg (.c RG (.c oI (.c I_ .nil))))
theorem RH:CO 114 [Ω false [50] [1]] (.ret (.bool true)):=cD aF (.c uJ (.c iT (.c adv .nil)))
theorem adw:CO 106 [.str [10],ω 3] (.ret (.tup [ω 10,.bool true])):=cD aF (.c XX .nil)
theorem RI:CO 104 [.str [10],.str [1]] (.ret (.str [10])):=cD aF (.c KQ (.c I8 (.c adw .nil)))
theorem adx:CO 106 [.str [50],ω 4] (.ret (.tup [ω 50,.bool true])):=cD aF (.c XZ .nil)
theorem RJ:CO 104 [.str [1],.str [50]] (.ret (.str [50])):=cD aF (.c RG (.c adx (.c I7 .nil)))
theorem X0:CO 146 [.str [10],.str [50]] (.ret (.tup [.str [],.str [10],.bool true])):=cD aF (.c KQ (.c jg (.c I_ (.c BU .nil))))
theorem Ja:CO 146 [.str [50],.str [10]] (.ret (.tup [.str [5],.str [],.bool true])):=cD aF (.c jg (.c PN (.c BU (.c I_ .nil))))
theorem X3:CO 146 [.str [10],.str [10]] (.ret (.tup [.str [1],.str [],.bool true])):=cD aF (.c jg (.c iT (.c BU (.c BU .nil))))
theorem X4:CO 64 [Ω false [10] [1],Ω false [50] [1]] (.ret (.tup [Ω false [1] [5],.bool true])):=cD aF (.c Ja (.c X3 (.c Ja (.c X0 (.c RJ (.c RI (.c RH (.c XY .nil))))))))
theorem X5:CO 146 [.str [10],.str [2]] (.ret (.tup [.str [5],.str [],.bool true])):=cD aF (.c jg (.c PN (.c I5 (.c BU .nil))))
theorem ady:CO 146 [.str [2],.str [2]] (.ret (.tup [.str [1],.str [],.bool true])):=cD aF (.c jg (.c iT (.c I5 (.c I5 .nil))))
theorem NC:CO 64 [Ω false [10] [1],Ω false [2] [1]] (.ret (.tup [Ω false [5] [1],.bool true])):=cD aF (.c ady (.c X5 (.c X5 (.c XQ (.c RI (.c XP (.c XY .nil)))))))
theorem adz:CO 114 [Ω false [] [1]] (.ret (.bool true)):=cD aF (.c uJ (.c iT .nil))
theorem X6:CO 147 [.str [5]] (.ret (.tup [ω 5,.bool true])):=cD aF (.nil)
theorem ND:CO 106 [.str [5],ω 7] (.ret (.tup [ω 5,.bool true])):=cD aF (.c X6 .nil)
theorem RN:CO 146 [.str [5],.str [1]] (.ret (.tup [.str [5],.str [],.bool true])):=cD aF (.c jg (.c PN (.c oI (.c ND .nil))))
theorem RP:CO 114 [Ω false [5] [1]] (.ret (.bool true)):=cD aF (.c uJ (.c iT (.c RN .nil)))
theorem X7:CO 147 [.str []] (.ret (.tup [ω 0,.bool true])):=cD aF (.nil)
theorem adA:CO 106 [.str [],ω 3] (.ret (.tup [ω 0,.bool true])):=cD aF (.c X7 .nil)
theorem adB:CO 104 [.str [],.str [1]] (.ret (.str [])):=cD aF (.c jg (.c I8 (.c adA .nil)))
theorem adC:CO 106 [.str [5],ω 3] (.ret (.tup [ω 5,.bool true])):=cD aF (.c X6 .nil)
theorem RQ:CO 104 [.str [5],.str [1]] (.ret (.str [5])):=cD aF (.c PN (.c I8 (.c adC .nil)))
theorem adD:CO 106 [.str [],ω 7] (.ret (.tup [ω 0,.bool true])):=cD aF (.c X7 .nil)
theorem X8:CO 101 [Ω false [] [1],Ω false [5] [1]] (.ret (Ω false [5] [1])):=cD aF (.c EU (.c RN (.c RN (.c PN (.c ND (.c adD (.c I9 (.c RQ (.c adB (.c RP (.c adz .nil)))))))))))
theorem adE:CO 147 [.str [9]] (.ret (.tup [ω 9,.bool true])):=cD aF (.nil)
theorem adF:CO 106 [.str [9],ω 7] (.ret (.tup [ω 9,.bool true])):=cD aF (.c adE .nil)
theorem adG:CO 25 [ω (-10)] (.ret (Ω true [10] [1])):=cD aF (.c iT (.c KQ (.c oI (.c adF (.c iT (.c adJ .nil))))))
theorem adH:CO 114 [Ω true [10] [1]] (.ret (.bool true)):=cD aF (.c uJ (.c iT (.c Nz .nil)))
theorem adI:CO 64 [Ω true [10] [1],Ω false [50] [1]] (.ret (.tup [Ω true [1] [5],.bool true])):=cD aF (.c Ja (.c X3 (.c Ja (.c X0 (.c RJ (.c RI (.c RH (.c adH .nil))))))))
theorem X9:CO 101 [Ω false [5] [1],Ω false [5] [1]] (.ret (Ω false [10] [1])):=cD aF (.c EU (.c Nz (.c Nz (.c KQ (.c ND (.c ND (.c I9 (.c RQ (.c RQ (.c RP (.c RP .nil)))))))))))
theorem adK:CO 60 [.sl [ω 20,ω 9,ω 1,ω 0,ω 9,ω 1] 2 true] (.ret (.agg [.str zcc1_0,ω 1,ω 0,.sl [.bool false,.str [],.str [1],.bool false,.str [1],.str [5],.bool false,.str [5],.str [1],.bool true,.str [1],.str [5]] 2 true])):=cD aF (.c X9 (.c NC (.c gq5 (.c KR (.c adI (.c Ny (.c adG (.c X8 (.c NC (.c gq5 (.c KR (.c X4 (.c Ny (.c KR (.c XW .nil)))))))))))))))
theorem X_:CO 147 [.str [20]] (.ret (.tup [ω 20,.bool true])):=cD aF (.nil)
theorem NE:CO 106 [.str [20],ω 7] (.ret (.tup [ω 20,.bool true])):=cD aF (.c X_ .nil)
theorem adL:CO 146 [.str [20],.str [1]] (.ret (.tup [.str [20],.str [],.bool true])):=cD aF (.c jg (.c V9 (.c oI (.c NE .nil))))
theorem adM:CO 114 [Ω false [20] [1]] (.ret (.bool true)):=cD aF (.c uJ (.c iT (.c adL .nil)))
theorem adN:CO 106 [.str [20],ω 3] (.ret (.tup [ω 20,.bool true])):=cD aF (.c X_ .nil)
theorem adO:CO 104 [.str [20],.str [1]] (.ret (.str [20])):=cD aF (.c V9 (.c I8 (.c adN .nil)))
theorem adP:CO 146 [.str [20],.str [50]] (.ret (.tup [.str [],.str [20],.bool true])):=cD aF (.c V9 (.c jg (.c I_ (.c NE .nil))))
theorem adQ:CO 146 [.str [50],.str [20]] (.ret (.tup [.str [2],.str [10],.bool true])):=cD aF (.c KQ (.c gq4 (.c NE (.c I_ .nil))))
theorem Ya:CO 146 [.str [20],.str [10]] (.ret (.tup [.str [2],.str [],.bool true])):=cD aF (.c jg (.c gq4 (.c BU (.c NE .nil))))
theorem adR:CO 64 [Ω false [20] [1],Ω false [50] [1]] (.ret (.tup [Ω false [2] [5],.bool true])):=cD aF (.c Ja (.c Ya (.c Ya (.c adQ (.c adP (.c RJ (.c adO (.c RH (.c adM .nil)))))))))
theorem adS:CO 60 [.sl [ω 20,ω 9,ω 1,ω 30,ω 9,ω 1] 2 true] (.ret (.agg [.str zcc1_0,ω 1,ω 0,.sl [.bool false,.str [],.str [1],.bool false,.str [1],.str [5],.bool false,.str [5],.str [1],.bool false,.str [2],.str [5]] 2 true])):=cD aF (.c X9 (.c NC (.c gq5 (.c KR (.c adR (.c Ny (.c adV (.c X8 (.c NC (.c gq5 (.c KR (.c X4 (.c Ny (.c KR (.c XW .nil)))))))))))))))
theorem Oe (n:Nat) (h:n<41):CO 25 [ω ((n+1:Nat):Int)] (.ret (.agg [.bool false,.str [Xql (n+1)],.str [1]])):=by
 match n,h with
 |0,_=>exact gq2
 |1,_=>exact gq5
 |2,_=>exact gq8
 |3,_=>exact aif
 |4,_=>exact aig
 |5,_=>exact aii
 |6,_=>exact aik
 |7,_=>exact aim
 |8,_=>exact ain
 |9,_=>exact KR
 |10,_=>exact aip
 |11,_=>exact air
 |12,_=>exact ait
 |13,_=>exact aiv
 |14,_=>exact aix
 |15,_=>exact aiz
 |16,_=>exact aiB
 |17,_=>exact aiD
 |18,_=>exact aiF
 |19,_=>exact adV
 |20,_=>exact aiH
 |21,_=>exact aiJ
 |22,_=>exact aiL
 |23,_=>exact aiO
 |24,_=>exact aiQ
 |25,_=>exact aiS
 |26,_=>exact aiU
 |27,_=>exact aiW
 |28,_=>exact aiY
 |29,_=>exact ai0
 |30,_=>exact ai2
 |31,_=>exact ai4
 |32,_=>exact ai6
 |33,_=>exact ac1
 |34,_=>exact ac3
 |35,_=>exact ac5
 |36,_=>exact ac7
 |37,_=>exact ac9
 |38,_=>exact ada
 |39,_=>exact adc
 |40,_=>exact adf
 |n+41,h=>exact absurd h (by omega)
theorem aaA:CO 64 [Ω false [1] [1],Ω false [2] [1]] (.ret (.tup [Ω false [1] [2],.bool true])):=adi
theorem aaB:CO 64 [Ω false [1] [1],Ω false [3] [1]] (.ret (.tup [Ω false [1] [3],.bool true])):=ado
theorem aaC:CO 64 [Ω false [1] [1],Ω false [4] [1]] (.ret (.tup [Ω false [1] [4],.bool true])):=adt
theorem Au:CO 59 [ω 1,ω 0] (.ret (.agg [.bool false,ω 1,ω 0])):=adu
theorem Zv:CO 60 [.sl [ω 20,ω 9,ω 1,ω 0,ω 9,ω 1] 2 true] (.ret (.agg [.str zcc1_0,ω 1,ω 0,.sl [.bool false,.str [],.str [1],.bool false,.str [1],.str [5],.bool false,.str [5],.str [1],.bool true,.str [1],.str [5]] 2 true])):=adK
theorem Zw:CO 60 [.sl [ω 20,ω 9,ω 1,ω 30,ω 9,ω 1] 2 true] (.ret (.agg [.str zcc1_0,ω 1,ω 0,.sl [.bool false,.str [],.str [1],.bool false,.str [1],.str [5],.bool false,.str [5],.str [1],.bool false,.str [2],.str [5]] 2 true])):=adS
end Go.Proofs.Tryz
